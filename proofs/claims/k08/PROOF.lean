import PyProof.Rows.All
import Wide.All
import OpenK.AllK
import Wide.FinOn
import HandS.Base
import HandS.Call
import HandS.Ends
import HandS.Words
import HandS.WordsExc
import HandS.Defaults
import HandS.Property
import HandS.ClsMeth
import HandS.HeadHook1
import HandS.HeadHook2
import HandS.HeadHook3
import HandS.HeadNt
import HandS.ForMost
import PySem.Challenge.RW_chaircarry_k08_simple_plans_by_search
import KE.KStateDown
import HandS.Head0
import HandS.Head1
import HandS.Head2
import HandS.HeadEnd
import KE.KUnpackStar
import KE.GoesEnum
import HandS.List
import HandS.Iter
import HandS.Walk
import HandS.Flt
import HandS.More
import HandS.Star
import HandS.Exc
import HandS.TryOnly
import HandS.ExcOwn
import HandS.IsInst
import HandS.Wide
import HandS.Style
import HandS.Conv
import HandS.Flow
import HandS.Deep
import PyProof.WalkInts
import HandS.ExcInit
import HandS.MakeKwOnly
import HandS.Lambda
import HandS.EndTab
import HandS.EndOwn
import HandS.ExcField
import HandS.Comp
import HandS.Dict
set_option Elab.async false
set_option linter.all false
set_option autoImplicit false
set_option maxRecDepth 100000
set_option maxHeartbeats 4000000
namespace ChH
open PySem PySem.Spec PyProof.Rows L2 He
/-! ### the facts of a head: Fa's, further Bools, defs at any address -/
abbrev Fx : Type := PySem.W.Frag → Bool
def obsC (fa : List Fa) (xs : List Fx) (fn : List He5.DefA) (K : PySem.W.Frag) : AlD := ((fa.all fun f => f.ok K) && (xs.all fun x => x K) && fn.all fun d => d.ok K, fn.map fun d => He5.fnA K (d.at_ K))
def SaysC (fa : List Fa) (xs : List Fx) (fn : List He5.DefA) (K : PySem.W.Frag) : Prop := obsC fa xs fn K = He5.valA fn
def obsCG (n : Nat) (fa : List Fa) (xs : List Fx) (fn : List He5.DefA) (g : Addr → Option Obj) : AlD := obsC fa xs fn (frG g (He5.asA g n))
def hookC (n : Nat) (fa : List Fa) (xs : List Fx) (fn : List He5.DefA) : PySem.W.Hook where
  α := AlD
  obs := fun s => obsCG n fa xs fn s.heap.get?
  val := fun _ => He5.valA fn
  says := fun _ h => ∃ K : PySem.W.Frag, K.In h ∧ SaysC fa xs fn K
  of := fun _ _ e => ⟨_, frG_in, e⟩
  keeps := fun _ _ _ ⟨K, hK, c⟩ k => ⟨K, hK.keeps k, c⟩
theorem obsCG_eq {n : Nat} {fa : List Fa} {xs : List Fx} {fn : List He5.DefA} {g : Addr → Option Obj} {s : Shared} (h : ∀ a, g a = s.heap.get? a) : obsCG n fa xs fn g = (hookC n fa xs fn).obs s := by
  rw [show g = s.heap.get? from funext h]
  rfl
def fdOf (K : PySem.W.Frag) (a : Addr) : FuncData := match K.lookup a with
  | some ⟨_, _, .func fd, _⟩ => fd
  | _ => default
section
variable {fa : List Fa} {xs : List Fx} {fn : List He5.DefA} {K : PySem.W.Frag}
theorem says_1 (c : SaysC fa xs fn K) : ((fa.all fun f => f.ok K) && (xs.all fun x => x K) && fn.all fun d => d.ok K) = true := congrArg (fun z : AlD => z.1) c
theorem SaysC.fact (c : SaysC fa xs fn K) (i : Nat) {f : Fa} (h : fa[i]? = some f := by rfl) : f.ok K = true :=
  List.all_eq_true.mp (ba (ba (says_1 c)).1).1 f (List.mem_of_getElem? h)
theorem SaysC.ex (c : SaysC fa xs fn K) (i : Nat) {x : Fx} (h : xs[i]? = some x := by rfl) : x K = true :=
  List.all_eq_true.mp (ba (ba (says_1 c)).1).2 x (List.mem_of_getElem? h)
theorem SaysC.df (c : SaysC fa xs fn K) (i : Nat) {d : He5.DefA} (h : fn[i]? = some d := by rfl) : FunD K d.name d.qual d.params d.body d.scope (d.dvs K) (d.kws K) (d.at_ K) (fdOf K (d.at_ K)) := by
  have e : fn.map (fun d => He5.fnA K (d.at_ K)) = fn.map He5.DefA.val := congrArg (fun z : AlD => z.2) c
  have e2 : (fn.map fun d => He5.fnA K (d.at_ K))[i]? = (fn.map He5.DefA.val)[i]? := by rw [e]
  rw [List.getElem?_map, List.getElem?_map, h] at e2
  obtain ⟨fd, F⟩ := He5.DefA.funD (Option.some.inj e2) (List.all_eq_true.mp (ba (says_1 c)).2 d (List.mem_of_getElem? h))
  have ed : fdOf K (d.at_ K) = fd := by
    obtain ⟨oc, od, dV, kV, doc, pm, an, cdv, ct, osl, e, l, _⟩ := F.ex
    unfold fdOf
    rw [l]
  rw [ed]
  exact F
end
/-! ### a property, a class's constant, a class read -/
def prB (C m : Str) (K : PySem.W.Frag) : Bool := eqO (PySem.W.findIn K (.ref (ga K C)) m) (some (some (.ref (ma K (ga K C) m)))) && (eqO (PySem.W.specialIn K (.ref (ma K (ga K C) m)) "__get__") (some (some (.builtin "property.__get__"))) &&
  (decide (PySem.W.takesIn K (.ref (ma K (ga K C) m)) = some true) && (match PySem.W.recIn K (ma K (ga K C) m) "property" with
    | some (.ref _ :: _) => true
    | _ => false)))
abbrev gp (C m : Str) (K : PySem.W.Frag) : Addr := He5.wf K (ga K C) "property" m
theorem pr_ok {K : PySem.W.Frag} {C m : Str} (h : prB C m K = true) : PropOf K (ga K C) m (ma K (ga K C) m) (gp C m K) := by
  obtain ⟨h1, h⟩ := ba h
  obtain ⟨h2, h⟩ := ba h
  obtain ⟨h3, h4⟩ := ba h
  refine ⟨eqO_ok h1, eqO_ok h2, of_decide_eq_true h3, ?_⟩
  unfold gp He5.wf
  split at h4
  · rename_i f r e
    exact ⟨r, by rw [e]⟩
  · cases h4
def rdB (C : Str) (K : PySem.W.Frag) : Bool := PySem.W.readsIn K (ga K C) (.type "type") && eqO (PySem.W.specialIn K (.ref (ga K C)) "__getattribute__") (some (some (.builtin "type.__getattribute__")))
theorem rd_ok {K : PySem.W.Frag} {C : Str} (h : rdB C K = true) : ClX.CRead K (ga K C) (.type "type") := by
  obtain ⟨h1, h2⟩ := ba h
  exact ⟨h1, eqO_ok h2⟩
def cvB (C f : Str) (v : Dv) (K : PySem.W.Frag) : Bool := match PySem.W.findCls K (.ref (ga K C)) (.type "type") f with
  | some (.val u) => relB (v.v K) u
  | _ => false
theorem cv_ok {K : PySem.W.Frag} {C f : Str} {v : Dv} (h : cvB C f v K = true) : ∃ u, ClX.CVal K (ga K C) (.type "type") f (v.v K) u := by
  unfold cvB at h
  split at h
  · rename_i u e
    exact ⟨u, e, relB_ok h⟩
  · cases h
/-- a def's function object is that of its def (a class's method, by name) -/
def keB (C : Str) (K : PySem.W.Frag) : Bool := PySem.W.keepIn K (.ref (ga K C))
end ChH
/-! ### a classmethod -/
namespace ChH
open PySem PySem.Spec PyProof.Rows L2 He
abbrev gc (C m : Str) (K : PySem.W.Frag) : Addr := He5.wf K (ga K C) "classmethod" m
def cmB (C m : Str) (K : PySem.W.Frag) : Bool := (match PySem.W.findCls K (.ref (ga K C)) (.type "type") m with
  | some (.get (.builtin b) (.ref p) .none (.ref c)) => decide (b = "classmethod.__get__") && (decide (p = ma K (ga K C) m) && decide (c = ga K C))
  | _ => false) && ((match PySem.W.recIn K (ma K (ga K C) m) "classmethod" with
    | some (.ref _ :: _) => true
    | _ => false) && PySem.W.fnIn K (gc C m K))
theorem cm_ok {K : PySem.W.Frag} {C m : Str} (h : cmB C m K = true) : ClX.CMet K (ga K C) (.type "type") m (ma K (ga K C) m) (gc C m K) := by
  obtain ⟨h1, h⟩ := ba h
  obtain ⟨h2, h3⟩ := ba h
  refine ⟨?_, ?_, h3⟩
  · split at h1
    · rename_i b p c e
      obtain ⟨a1, h1⟩ := ba h1
      obtain ⟨a2, a3⟩ := ba h1
      rw [e, of_decide_eq_true a1, of_decide_eq_true a2, of_decide_eq_true a3]
    · cases h1
  · unfold gc He5.wf
    split at h2
    · rename_i f r e
      exact ⟨r, by rw [e]⟩
    · cases h2
end ChH
/-! ### a tuple of texts that stands in the written part -/
namespace ChH
open PySem PySem.Spec PyProof.Rows L2 He
def strOf : Value → Option Str
  | .str z _ => some z
  | _ => none
def tpsB (x : Str) (ys : List Str) (K : PySem.W.Frag) : Bool := match K.lookup (ga K x) with
  | some ⟨c, _, .seq its _, _⟩ => decide (c = .type "tuple") && decide (its.toList.map strOf = ys.map some)
  | _ => false
theorem vals_strs : ∀ {us : List Value} {ys : List Str}, us.map strOf = ys.map some → Vals (ys.map V.str) us
  | [], [], _ => .nil
  | u :: us, y :: ys, h => by
    injection h with h1 h2
    cases u with
    | str z t => cases h1; exact .cons ⟨t, rfl⟩ (vals_strs h2)
    | _ => cases h1
  | [], y :: ys, h => by cases h
  | u :: us, [], h => by cases h
theorem tps_ok {x : Str} {ys : List Str} {K : PySem.W.Frag} (hl : ys.length ≤ 1000) (h : tpsB x ys K = true) : ∀ H, SqT K H (ga K x) (ys.map V.str) := by
  unfold tpsB at h
  split at h
  · rename_i c dd its n sl el
    obtain ⟨h1, h2⟩ := ba h
    have v := vals_strs (of_decide_eq_true h2)
    intro H
    refine .inr ⟨_, its, n, el, of_decide_eq_true h1, rfl, ?_, v⟩
    have := v.length
    rw [List.length_map] at this
    have hs := sizeLine_eq
    have : its.size = its.toList.length := by simp
    omega
  · cases h
end ChH

set_option Elab.async false
set_option linter.all false
set_option autoImplicit false
set_option maxRecDepth 100000
set_option pp.maxSteps 500
set_option maxHeartbeats 4000000
namespace K08
open PySem PySem.Spec PyProof.Rows L2 He ChH
/-! ### the text by places -/
def top (i : Nat) : Stmt := PySem.Challenge.pw_chaircarry_k08_simple_plans_by_search.main.body.getD i (.Pass ⟨0, 0, 0, 0⟩)
abbrev s_is_number : Stmt := top 10
abbrev s_is_step : Stmt := top 11
abbrev s_Plan_init : Stmt := inClass (top 12) 2
abbrev s_Plan_steps : Stmt := inClass (top 12) 4
abbrev s_Plan_is_turning : Stmt := inClass (top 12) 5
abbrev s_Plan_joined : Stmt := inClass (top 12) 6
abbrev s_sides_of : Stmt := top 13
abbrev s_validate_house : Stmt := top 14
abbrev s_Effect_init : Stmt := inClass (top 16) 0
abbrev s_Effect_at_least : Stmt := inClass (top 16) 1
abbrev s_Effect_at_most : Stmt := inClass (top 16) 2
abbrev s_Effect_mirrored : Stmt := inClass (top 16) 3
abbrev s_Effect_carried : Stmt := inClass (top 16) 5
abbrev s_Effect_place : Stmt := inClass (top 16) 6
abbrev s_Effect_end : Stmt := inClass (top 16) 7
abbrev s_nothing : Stmt := top 17
abbrev s_effect_of : Stmt := top 18
abbrev s_first_difference : Stmt := top 19
abbrev s_longest_way : Stmt := top 21
abbrev s_places_of : Stmt := top 22
abbrev s_shortened : Stmt := top 23
abbrev s_is_possible : Stmt := top 24
abbrev s_way_of : Stmt := top 25
abbrev s_step_to : Stmt := top 26
abbrev s_simple_steps : Stmt := top 27
abbrev s_simple_plan : Stmt := top 28
abbrev s__law_start : Stmt := top 30
abbrev s__law_drawn : Stmt := top 31
abbrev s__law_random_steps : Stmt := top 33
abbrev s__law_plan : Stmt := top 34
abbrev s__law_played : Stmt := top 35
abbrev s__law_told : Stmt := top 36
abbrev s__law_fewest : Stmt := top 37
abbrev s_law : Stmt := top 38
/-! ### what the head tells -/
def faL : List Fa := [.glo "InvalidPlan", .glo "TooFewChairs", .glo "InvalidNumber", .str "RED" "red", .str "BLUE" "blue", .str "TURN" "turn", .glo "is_number", .glo "is_step", .glo "Plan", .glo "sides_of", .glo "validate_house", .glo "Effect", .glo "nothing", .glo "effect_of", .glo "first_difference", .glo "longest_way", .glo "places_of", .glo "shortened", .glo "is_possible", .glo "way_of", .glo "step_to", .glo "simple_steps", .glo "simple_plan", .glo "_law_start", .glo "_law_drawn", .glo "_law_random_steps", .glo "_law_plan", .glo "_law_played", .glo "_law_told", .glo "_law_fewest", .glo "law", .free "abs", .free "bool", .free "enumerate", .free "int", .free "isinstance", .free "len", .free "list", .free "max", .free "min", .free "property", .free "range", .free "sorted", .free "sum", .free "tuple", .cls "Plan", .noat "Plan" "parts", .mkr "Plan", .meth "Plan" "joined", .cls "Effect", .noat "Effect" "chairs", .noat "Effect" "low", .noat "Effect" "high", .noat "Effect" "extra", .noat "Effect" "goal", .noat "Effect" "turned", .mkr "Effect", .meth "Effect" "at_least", .meth "Effect" "at_most", .meth "Effect" "mirrored", .meth "Effect" "carried", .meth "Effect" "place", .meth "Effect" "end"]
def xsL : List ChH.Fx := [prB "Plan" "steps", prB "Plan" "is_turning", rdB "Plan", cvB "Plan" "MAX_STEPS" (.int 60), cvB "Plan" "MAX_CHAIRS" (.int 1000000000000000000)]
def d_is_number : He5.DefA := ⟨fun K => ga K "is_number", "is_number", "is_number", defArgs s_is_number, defBody s_is_number, defScope s_is_number, [], []⟩
def d_is_step : He5.DefA := ⟨fun K => ga K "is_step", "is_step", "is_step", defArgs s_is_step, defBody s_is_step, defScope s_is_step, [], []⟩
def d_Plan_init : He5.DefA := ⟨fun K => ma K (ga K "Plan") "__init__", "__init__", "Plan.__init__", defArgs s_Plan_init, defBody s_Plan_init, defScope s_Plan_init, [], []⟩
def d_Plan_steps : He5.DefA := ⟨fun K => gp "Plan" "steps" K, "steps", "Plan.steps", defArgs s_Plan_steps, defBody s_Plan_steps, defScope s_Plan_steps, [], []⟩
def d_Plan_is_turning : He5.DefA := ⟨fun K => gp "Plan" "is_turning" K, "is_turning", "Plan.is_turning", defArgs s_Plan_is_turning, defBody s_Plan_is_turning, defScope s_Plan_is_turning, [], []⟩
def d_Plan_joined : He5.DefA := ⟨fun K => ma K (ga K "Plan") "joined", "joined", "Plan.joined", defArgs s_Plan_joined, defBody s_Plan_joined, defScope s_Plan_joined, [], []⟩
def d_sides_of : He5.DefA := ⟨fun K => ga K "sides_of", "sides_of", "sides_of", defArgs s_sides_of, defBody s_sides_of, defScope s_sides_of, [], []⟩
def d_validate_house : He5.DefA := ⟨fun K => ga K "validate_house", "validate_house", "validate_house", defArgs s_validate_house, defBody s_validate_house, defScope s_validate_house, [], []⟩
def d_Effect_init : He5.DefA := ⟨fun K => ma K (ga K "Effect") "__init__", "__init__", "Effect.__init__", defArgs s_Effect_init, defBody s_Effect_init, defScope s_Effect_init, [], []⟩
def d_Effect_at_least : He5.DefA := ⟨fun K => ma K (ga K "Effect") "at_least", "at_least", "Effect.at_least", defArgs s_Effect_at_least, defBody s_Effect_at_least, defScope s_Effect_at_least, [], []⟩
def d_Effect_at_most : He5.DefA := ⟨fun K => ma K (ga K "Effect") "at_most", "at_most", "Effect.at_most", defArgs s_Effect_at_most, defBody s_Effect_at_most, defScope s_Effect_at_most, [], []⟩
def d_Effect_mirrored : He5.DefA := ⟨fun K => ma K (ga K "Effect") "mirrored", "mirrored", "Effect.mirrored", defArgs s_Effect_mirrored, defBody s_Effect_mirrored, defScope s_Effect_mirrored, [], []⟩
def d_Effect_carried : He5.DefA := ⟨fun K => ma K (ga K "Effect") "carried", "carried", "Effect.carried", defArgs s_Effect_carried, defBody s_Effect_carried, defScope s_Effect_carried, [], []⟩
def d_Effect_place : He5.DefA := ⟨fun K => ma K (ga K "Effect") "place", "place", "Effect.place", defArgs s_Effect_place, defBody s_Effect_place, defScope s_Effect_place, [], []⟩
def d_Effect_end : He5.DefA := ⟨fun K => ma K (ga K "Effect") "end", "end", "Effect.end", defArgs s_Effect_end, defBody s_Effect_end, defScope s_Effect_end, [], []⟩
def d_nothing : He5.DefA := ⟨fun K => ga K "nothing", "nothing", "nothing", defArgs s_nothing, defBody s_nothing, defScope s_nothing, [], []⟩
def d_effect_of : He5.DefA := ⟨fun K => ga K "effect_of", "effect_of", "effect_of", defArgs s_effect_of, defBody s_effect_of, defScope s_effect_of, [], []⟩
def d_first_difference : He5.DefA := ⟨fun K => ga K "first_difference", "first_difference", "first_difference", defArgs s_first_difference, defBody s_first_difference, defScope s_first_difference, [], []⟩
def d_longest_way : He5.DefA := ⟨fun K => ga K "longest_way", "longest_way", "longest_way", defArgs s_longest_way, defBody s_longest_way, defScope s_longest_way, [], []⟩
def d_places_of : He5.DefA := ⟨fun K => ga K "places_of", "places_of", "places_of", defArgs s_places_of, defBody s_places_of, defScope s_places_of, [], []⟩
def d_shortened : He5.DefA := ⟨fun K => ga K "shortened", "shortened", "shortened", defArgs s_shortened, defBody s_shortened, defScope s_shortened, [], []⟩
def d_is_possible : He5.DefA := ⟨fun K => ga K "is_possible", "is_possible", "is_possible", defArgs s_is_possible, defBody s_is_possible, defScope s_is_possible, [], []⟩
def d_way_of : He5.DefA := ⟨fun K => ga K "way_of", "way_of", "way_of", defArgs s_way_of, defBody s_way_of, defScope s_way_of, [], []⟩
def d_step_to : He5.DefA := ⟨fun K => ga K "step_to", "step_to", "step_to", defArgs s_step_to, defBody s_step_to, defScope s_step_to, [], []⟩
def d_simple_steps : He5.DefA := ⟨fun K => ga K "simple_steps", "simple_steps", "simple_steps", defArgs s_simple_steps, defBody s_simple_steps, defScope s_simple_steps, [], []⟩
def d_simple_plan : He5.DefA := ⟨fun K => ga K "simple_plan", "simple_plan", "simple_plan", defArgs s_simple_plan, defBody s_simple_plan, defScope s_simple_plan, [], []⟩
def d__law_start : He5.DefA := ⟨fun K => ga K "_law_start", "_law_start", "_law_start", defArgs s__law_start, defBody s__law_start, defScope s__law_start, [], []⟩
def d__law_drawn : He5.DefA := ⟨fun K => ga K "_law_drawn", "_law_drawn", "_law_drawn", defArgs s__law_drawn, defBody s__law_drawn, defScope s__law_drawn, [], []⟩
def d__law_random_steps : He5.DefA := ⟨fun K => ga K "_law_random_steps", "_law_random_steps", "_law_random_steps", defArgs s__law_random_steps, defBody s__law_random_steps, defScope s__law_random_steps, [], []⟩
def d__law_plan : He5.DefA := ⟨fun K => ga K "_law_plan", "_law_plan", "_law_plan", defArgs s__law_plan, defBody s__law_plan, defScope s__law_plan, [], []⟩
def d__law_played : He5.DefA := ⟨fun K => ga K "_law_played", "_law_played", "_law_played", defArgs s__law_played, defBody s__law_played, defScope s__law_played, [], []⟩
def d__law_told : He5.DefA := ⟨fun K => ga K "_law_told", "_law_told", "_law_told", defArgs s__law_told, defBody s__law_told, defScope s__law_told, [], []⟩
def d__law_fewest : He5.DefA := ⟨fun K => ga K "_law_fewest", "_law_fewest", "_law_fewest", defArgs s__law_fewest, defBody s__law_fewest, defScope s__law_fewest, [], []⟩
def d_law : He5.DefA := ⟨fun K => ga K "law", "law", "law", defArgs s_law, defBody s_law, defScope s_law, [], []⟩
def dfL : List He5.DefA := [d_is_number, d_is_step, d_Plan_init, d_Plan_steps, d_Plan_is_turning, d_Plan_joined, d_sides_of, d_validate_house, d_Effect_init, d_Effect_at_least, d_Effect_at_most, d_Effect_mirrored, d_Effect_carried, d_Effect_place, d_Effect_end, d_nothing, d_effect_of, d_first_difference, d_longest_way, d_places_of, d_shortened, d_is_possible, d_way_of, d_step_to, d_simple_steps, d_simple_plan, d__law_start, d__law_drawn, d__law_random_steps, d__law_plan, d__law_played, d__law_told, d__law_fewest, d_law]
structure Wd (K : PySem.W.Frag) (mg : Str → Option Value) : Prop where
  kin : ∃ h : Heap, K.In h ∧ h.Ns mainGlobals mg
  s : ChH.SaysC faL xsL dfL K
section
variable {K : PySem.W.Frag} {mg : Str → Option Value}
theorem Wd.glo (W : Wd K mg) {x : Str} (c : (Fa.glo x).ok K = true) : mg x = some (.ref (ga K x)) := let ⟨_, X, G⟩ := W.kin; He.glo_ok X G c
theorem Wd.free (W : Wd K mg) {x : Str} (c : (Fa.free x).ok K = true) : mg x = none := let ⟨_, X, G⟩ := W.kin; He.free_ok X G c
theorem Wd.str (W : Wd K mg) {x z : Str} (c : (Fa.str x z).ok K = true) : ∃ t, mg x = some (.str z t) := let ⟨_, X, G⟩ := W.kin; He.str_ok X G c
theorem Wd.int (W : Wd K mg) {x : Str} {z : Int} (c : (Fa.int x z).ok K = true) : ∃ t, mg x = some (.int z t) := let ⟨_, X, G⟩ := W.kin; He.int_ok X G c
theorem Wd.g_InvalidPlan (W : Wd K mg) : mg "InvalidPlan" = some (.ref (ga K "InvalidPlan")) := W.glo (W.s.fact 0)
theorem Wd.g_TooFewChairs (W : Wd K mg) : mg "TooFewChairs" = some (.ref (ga K "TooFewChairs")) := W.glo (W.s.fact 1)
theorem Wd.g_InvalidNumber (W : Wd K mg) : mg "InvalidNumber" = some (.ref (ga K "InvalidNumber")) := W.glo (W.s.fact 2)
theorem Wd.t_RED (W : Wd K mg) : ∃ t, mg "RED" = some (.str "red" t) := W.str (W.s.fact 3)
theorem Wd.t_BLUE (W : Wd K mg) : ∃ t, mg "BLUE" = some (.str "blue" t) := W.str (W.s.fact 4)
theorem Wd.t_TURN (W : Wd K mg) : ∃ t, mg "TURN" = some (.str "turn" t) := W.str (W.s.fact 5)
theorem Wd.g_is_number (W : Wd K mg) : mg "is_number" = some (.ref (ga K "is_number")) := W.glo (W.s.fact 6)
theorem Wd.g_is_step (W : Wd K mg) : mg "is_step" = some (.ref (ga K "is_step")) := W.glo (W.s.fact 7)
theorem Wd.g_Plan (W : Wd K mg) : mg "Plan" = some (.ref (ga K "Plan")) := W.glo (W.s.fact 8)
theorem Wd.g_sides_of (W : Wd K mg) : mg "sides_of" = some (.ref (ga K "sides_of")) := W.glo (W.s.fact 9)
theorem Wd.g_validate_house (W : Wd K mg) : mg "validate_house" = some (.ref (ga K "validate_house")) := W.glo (W.s.fact 10)
theorem Wd.g_Effect (W : Wd K mg) : mg "Effect" = some (.ref (ga K "Effect")) := W.glo (W.s.fact 11)
theorem Wd.g_nothing (W : Wd K mg) : mg "nothing" = some (.ref (ga K "nothing")) := W.glo (W.s.fact 12)
theorem Wd.g_effect_of (W : Wd K mg) : mg "effect_of" = some (.ref (ga K "effect_of")) := W.glo (W.s.fact 13)
theorem Wd.g_first_difference (W : Wd K mg) : mg "first_difference" = some (.ref (ga K "first_difference")) := W.glo (W.s.fact 14)
theorem Wd.g_longest_way (W : Wd K mg) : mg "longest_way" = some (.ref (ga K "longest_way")) := W.glo (W.s.fact 15)
theorem Wd.g_places_of (W : Wd K mg) : mg "places_of" = some (.ref (ga K "places_of")) := W.glo (W.s.fact 16)
theorem Wd.g_shortened (W : Wd K mg) : mg "shortened" = some (.ref (ga K "shortened")) := W.glo (W.s.fact 17)
theorem Wd.g_is_possible (W : Wd K mg) : mg "is_possible" = some (.ref (ga K "is_possible")) := W.glo (W.s.fact 18)
theorem Wd.g_way_of (W : Wd K mg) : mg "way_of" = some (.ref (ga K "way_of")) := W.glo (W.s.fact 19)
theorem Wd.g_step_to (W : Wd K mg) : mg "step_to" = some (.ref (ga K "step_to")) := W.glo (W.s.fact 20)
theorem Wd.g_simple_steps (W : Wd K mg) : mg "simple_steps" = some (.ref (ga K "simple_steps")) := W.glo (W.s.fact 21)
theorem Wd.g_simple_plan (W : Wd K mg) : mg "simple_plan" = some (.ref (ga K "simple_plan")) := W.glo (W.s.fact 22)
theorem Wd.g__law_start (W : Wd K mg) : mg "_law_start" = some (.ref (ga K "_law_start")) := W.glo (W.s.fact 23)
theorem Wd.g__law_drawn (W : Wd K mg) : mg "_law_drawn" = some (.ref (ga K "_law_drawn")) := W.glo (W.s.fact 24)
theorem Wd.g__law_random_steps (W : Wd K mg) : mg "_law_random_steps" = some (.ref (ga K "_law_random_steps")) := W.glo (W.s.fact 25)
theorem Wd.g__law_plan (W : Wd K mg) : mg "_law_plan" = some (.ref (ga K "_law_plan")) := W.glo (W.s.fact 26)
theorem Wd.g__law_played (W : Wd K mg) : mg "_law_played" = some (.ref (ga K "_law_played")) := W.glo (W.s.fact 27)
theorem Wd.g__law_told (W : Wd K mg) : mg "_law_told" = some (.ref (ga K "_law_told")) := W.glo (W.s.fact 28)
theorem Wd.g__law_fewest (W : Wd K mg) : mg "_law_fewest" = some (.ref (ga K "_law_fewest")) := W.glo (W.s.fact 29)
theorem Wd.g_law (W : Wd K mg) : mg "law" = some (.ref (ga K "law")) := W.glo (W.s.fact 30)
theorem Wd.f_abs (W : Wd K mg) : mg "abs" = none := W.free (W.s.fact 31)
theorem Wd.f_bool (W : Wd K mg) : mg "bool" = none := W.free (W.s.fact 32)
theorem Wd.f_enumerate (W : Wd K mg) : mg "enumerate" = none := W.free (W.s.fact 33)
theorem Wd.f_int (W : Wd K mg) : mg "int" = none := W.free (W.s.fact 34)
theorem Wd.f_isinstance (W : Wd K mg) : mg "isinstance" = none := W.free (W.s.fact 35)
theorem Wd.f_len (W : Wd K mg) : mg "len" = none := W.free (W.s.fact 36)
theorem Wd.f_list (W : Wd K mg) : mg "list" = none := W.free (W.s.fact 37)
theorem Wd.f_max (W : Wd K mg) : mg "max" = none := W.free (W.s.fact 38)
theorem Wd.f_min (W : Wd K mg) : mg "min" = none := W.free (W.s.fact 39)
theorem Wd.f_property (W : Wd K mg) : mg "property" = none := W.free (W.s.fact 40)
theorem Wd.f_range (W : Wd K mg) : mg "range" = none := W.free (W.s.fact 41)
theorem Wd.f_sorted (W : Wd K mg) : mg "sorted" = none := W.free (W.s.fact 42)
theorem Wd.f_sum (W : Wd K mg) : mg "sum" = none := W.free (W.s.fact 43)
theorem Wd.f_tuple (W : Wd K mg) : mg "tuple" = none := W.free (W.s.fact 44)
theorem Wd.c_Plan (W : Wd K mg) : Cls K (ga K "Plan") := He.cls_ok (W.s.fact 45)
theorem Wd.n_Plan_parts (W : Wd K mg) : NoAttr K (ga K "Plan") "parts" := He.noat_ok (W.s.fact 46)
theorem Wd.mk_Plan (W : Wd K mg) : Mk K (ga K "Plan") (ma K (ga K "Plan") "__init__") := He.mkr_ok (W.s.fact 47)
theorem Wd.m_Plan_joined (W : Wd K mg) : Meth K (ga K "Plan") "joined" (ma K (ga K "Plan") "joined") := He.meth_ok (W.s.fact 48)
theorem Wd.p_Plan_steps (W : Wd K mg) : PropOf K (ga K "Plan") "steps" (ma K (ga K "Plan") "steps") (gp "Plan" "steps" K) := pr_ok (W.s.ex 0)
theorem Wd.p_Plan_is_turning (W : Wd K mg) : PropOf K (ga K "Plan") "is_turning" (ma K (ga K "Plan") "is_turning") (gp "Plan" "is_turning" K) := pr_ok (W.s.ex 1)
theorem Wd.r_Plan (W : Wd K mg) : ClX.CRead K (ga K "Plan") (.type "type") := rd_ok (W.s.ex 2)
theorem Wd.v_Plan_MAX_STEPS (W : Wd K mg) : ∃ u, ClX.CVal K (ga K "Plan") (.type "type") "MAX_STEPS" (.int 60) u := cv_ok (W.s.ex 3)
theorem Wd.v_Plan_MAX_CHAIRS (W : Wd K mg) : ∃ u, ClX.CVal K (ga K "Plan") (.type "type") "MAX_CHAIRS" (.int 1000000000000000000) u := cv_ok (W.s.ex 4)
theorem Wd.c_Effect (W : Wd K mg) : Cls K (ga K "Effect") := He.cls_ok (W.s.fact 49)
theorem Wd.n_Effect_chairs (W : Wd K mg) : NoAttr K (ga K "Effect") "chairs" := He.noat_ok (W.s.fact 50)
theorem Wd.n_Effect_low (W : Wd K mg) : NoAttr K (ga K "Effect") "low" := He.noat_ok (W.s.fact 51)
theorem Wd.n_Effect_high (W : Wd K mg) : NoAttr K (ga K "Effect") "high" := He.noat_ok (W.s.fact 52)
theorem Wd.n_Effect_extra (W : Wd K mg) : NoAttr K (ga K "Effect") "extra" := He.noat_ok (W.s.fact 53)
theorem Wd.n_Effect_goal (W : Wd K mg) : NoAttr K (ga K "Effect") "goal" := He.noat_ok (W.s.fact 54)
theorem Wd.n_Effect_turned (W : Wd K mg) : NoAttr K (ga K "Effect") "turned" := He.noat_ok (W.s.fact 55)
theorem Wd.mk_Effect (W : Wd K mg) : Mk K (ga K "Effect") (ma K (ga K "Effect") "__init__") := He.mkr_ok (W.s.fact 56)
theorem Wd.m_Effect_at_least (W : Wd K mg) : Meth K (ga K "Effect") "at_least" (ma K (ga K "Effect") "at_least") := He.meth_ok (W.s.fact 57)
theorem Wd.m_Effect_at_most (W : Wd K mg) : Meth K (ga K "Effect") "at_most" (ma K (ga K "Effect") "at_most") := He.meth_ok (W.s.fact 58)
theorem Wd.m_Effect_mirrored (W : Wd K mg) : Meth K (ga K "Effect") "mirrored" (ma K (ga K "Effect") "mirrored") := He.meth_ok (W.s.fact 59)
theorem Wd.m_Effect_carried (W : Wd K mg) : Meth K (ga K "Effect") "carried" (ma K (ga K "Effect") "carried") := He.meth_ok (W.s.fact 60)
theorem Wd.m_Effect_place (W : Wd K mg) : Meth K (ga K "Effect") "place" (ma K (ga K "Effect") "place") := He.meth_ok (W.s.fact 61)
theorem Wd.m_Effect_end (W : Wd K mg) : Meth K (ga K "Effect") "end" (ma K (ga K "Effect") "end") := He.meth_ok (W.s.fact 62)
theorem Wd.F_is_number (W : Wd K mg) : FunD K "is_number" "is_number" (defArgs s_is_number) (defBody s_is_number) (defScope s_is_number) [] [] (ga K "is_number") (ChH.fdOf K (ga K "is_number")) := W.s.df 0 (d := d_is_number)
theorem Wd.k_is_number (W : Wd K mg) : PySem.W.keepIn K (.ref (ga K "is_number")) = true := W.F_is_number.kp
theorem Wd.F_is_step (W : Wd K mg) : FunD K "is_step" "is_step" (defArgs s_is_step) (defBody s_is_step) (defScope s_is_step) [] [] (ga K "is_step") (ChH.fdOf K (ga K "is_step")) := W.s.df 1 (d := d_is_step)
theorem Wd.k_is_step (W : Wd K mg) : PySem.W.keepIn K (.ref (ga K "is_step")) = true := W.F_is_step.kp
theorem Wd.F_Plan_init (W : Wd K mg) : FunD K "__init__" "Plan.__init__" (defArgs s_Plan_init) (defBody s_Plan_init) (defScope s_Plan_init) [] [] (ma K (ga K "Plan") "__init__") (ChH.fdOf K (ma K (ga K "Plan") "__init__")) := W.s.df 2 (d := d_Plan_init)
theorem Wd.F_Plan_steps (W : Wd K mg) : FunD K "steps" "Plan.steps" (defArgs s_Plan_steps) (defBody s_Plan_steps) (defScope s_Plan_steps) [] [] (gp "Plan" "steps" K) (ChH.fdOf K (gp "Plan" "steps" K)) := W.s.df 3 (d := d_Plan_steps)
theorem Wd.F_Plan_is_turning (W : Wd K mg) : FunD K "is_turning" "Plan.is_turning" (defArgs s_Plan_is_turning) (defBody s_Plan_is_turning) (defScope s_Plan_is_turning) [] [] (gp "Plan" "is_turning" K) (ChH.fdOf K (gp "Plan" "is_turning" K)) := W.s.df 4 (d := d_Plan_is_turning)
theorem Wd.F_Plan_joined (W : Wd K mg) : FunD K "joined" "Plan.joined" (defArgs s_Plan_joined) (defBody s_Plan_joined) (defScope s_Plan_joined) [] [] (ma K (ga K "Plan") "joined") (ChH.fdOf K (ma K (ga K "Plan") "joined")) := W.s.df 5 (d := d_Plan_joined)
theorem Wd.F_sides_of (W : Wd K mg) : FunD K "sides_of" "sides_of" (defArgs s_sides_of) (defBody s_sides_of) (defScope s_sides_of) [] [] (ga K "sides_of") (ChH.fdOf K (ga K "sides_of")) := W.s.df 6 (d := d_sides_of)
theorem Wd.k_sides_of (W : Wd K mg) : PySem.W.keepIn K (.ref (ga K "sides_of")) = true := W.F_sides_of.kp
theorem Wd.F_validate_house (W : Wd K mg) : FunD K "validate_house" "validate_house" (defArgs s_validate_house) (defBody s_validate_house) (defScope s_validate_house) [] [] (ga K "validate_house") (ChH.fdOf K (ga K "validate_house")) := W.s.df 7 (d := d_validate_house)
theorem Wd.k_validate_house (W : Wd K mg) : PySem.W.keepIn K (.ref (ga K "validate_house")) = true := W.F_validate_house.kp
theorem Wd.F_Effect_init (W : Wd K mg) : FunD K "__init__" "Effect.__init__" (defArgs s_Effect_init) (defBody s_Effect_init) (defScope s_Effect_init) [] [] (ma K (ga K "Effect") "__init__") (ChH.fdOf K (ma K (ga K "Effect") "__init__")) := W.s.df 8 (d := d_Effect_init)
theorem Wd.F_Effect_at_least (W : Wd K mg) : FunD K "at_least" "Effect.at_least" (defArgs s_Effect_at_least) (defBody s_Effect_at_least) (defScope s_Effect_at_least) [] [] (ma K (ga K "Effect") "at_least") (ChH.fdOf K (ma K (ga K "Effect") "at_least")) := W.s.df 9 (d := d_Effect_at_least)
theorem Wd.F_Effect_at_most (W : Wd K mg) : FunD K "at_most" "Effect.at_most" (defArgs s_Effect_at_most) (defBody s_Effect_at_most) (defScope s_Effect_at_most) [] [] (ma K (ga K "Effect") "at_most") (ChH.fdOf K (ma K (ga K "Effect") "at_most")) := W.s.df 10 (d := d_Effect_at_most)
theorem Wd.F_Effect_mirrored (W : Wd K mg) : FunD K "mirrored" "Effect.mirrored" (defArgs s_Effect_mirrored) (defBody s_Effect_mirrored) (defScope s_Effect_mirrored) [] [] (ma K (ga K "Effect") "mirrored") (ChH.fdOf K (ma K (ga K "Effect") "mirrored")) := W.s.df 11 (d := d_Effect_mirrored)
theorem Wd.F_Effect_carried (W : Wd K mg) : FunD K "carried" "Effect.carried" (defArgs s_Effect_carried) (defBody s_Effect_carried) (defScope s_Effect_carried) [] [] (ma K (ga K "Effect") "carried") (ChH.fdOf K (ma K (ga K "Effect") "carried")) := W.s.df 12 (d := d_Effect_carried)
theorem Wd.F_Effect_place (W : Wd K mg) : FunD K "place" "Effect.place" (defArgs s_Effect_place) (defBody s_Effect_place) (defScope s_Effect_place) [] [] (ma K (ga K "Effect") "place") (ChH.fdOf K (ma K (ga K "Effect") "place")) := W.s.df 13 (d := d_Effect_place)
theorem Wd.F_Effect_end (W : Wd K mg) : FunD K "end" "Effect.end" (defArgs s_Effect_end) (defBody s_Effect_end) (defScope s_Effect_end) [] [] (ma K (ga K "Effect") "end") (ChH.fdOf K (ma K (ga K "Effect") "end")) := W.s.df 14 (d := d_Effect_end)
theorem Wd.F_nothing (W : Wd K mg) : FunD K "nothing" "nothing" (defArgs s_nothing) (defBody s_nothing) (defScope s_nothing) [] [] (ga K "nothing") (ChH.fdOf K (ga K "nothing")) := W.s.df 15 (d := d_nothing)
theorem Wd.k_nothing (W : Wd K mg) : PySem.W.keepIn K (.ref (ga K "nothing")) = true := W.F_nothing.kp
theorem Wd.F_effect_of (W : Wd K mg) : FunD K "effect_of" "effect_of" (defArgs s_effect_of) (defBody s_effect_of) (defScope s_effect_of) [] [] (ga K "effect_of") (ChH.fdOf K (ga K "effect_of")) := W.s.df 16 (d := d_effect_of)
theorem Wd.k_effect_of (W : Wd K mg) : PySem.W.keepIn K (.ref (ga K "effect_of")) = true := W.F_effect_of.kp
theorem Wd.F_first_difference (W : Wd K mg) : FunD K "first_difference" "first_difference" (defArgs s_first_difference) (defBody s_first_difference) (defScope s_first_difference) [] [] (ga K "first_difference") (ChH.fdOf K (ga K "first_difference")) := W.s.df 17 (d := d_first_difference)
theorem Wd.k_first_difference (W : Wd K mg) : PySem.W.keepIn K (.ref (ga K "first_difference")) = true := W.F_first_difference.kp
theorem Wd.F_longest_way (W : Wd K mg) : FunD K "longest_way" "longest_way" (defArgs s_longest_way) (defBody s_longest_way) (defScope s_longest_way) [] [] (ga K "longest_way") (ChH.fdOf K (ga K "longest_way")) := W.s.df 18 (d := d_longest_way)
theorem Wd.k_longest_way (W : Wd K mg) : PySem.W.keepIn K (.ref (ga K "longest_way")) = true := W.F_longest_way.kp
theorem Wd.F_places_of (W : Wd K mg) : FunD K "places_of" "places_of" (defArgs s_places_of) (defBody s_places_of) (defScope s_places_of) [] [] (ga K "places_of") (ChH.fdOf K (ga K "places_of")) := W.s.df 19 (d := d_places_of)
theorem Wd.k_places_of (W : Wd K mg) : PySem.W.keepIn K (.ref (ga K "places_of")) = true := W.F_places_of.kp
theorem Wd.F_shortened (W : Wd K mg) : FunD K "shortened" "shortened" (defArgs s_shortened) (defBody s_shortened) (defScope s_shortened) [] [] (ga K "shortened") (ChH.fdOf K (ga K "shortened")) := W.s.df 20 (d := d_shortened)
theorem Wd.k_shortened (W : Wd K mg) : PySem.W.keepIn K (.ref (ga K "shortened")) = true := W.F_shortened.kp
theorem Wd.F_is_possible (W : Wd K mg) : FunD K "is_possible" "is_possible" (defArgs s_is_possible) (defBody s_is_possible) (defScope s_is_possible) [] [] (ga K "is_possible") (ChH.fdOf K (ga K "is_possible")) := W.s.df 21 (d := d_is_possible)
theorem Wd.k_is_possible (W : Wd K mg) : PySem.W.keepIn K (.ref (ga K "is_possible")) = true := W.F_is_possible.kp
theorem Wd.F_way_of (W : Wd K mg) : FunD K "way_of" "way_of" (defArgs s_way_of) (defBody s_way_of) (defScope s_way_of) [] [] (ga K "way_of") (ChH.fdOf K (ga K "way_of")) := W.s.df 22 (d := d_way_of)
theorem Wd.k_way_of (W : Wd K mg) : PySem.W.keepIn K (.ref (ga K "way_of")) = true := W.F_way_of.kp
theorem Wd.F_step_to (W : Wd K mg) : FunD K "step_to" "step_to" (defArgs s_step_to) (defBody s_step_to) (defScope s_step_to) [] [] (ga K "step_to") (ChH.fdOf K (ga K "step_to")) := W.s.df 23 (d := d_step_to)
theorem Wd.k_step_to (W : Wd K mg) : PySem.W.keepIn K (.ref (ga K "step_to")) = true := W.F_step_to.kp
theorem Wd.F_simple_steps (W : Wd K mg) : FunD K "simple_steps" "simple_steps" (defArgs s_simple_steps) (defBody s_simple_steps) (defScope s_simple_steps) [] [] (ga K "simple_steps") (ChH.fdOf K (ga K "simple_steps")) := W.s.df 24 (d := d_simple_steps)
theorem Wd.k_simple_steps (W : Wd K mg) : PySem.W.keepIn K (.ref (ga K "simple_steps")) = true := W.F_simple_steps.kp
theorem Wd.F_simple_plan (W : Wd K mg) : FunD K "simple_plan" "simple_plan" (defArgs s_simple_plan) (defBody s_simple_plan) (defScope s_simple_plan) [] [] (ga K "simple_plan") (ChH.fdOf K (ga K "simple_plan")) := W.s.df 25 (d := d_simple_plan)
theorem Wd.k_simple_plan (W : Wd K mg) : PySem.W.keepIn K (.ref (ga K "simple_plan")) = true := W.F_simple_plan.kp
theorem Wd.F__law_start (W : Wd K mg) : FunD K "_law_start" "_law_start" (defArgs s__law_start) (defBody s__law_start) (defScope s__law_start) [] [] (ga K "_law_start") (ChH.fdOf K (ga K "_law_start")) := W.s.df 26 (d := d__law_start)
theorem Wd.k__law_start (W : Wd K mg) : PySem.W.keepIn K (.ref (ga K "_law_start")) = true := W.F__law_start.kp
theorem Wd.F__law_drawn (W : Wd K mg) : FunD K "_law_drawn" "_law_drawn" (defArgs s__law_drawn) (defBody s__law_drawn) (defScope s__law_drawn) [] [] (ga K "_law_drawn") (ChH.fdOf K (ga K "_law_drawn")) := W.s.df 27 (d := d__law_drawn)
theorem Wd.k__law_drawn (W : Wd K mg) : PySem.W.keepIn K (.ref (ga K "_law_drawn")) = true := W.F__law_drawn.kp
theorem Wd.F__law_random_steps (W : Wd K mg) : FunD K "_law_random_steps" "_law_random_steps" (defArgs s__law_random_steps) (defBody s__law_random_steps) (defScope s__law_random_steps) [] [] (ga K "_law_random_steps") (ChH.fdOf K (ga K "_law_random_steps")) := W.s.df 28 (d := d__law_random_steps)
theorem Wd.k__law_random_steps (W : Wd K mg) : PySem.W.keepIn K (.ref (ga K "_law_random_steps")) = true := W.F__law_random_steps.kp
theorem Wd.F__law_plan (W : Wd K mg) : FunD K "_law_plan" "_law_plan" (defArgs s__law_plan) (defBody s__law_plan) (defScope s__law_plan) [] [] (ga K "_law_plan") (ChH.fdOf K (ga K "_law_plan")) := W.s.df 29 (d := d__law_plan)
theorem Wd.k__law_plan (W : Wd K mg) : PySem.W.keepIn K (.ref (ga K "_law_plan")) = true := W.F__law_plan.kp
theorem Wd.F__law_played (W : Wd K mg) : FunD K "_law_played" "_law_played" (defArgs s__law_played) (defBody s__law_played) (defScope s__law_played) [] [] (ga K "_law_played") (ChH.fdOf K (ga K "_law_played")) := W.s.df 30 (d := d__law_played)
theorem Wd.k__law_played (W : Wd K mg) : PySem.W.keepIn K (.ref (ga K "_law_played")) = true := W.F__law_played.kp
theorem Wd.F__law_told (W : Wd K mg) : FunD K "_law_told" "_law_told" (defArgs s__law_told) (defBody s__law_told) (defScope s__law_told) [] [] (ga K "_law_told") (ChH.fdOf K (ga K "_law_told")) := W.s.df 31 (d := d__law_told)
theorem Wd.k__law_told (W : Wd K mg) : PySem.W.keepIn K (.ref (ga K "_law_told")) = true := W.F__law_told.kp
theorem Wd.F__law_fewest (W : Wd K mg) : FunD K "_law_fewest" "_law_fewest" (defArgs s__law_fewest) (defBody s__law_fewest) (defScope s__law_fewest) [] [] (ga K "_law_fewest") (ChH.fdOf K (ga K "_law_fewest")) := W.s.df 32 (d := d__law_fewest)
theorem Wd.k__law_fewest (W : Wd K mg) : PySem.W.keepIn K (.ref (ga K "_law_fewest")) = true := W.F__law_fewest.kp
theorem Wd.F_law (W : Wd K mg) : FunD K "law" "law" (defArgs s_law) (defBody s_law) (defScope s_law) [] [] (ga K "law") (ChH.fdOf K (ga K "law")) := W.s.df 33 (d := d_law)
theorem Wd.k_law (W : Wd K mg) : PySem.W.keepIn K (.ref (ga K "law")) = true := W.F_law.kp
end
/-! ### names -/
abbrev N_is_number : List Str := ["value"]
theorem sc_is_number : FnScope N_is_number ["value"] (defScope s_is_number) := ⟨rfl, rfl, rfl, by decide +kernel, rfl, by decide +kernel, by decide +kernel⟩
abbrev N_is_step : List Str := ["step"]
theorem sc_is_step : FnScope N_is_step ["step"] (defScope s_is_step) := ⟨rfl, rfl, rfl, by decide +kernel, rfl, by decide +kernel, by decide +kernel⟩
abbrev N_Plan_init : List Str := ["self", "steps", "index", "step"]
theorem sc_Plan_init : FnScope N_Plan_init ["self", "steps"] (defScope s_Plan_init) := ⟨rfl, rfl, rfl, by decide +kernel, rfl, by decide +kernel, by decide +kernel⟩
abbrev N_Plan_steps : List Str := ["self"]
theorem sc_Plan_steps : FnScope N_Plan_steps ["self"] (defScope s_Plan_steps) := ⟨rfl, rfl, rfl, by decide +kernel, rfl, by decide +kernel, by decide +kernel⟩
abbrev N_Plan_is_turning : List Str := ["self", "step"]
theorem sc_Plan_is_turning : FnScope N_Plan_is_turning ["self"] (defScope s_Plan_is_turning) := ⟨rfl, rfl, rfl, by decide +kernel, rfl, by decide +kernel, by decide +kernel⟩
abbrev N_Plan_joined : List Str := ["self", "others", "steps", "other"]
theorem sc_Plan_joined : FnScope N_Plan_joined ["self", "others"] (defScope s_Plan_joined) := ⟨rfl, rfl, rfl, by decide +kernel, rfl, by decide +kernel, by decide +kernel⟩
abbrev N_sides_of : List Str := ["plan", "found", "side", "word", "needs"]
theorem sc_sides_of : FnScope N_sides_of ["plan"] (defScope s_sides_of) := ⟨rfl, rfl, rfl, by decide +kernel, rfl, by decide +kernel, by decide +kernel⟩
abbrev N_validate_house : List Str := ["plan", "chairs", "index", "side", "need"]
theorem sc_validate_house : FnScope N_validate_house ["plan", "chairs"] (defScope s_validate_house) := ⟨rfl, rfl, rfl, by decide +kernel, rfl, by decide +kernel, by decide +kernel⟩
abbrev N_Effect_init : List Str := ["self", "chairs", "low", "high", "extra", "goal", "turned"]
theorem sc_Effect_init : FnScope N_Effect_init ["self", "chairs", "low", "high", "extra", "goal", "turned"] (defScope s_Effect_init) := ⟨rfl, rfl, rfl, by decide +kernel, rfl, by decide +kernel, by decide +kernel⟩
abbrev N_Effect_at_least : List Str := ["self", "need"]
theorem sc_Effect_at_least : FnScope N_Effect_at_least ["self", "need"] (defScope s_Effect_at_least) := ⟨rfl, rfl, rfl, by decide +kernel, rfl, by decide +kernel, by decide +kernel⟩
abbrev N_Effect_at_most : List Str := ["self", "most"]
theorem sc_Effect_at_most : FnScope N_Effect_at_most ["self", "most"] (defScope s_Effect_at_most) := ⟨rfl, rfl, rfl, by decide +kernel, rfl, by decide +kernel, by decide +kernel⟩
abbrev N_Effect_mirrored : List Str := ["self", "goal"]
theorem sc_Effect_mirrored : FnScope N_Effect_mirrored ["self"] (defScope s_Effect_mirrored) := ⟨rfl, rfl, rfl, by decide +kernel, rfl, by decide +kernel, by decide +kernel⟩
abbrev N_Effect_carried : List Str := ["self", "start"]
theorem sc_Effect_carried : FnScope N_Effect_carried ["self", "start"] (defScope s_Effect_carried) := ⟨rfl, rfl, rfl, by decide +kernel, rfl, by decide +kernel, by decide +kernel⟩
abbrev N_Effect_place : List Str := ["self", "start"]
theorem sc_Effect_place : FnScope N_Effect_place ["self", "start"] (defScope s_Effect_place) := ⟨rfl, rfl, rfl, by decide +kernel, rfl, by decide +kernel, by decide +kernel⟩
abbrev N_Effect_end : List Str := ["self", "start", "place"]
theorem sc_Effect_end : FnScope N_Effect_end ["self", "start"] (defScope s_Effect_end) := ⟨rfl, rfl, rfl, by decide +kernel, rfl, by decide +kernel, by decide +kernel⟩
abbrev N_nothing : List Str := ["chairs"]
theorem sc_nothing : FnScope N_nothing ["chairs"] (defScope s_nothing) := ⟨rfl, rfl, rfl, by decide +kernel, rfl, by decide +kernel, by decide +kernel⟩
abbrev N_effect_of : List Str := ["plan", "chairs", "found", "side", "need"]
theorem sc_effect_of : FnScope N_effect_of ["plan", "chairs"] (defScope s_effect_of) := ⟨rfl, rfl, rfl, by decide +kernel, rfl, by decide +kernel, by decide +kernel⟩
abbrev N_first_difference : List Str := ["plan", "other", "chairs", "one", "two", "places", "bend", "start"]
theorem sc_first_difference : FnScope N_first_difference ["plan", "other", "chairs"] (defScope s_first_difference) := ⟨rfl, rfl, rfl, by decide +kernel, rfl, by decide +kernel, by decide +kernel⟩
abbrev N_longest_way : List Str := ["chairs", "begin", "goal", "moves", "up", "last"]
theorem sc_longest_way : FnScope N_longest_way ["chairs", "begin", "goal", "moves", "up"] (defScope s_longest_way) := ⟨rfl, rfl, rfl, by decide +kernel, rfl, by decide +kernel, by decide +kernel⟩
abbrev N_places_of : List Str := ["chairs", "begin", "goal", "moves", "up", "found", "move"]
theorem sc_places_of : FnScope N_places_of ["chairs", "begin", "goal", "moves", "up"] (defScope s_places_of) := ⟨rfl, rfl, rfl, by decide +kernel, rfl, by decide +kernel, by decide +kernel⟩
abbrev N_shortened : List Str := ["begin", "places", "slack", "found", "index", "step", "nearest", "less"]
theorem sc_shortened : FnScope N_shortened ["begin", "places", "slack"] (defScope s_shortened) := ⟨rfl, rfl, rfl, by decide +kernel, rfl, by decide +kernel, by decide +kernel⟩
abbrev N_is_possible : List Str := ["chairs", "begin", "goal", "moves", "up", "last_free"]
theorem sc_is_possible : FnScope N_is_possible ["chairs", "begin", "goal", "moves", "up"] (defScope s_is_possible) := ⟨rfl, rfl, rfl, by decide +kernel, rfl, by decide +kernel, by decide +kernel⟩
abbrev N_way_of : List Str := ["chairs", "begin", "goal", "length", "moves", "up", "longest"]
theorem sc_way_of : FnScope N_way_of ["chairs", "begin", "goal", "length"] (defScope s_way_of) := ⟨rfl, rfl, rfl, by decide +kernel, rfl, by decide +kernel, by decide +kernel⟩
abbrev N_step_to : List Str := ["chairs", "place", "up"]
theorem sc_step_to : FnScope N_step_to ["chairs", "place", "up"] (defScope s_step_to) := ⟨rfl, rfl, rfl, by decide +kernel, rfl, by decide +kernel, by decide +kernel⟩
abbrev N_simple_steps : List Str := ["effect", "chairs", "steps", "up", "places", "place"]
theorem sc_simple_steps : FnScope N_simple_steps ["effect"] (defScope s_simple_steps) := ⟨rfl, rfl, rfl, by decide +kernel, rfl, by decide +kernel, by decide +kernel⟩
abbrev N_simple_plan : List Str := ["plan", "chairs", "effect", "steps"]
theorem sc_simple_plan : FnScope N_simple_plan ["plan", "chairs"] (defScope s_simple_plan) := ⟨rfl, rfl, rfl, by decide +kernel, rfl, by decide +kernel, by decide +kernel⟩
abbrev N__law_start : List Str := ["_law_script", "_law_mixed", "_law_cell"]
theorem sc__law_start : FnScope N__law_start ["_law_script"] (defScope s__law_start) := ⟨rfl, rfl, rfl, by decide +kernel, rfl, by decide +kernel, by decide +kernel⟩
abbrev N__law_drawn : List Str := ["_law_state", "_law_count", "_law_result", "_law_cell"]
theorem sc__law_drawn : FnScope N__law_drawn ["_law_state", "_law_count"] (defScope s__law_drawn) := ⟨rfl, rfl, rfl, by decide +kernel, rfl, by decide +kernel, by decide +kernel⟩
abbrev N__law_random_steps : List Str := ["_law_state", "_law_most", "_law_high", "_law_result", "_law_turns", "_law_k", "_law_need"]
theorem sc__law_random_steps : FnScope N__law_random_steps ["_law_state", "_law_most", "_law_high"] (defScope s__law_random_steps) := ⟨rfl, rfl, rfl, by decide +kernel, rfl, by decide +kernel, by decide +kernel⟩
abbrev N__law_plan : List Str := ["_law_steps", "_law_result", "_law_step"]
theorem sc__law_plan : FnScope N__law_plan ["_law_steps"] (defScope s__law_plan) := ⟨rfl, rfl, rfl, by decide +kernel, rfl, by decide +kernel, by decide +kernel⟩
abbrev N__law_played : List Str := ["_law_steps", "_law_chairs", "_law_start_here", "_law_red", "_law_blue", "_law_carried", "_law_step", "_law_shifted"]
theorem sc__law_played : FnScope N__law_played ["_law_steps", "_law_chairs", "_law_start_here"] (defScope s__law_played) := ⟨rfl, rfl, rfl, by decide +kernel, rfl, by decide +kernel, by decide +kernel⟩
abbrev N__law_told : List Str := ["_law_steps", "_law_chairs", "_law_result", "_law_start_here", "_law_carried", "_law_red", "_law_step"]
theorem sc__law_told : FnScope N__law_told ["_law_steps", "_law_chairs"] (defScope s__law_told) := ⟨rfl, rfl, rfl, by decide +kernel, rfl, by decide +kernel, by decide +kernel⟩
abbrev N__law_fewest : List Str := ["_law_told_here", "_law_chairs", "_law_most", "_law_place", "_law_start_here", "_law_seen", "_law_layer", "_law_moves", "_law_need", "_law_length", "_law_later", "_law_rows", "_law_turned", "_law_move", "_law_after", "_law_cost", "_law_red", "_law_carried", "_law_key", "_law_cheap"]
theorem sc__law_fewest : FnScope N__law_fewest ["_law_told_here", "_law_chairs", "_law_most"] (defScope s__law_fewest) := ⟨rfl, rfl, rfl, by decide +kernel, rfl, by decide +kernel, by decide +kernel⟩
abbrev N_law : List Str := ["_law_script", "_law_state", "_law_chairs", "_law_steps", "_law_plan_here", "_law_told_here", "_law_turn", "_law_high", "_law_first"]
theorem sc_law : FnScope N_law ["_law_script"] (defScope s_law) := ⟨rfl, rfl, rfl, by decide +kernel, rfl, by decide +kernel, by decide +kernel⟩

end K08

set_option Elab.async false
set_option linter.all false
set_option autoImplicit false
set_option maxRecDepth 100000
set_option pp.maxSteps 500
set_option maxHeartbeats 0
namespace K08
open PySem PySem.Spec PyProof.Rows L2 He ChH
abbrev R : PySem.W.OpenRow := PySem.W.OpenLaw.row PySem.Challenge.rw_chaircarry_k08_simple_plans_by_search
abbrev hk : PySem.W.Hook := hookC 5 faL xsL dfL
def ob (s : PySem.W.SharedT) : He.AlD := obsCG 5 faL xsL dfL (HandSHeadRun.getT s)
theorem ob_eq (s : PySem.W.SharedT) : ob s = hk.obs s.abs := obsCG_eq (HandSHeadRun.getT_eq s)
def loose : List Str := (["_wall", "__name__", "_wall", "ChairError", "InvalidPlan", "TooFewChairs", "InvalidNumber", "RED", "BLUE", "TURN", "is_number", "is_step", "Plan", "sides_of", "validate_house", "Effect", "nothing", "effect_of", "first_difference", "longest_way"] : List Str) ++ (["places_of", "shortened", "is_possible", "way_of", "step_to", "simple_steps", "simple_plan", "_law_start", "_law_drawn", "_law_same", "_law_random_steps", "_law_plan", "_law_played", "_law_told", "_law_fewest"] : List Str)
theorem run (w : World) : HandSHeadRun.RunEq R (PySem.W.view R.prog [38]) hk ob 8000 loose w := by
  intro os
  kernel_rfl
end K08

set_option Elab.async false
set_option linter.all false
set_option autoImplicit false
set_option maxRecDepth 100000
set_option maxHeartbeats 4000000
namespace Ch
open PySem PySem.Spec PyProof.Rows L2
/-! ### a star among the targets: a, *b = a tuple -/
section
variable {prog : Program} {w : World} {A : Around} {E : Value → Shared → Prop} {s : Shared}
theorem star_tup {t : Addr} {its : Array Value} {n i : Nat} {Q : List Value → Shared → Prop} (ht : IsTup s.heap t its) (hand : A.handled = none) (hin : i < n) (hle : n ≤ its.size + 1) (hsz : its.size ≤ 16384)
    (k : ∀ (g : Heap) (tk : Nat), (∀ b o, s.heap.get? b = some o → g.get? b = some o) → Q (its.toList.take i ++ [.ref g.objs.size] ++ (its.toList.drop i).drop (its.size + 1 - n)) { s with heap := g.push { cls := .type "list", data := .seq ((its.toList.drop i).take (its.size + 1 - n)).toArray }, toks := tk }) :
    wpAny (model prog w) A (unpackItems (.ref t) n (some i)) Q E s := by
  have tlt : t < s.heap.objs.size := by
    obtain ⟨o, ho, _⟩ := ht
    exact Heap.lt_size ho
  have tne : t ≠ s.heap.objs.size := Nat.ne_of_lt tlt
  unfold unpackItems
  refine wpAny_bind ?_
  unfold notIterableAtAll
  refine wpAny_bind (wpAny_specialOf ht.typeIs slot_tuple_iter.lookup (wpAny_pure ?_))
  simp only [Bool.false_eq_true, if_false]
  refine wpAny_bind (wpAny_holding (iter_tuple ht (?_)))
  refine wpAny_bind (wpAny_holding (draw_tuple tne i 0 _ _ ⟨_, Heap.get?_push_size _ rfl, rfl, rfl⟩ (ht.push _) (by omega) fun g1 it1 sb1 => ?_))
  have ht1 : IsTup g1 t its := (ht.push _).extBut sb1.extBut tne
  rw [Nat.zero_add] at it1
  obtain ⟨oi, hoi, hoi2⟩ := id it1
  obtain ⟨ot, hot, _⟩ := id ht1
  rw [List.drop_zero]
  have lf : (its.toList.take i).length = i := by
    rw [List.length_take, Array.length_toList]
    omega
  have lr : (its.toList.drop i).length = its.size - i := by
    rw [List.length_drop, Array.length_toList]
  rw [if_neg (show ¬ ((its.toList.take i).length < i) by omega)]
  refine wpAny_bind (wpAny_holding (PySem.W.kun_collect (s := { s with heap := g1 }) (T := "tuple_iterator") (Or.inr (Or.inr (Or.inr rfl))) (Walks.tuple (A := A.in1) hand s.heap.objs.size t tne its) (fun _ _ st => st.1.typeIs) (k := i) (by omega) ⟨it1, ht1⟩ (Heap.lt_size hoi) (Heap.lt_size hot) (fun g2 tk kp => ?_) (by rw [sizeLine_eq]; omega)))
  have lm : (its.toList.drop i).length - (n - 1 - i) = its.size + 1 - n := by omega
  show wpAny _ _ (if (its.toList.drop i).length < n - 1 - i then _ else _) _ _ _
  rw [if_neg (by omega)]
  show wpAny _ _ (newList ((its.toList.drop i).take ((its.toList.drop i).length - (n - 1 - i))) >>= fun d => pure (its.toList.take i ++ [d] ++ (its.toList.drop i).drop ((its.toList.drop i).length - (n - 1 - i)))) _ _ _
  rw [lm]
  have keep : ∀ b o, s.heap.get? b = some o → g2.get? b = some o := fun b o e => by
    have hb : b ≠ s.heap.objs.size := Nat.ne_of_lt (Heap.lt_size e)
    exact kp b o hb (sb1.extBut b o hb (Heap.get?_push_of_some _ e))
  refine wpAny_bind (wpAny_newList (s := { s with heap := g2, toks := tk }) (wpAny_pure (k g2 tk keep)) ?_)
  rw [List.length_take, lr, sizeLine_eq]
  omega
end
section
variable {X : Cx} {pos : Pos}
theorem pgs_star {e : Expr} {p : Pos} {es : List Expr} {t : TG} {u : TGs} (h1 : PG X e t) (h2 : PGs X es u)
    (hs : (assignEach (.Starred e p :: es) X.env).map (·.2) = assign e X.env :: (assignEach es X.env).map (·.2) := by rfl) : PGs X (.Starred e p :: es) (gCons t u) := by
  refine ⟨fun pins s σ H vs us Q I r ⟨v, vr, ev, h⟩ => ?_⟩
  subst ev
  cases r with
  | cons ra rb =>
    rw [hs]
    exact assignInOrder_cons (thn (h1.run pins s σ H _ _ _ I ra h) fun _ s1 ⟨σ1, H1, I1, q1⟩ => h2.run pins s1 σ1 H1 _ _ Q I1 rb q1)
/-- n targets, the i-th with a star, a tuple of fewer or more items -/
def gStar (K : PySem.W.Frag) (n i : Nat) (t : TGs) : TG := fun v σ H Q => ∃ a xs, v = .ref a ∧ SqT K H a xs ∧ i < n ∧ n ≤ xs.length + 1 ∧ xs.length ≤ 16384 ∧
  ∀ d, H d = none → t (xs.take i ++ [.ref d] ++ (xs.drop i).drop (xs.length + 1 - n)) σ (upd H d (.lst ((xs.drop i).take (xs.length + 1 - n)))) Q
theorem pg_star {es : List Expr} {k : Nat} {t : TGs} {n i : Nat} (hc : X.calm = true) (h : PGs X es t)
    (hn : (assignEach es X.env).length = n := by rfl) (hst : (assignEach es X.env).findIdx? (·.1) = some i := by rfl) : PG X (.Tuple es k pos) (gStar X.K n i t) := by
  refine ⟨fun pins s σ H v u Q I r ⟨a, xs, ev, hq, hin, hle, hsz, q⟩ => ?_⟩
  subst ev
  cases r
  obtain ⟨its, rv, ht, _⟩ := I.tuple hq
  have el : its.length = xs.length := rv.length.symm
  rw [assign_Tuple]
  refine wpAny_bind (wpAny_standAt ?_)
  unfold unpack
  rw [hn, hst]
  refine wpAny_bind (wpAny_holding (star_tup ht (I.ok.hd hc) hin (by simp [el]; omega) (by simp [el]; omega) fun g tk keep => ?_))
  have esz : its.toArray.size + 1 - n = xs.length + 1 - n := by simp [el]
  rw [esz]
  have I1 : Inv X pins σ H { s with heap := g, toks := tk } := I.kept (t' := tk) keep
  have hf : H g.objs.size = none := I1.hok.fresh (Nat.le_refl _)
  have I2 : Inv X pins σ (upd H g.objs.size (.lst ((xs.drop i).take (xs.length + 1 - n)))) { s with heap := g.push { cls := .type "list", data := .seq ((its.toArray.toList.drop i).take (xs.length + 1 - n)).toArray }, toks := tk } := by
    refine I1.laid (t' := tk) (fun b u e => Heap.get?_push_of_some _ e) (Nat.le_refl _) ⟨?_, (its.drop i).take (xs.length + 1 - n), 0, (rv.drop i).take _, Heap.get?_push_size _ rfl⟩
    rw [List.length_take, List.length_drop, sizeLine_eq]
    omega
  refine h.run pins _ σ _ _ _ Q I2 ?_ (q _ hf)
  exact Vals.append (Vals.append (rv.take i) (.cons rfl .nil)) ((rv.drop i).drop _)
end
end Ch

set_option Elab.async false
set_option linter.all false
set_option autoImplicit false
set_option maxRecDepth 100000
set_option maxHeartbeats 4000000
namespace Ch
open PySem PySem.Spec PyProof.Rows L2
/-! ### a < b < c < d as a test -/
def tChain3 (r1 r2 r3 : R2) (ta tb tc td : TE) : TE := fun σ H Q => ta σ H fun x H1 => tb σ H1 fun y H2 => r1 x y H2 fun z H3 => ∃ k, z = .bl k ∧
  (if k = true then tc σ H3 fun x2 H4 => r2 y x2 H4 fun z2 H5 => ∃ k2, z2 = .bl k2 ∧ (if k2 = true then td σ H5 fun x3 H6 => r3 x2 x3 H6 Q else Q (.bl false) H5) else Q (.bl false) H3)
section
variable {X : Cx} {a b c d : Expr} {ta tb tc td : TE} {pos : Pos}
theorem pt_chain3 {o1 o2 o3 : CmpOp} {r1 r2 r3 : R2} (h1 : OpR X (compareOp o1) r1) (h2 : OpR X (compareOp o2) r2) (h3 : OpR X (compareOp o3) r3) (ha : PE X a ta) (hb : PE X b tb) (hc : PE X c tc) (hd : PE X d td)
    (hm : lastMarks [o1, o2, o3] [b, c, d] = false := by with_unfolding_all rfl) : PT X (.Compare a [o1, o2, o3] [b, c, d] pos) (tTest (tChain3 r1 r2 r3 ta tb tc td)) := by
  refine ⟨fun pins s σ H Q I h => isTrue_chain (thn (ha.run pins s σ H _ I h) fun v s1 ⟨x, H1, I1, e1, q1⟩ => test_link (thn (hb.run pins s1 σ H1 _ I1 q1) fun u s2 ⟨y, H2, I2, e2, q2⟩ =>
    thn (h1 pins s2 σ H2 x y v u _ I2 e1 e2 q2) fun w1 s3 ⟨z, H3, I3, e3, k, ek, q3⟩ => ?_)) hm⟩
  subst ek
  cases e3
  refine wpAny_truthy_bool ?_
  cases k with
  | false =>
    obtain ⟨k', ek', q'⟩ := q3
    cases ek'
    exact ite_ff ⟨H3, I3, q'⟩
  | true =>
    refine ite_tt (test_link (thn (hc.run pins s3 σ H3 _ I3 q3) fun w2 s4 ⟨x2, H4, I4, e4, q4⟩ => thn (h2 pins s4 σ H4 y x2 u w2 _ I4 e2 e4 q4) fun w3 s5 ⟨z2, H5, I5, e5, k2, ek2, q5⟩ => ?_))
    subst ek2
    cases e5
    refine wpAny_truthy_bool ?_
    cases k2 with
    | false =>
      obtain ⟨k', ek', q'⟩ := q5
      cases ek'
      exact ite_ff ⟨H5, I5, q'⟩
    | true =>
      refine ite_tt (test_last (thn (hd.run pins s5 σ H5 _ I5 q5) fun w4 s6 ⟨x3, H6, I6, e6, q6⟩ => thn (h3 pins s6 σ H6 x2 x3 w2 w4 _ I6 e4 e6 q6) fun w5 s7 ⟨z3, H7, I7, e7, k3, ek3, q7⟩ => ?_))
      subst ek3
      cases e7
      exact wpAny_truthy_bool ⟨H7, I7, q7⟩
end
end Ch

set_option Elab.async false
set_option linter.all false
set_option autoImplicit false
set_option maxRecDepth 100000
set_option maxHeartbeats 4000000
namespace Ch
open PySem PySem.Spec PyProof.Rows L2
open Sem (wp)
/-! ### enumerate of a tuple -/
theorem en_new1 {v : Value} {ob : Obj} {G : Heap → Prop} (B : Begins v ob G) :
    Meets (Builtin.«enumerate.__new__» ⟨[.type "enumerate", v], []⟩) (fun _ R s => G s.heap ∧
      R (.ok (.ret (.ref (s.heap.push ob).objs.size))) { s with heap := (s.heap.push ob).push { cls := .type "enumerate", data := .fields #[.none, .bool false, .ref s.heap.objs.size, rawInt 0, .none, .none] } }) :=
  .of_wp fun prog w A R st ⟨hG, hR⟩ => by
    obtain ⟨hp, ge, dr, tk, os⟩ := st
    have hsub := sub_enumerate
    have itq : ∀ {A1 : Around} {E : Value → Shared → Prop} {Q : Value → Shared → Prop}, Q (.ref hp.objs.size) ⟨hp.push ob, ge, dr, tk, os⟩ → wpAny (model prog w) A1 (pyIter v) Q E ⟨hp, ge, dr, tk, os⟩ :=
      fun q => B.iter prog w _ _ ⟨hp, ge, dr, tk, os⟩ _ hG q
    wp_walk using itq
    refine wpAny_stack_any fun sk => wpAny_pure (?_)
    split
    · rename_i c _ _ _ _ _
      cases (c == Value.type "enumerate")
      all_goals
        wp_walk using itq
        exact ⟨_, rfl, hR⟩
    · wp_walk using itq
      exact ⟨_, rfl, hR⟩
section
variable {prog : Program} {w : World} {A : Around} {E : Value → Shared → Prop} {s : Shared}
theorem en_call1 {v : Value} {ob : Obj} {G : Heap → Prop} {Q : Value → Shared → Prop} (B : Begins v ob G) (hG : G s.heap)
    (k : ∀ g : Heap, IsEnum g (s.heap.objs.size + 1) s.heap.objs.size 0 .none → g.get? s.heap.objs.size = some ob → (∀ b o, s.heap.get? b = some o → g.get? b = some o) → Q (.ref (s.heap.objs.size + 1)) { s with heap := g }) :
    wpAny (model prog w) A (call (.type "enumerate") [v]) Q E s := by
  refine callType_new F.called_enumerate (by decide) (F.typeCall_enumerate_1 _) (F.newCall_enumerate_1 _) (fun obj => F.args_object_init_2 obj _) F.entry_enumerate_new (en_new1 B) ⟨hG, ?_⟩
  have sz : (s.heap.push ob).objs.size = s.heap.objs.size + 1 := Heap.size_push ..
  show _ ∧ _
  rw [sz]
  have ie : IsEnum ((s.heap.push ob).push { cls := .type "enumerate", data := .fields #[.none, .bool false, .ref s.heap.objs.size, rawInt 0, .none, .none] }) (s.heap.objs.size + 1) s.heap.objs.size 0 .none := by
    have q := Heap.get?_push_size (s.heap.push ob) (o := { cls := .type "enumerate", data := .fields #[.none, .bool false, .ref s.heap.objs.size, rawInt 0, .none, .none] }) rfl
    rw [sz] at q
    exact q
  exact ⟨⟨_, ie, rfl⟩, k _ ie (Heap.get?_push_of_some _ (Heap.get?_push_size _ B.free)) fun b o x => Heap.get?_push_of_some _ (Heap.get?_push_of_some _ x)⟩
end
/-- the tuple at a, each item in a new pair -/
def IteT (K : PySem.W.Frag) (a : Addr) : It :=
  ⟨fun i H => ∃ (xs : List V) (x : V), SqT K H a xs ∧ xs[i]? = some x, fun i H v H' => ∃ T x, v = .ref T ∧ H T = none ∧ H' = upd H T (.tup [.int (i : Nat), x]) ∧ ∀ xs, SqT K H a xs → xs[i]? = some x, fun i H => ∃ xs : List V, SqT K H a xs ∧ xs.length ≤ i⟩
theorem turn_enumT {P : Program} {w : World} {K : PySem.W.Frag} {elts : List Expr} {kk : Nat} {tpos : Pos} (a e it : Addr) :
    Turn P w K (.Tuple elts kk tpos) (IteT K a) [e, it] e (fun i h => (∃ old, IsEnum h e it ((i : Nat) : Int) old) ∧ h.IsTupleIter it a i ∧ e ≠ it ∧ e ≠ a ∧ a ≠ it) where
  mem := List.mem_cons_self
  obj := fun i h st b hb => by
    obtain ⟨⟨old, he⟩, ⟨o, ho, hc, hd⟩, _⟩ := st
    rcases List.mem_cons.mp hb with z | z
    · rw [z]
      exact ⟨_, he, fun v q => nomatch q⟩
    · rw [List.mem_singleton.mp z]
      exact ⟨o, ho, fun v q => by rw [hd] at q; cases q⟩
  keep := fun i h h' ⟨⟨old, he⟩, hi, hn⟩ k => ⟨⟨old, k e (by simp) _ he⟩, hi.at fun o q => k it (by simp) o q, hn⟩
  item := by
    intro X hP hw hK hc i pins s σ H E I hf ⟨⟨old, he⟩, hit, hne, hea, hai⟩ ⟨xs, x, hq, hx⟩
    subst hP hw hK
    obtain ⟨its, rv, p, hz⟩ := I.tuple hq
    obtain ⟨u, hu, ru⟩ := rv.get hx
    have pt : s.heap.IsTuple a its.toArray := p
    have hel : e < s.heap.objs.size := Heap.lt_size he
    have hil : it < s.heap.objs.size := by
      obtain ⟨_, q, _⟩ := hit
      exact Heap.lt_size q
    have hlt : i < its.toArray.size := by
      have := (List.getElem?_eq_some_iff.mp hu).1
      simpa using this
    refine wpAny_pyNext_enum_itemD (Draws.tuple (A := X.A.in1) (I.ok.hd hc) it a hai its.toArray) he ⟨hit, pt⟩ hlt hne (by simp [hne, hea]) fun u' g tk hPu ho st' hT hsz hk => ?_
    have eu : u' = u := by
      have h1 : its.toArray[i]? = some u' := hPu
      rw [List.getElem?_toArray, hu] at h1
      exact (Option.some.inj h1).symm
    subst eu
    refine ⟨_, rfl, wpAny_letOwnedTupleGo_enum (s := { s with heap := g, toks := tk + 1 }) ho fun g2 he' sb => ?_⟩
    have hT2 : g2.get? s.heap.objs.size = some { cls := .type "tuple", data := .seq #[.int i tk, u'] } := (sb.2 _ (Nat.ne_of_gt hel)).trans hT
    have new : ObjOk X.prog X.w (upd H s.heap.objs.size (.tup [.int (i : Nat), x])) g2 s.heap.objs.size (.tup [.int (i : Nat), x]) :=
      ⟨by show 2 ≤ sizeLine; decide, [.int i tk, u'], .cons ⟨_, rfl⟩ (.cons ru .nil), ⟨_, hT2, rfl, _, rfl⟩⟩
    have I1 : Inv X pins σ (upd H s.heap.objs.size (.tup [.int (i : Nat), x])) { s with heap := g2, toks := tk + 1 } :=
      I.turnedNew (ch := [e, it]) (fun b ob hb q => by
        have n1 : b ≠ e := fun z => hb (by simp [z])
        have n2 : b ≠ it := fun z => hb (by simp [z])
        exact (sb.2 b n1).trans (hk b ob n1 n2 q)) hf (Nat.le_refl _) new
    refine ⟨.ref s.heap.objs.size, _, I1, rfl, ⟨_, x, rfl, I.hok.fresh (Nat.le_refl _), rfl, fun ys hy => by rw [I.tuple_inj hy hq]; exact hx⟩, ⟨⟨u', ?_⟩, st'.1.at fun o q => (sb.2 it (Ne.symm hne)).trans q, hne, hea, hai⟩, fun b hb => ?_⟩
    · rw [show ((i + 1 : Nat) : Int) = (i : Int) + 1 by omega]
      exact he'
    · have lb : b < s.heap.objs.size := by
        rcases List.mem_cons.mp hb with z | z
        · rw [z]
          exact hel
        · rw [List.mem_singleton.mp z]
          exact hil
      rw [upd_ne (Nat.ne_of_lt lb)]
      exact (hf b hb).1
  done := by
    intro X hP hw hK hc i pins s σ H E I hf ⟨⟨old, he⟩, hit, hne, hea, hai⟩ ⟨xs, hq, hx⟩
    subst hP hw hK
    obtain ⟨its, rv, p, hz⟩ := I.tuple hq
    have pt : s.heap.IsTuple a its.toArray := p
    obtain ⟨f0, f1, f2, f3, f4, f5⟩ := hf it (by simp)
    have hl := rv.length
    have hd : s.heap.IsTupleIter it a i := hit
    refine wpAny_pyNext_enum_endD (fp := [it, a]) (n := i) (P := fun _ _ => False) (St := fun j g => j = i ∧ g.IsTupleIter it a i ∧ g.IsTuple a its.toArray) ?_ he ⟨rfl, hit, pt⟩ fun g eb => ⟨rfl, I.turned (t' := s.toks) (fun b o hb q => eb b o hb q) f0 f1 f3 f4 f5⟩
    exact {
      live := fun _ _ st => let ⟨o, ho, _⟩ := st.2.1; ⟨o, ho⟩
      frame := fun _ _ _ st hk => ⟨st.1, st.2.1.at fun o q => hk it (by simp) o q, st.2.2.at fun o q => hk a (by simp) o q⟩
      item := fun j s2 Q2 E2 hj st _ => absurd st.1 (Nat.ne_of_lt hj)
      done := fun s2 Q2 E2 st hE => wpAny_nextOf_tuple_end (I.ok.hd hc) st.2.1 st.2.2 (by simp; omega) hE }
  self := fun A i s Q E st h => let ⟨⟨_, he⟩, _⟩ := st; wpAny_pyIter_enum he h
def iEnumT (K : PySem.W.Frag) (ta : TA) : TI := fun σ H R => ta σ H fun vs H1 => ∃ a xs, vs = [.ref a] ∧ SqT K H1 a xs ∧ R (IteT K a) H1
theorem pi_enumT {X : Cx} {e : Expr} {ta : TA} {p pos tpos : Pos} {elts : List Expr} {kk : Nat} (hg : Gl X "enumerate") (hm : X.mg "enumerate" = none) (ha : PA X [e] ta) (hs : starEach [e] X.env = [(false, eval e X.env)] := by rfl) :
    PI X (.Tuple elts kk tpos) (.Call (.Name "enumerate" p) [e] [] pos) (iEnumT X.K ta) := by
  refine ⟨fun pins s σ H R I h => ?_⟩
  refine Call_ (ld_blt I hg hm boot_enumerate (PyProof.Rows.callWith_type1 (thn (ha.run pos pins s σ H _ I h) fun us s1 ⟨vs, H1, I1, r1, a, xs, ex, hq, q⟩ => ?_) hs rfl))
  subst ex
  obtain ⟨u, rfl, ru⟩ := vals1 r1
  obtain rfl : u = Value.ref a := ru
  obtain ⟨its, rv, p', hz⟩ := I1.tuple hq
  have pt : s1.heap.IsTuple a its.toArray := p'
  have al : a < s1.heap.objs.size := by
    obtain ⟨o, ho, _⟩ := pt
    exact Heap.lt_size ho
  refine en_call1 (begins_tuple a its.toArray) pt fun g he hit hk => wpAny_pyIter_enum he ?_
  have I2 : Inv X pins σ H1 { s1 with heap := g } := I1.kept (t' := s1.toks) hk
  refine ⟨s1.heap.objs.size + 1, [s1.heap.objs.size + 1, s1.heap.objs.size], _, _, H1, rfl, I2, turn_enumT a (s1.heap.objs.size + 1) s1.heap.objs.size, ⟨⟨.none, he⟩, ⟨_, hit, rfl, rfl⟩, Nat.succ_ne_self _, Nat.ne_of_gt (Nat.lt_succ_of_lt al), Nat.ne_of_lt al⟩, fun b hb => ?_, q⟩
  have lb : s1.heap.objs.size ≤ b := by
    rcases List.mem_cons.mp hb with z | z
    · rw [z]
      exact Nat.le_add_right _ _
    · rw [List.mem_singleton.mp z]
      exact Nat.le_refl _
  exact I1.fpOk lb (I1.hok.fresh lb)
theorem walk_enumT {K : PySem.W.Frag} {a : Addr} {xs : List V} : Walk (IteT K a) xs.length (fun H => SqT K H a xs) (YPair (fun i => some (.int (i : Nat))) (fun i => xs[i]?)) where
  goes := fun i H hi hG => ⟨xs, xs[i], hG, List.getElem?_eq_getElem hi⟩
  stops := fun H hG => ⟨xs, hG, Nat.le_refl _⟩
  yields := fun i H v H' hi hG ⟨T, x, ev, hT, eH, hx⟩ => ⟨T, _, x, ev, hT, eH, rfl, hx xs hG⟩
/-! ### max of three ints -/
theorem call_max3 {X : Cx} (hc : X.calm = true) : CallR X (.builtin "max") (fun xs H Q => ∃ i j k : Int, xs = [.int i, .int j, .int k] ∧ Q (.int (if k > (if j > i then j else i) then k else (if j > i then j else i))) H) := by
  intro pins s σ H xs us Q I r ⟨i, j, k, e, q⟩
  refine call_max3Nu hc pins s σ H xs us Q I r ⟨.int i, .int j, .int k, _, e, ?_, q⟩
  have two : ∀ a b : Int, nuMax2 (.int a) (.int b) = some (.int (if b > a then b else a)) := fun a b => by
    show some (if decide (a < b) = true then V.int b else V.int a) = _
    by_cases h : a < b
    · rw [decide_eq_true h, if_pos rfl, if_pos h]
    · rw [decide_eq_false h, if_neg Bool.false_ne_true, if_neg h]
  unfold nuMax3
  rw [two, Option.bind_some, two]
end Ch

set_option Elab.async false
set_option linter.all false
set_option autoImplicit false
set_option maxRecDepth 100000
set_option maxHeartbeats 4000000
namespace Ch
open PySem PySem.Spec PyProof.Rows L2
/-! ### calls by positional promises -/
def tCallR (sp : Sp) (E : XK) (t : TA) : TE := fun σ H Q => t σ H fun vs H1 => sp vs H1 Q E
def tMethR (C : Addr) (m : Str) (sp : Sp) (E : XK) (ta : TE) (t : TA) : TE := fun σ H Q => ta σ H fun x H1 => ∃ a dx fs, x = .ref a ∧ H1 a = some (.ins C dx fs) ∧ fs.lookup m = none ∧ t σ H1 fun vs H2 => sp (.ref a :: vs) H2 Q E
def tPropR (C : Addr) (sp : Sp) (E : XK) (ta : TE) : TE := fun σ H Q => ta σ H fun x H1 => ∃ a dx fs, x = .ref a ∧ H1 a = some (.ins C dx fs) ∧ sp [.ref a] H1 Q E
def tMk (C : Addr) (sp : Sp) (E : XK) (t : TA) : TE := fun σ H Q => t σ H fun vs H1 => ∀ x dx, H1 x = none → H1 dx = none → dx ≠ x → sp (.ref x :: vs) (upd (upd H1 dx (.own x)) x (.ins C dx [])) (fun v H2 => v = .non ∧ Q (.ref x) H2) E
section
variable {X : Cx} {CX : CXT} {k : Nat} {f C g p : Addr} {sp : Sp} {E : XK} {x m : Str} {np pos apos : Pos} {e o : Expr} {es : List Expr} {ta : TE} {t : TA}
theorem pe_callR (F : FnR X.prog X.w X.K X.mg X.base CX k f sp) (hr : Room k X.A) (hm : X.mg x = some (.ref f)) (hk : PySem.W.keepIn X.K (.ref f) = true) (hx : Passes CX X E) (hg : Gl X x) (ha : PA X (e :: es) t)
    (hd : (x == ("__debug__" : Str)) = false := by decide) (he : starEach (e :: es) X.env = (false, eval e X.env) :: starEach es X.env := by rfl) (hpl : (backTo pos (starEach es X.env)).any (·.1) = false := by rfl) :
    PE X (.Call (.Name x np) (e :: es) [] pos) (tCallR sp E t) :=
  ⟨fun pins s σ H Q I h => wpAny_Call_Name_kw (ld_glob I hg hm (PySem.W.callWith_K (h₀ := X.base) I.ok.mod.kin hk (thn (ha.run pos pins s σ H _ I h) fun us s1 ⟨vs, H1, I1, r, q⟩ => ⟨I1.kIn, wpAny_call (run_fnR F hr hx I1 r q)⟩) he hpl) hd)⟩
theorem pe_callR0 (F : FnR X.prog X.w X.K X.mg X.base CX k f sp) (hr : Room k X.A) (hm : X.mg x = some (.ref f)) (hk : PySem.W.keepIn X.K (.ref f) = true) (hx : Passes CX X E) (hg : Gl X x)
    (hd : (x == ("__debug__" : Str)) = false := by decide) : PE X (.Call (.Name x np) [] [] pos) (tCallR sp E tNil) :=
  ⟨fun pins s σ H Q I h => wpAny_Call_Name_kw (ld_glob I hg hm (PySem.W.callWith_K0 I.kIn hk (wpAny_call (run_fnR (us := []) F hr hx I .nil h))) hd)⟩
theorem pe_methR {pl : Sem Bool} (c : Cls X.K C) (hm : Meth X.K C m f) (F : FnR X.prog X.w X.K X.mg X.base CX k f sp) (hr : Room k X.A) (hx : Passes CX X E) (ho : PE X o ta) (ha : PA X (e :: es) t)
    (hst : starEach (e :: es) X.env = (false, eval e X.env) :: starEach es X.env := by rfl) (hpl : (backTo pos (starEach es X.env)).any (·.1) = false := by rfl)
    (ht : eval (.Call (.Attribute o m apos) (e :: es) [] pos) X.env = (do
      let rv ← eval o X.env
      standAt apos.atName
      let (fn, first) ← holding [rv] (getMethod rv m pl)
      callWith pos fn first (backTo pos (starEach (e :: es) X.env)) (backToKw pos (keywordEach [] X.env))) := by rfl) :
    PE X (.Call (.Attribute o m apos) (e :: es) [] pos) (tMethR C m sp E ta t) := by
  refine ⟨fun pins s σ H Q I h => PySem.W.methodCall_KW (pl := pl) (thn (ho.run pins s σ H _ I h) fun u s1 ⟨y, H1, I1, ry, a, dx, fs, ey, ea, l, q⟩ => ?_) ht⟩
  subst ey
  obtain rfl : u = Value.ref a := ry
  refine getmeth_ok I1 ea c hm l (PySem.W.callWith_K (first := [.ref a]) (h₀ := X.base) I.ok.mod.kin hm.kp (thn (ha.run pos pins s1 σ H1 _ I1 q) fun us s2 ⟨vs, H2, I2, r, q2⟩ => ⟨I2.kIn, ?_⟩) hst hpl)
  exact wpAny_call (run_fnR (us := .ref a :: us) (vs := .ref a :: vs) F hr hx I2 (.cons rfl r) q2)
theorem pe_methR0 {pl : Sem Bool} (c : Cls X.K C) (hm : Meth X.K C m f) (F : FnR X.prog X.w X.K X.mg X.base CX k f sp) (hr : Room k X.A) (hx : Passes CX X E) (ho : PE X o ta)
    (ht : eval (.Call (.Attribute o m apos) [] [] pos) X.env = (do
      let rv ← eval o X.env
      standAt apos.atName
      let (fn, first) ← holding [rv] (getMethod rv m pl)
      callWith pos fn first (backTo pos (starEach [] X.env)) (backToKw pos (keywordEach [] X.env))) := by rfl) :
    PE X (.Call (.Attribute o m apos) [] [] pos) (tMethR C m sp E ta tNil) := by
  refine ⟨fun pins s σ H Q I h => PySem.W.methodCall_KW (pl := pl) (thn (ho.run pins s σ H _ I h) fun u s1 ⟨y, H1, I1, ry, a, dx, fs, ey, ea, l, q⟩ => ?_) ht⟩
  subst ey
  obtain rfl : u = Value.ref a := ry
  exact getmeth_ok I1 ea c hm l (PySem.W.callWith_K0 (first := [.ref a]) I1.kIn hm.kp (wpAny_call (run_fnR (us := [.ref a]) (vs := [.ref a]) F hr hx I1 (.cons rfl .nil) q)))
/-- C(e, ..), C(), C(*e) -/
theorem pe_mk (M : Mk X.K C f) (F : FnR X.prog X.w X.K X.mg X.base CX k f sp) (hr : Room (k + 1) X.A) (hm : X.mg x = some (.ref C)) (hx : Passes CX X E) (hg : Gl X x) (ha : PA X (e :: es) t) (hd : (x == ("__debug__" : Str)) = false := by decide)
    (he : starEach (e :: es) X.env = (false, eval e X.env) :: starEach es X.env := by rfl) (hpl : (backTo pos (starEach es X.env)).any (·.1) = false := by rfl) : PE X (.Call (.Name x np) (e :: es) [] pos) (tMk C sp E t) :=
  StX.pe_makeR M F hr hg hm hx ha hd he hpl
theorem pe_mk0 (M : Mk X.K C f) (F : FnR X.prog X.w X.K X.mg X.base CX k f sp) (hr : Room (k + 1) X.A) (hm : X.mg x = some (.ref C)) (hx : Passes CX X E) (hg : Gl X x) (hd : (x == ("__debug__" : Str)) = false := by decide) :
    PE X (.Call (.Name x np) [] [] pos) (tMk C sp E tNil) :=
  ⟨fun pins s σ H Q I h => wpAny_Call_Name_kw (ld_glob I hg hm (PySem.W.callWith_K0 I.kIn M.kp (StX.run_makeR (us := []) M F hr hx I .nil h)) hd)⟩
def tStarA (K : PySem.W.Frag) (te : TE) : TA := fun σ H Q => te σ H fun y H1 => ∃ a xs, y = .ref a ∧ (SqT K H1 a xs ∨ SqL K H1 a xs) ∧ Q xs H1
theorem pe_mkS {sp_ : Pos} (M : Mk X.K C f) (F : FnR X.prog X.w X.K X.mg X.base CX k f sp) (hr : Room (k + 1) X.A) (hm : X.mg x = some (.ref C)) (hx : Passes CX X E) (hg : Gl X x) (he : PE X e ta) (hd : (x == ("__debug__" : Str)) = false := by decide)
    (hst : starEach [.Starred e sp_] X.env = [(true, eval e X.env)] := by rfl) : PE X (.Call (.Name x np) [.Starred e sp_] [] pos) (tMk C sp E (tStarA X.K ta)) := by
  refine ⟨fun pins s σ H Q I h => wpAny_Call_Name_kw (ld_glob I hg hm (PySem.W.callWith_S (h₀ := X.base) I.ok.mod.kin M.kp (thn (he.run pins s σ H _ I h) fun v s1 ⟨y, H1, I1, ry, a, xs, ey, hxs, q⟩ => ?_) hst) hd)⟩
  subst ey
  obtain rfl : v = Value.ref a := ry
  exact StX.star_any I1 hxs fun us s2 I2 rv => ⟨I2.kIn, StX.run_makeR M F hr hx I2 rv q⟩
/-- a property whose getter raises nothing -/
theorem pe_propR (c : Cls X.K C) (hp : PropOf X.K C m p g) (F : FnR X.prog X.w X.K X.mg X.base CX0 k g sp) (hr : Room (k + 1) X.A) (ho : PE X o ta) (hab : attributeBase o m X.env (eval o X.env) = eval o X.env := by rfl) : PE X (.Attribute o m pos) (tPropR C sp E0 ta) := by
  refine ⟨fun pins s σ H Q I h => attr_of hab (thn (ho.run pins s σ H _ I h) fun u s1 ⟨y, H1, I1, ry, a, dx, fs, ey, ea, q⟩ => ?_)⟩
  subst ey
  obtain rfl : u = Value.ref a := ry
  obtain ⟨mA, J, hl, wi, _⟩ := ins_get I1.hok ea
  obtain ⟨rest, hrec⟩ := hp.rec_
  have hc : (PySem.W.clsIn X.K C).isSome = true := by
    obtain ⟨cd, hcd, _⟩ := PySem.W.any_some c.hd
    rw [hcd]
    rfl
  obtain ⟨od, Ja, _⟩ := J.look
  refine PySem.W.get_bind I1.kIn Ja (PySem.W.plainGet_of (c.get m)).1 (PySem.W.findObj_data hc hp.at_ hp.get hp.tak) (PySem.W.plainGet_of (c.get m)).2 (wpAny_call (PySem.W.prop_get (s := { s1 with toks := s1.toks + 1 }) I1.kIn hrec ?_))
  have I2 : Inv X pins σ H1 { s1 with toks := s1.toks + 1 } := I1.tok _
  refine codeAny_mono (F X.A.in1 X.stack { s1 with toks := s1.toks + 1 } H1 [.ref a] [.ref a] Q E0 hr.in1 I2.env0.in1 (.cons rfl .nil) q) fun r s' hq => ?_
  cases r with
  | error er =>
    have hz : CX0 X.stack H1 { s1 with toks := s1.toks + 1 } E0 er s' := hq
    exact False.elim hz
  | ok fl =>
    cases fl with
    | ret u1 =>
      obtain ⟨v, H', I3, rv, q3⟩ := I2.after hq
      show wpAny _ _ (handedOut u1) _ _ _
      rw [PySem.W.handedOut_of (handed_of rv)]
      exact wpAny_pure ⟨v, H', I3, rv, q3⟩
    | next => exact False.elim hq
    | brk => exact False.elim hq
    | cont => exact False.elim hq
end
/-! ### defs to such promises -/
section
variable {P : Program} {w : World} {K : PySem.W.Frag} {mg : Str → Option Value} {base : Heap} {x qual : Str} {params : Arguments} {body : List Stmt} {scope : Scope} {kws : List (Str × V)} {f : Addr} {fd : FuncData}
/-- a def without defaults and stars -/
theorem def_ok {CX : CXT} {N ps : List Str} {k : Nat} {sp : Sp} (F : FunD K x qual params body scope [] kws f fd) (S : FnScope N ps scope)
    (hb : ∀ (kV doc pm : Value) (an : Option Addr) (cdv ct : Value) (us : List Value), us.length = ps.length → bindArgs (PySem.W.fnOf x qual params body scope .none kV doc pm an cdv ct) ⟨us, []⟩ = pure (ps.zip us))
    (len : ∀ vs H Q E, sp vs H Q E → vs.length = ps.length)
    (body_ok : ∀ (cdv : Value) (A : Around) (outer : List Env) (s : Shared) (H : Hp) (vs : List V) (Q : VK) (E : XK), Room k (A.deeper (envOfC qual scope s.heap.objs.size f cdv)) → sp vs H Q E →
      ∃ t, PSs (cxOf CX P w K mg base N qual scope f cdv A outer s H E) body t ∧ t { nx := fun _ H' => Q .non H', rt := Q } (start N vs) H) : FnOk P w K mg base CX (k + 1) f fd ps sp ∧ FnR P w K mg base CX (k + 1) f sp := by
  have G : FnOk P w K mg base CX (k + 1) f fd ps sp := F.ok S len body_ok
  refine ⟨G, (G.raw (F.bindsN hb) .nil).imp fun vs H Q E h => ?_⟩
  rw [List.append_nil]
  exact h
/-- def f(a, .., *v) -/
theorem star_ok {CX : CXT} {N ps : List Str} {k : Nat} {sp : Sp} {pv : Str} (F : FunD K x qual params body scope [] kws f fd) (S : FnScope N (ps ++ [pv]) scope) (hCX : StX.CXUp CX)
    (hb : ∀ (kV doc pm : Value) (an : Option Addr) (cdv ct : Value) (us rest : List Value), us.length = ps.length → bindArgs (PySem.W.fnOf x qual params body scope .none kV doc pm an cdv ct) ⟨us ++ rest, []⟩ = (newTuple rest >>= fun t => pure (ps.zip us ++ [(pv, t)])))
    (body_ok : ∀ (cdv : Value) (A : Around) (outer : List Env) (s : Shared) (H : Hp) (vs : List V) (Q : VK) (E : XK), Room k (A.deeper (envOfC qual scope s.heap.objs.size f cdv)) → sp vs H Q E →
      ∃ t, PSs (cxOf CX P w K mg base N qual scope f cdv A outer s H E) body t ∧ t { nx := fun _ H' => Q .non H', rt := Q } (start N vs) H) :
    FnR P w K mg base CX (k + 1) f (fun vs H Q E => ∃ ws rest, vs = ws ++ rest ∧ ws.length = ps.length ∧ rest.length ≤ sizeLine ∧ ∀ p, H p = none → sp (ws ++ [V.ref p]) (upd H p (.tup rest)) Q E) := by
  obtain ⟨oc, od, dV, kV, doc, pm, an, cdv, ct, osl, e1, lk, hcd, hD, hK⟩ := F.ex
  rcases hD with ⟨_, e2⟩ | ⟨ne, _⟩
  · subst e1 e2
    exact StX.fn_star lk hcd S hCX (hb kV doc pm an cdv ct) fun A outer s H vs Q E hr hsp => body_ok cdv A outer s H vs Q E hr hsp
  · exact absurd rfl ne
end
end Ch

set_option Elab.async false
set_option linter.all false
set_option autoImplicit false
set_option maxRecDepth 100000
set_option maxHeartbeats 4000000
namespace Ch
open PySem PySem.Spec PyProof.Rows L2
/-! ### heaps -/
theorem Same.new {H : Hp} {p : Addr} {o : HO} (h : H p = none) : Same H (upd H p o) := fun b u e => by
  rw [upd_ne (ne_of_none e h)]
  exact e
theorem Same.seqT {K : PySem.W.Frag} {H H' : Hp} {a : Addr} {xs : List V} (e : Same H H') (h : SqT K H a xs) : SqT K H' a xs := by
  rcases h with (h | ⟨o, h⟩) | h
  · exact .inl (.inl (e _ _ h))
  · exact .inl (.inr ⟨o, e _ _ h⟩)
  · exact .inr h
theorem Same.mut {H H' : Hp} {p : Addr} {o : HO} (e : Same H H') (h : H p = none) : Same H (upd H' p o) := fun b u q => by
  rw [upd_ne (ne_of_none q h)]
  exact e b u q
theorem tr {H H1 H2 : Hp} {a : Addr} {o : HO} (e : Same H H1) (h : H a = some o) : H1 a = some o := e a o h
theorem up {H : Hp} {a p : Addr} {o u : HO} (h : H a = some o) (n : H p = none) : (upd H p u) a = some o := by
  rw [upd_ne (ne_of_none h n)]
  exact h
theorem fr {H H1 : Hp} {a p : Addr} {o : HO} (e : Same H H1) (n : H1 p = none) (h : H a = some o) : a ≠ p := ne_of_none (e a o h) n
/-! ### operators of several kinds of values -/
variable {X : Cx}
def rPlus : R2 := fun x y H Q => (∃ i j, x = .int i ∧ y = .int j ∧ Q (.int (i + j)) H) ∨ rCat x y H Q ∨ (∃ i j, x = .str i ∧ y = .str j ∧ i.length + j.length ≤ sizeLine ∧ Q (.str (i ++ j)) H)
theorem op_plus : OpR X (binaryOp .Add) rPlus := op_add.or (op_cat.or op_add_str)
def rTimes : R2 := fun x y H Q => (∃ i j, x = .int i ∧ y = .int j ∧ CMul i j ∧ Q (.int (i * j)) H) ∨ rI CMulW (fun i j => .int (i * j)) x y H Q ∨ rRep x y H Q
theorem op_times : OpR X (binaryOp .Mult) rTimes := op_mul.or (op_mulW.or op_rep)
def rMinus : R2 := rI0 fun i j => .int (i - j)
theorem op_minus : OpR X (binaryOp .Sub) rMinus := op_sub
def rModP : R2 := rI (fun _ j => 0 < j) fun i j => .int (i % j)
theorem op_modP : OpR X (binaryOp .Mod) rModP := op_mod
def rDivP : R2 := rI CDivW fun i j => .int (i / j)
theorem op_divP : OpR X (binaryOp .FloorDiv) rDivP := op_fdivW
def rPowP : R2 := rI CPow fun i j => .int (i ^ j.toNat)
theorem op_powP : OpR X (binaryOp .Pow) rPowP := op_pow
def rEqU (K : PySem.W.Frag) : R2 := fun x y H Q => rEq x y H Q ∨ rEqD K x y H Q
theorem op_eqU (hu : X.A.units + 64 < cLine) : OpR X (compareOp .Eq) (rEqU X.K) := op_eq.or (op_eqD hu)
def rNeU (K : PySem.W.Frag) : R2 := fun x y H Q => rNe x y H Q ∨ rNeD K x y H Q
theorem op_neU (hu : X.A.units + 64 < cLine) : OpR X (compareOp .NotEq) (rNeU X.K) := op_ne.or (op_neD hu)
def rLtI : R2 := rI0 fun i j => .bl (decide (i < j))
def rLeI : R2 := rI0 fun i j => .bl (decide (i ≤ j))
def rGtI : R2 := rI0 fun i j => .bl (decide (j < i))
def rGeI : R2 := rI0 fun i j => .bl (decide (j ≤ i))
theorem op_ltI : OpR X (compareOp .Lt) rLtI := op_lt
theorem op_leI : OpR X (compareOp .LtE) rLeI := op_le
theorem op_gtI : OpR X (compareOp .Gt) rGtI := op_gt
theorem op_geI : OpR X (compareOp .GtE) rGeI := op_ge
def rInU (K : PySem.W.Frag) : R2 := fun x y H Q => rIn K false x y H Q ∨ (∃ i j, x = .str i ∧ y = .str j ∧ Q (.bl (!(Builtin.Str.occurrences j i 0 j.length 1).isEmpty)) H)
theorem op_inU : OpR X (compareOp .In) (rInU X.K) := op_in_seq.or op_in_str
def rNotInU (K : PySem.W.Frag) : R2 := fun x y H Q => rIn K true x y H Q ∨ (∃ i j, x = .str i ∧ y = .str j ∧ Q (.bl (!(!(Builtin.Str.occurrences j i 0 j.length 1).isEmpty))) H)
theorem op_notInU : OpR X (compareOp .NotIn) (rNotInU X.K) := op_notIn_seq.or op_notIn_str
/-! ### built-ins by named readings -/
def rLn (K : PySem.W.Frag) : List V → Hp → VK → Prop := fun xs H Q => ∃ x n, xs = [x] ∧ LenV K x H n ∧ Q (.int n) H
theorem c_len : CallR X (.builtin "len") (rLn X.K) := call_len
def rI1 : List V → Hp → VK → Prop := fun xs H Q => (∃ i, xs = [.int i] ∧ Q (.int i) H) ∨ ∃ k, xs = [.bl k] ∧ Q (.int (if k then 1 else 0)) H
theorem c_int : CallR X (.type "int") rI1 := call_int1
def rMx2 : List V → Hp → VK → Prop := fun xs H Q => ∃ i j : Int, xs = [.int i, .int j] ∧ Q (.int (if j > i then j else i)) H
theorem c_max2 (hc : X.calm = true) : CallR X (.builtin "max") rMx2 := call_max2 hc
def rMn2 : List V → Hp → VK → Prop := fun xs H Q => ∃ i j : Int, xs = [.int i, .int j] ∧ Q (.int (if j < i then j else i)) H
theorem c_min2 (hc : X.calm = true) : CallR X (.builtin "min") rMn2 := call_min2 hc
def rMx3 : List V → Hp → VK → Prop := fun xs H Q => ∃ i j k : Int, xs = [.int i, .int j, .int k] ∧ Q (.int (if k > (if j > i then j else i) then k else (if j > i then j else i))) H
theorem c_max3 (hc : X.calm = true) : CallR X (.builtin "max") rMx3 := call_max3 hc
def rAb : List V → Hp → VK → Prop := fun xs H Q => ∃ i : Int, xs = [.int i] ∧ Q (.int (if i < 0 then -i else i)) H
theorem c_abs : CallR X (.builtin "abs") rAb := call_abs
def rLs (K : PySem.W.Frag) : List V → Hp → VK → Prop := fun xs H Q => ∃ p ys, xs = [.ref p] ∧ (SqL K H p ys ∨ SqT K H p ys) ∧ ∀ l, H l = none → Q (.ref l) (upd H l (.lst ys))
theorem c_list : CallR X (.type "list") (rLs X.K) := call_list_of
def rTu (K : PySem.W.Frag) : List V → Hp → VK → Prop := fun xs H Q => ∃ p ys, xs = [.ref p] ∧ ((SqL K H p ys ∧ ∀ l, H l = none → Q (.ref l) (upd H l (.tup ys))) ∨ (SqT K H p ys ∧ Q (.ref p) H))
theorem c_tuple : CallR X (.type "tuple") (rTu X.K) := call_tuple_of
/-- a module's text -/
theorem pe_gs {x z : Str} {pos : Pos} (h : ∃ t, X.mg x = some (.str z t)) (hg : Gl X x) (hd : (x == ("__debug__" : Str)) = false := by decide) : PE X (.Name x pos) (tC (.str z)) := by
  obtain ⟨t, e⟩ := h
  exact pe_glob hg e ⟨t, rfl⟩ hd
theorem pe_gi {x : Str} {z : Int} {pos : Pos} (h : ∃ t, X.mg x = some (.int z t)) (hg : Gl X x) (hd : (x == ("__debug__" : Str)) = false := by decide) : PE X (.Name x pos) (tC (.int z)) := by
  obtain ⟨t, e⟩ := h
  exact pe_glob hg e ⟨t, rfl⟩ hd
theorem pe_gr {x : Str} {a : Addr} {pos : Pos} (h : X.mg x = some (.ref a)) (hg : Gl X x) (hd : (x == ("__debug__" : Str)) = false := by decide) : PE X (.Name x pos) (tC (.ref a)) := pe_glob hg h rfl hd
/-- e.NAME, e a class -/
def tCV (v : V) : TE := tC v
theorem pe_cv {x f : Str} {C : Addr} {v : V} {np pos : Pos} (h : X.mg x = some (.ref C)) (r : ClX.CRead X.K C (.type "type")) (k : ∃ u, ClX.CVal X.K C (.type "type") f v u) (hg : Gl X x) (hd : (x == ("__debug__" : Str)) = false := by decide)
    (hb : attributeBase (.Name x np) f X.env (eval (.Name x np) X.env) = eval (.Name x np) X.env := by rfl) : PE X (.Attribute (.Name x np) f pos) (tC v) := by
  obtain ⟨u, k⟩ := k
  exact ⟨fun pins s σ H Q I q => (ClX.pe_cval (pe_gr h hg hd) hb).run pins s σ H Q I ⟨C, .type "type", v, u, rfl, r, k, q⟩⟩
/-! ### steps -/
section
variable {σ : L2.St} {H : Hp} {Q : VK} {QT : Bool → Hp → Prop} {QA : List V → Hp → Prop} {QS : L2.St → Hp → Prop} {D : Ends} {ta tb tc td te : TE} {t u tx ty : TT} {t1 t2 : TS} {r r' r'' : R2} {a : TA} {v x y z : V} {i j k : Int} {p q l : Addr} {b c : Bool} {xs ys : List V} {K : PySem.W.Frag} {sp : Sp} {E : XK} {C dx : Addr} {f m : Str} {fs : List (Str × V)} {n : Nat} {g : TG}
theorem x_var {n : Nat} (h : σ[n]? = some (some v)) (k : Q v H) : tVar n σ H Q := ⟨v, h, k⟩
theorem x_c (k : Q v H) : tC v σ H Q := k
theorem x_op (k : ta σ H fun x H1 => tb σ H1 fun y H2 => r x y H2 Q) : tOp r ta tb σ H Q := k
theorem x_un {r : V → Hp → VK → Prop} (k : ta σ H fun x H1 => r x H1 Q) : tUn r ta σ H Q := k
theorem x_test (k : te σ H fun x H' => ∃ k, x = .bl k ∧ QT k H') : tTest te σ H QT := k
theorem x_B (k : te σ H fun x H' => ∃ k, x = .bl k ∧ QT k H') : tB te σ H QT := k
theorem x_bl (k : QT b H) : ∃ k, V.bl b = .bl k ∧ QT k H := ⟨b, rfl, k⟩
theorem x_ex {R : Bool → Prop} (k : R b) : ∃ c, V.bl b = .bl c ∧ R c := ⟨b, rfl, k⟩
theorem x_nT {A B : Prop} (k : B) : if (!true) = true then A else B := k
theorem x_nF {A B : Prop} (k : A) : if (!false) = true then A else B := k
theorem x_and (k : t σ H fun c H1 => if c = true then u σ H1 QT else QT false H1) : tAnd t u σ H QT := k
theorem x_or (k : t σ H fun c H1 => if c = true then QT true H1 else u σ H1 QT) : tOr t u σ H QT := k
theorem x_not (k : t σ H fun c H1 => QT (!c) H1) : tNot t σ H QT := k
theorem x_andV (k : ta σ H fun x H1 => ∃ c, x = .bl c ∧ if c = true then tb σ H1 Q else Q (.bl false) H1) : tAndV ta tb σ H Q := k
theorem x_orV (k : ta σ H fun x H1 => ∃ c, x = .bl c ∧ if c = true then Q (.bl true) H1 else tb σ H1 Q) : tOrV ta tb σ H Q := k
theorem x_notV (k : ta σ H fun x H1 => ∃ c, x = .bl c ∧ Q (.bl (!c)) H1) : tNotV ta σ H Q := k
theorem x_ifE (k : t σ H fun c H1 => if c = true then ta σ H1 Q else tb σ H1 Q) : tIf t ta tb σ H Q := k
theorem x_chain (k : ta σ H fun x H1 => tb σ H1 fun y H2 => r x y H2 fun z H3 => ∃ k, z = .bl k ∧ (if k = true then tc σ H3 fun w' H4 => r' y w' H4 Q else Q (.bl false) H3)) : tChain r r' ta tb tc σ H Q := k
theorem x_chain3 (k : ta σ H fun x H1 => tb σ H1 fun y H2 => r x y H2 fun z H3 => ∃ k, z = .bl k ∧ (if k = true then tc σ H3 fun x2 H4 => r' y x2 H4 fun z2 H5 => ∃ k2, z2 = .bl k2 ∧ (if k2 = true then td σ H5 fun x3 H6 => r'' x2 x3 H6 Q else Q (.bl false) H5) else Q (.bl false) H3)) : tChain3 r r' r'' ta tb tc td σ H Q := k
theorem x_next (k : D.nx σ H) : tNext D σ H := k
theorem x_seq (k : t1 { D with nx := t2 D } σ H) : tSeq t1 t2 D σ H := k
theorem x_drop (k : te σ H fun _ H1 => D.nx σ H1) : tDrop te D σ H := k
theorem x_ret (k : te σ H D.rt) : tRet te D σ H := k
theorem x_ifS (k : t σ H fun b H1 => if b = true then t1 D σ H1 else t2 D σ H1) : tIfS t t1 t2 D σ H := k
theorem x_asg (k : te σ H fun x H1 => g x σ H1 D.nx) : tAsg te g D σ H := k
theorem x_gname {n : Nat} (k : QS (σ.set n (some v)) H) : gName n v σ H QS := k
theorem x_cons (k : te σ H fun x H1 => a σ H1 fun xs H2 => QA (x :: xs) H2) : tCons te a σ H QA := k
theorem x_nil (k : QA [] H) : tNil σ H QA := k
theorem x_tup (k : a σ H fun xs H1 => xs.length ≤ sizeLine ∧ ∀ p, H1 p = none → Q (.ref p) (upd H1 p (.tup xs))) : tTup a σ H Q := k
theorem x_lst (k : a σ H fun xs H1 => xs.length ≤ sizeLine ∧ ∀ p, H1 p = none → Q (.ref p) (upd H1 p (.lst xs))) : tLst a σ H Q := k
theorem x_cb {r : List V → Hp → VK → Prop} (k : a σ H fun vs H1 => r vs H1 Q) : tCB r a σ H Q := k
theorem x_call (k : a σ H fun vs H1 => sp vs H1 Q E) : tCallR sp E a σ H Q := k
theorem x_mk (k : a σ H fun vs H1 => ∀ x dx, H1 x = none → H1 dx = none → dx ≠ x → sp (.ref x :: vs) (upd (upd H1 dx (.own x)) x (.ins C dx [])) (fun v H2 => v = .non ∧ Q (.ref x) H2) E) : tMk C sp E a σ H Q := k
def rMeth (C : Addr) (m : Str) (k : Addr → Hp → Prop) (x : V) (H : Hp) : Prop := ∃ a dx fs, x = .ref a ∧ H a = some (.ins C dx fs) ∧ fs.lookup m = none ∧ k a H
theorem x_meth (k : ta σ H (rMeth C m fun p H1 => a σ H1 fun vs H2 => sp (.ref p :: vs) H2 Q E)) : tMethR C m sp E ta a σ H Q := k
theorem x_methAt {kk : Addr → Hp → Prop} (h : H p = some (.ins C dx fs)) (l : fs.lookup m = none) (k : kk p H) : rMeth C m kk (.ref p) H := ⟨p, dx, fs, rfl, h, l, k⟩
def rProp (C : Addr) (sp : Sp) (E : XK) (x : V) (H : Hp) (Q : VK) : Prop := ∃ a dx fs, x = .ref a ∧ H a = some (.ins C dx fs) ∧ sp [.ref a] H Q E
theorem x_prop (k : ta σ H fun x H1 => rProp C sp E x H1 Q) : tPropR C sp E ta σ H Q := k
theorem x_propAt (h : H p = some (.ins C dx fs)) (k : sp [.ref p] H Q E) : rProp C sp E (.ref p) H Q := ⟨p, dx, fs, rfl, h, k⟩
def rFld (K : PySem.W.Frag) (f : Str) (x : V) (H : Hp) (Q : VK) : Prop := ∃ a C dx fs v, x = .ref a ∧ H a = some (.ins C dx fs) ∧ Cls K C ∧ NoAttr K C f ∧ fs.lookup f = some v ∧ Q v H
theorem x_fld (k : ta σ H fun x H1 => rFld K f x H1 Q) : tFld K ta f σ H Q := k
theorem x_fldAt (h : H p = some (.ins C dx fs)) (c : Cls K C) (na : NoAttr K C f) (l : fs.lookup f = some v) (k : Q v H) : rFld K f (.ref p) H Q := ⟨p, C, dx, fs, v, rfl, h, c, na, l, k⟩
def rSet (K : PySem.W.Frag) (f : Str) (y x : V) (H : Hp) (k : Hp → Prop) : Prop := ∃ a C dx fs, x = .ref a ∧ H a = some (.ins C dx fs) ∧ Cls K C ∧ NoAttr K C f ∧ fs.length < 1000 ∧ k (upd H a (.ins C dx (putF f y fs)))
theorem x_setf (k : te σ H fun y H1 => ta σ H1 fun x H2 => rSet K f y x H2 fun H3 => D.nx σ H3) : sFld K ta te f D σ H := k
theorem x_setAt {kk : Hp → Prop} (h : H p = some (.ins C dx fs)) (c : Cls K C) (na : NoAttr K C f) (l : fs.length < 1000) (k : kk (upd H p (.ins C dx (putF f v fs)))) : rSet K f v (.ref p) H kk := ⟨p, C, dx, fs, rfl, h, c, na, l, k⟩
theorem x_starA (k : te σ H fun y H1 => ∃ a xs, y = .ref a ∧ (SqT K H1 a xs ∨ SqL K H1 a xs) ∧ QA xs H1) : tStarA K te σ H QA := k
/-! values -/
theorem x_plusI (k : Q (.int (i + j)) H) : rPlus (.int i) (.int j) H Q := .inl ⟨i, j, rfl, rfl, k⟩
theorem x_plusL (h1 : H p = some (.lst xs)) (h2 : H q = some (.lst ys)) (h3 : xs.length + ys.length ≤ sizeLine) (k : ∀ r, H r = none → Q (.ref r) (upd H r (.lst (xs ++ ys)))) : rPlus (.ref p) (.ref q) H Q := .inr (.inl ⟨p, q, xs, ys, rfl, rfl, h1, h2, h3, k⟩)
theorem x_minus (k : Q (.int (i - j)) H) : rMinus (.int i) (.int j) H Q := ⟨i, j, rfl, rfl, k⟩
theorem x_timesI (h : CMul i j) (k : Q (.int (i * j)) H) : rTimes (.int i) (.int j) H Q := .inl ⟨i, j, rfl, rfl, h, k⟩
theorem x_timesW (h : CMulW i j) (k : Q (.int (i * j)) H) : rTimes (.int i) (.int j) H Q := .inr (.inl ⟨i, j, rfl, rfl, h, k⟩)
theorem x_mod (h : 0 < j) (k : Q (.int (i % j)) H) : rModP (.int i) (.int j) H Q := ⟨i, j, rfl, rfl, h, k⟩
theorem x_div (h : CDivW i j) (k : Q (.int (i / j)) H) : rDivP (.int i) (.int j) H Q := ⟨i, j, rfl, rfl, h, k⟩
theorem x_pow (h : CPow i j) (k : Q (.int (i ^ j.toNat)) H) : rPowP (.int i) (.int j) H Q := ⟨i, j, rfl, rfl, h, k⟩
theorem x_lt (k : Q (.bl (decide (i < j))) H) : rLtI (.int i) (.int j) H Q := ⟨i, j, rfl, rfl, k⟩
theorem x_le (k : Q (.bl (decide (i ≤ j))) H) : rLeI (.int i) (.int j) H Q := ⟨i, j, rfl, rfl, k⟩
theorem x_gt (k : Q (.bl (decide (j < i))) H) : rGtI (.int i) (.int j) H Q := ⟨i, j, rfl, rfl, k⟩
theorem x_ge (k : Q (.bl (decide (j ≤ i))) H) : rGeI (.int i) (.int j) H Q := ⟨i, j, rfl, rfl, k⟩
theorem x_eqI (k : Q (.bl (decide (i = j))) H) : rEqU K (.int i) (.int j) H Q := .inl ⟨rfl, by rw [show decide (V.int i = V.int j) = decide (i = j) by simp]; exact k⟩
theorem x_neI (k : Q (.bl (!decide (i = j))) H) : rNeU K (.int i) (.int j) H Q := .inl ⟨rfl, by rw [show decide (V.int i = V.int j) = decide (i = j) by simp]; exact k⟩
theorem x_eqS {i j : Str} (k : Q (.bl (decide (i = j))) H) : rEqU K (.str i) (.str j) H Q := .inl ⟨rfl, by rw [show decide (V.str i = V.str j) = decide (i = j) by simp]; exact k⟩
theorem x_eqB {i j : Bool} (k : Q (.bl (decide (i = j))) H) : rEqU K (.bl i) (.bl j) H Q := .inl ⟨rfl, by rw [show decide (V.bl i = V.bl j) = decide (i = j) by simp]; exact k⟩
theorem x_neB {i j : Bool} (k : Q (.bl (!decide (i = j))) H) : rNeU K (.bl i) (.bl j) H Q := .inl ⟨rfl, by rw [show decide (V.bl i = V.bl j) = decide (i = j) by simp]; exact k⟩
theorem x_eqDp {d e : PyData} (h1 : Dp K H x d) (h2 : Dp K H y e) (h3 : SeqAt.shaped d = true) (h4 : SeqAt.shaped e = true) (k : Q (.bl (PyData.eqv d e)) H) : rEqU K x y H Q := .inr ⟨d, e, h1, h2, h3, h4, k⟩
theorem x_neDp {d e : PyData} (h1 : Dp K H x d) (h2 : Dp K H y e) (h3 : SeqAt.shaped d = true) (h4 : SeqAt.shaped e = true) (k : Q (.bl (!PyData.eqv d e)) H) : rNeU K x y H Q := .inr ⟨d, e, h1, h2, h3, h4, k⟩
theorem x_isN {x : V} (k : Q (.bl (decide (x = .non))) H) (e : te σ H fun y H1 => Q (.bl (decide (y = .non))) H1) : tIsN te σ H Q := e
theorem x_isNe (e : te σ H fun y H1 => Q (.bl (decide (y = .non))) H1) : tIsN te σ H Q := e
theorem x_notNe (e : te σ H fun y H1 => Q (.bl (!decide (y = .non))) H1) : tNotN te σ H Q := e
theorem x_ixL (h : SqL K H p xs) (a : atI xs i = some v) (k : Q v H) : rIx K (.ref p) (.int i) H Q := .inl ⟨p, xs, i, v, rfl, rfl, h, a, k⟩
theorem x_ixT (h : SqT K H p xs) (a : atI xs i = some v) (k : Q v H) : rIx K (.ref p) (.int i) H Q := .inr (.inl ⟨p, xs, i, v, rfl, rfl, h, a, k⟩)
theorem x_inT (h : SqT K H p xs) (h1 : flatV x = true) (h2 : xs.all flatV = true) (k : Q (.bl (inV x xs)) H) : rInU K x (.ref p) H Q := .inl ⟨p, xs, rfl, .inr h, h1, h2, k⟩
theorem x_inL (h : SqL K H p xs) (h1 : flatV x = true) (h2 : xs.all flatV = true) (k : Q (.bl (inV x xs)) H) : rInU K x (.ref p) H Q := .inl ⟨p, xs, rfl, .inl h, h1, h2, k⟩
theorem x_lenL (h : SqL K H p xs) (k : Q (.int xs.length) H) : rLn K [.ref p] H Q := ⟨.ref p, xs.length, rfl, .inl ⟨xs, h, rfl⟩, k⟩
theorem x_lenT (h : SqT K H p xs) (k : Q (.int xs.length) H) : rLn K [.ref p] H Q := ⟨.ref p, xs.length, rfl, .inr ⟨xs, h, rfl⟩, k⟩
theorem x_int (k : Q (.int i) H) : rI1 [.int i] H Q := .inl ⟨i, rfl, k⟩
theorem x_intB (k : Q (.int (if b then 1 else 0)) H) : rI1 [.bl b] H Q := .inr ⟨b, rfl, k⟩
theorem x_max2 (k : Q (.int (if j > i then j else i)) H) : rMx2 [.int i, .int j] H Q := ⟨i, j, rfl, k⟩
theorem x_min2 (k : Q (.int (if j < i then j else i)) H) : rMn2 [.int i, .int j] H Q := ⟨i, j, rfl, k⟩
theorem x_max3 {w : Int} (k : Q (.int (if w > (if j > i then j else i) then w else (if j > i then j else i))) H) : rMx3 [.int i, .int j, .int w] H Q := ⟨i, j, w, rfl, k⟩
theorem x_abs (k : Q (.int (if i < 0 then -i else i)) H) : rAb [.int i] H Q := ⟨i, rfl, k⟩
theorem x_listL (h : SqL K H p xs) (k : ∀ l, H l = none → Q (.ref l) (upd H l (.lst xs))) : rLs K [.ref p] H Q := ⟨p, xs, rfl, .inl h, k⟩
theorem x_listT (h : SqT K H p xs) (k : ∀ l, H l = none → Q (.ref l) (upd H l (.lst xs))) : rLs K [.ref p] H Q := ⟨p, xs, rfl, .inr h, k⟩
theorem x_neg (k : Q (.int (-i)) H) : rU (fun i => .int (-i)) (.int i) H Q := ⟨i, rfl, k⟩
/-! ways -/
theorem x_if {A B : Prop} (hT : b = true → A) (hF : b = false → B) : if b = true then A else B := by
  cases b with
  | true => exact hT rfl
  | false => exact hF rfl
theorem x_ifd {c A B : Prop} [Decidable c] (hT : c → A) (hF : ¬ c → B) : if decide c = true then A else B := by
  by_cases h : c
  · rw [decide_eq_true h]
    exact hT h
  · rw [decide_eq_false h]
    exact hF h
theorem x_ifnd {c A B : Prop} [Decidable c] (hT : ¬ c → A) (hF : c → B) : if (!decide c) = true then A else B := by
  by_cases h : c
  · rw [decide_eq_true h]
    exact hF h
  · rw [decide_eq_false h]
    exact hT h
theorem x_T {A B : Prop} (h : A) : if true = true then A else B := h
theorem x_F {A B : Prop} (h : B) : if false = true then A else B := h
end
end Ch
namespace Ch
open PySem PySem.Spec PyProof.Rows L2
section
variable {H : Hp} {Q : VK} {K : PySem.W.Frag} {p : Addr} {xs : List V} {i : Int} {b : Bool} {z : Str}
theorem x_isiB {x : V} {a n : String} {r : Bool} (t : TyX K H x (.type a)) (h : kitB a n = some r) (k : Q (.bl r) H) : rIsi K [x, .ty n] H Q := ⟨x, .ty n, .type a, .type n, r, rfl, .ty n, t, kit_ty h, k⟩
theorem x_isi_ii (k : Q (.bl true) H) : rIsi K [.int i, .ty "int"] H Q := x_isiB (.base (.int i)) (by decide +kernel) k
theorem x_isi_ib (k : Q (.bl false) H) : rIsi K [.int i, .ty "bool"] H Q := x_isiB (.base (.int i)) (by decide +kernel) k
theorem x_isi_bi (k : Q (.bl true) H) : rIsi K [.bl b, .ty "int"] H Q := x_isiB (.base (.bl b)) (by decide +kernel) k
theorem x_isi_bb (k : Q (.bl true) H) : rIsi K [.bl b, .ty "bool"] H Q := x_isiB (.base (.bl b)) (by decide +kernel) k
theorem x_isi_tt (h : H p = some (.tup xs)) (k : Q (.bl true) H) : rIsi K [.ref p, .ty "tuple"] H Q := x_isiB (.base (.tup h)) (by decide +kernel) k
theorem x_isi_lt (h : H p = some (.lst xs)) (k : Q (.bl false) H) : rIsi K [.ref p, .ty "tuple"] H Q := x_isiB (.base (.lst h)) (by decide +kernel) k
theorem x_isi_tl (h : H p = some (.tup xs)) (k : Q (.bl false) H) : rIsi K [.ref p, .ty "list"] H Q := x_isiB (.base (.tup h)) (by decide +kernel) k
theorem x_isi_ll (h : H p = some (.lst xs)) (k : Q (.bl true) H) : rIsi K [.ref p, .ty "list"] H Q := x_isiB (.base (.lst h)) (by decide +kernel) k
theorem sz {xs : List V} (h : Nat.ble xs.length sizeLine = true) : xs.length ≤ sizeLine := Nat.le_of_ble_eq_true h
theorem sz5 {n : Nat} (h : n ≤ 100000) : n ≤ sizeLine := Nat.le_trans h (by decide)
theorem sz5' {n : Nat} (h : n < 100000) : n < sizeLine := Nat.lt_of_lt_of_le h (by decide)
end
end Ch
/-! ### loops -/
namespace Ch
open PySem PySem.Spec PyProof.Rows L2
def ForB (J : It) (g : TG) (tb : TS) (D : Ends) (σ : L2.St) (H1 : Hp) : Prop := ∃ W : Nat → Nat → L2.St → Hp → Prop, (∃ m, W 0 m σ H1) ∧ ∀ i m σ H, W i m σ H →
  (J.stop i H ∧ D.nx σ H) ∨ (J.go i H ∧ ∃ N : L2.St → Hp → Prop, (∀ σ' H', N σ' H' → ∃ m', m' < m ∧ W (i + 1) m' σ' H') ∧ ∀ x H', J.yld i H x H' → g x σ H' fun σ2 H2 => tb { D with nx := N, ct := N, bk := D.nx } σ2 H2)
def rIL (K : PySem.W.Frag) (x : V) (H : Hp) (R : It → Hp → Prop) : Prop := ∃ a, x = .ref a ∧ (∃ xs, SqL K H a xs) ∧ R (Itl K a) H
def rIT (K : PySem.W.Frag) (x : V) (H : Hp) (R : It → Hp → Prop) : Prop := ∃ a, x = .ref a ∧ (∃ xs, SqT K H a xs) ∧ R (Itt K a) H
def rIE (K : PySem.W.Frag) (vs : List V) (H : Hp) (R : It → Hp → Prop) : Prop := ∃ a xs, vs = [.ref a] ∧ SqL K H a xs ∧ R (Ite K a) H
def rIU (K : PySem.W.Frag) (vs : List V) (H : Hp) (R : It → Hp → Prop) : Prop := ∃ a xs, vs = [.ref a] ∧ SqT K H a xs ∧ R (IteT K a) H
def rIR1 (vs : List V) (H : Hp) (R : It → Hp → Prop) : Prop := ∃ j : Int, vs = [.int j] ∧ -(2 ^ 62) ≤ j ∧ j < 2 ^ 62 ∧ R (Itr 0 j.toNat) H
def rIR2 (vs : List V) (H : Hp) (R : It → Hp → Prop) : Prop := ∃ i j : Int, vs = [.int i, .int j] ∧ (-(2 ^ 62) ≤ i ∧ i < 2 ^ 62 ∧ -(2 ^ 62) ≤ j ∧ j < 2 ^ 62) ∧ R (Itr i (j - i).toNat) H
section
variable {σ : L2.St} {H : Hp} {R : It → Hp → Prop} {D : Ends} {wi : TI} {g : TG} {tb : TS} {tl : TE} {ta : TA} {K : PySem.W.Frag} {p : Addr} {xs : List V} {i j : Int}
theorem x_for (k : wi σ H fun J H1 => ForB J g tb D σ H1) : tFor wi g tb D σ H := k
theorem x_iL (k : tl σ H fun x H1 => rIL K x H1 R) : iList K tl σ H R := k
theorem x_iT (k : tl σ H fun x H1 => rIT K x H1 R) : iTup K tl σ H R := k
theorem x_iE (k : ta σ H fun x H1 => rIE K x H1 R) : iEnum K ta σ H R := k
theorem x_iU (k : ta σ H fun x H1 => rIU K x H1 R) : iEnumT K ta σ H R := k
theorem x_iR1 (k : ta σ H fun x H1 => rIR1 x H1 R) : iRng1 ta σ H R := k
theorem x_iR2 (k : ta σ H fun x H1 => rIR2 x H1 R) : iRng2 ta σ H R := k
theorem x_iLAt (h : SqL K H p xs) (k : R (Itl K p) H) : rIL K (.ref p) H R := ⟨p, rfl, ⟨xs, h⟩, k⟩
theorem x_iTAt (h : SqT K H p xs) (k : R (Itt K p) H) : rIT K (.ref p) H R := ⟨p, rfl, ⟨xs, h⟩, k⟩
theorem x_iEAt (h : SqL K H p xs) (k : R (Ite K p) H) : rIE K [.ref p] H R := ⟨p, xs, rfl, h, k⟩
theorem x_iUAt (h : SqT K H p xs) (k : R (IteT K p) H) : rIU K [.ref p] H R := ⟨p, xs, rfl, h, k⟩
theorem x_iR1At (h0 : -(2 ^ 62) ≤ j) (h1 : j < 2 ^ 62) (k : R (Itr 0 j.toNat) H) : rIR1 [.int j] H R := ⟨j, rfl, h0, h1, k⟩
theorem x_iR2At (h : -(2 ^ 62) ≤ i ∧ i < 2 ^ 62 ∧ -(2 ^ 62) ≤ j ∧ j < 2 ^ 62) (k : R (Itr i (j - i).toNat) H) : rIR2 [.int i, .int j] H R := ⟨i, j, rfl, h, k⟩
theorem x_loop {J : It} {n : Nat} {G : Hp → Prop} {Y : Nat → Hp → V → Hp → Prop} (w : Walk J n G Y) (Pv : Nat → L2.St → Hp → Prop) (h0 : Pv 0 σ H) (hG : ∀ i σ H, i ≤ n → Pv i σ H → G H)
    (hs : ∀ i x σ H H', i < n → Pv i σ H → Y i H x H' → g x σ H' fun σ2 H2 => tb { D with nx := Pv (i + 1), ct := Pv (i + 1), bk := D.nx } σ2 H2) (hd : ∀ σ H, Pv n σ H → D.nx σ H) : ForB J g tb D σ H := for_it w Pv h0 hG hs hd
/-! targets -/
theorem x_gTup {n : Nat} {t : TGs} {QS : L2.St → Hp → Prop} (h : H p = some (.tup xs)) (e : xs.length = n) (k : t xs σ H QS) : gTup K n t (.ref p) σ H QS := ⟨p, xs, rfl, SqT.of h, e, k⟩
theorem x_gTupT {n : Nat} {t : TGs} {QS : L2.St → Hp → Prop} (h : SqT K H p xs) (e : xs.length = n) (k : t xs σ H QS) : gTup K n t (.ref p) σ H QS := ⟨p, xs, rfl, h, e, k⟩
theorem x_gStar {n i : Nat} {t : TGs} {QS : L2.St → Hp → Prop} (h : H p = some (.tup xs)) (h1 : i < n) (h2 : n ≤ xs.length + 1) (h3 : xs.length ≤ 16384) (k : ∀ d, H d = none → t (xs.take i ++ [.ref d] ++ (xs.drop i).drop (xs.length + 1 - n)) σ (upd H d (.lst ((xs.drop i).take (xs.length + 1 - n)))) QS) : gStar K n i t (.ref p) σ H QS :=
  ⟨p, xs, rfl, SqT.of h, h1, h2, h3, k⟩
theorem x_star1 {t : TGs} {a : V} {QS : L2.St → Hp → Prop} (h : H p = some (.tup [a])) (k : ∀ d, H d = none → t [a, .ref d] σ (upd H d (.lst [])) QS) : gStar K 2 1 t (.ref p) σ H QS := ⟨p, [a], rfl, SqT.of h, by decide, Nat.le_refl 2, Nat.le_of_ble_eq_true rfl, k⟩
theorem x_star2 {t : TGs} {a b : V} {QS : L2.St → Hp → Prop} (h : H p = some (.tup [a, b])) (k : ∀ d, H d = none → t [a, .ref d] σ (upd H d (.lst [b])) QS) : gStar K 2 1 t (.ref p) σ H QS := ⟨p, [a, b], rfl, SqT.of h, by decide, Nat.le_of_ble_eq_true rfl, Nat.le_of_ble_eq_true rfl, k⟩
theorem x_gcons {t : TG} {u : TGs} {v : V} {vs : List V} {QS : L2.St → Hp → Prop} (k : t v σ H fun σ' H' => u vs σ' H' QS) : gCons t u (v :: vs) σ H QS := ⟨v, vs, rfl, k⟩
theorem x_gnil {QS : L2.St → Hp → Prop} (k : QS σ H) : gNil [] σ H QS := ⟨rfl, k⟩
theorem x_par {i j : Nat} (k : ta σ H fun vs H1 => ∃ u v, vs = [u, v] ∧ D.nx ((σ.set i (some u)).set j (some v)) H1) : tPar i j ta D σ H := k
theorem x_app {l : Addr} {v : V} {Q : VK} (h : H l = some (.lst xs)) (h1 : xs.length < sizeLine) (k : Q .non (upd H l (.lst (xs ++ [v])))) : rAppend (.ref l) [v] H Q := ⟨l, xs, v, rfl, rfl, h, h1, k⟩
def rBM (K : PySem.W.Frag) (T : String) (r : V → List V → Hp → VK → Prop) (x : V) (H : Hp) (t : (List V → Hp → Prop) → Prop) (Q : VK) : Prop := tyV K T x H ∧ t fun xs H2 => r x xs H2 Q
theorem x_bm {T : String} {r : V → List V → Hp → VK → Prop} {to : TE} {Q : VK} (k : to σ H fun x H1 => tyV K T x H1 ∧ ta σ H1 fun xs H2 => r x xs H2 Q) : tBM K T r to ta σ H Q := k
theorem x_bm0 {T : String} {r : V → List V → Hp → VK → Prop} {to : TE} {Q : VK} (k : to σ H fun x H1 => tyV K T x H1 ∧ r x [] H1 Q) : tBM0 K T r to σ H Q := k
theorem ty_lst {l : Addr} (h : H l = some (.lst xs)) : tyV K "list" (.ref l) H := .inl ⟨rfl, _, SqL.of h⟩
end
end Ch
/-! ### comprehensions -/
namespace Ch
open PySem PySem.Spec PyProof.Rows L2
def LcB (J : It) (g : TG) (tt : TT) (te : TE) (vs : List Nat) (σ : L2.St) (H1 : Hp) (Q : VK) : Prop := ∀ D, H1 D = none → ∃ W : Nat → Nat → Hp → Prop, (∃ m, W 0 m (upd H1 D (.lst []))) ∧ ∀ i m H, W i m H →
  (J.stop i H ∧ Q (.ref D) H) ∨ (J.go i H ∧ ∃ Nx : Hp → Prop, (∀ H', Nx H' → ∃ m', m' < m ∧ W (i + 1) m' H') ∧ ∀ x H', J.yld i H x H' → g x (wipe σ vs) H' fun σ2 H2 => wipe σ2 vs = wipe σ vs ∧ tt σ2 H2 fun b H3 =>
    if b = true then te σ2 H3 fun y H4 => ∃ acc, H4 D = some (.lst acc) ∧ acc.length < sizeLine ∧ Nx (upd H4 D (.lst (acc ++ [y]))) else Nx H3)
section
variable {σ : L2.St} {H : Hp} {Q : VK} {wi : TI} {g : TG} {tt : TT} {te : TE} {vs : List Nat} {J : It} {n : Nat} {G : Hp → Prop} {Y : Nat → Hp → V → Hp → Prop} {QT : Bool → Hp → Prop}
theorem x_lc (k : wi σ H fun J H1 => LcB J g tt te vs σ H1 Q) : tLc wi g tt te vs σ H Q := k
theorem x_yes (k : QT true H) : tYes σ H QT := k
/-- a comprehension that only makes new things: A tells of the items so far -/
theorem x_lcA (w : Walk J n G Y) (A : Nat → List V → Hp → Prop) (stab : ∀ i acc H D xs ys, H D = some (.lst xs) → A i acc H → A i acc (upd H D (.lst ys))) (h0 : ∀ D, H D = none → A 0 [] (upd H D (.lst []))) (hn : n ≤ 100000) (hG : ∀ H', Same H H' → G H')
    (hs : ∀ i x acc H1 H' (NT : V → Hp → Prop) (NF : Hp → Prop), (∀ y H4, Same H1 H4 → A (i + 1) (acc ++ [y]) H4 → NT y H4) → (∀ H3, Same H1 H3 → A (i + 1) acc H3 → NF H3) → i < n → Same H H1 → A i acc H1 → Y i H1 x H' →
      g x (wipe σ vs) H' fun σ2 H2 => wipe σ2 vs = wipe σ vs ∧ tt σ2 H2 fun b H3 => if b = true then te σ2 H3 NT else NF H3)
    (k : ∀ D acc H', H D = none → Same H H' → H' D = some (.lst acc) → A n acc H' → acc.length ≤ n → Q (.ref D) H') : LcB J g tt te vs σ H Q := by
  intro D hD
  refine lc_it w (fun i H1 => ∃ acc, H1 D = some (.lst acc) ∧ Same H H1 ∧ A i acc H1 ∧ acc.length ≤ i) ⟨[], upd_same, Same.new hD, h0 D hD, Nat.le_refl _⟩ (fun i H1 _ ⟨_, _, s1, _⟩ => hG H1 s1) ?_ ?_
  · rintro i x H1 H' hi ⟨acc, e1, s1, a1, l1⟩ y
    refine hs i x acc H1 H' _ _ ?_ ?_ hi s1 a1 y
    · intro y H4 s4 a4
      refine ⟨acc, s4 _ _ e1, by show acc.length < 2 ^ 24; omega, acc ++ [y], upd_same, Same.mut (s1.trans s4) hD, stab _ _ _ _ _ _ (s4 _ _ e1) a4, ?_⟩
      rw [List.length_append]
      exact Nat.succ_le_succ l1
    · intro H3 s3 a3
      exact ⟨acc, s3 _ _ e1, s1.trans s3, a3, Nat.le_succ_of_le l1⟩
  · rintro H1 ⟨acc, e1, s1, a1, l1⟩
    exact k D acc H1 hD s1 e1 a1 l1
end
end Ch
/-! ### the rules with the written part named -/
namespace Ch
open PySem PySem.Spec PyProof.Rows L2
section
variable {X : Cx} {e o a b tg iter value : Expr} {es : List Expr} {ta tb te tv : TE} {t : TA} {tgs : TGs} {f x : Str} {pos pos' p tpos : Pos} {n i kk : Nat} {elts : List Expr}
theorem op_eqK (K : PySem.W.Frag) (hu : X.A.units + 64 < cLine) (hK : X.K = K := by rfl) : OpR X (compareOp .Eq) (rEqU K) := by subst hK; exact op_eqU hu
theorem op_neK (K : PySem.W.Frag) (hu : X.A.units + 64 < cLine) (hK : X.K = K := by rfl) : OpR X (compareOp .NotEq) (rNeU K) := by subst hK; exact op_neU hu
theorem op_inK (K : PySem.W.Frag) (hK : X.K = K := by rfl) : OpR X (compareOp .In) (rInU K) := by subst hK; exact op_inU
theorem op_notInK (K : PySem.W.Frag) (hK : X.K = K := by rfl) : OpR X (compareOp .NotIn) (rNotInU K) := by subst hK; exact op_notInU
theorem ix_K (K : PySem.W.Frag) (hK : X.K = K := by rfl) : IxR X (rIx K) := by subst hK; exact ix_seq
theorem c_lenK (K : PySem.W.Frag) (hK : X.K = K := by rfl) : CallR X (.builtin "len") (rLn K) := by subst hK; exact c_len
theorem c_listK (K : PySem.W.Frag) (hK : X.K = K := by rfl) : CallR X (.type "list") (rLs K) := by subst hK; exact c_list
theorem c_tupleK (K : PySem.W.Frag) (hK : X.K = K := by rfl) : CallR X (.type "tuple") (rTu K) := by subst hK; exact c_tuple
theorem c_isiK (K : PySem.W.Frag) (hK : X.K = K := by rfl) : CallR X (.builtin "isinstance") (rIsi K) := by subst hK; exact call_isi
theorem c_isiTK (K : PySem.W.Frag) (hK : X.K = K := by rfl) : CallR X (.builtin "isinstance") (rIsiT K) := by subst hK; exact call_isiT
theorem c_sumK (K : PySem.W.Frag) (hc : X.calm = true) (hK : X.K = K := by rfl) : CallR X (.builtin "sum") (rSum K) := by subst hK; exact cr_sum hc
theorem pe_fldK (K : PySem.W.Frag) (he : PE X e ta) (hb : attributeBase e f X.env (eval e X.env) = eval e X.env := by rfl) (hK : X.K = K := by rfl) : PE X (.Attribute e f pos) (tFld K ta f) := by subst hK; exact pe_fld he hb
theorem ps_fldK (K : PySem.W.Frag) (ha : PE X o ta) (hv : PE X value tv) (hs : swapsWith value (some (.Attribute o f pos')) pos.line X.env = pure false := by rfl) (hK : X.K = K := by rfl) : PS X (.Assign [.Attribute o f pos'] value pos) (sFld K ta tv f) := by subst hK; exact ps_fld ha hv hs
theorem pi_listK (K : PySem.W.Frag) (hl : PE X e te) (hK : X.K = K := by rfl) : PI X tg e (iList K te) := by subst hK; exact pi_list hl
theorem pi_tupK (K : PySem.W.Frag) (hl : PE X e te) (hK : X.K = K := by rfl) : PI X tg e (iTup K te) := by subst hK; exact pi_tup hl
theorem pi_enumK (K : PySem.W.Frag) (hm : X.mg "enumerate" = none) (ha : PA X [e] t) (hK : X.K = K := by rfl) (hg : Gl X "enumerate" := by rfl) (hs : starEach [e] X.env = [(false, eval e X.env)] := by rfl) : PI X (.Tuple elts kk tpos) (.Call (.Name "enumerate" p) [e] [] pos) (iEnum K t) := by subst hK; exact pi_enum hg hm ha hs
theorem pi_enumTK (K : PySem.W.Frag) (hm : X.mg "enumerate" = none) (ha : PA X [e] t) (hK : X.K = K := by rfl) (hg : Gl X "enumerate" := by rfl) (hs : starEach [e] X.env = [(false, eval e X.env)] := by rfl) : PI X (.Tuple elts kk tpos) (.Call (.Name "enumerate" p) [e] [] pos) (iEnumT K t) := by subst hK; exact pi_enumT hg hm ha hs
theorem pg_tupK (K : PySem.W.Frag) (hc : X.calm = true) (h : PGs X es tgs) (hn : (assignEach es X.env).length = n := by rfl) (hst : (assignEach es X.env).findIdx? (·.1) = none := by rfl) (hK : X.K = K := by rfl) : PG X (.Tuple es kk pos) (gTup K n tgs) := by subst hK; exact pg_tup hc h hn hst
theorem pg_starK (K : PySem.W.Frag) (hc : X.calm = true) (h : PGs X es tgs) (hn : (assignEach es X.env).length = n := by rfl) (hst : (assignEach es X.env).findIdx? (·.1) = some i := by rfl) (hK : X.K = K := by rfl) : PG X (.Tuple es kk pos) (gStar K n i tgs) := by subst hK; exact pg_star hc h hn hst
theorem sl_listK (K : PySem.W.Frag) (hK : X.K = K := by rfl) : SlR X (rSlL K) := by subst hK; exact sl_list
theorem sl_tupK (K : PySem.W.Frag) (hK : X.K = K := by rfl) : SlR X (rSlT K) := by subst hK; exact sl_tup
theorem pe_bmK {T : String} {id : String} {r : V → List V → Hp → VK → Prop} {apos : Pos} {ea : Expr} (K : PySem.W.Frag) (pa : PlainAttrs T) (slot : Slot T f id) (hty : typeOf (.builtin id) = pure (.type "method_descriptor")) (hm : MtR X id r) (ho : PE X o ta) (ha : PA X (ea :: es) t) (hK : X.K = K := by rfl)
    (h3 : attributeBase o f X.env (eval o X.env) = eval o X.env := by rfl)
    (h4 : ((backTo pos (starEach (ea :: es) X.env)).all (fun x => !x.1) && (backToKw pos (keywordEach [] X.env)).all (fun x => x.1.isSome) && decide ((ea :: es).length + ([] : List Keyword).length + (if ([] : List Keyword).isEmpty then 0 else 1) < 30)) = true := by rfl)
    (h5 : (apos.endLine == pos.line) = true := by rfl) (h1 : starEach (ea :: es) X.env = (false, eval ea X.env) :: starEach es X.env := by rfl) (h2 : (backTo pos (starEach es X.env)).any (·.1) = false := by rfl) : PE X (.Call (.Attribute o f apos) (ea :: es) [] pos) (tBM K T r ta t) := by
  subst hK
  exact pe_bm pa slot hty hm ho ha h3 h4 h5 h1 h2
theorem pe_bm0K {T : String} {id : String} {r : V → List V → Hp → VK → Prop} {apos : Pos} (K : PySem.W.Frag) (pa : PlainAttrs T) (slot : Slot T f id) (hty : typeOf (.builtin id) = pure (.type "method_descriptor")) (hm : MtR X id r) (ho : PE X o ta) (hK : X.K = K := by rfl)
    (h3 : attributeBase o f X.env (eval o X.env) = eval o X.env := by rfl) (h5 : (apos.endLine == pos.line) = true := by rfl) : PE X (.Call (.Attribute o f apos) [] [] pos) (tBM0 K T r ta) := by
  subst hK
  exact pe_bm0 pa slot hty hm ho h3 h5
end
end Ch
namespace Ch
open PySem PySem.Spec PyProof.Rows L2
section
variable {σ : L2.St} {H : Hp} {v : V} {to ti : TE} {t : V → V → V → Hp → (Hp → Prop) → Prop} {QS : L2.St → Hp → Prop} {QH : Hp → Prop} {p : Addr} {xs : List V} {i : Int} {j : Nat}
theorem x_gSub (k : to σ H fun o H1 => ti σ H1 fun i H2 => t o i v H2 fun H3 => QS σ H3) : gSub to ti t v σ H QS := k
theorem x_setL (h : H p = some (.lst xs)) (e : ixN xs.length i = some j) (k : QH (upd H p (.lst (xs.set j v)))) : rSetL (.ref p) (.int i) v H QH := ⟨p, xs, i, j, rfl, rfl, h, e, k⟩
end
end Ch
namespace Ch
open L2
/-- two ways meet: what holds of every heap like that -/
theorem x_meet {G : Prop} {T : Hp → Prop} (R : Hp → Prop) (h1 : ∀ H, R H → T H) (h2 : (∀ H, R H → T H) → G) : G := h2 h1
end Ch
namespace Ch
open PySem PySem.Spec PyProof.Rows L2
theorem x_par3 {i j l : Nat} {ta : TA} {D : Ends} {σ : L2.St} {H : Hp} (k : ta σ H fun vs H1 => ∃ u v w, vs = [u, v, w] ∧ D.nx (((σ.set i (some u)).set j (some v)).set l (some w)) H1) : tPar3 i j l ta D σ H := k
theorem x_sum {K : PySem.W.Frag} {H : Hp} {Q : VK} {p : Addr} {ns : List Int} (h : SqL K H p (ns.map V.int)) (k : Q (.int ns.sum) H) : rSum K [.ref p] H Q := ⟨p, ns, rfl, h, k⟩
end Ch
namespace Ch
open PySem PySem.Spec PyProof.Rows L2
section
variable {σ : L2.St} {H : Hp} {Q : VK} {g : TG} {tt : TT} {te : TE} {vs : List Nat} {J : It} {n : Nat} {G : Hp → Prop} {Y : Nat → Hp → V → Hp → Prop}
/-- a comprehension by a word about the whole heap -/
theorem x_lcG (w : Walk J n G Y) (Pv : Addr → Nat → Hp → Prop) (h0 : ∀ D, H D = none → Pv D 0 (upd H D (.lst []))) (hG : ∀ D i H1, i ≤ n → Pv D i H1 → G H1)
    (hs : ∀ D i x H1 H', H D = none → i < n → Pv D i H1 → Y i H1 x H' → g x (wipe σ vs) H' fun σ2 H2 => wipe σ2 vs = wipe σ vs ∧ tt σ2 H2 fun b H3 =>
      if b = true then te σ2 H3 fun y H4 => ∃ acc, H4 D = some (.lst acc) ∧ acc.length < sizeLine ∧ Pv D (i + 1) (upd H4 D (.lst (acc ++ [y]))) else Pv D (i + 1) H3)
    (hd : ∀ D H1, H D = none → Pv D n H1 → Q (.ref D) H1) : LcB J g tt te vs σ H Q := fun D hD =>
  lc_it w (Pv D) (h0 D hD) (hG D) (fun i x H1 H' hi p y => hs D i x H1 H' hD hi p y) fun H1 p => hd D H1 hD p
theorem x_meet2 {G : Prop} {T : Addr → Hp → Prop} (R : Addr → Hp → Prop) (h1 : ∀ q H, R q H → T q H) (h2 : (∀ q H, R q H → T q H) → G) : G := h2 h1
theorem x_lstRg {te : L2.St → Hp → (Int → Int → Hp → Prop) → Prop} (k : te σ H fun a b H1 => RgOk a b ∧ ∀ q, H1 q = none → Q (.ref q) (upd H1 q (.lst (rgV a b)))) : tLstRg te σ H Q := k
def rRg1 (x : V) (H : Hp) (R : Int → Int → Hp → Prop) : Prop := ∃ n, x = .int n ∧ R 0 n H
theorem x_rg1 {ta : TE} {R : Int → Int → Hp → Prop} (k : ta σ H fun x H1 => rRg1 x H1 R) : tRg1 ta σ H R := k
theorem x_rg1At {R : Int → Int → Hp → Prop} {n : Int} (k : R 0 n H) : rRg1 (.int n) H R := ⟨n, rfl, k⟩
end
end Ch
namespace Ch
open PySem PySem.Spec PyProof.Rows L2
/-- if c: x = e, what is known of x behind it -/
theorem x_whenSet {c : Prop} [Decidable c] {D : Ends} {σ : L2.St} {H : Hp} {i : Nat} {te : TE} (R : V → Hp → Prop) (v0 : V) (h0 : σ.set i (some v0) = σ) (hF : ¬ c → R v0 H) (hT : c → te σ H R) (mono : ∀ Q : VK, (∀ v H', R v H' → Q v H') → te σ H R → te σ H Q) (h1 : ∀ v H', R v H' → D.nx (σ.set i (some v)) H') :
    if decide c = true then tAsg te (gName i) D σ H else tNext D σ H := by
  by_cases h : c
  · rw [decide_eq_true h]
    exact mono _ h1 (hT h)
  · rw [decide_eq_false h]
    show D.nx σ H
    have g := h1 v0 H (hF h)
    rw [h0] at g
    exact g
/-- the same, e told for any end -/
theorem x_whenSet' {c : Prop} [Decidable c] {D : Ends} {σ : L2.St} {H : Hp} {i : Nat} {te : TE} (R : V → Hp → Prop) (v0 : V) (h0 : σ.set i (some v0) = σ) (hF : ¬ c → R v0 H) (hT : c → ∀ Q : VK, (∀ v H', R v H' → Q v H') → te σ H Q) (h1 : ∀ v H', R v H' → D.nx (σ.set i (some v)) H') :
    if decide c = true then tAsg te (gName i) D σ H else tNext D σ H := by
  by_cases h : c
  · rw [decide_eq_true h]
    exact hT h _ h1
  · rw [decide_eq_false h]
    show D.nx σ H
    have g := h1 v0 H (hF h)
    rw [h0] at g
    exact g
end Ch
namespace Ch
open PySem PySem.Spec PyProof.Rows L2
section
variable {c : TT} {tb : TS} {D : Ends} {σ : L2.St} {H : Hp}
/-- while, a word with a measure -/
theorem x_while (W : Nat → L2.St → Hp → Prop) (m : Nat) (h0 : W m σ H) (hs : ∀ m σ H, W m σ H → c σ H fun b H1 => if b = true then ∃ N : L2.St → Hp → Prop, (∀ σ' H', N σ' H' → ∃ m', m' < m ∧ W m' σ' H') ∧ tb { D with nx := N, ct := N, bk := D.nx } σ H1 else D.nx σ H1) : tWhile c tb D σ H := ⟨W, ⟨m, h0⟩, hs⟩
theorem x_turn {W : Nat → L2.St → Hp → Prop} {m : Nat} (k : tb { D with nx := fun σ' H' => ∃ m', m' < m ∧ W m' σ' H', ct := fun σ' H' => ∃ m', m' < m ∧ W m' σ' H', bk := D.nx } σ H) : ∃ N : L2.St → Hp → Prop, (∀ σ' H', N σ' H' → ∃ m', m' < m ∧ W m' σ' H') ∧ tb { D with nx := N, ct := N, bk := D.nx } σ H := ⟨_, fun _ _ h => h, k⟩
end
end Ch
namespace Ch
open PySem PySem.Spec PyProof.Rows L2
/-- x = e1 if c else e2, what is known of x behind it -/
theorem x_ifSet {b : Bool} {σ : L2.St} {H : Hp} {ta tb : TE} {k : VK} (R : V → Hp → Prop) (hT : b = true → ∀ Q : VK, (∀ v H', R v H' → Q v H') → ta σ H Q) (hF : b = false → ∀ Q : VK, (∀ v H', R v H' → Q v H') → tb σ H Q) (h1 : ∀ v H', R v H' → k v H') :
    if b = true then ta σ H k else tb σ H k := by
  cases b with
  | true => exact hT rfl _ h1
  | false => exact hF rfl _ h1
theorem x_ifSetd {c : Prop} [Decidable c] {σ : L2.St} {H : Hp} {ta tb : TE} {k : VK} (R : V → Hp → Prop) (hT : c → ∀ Q : VK, (∀ v H', R v H' → Q v H') → ta σ H Q) (hF : ¬ c → ∀ Q : VK, (∀ v H', R v H' → Q v H') → tb σ H Q) (h1 : ∀ v H', R v H' → k v H') :
    if decide c = true then ta σ H k else tb σ H k := x_ifSet R (fun e => hT (of_decide_eq_true e)) (fun e => hF (of_decide_eq_false e)) h1
end Ch
namespace Ch
open PySem PySem.Spec PyProof.Rows L2
section
variable {X : Cx} {H : Hp} {Q : VK} {K : PySem.W.Frag} {p : Addr} {ns : List Int}
theorem c_minLK (K : PySem.W.Frag) (hc : X.calm = true) (hK : X.K = K := by rfl) : CallR X (.builtin "min") (rMin K) := by subst hK; exact cr_min hc
theorem c_maxLK (K : PySem.W.Frag) (hc : X.calm = true) (hK : X.K = K := by rfl) : CallR X (.builtin "max") (rMax K) := by subst hK; exact cr_max hc
theorem c_sortedK (K : PySem.W.Frag) (hK : X.K = K := by rfl) : CallR X (.builtin "sorted") (rSorted K) := by subst hK; exact cr_sorted
theorem x_minL (h : SqL K H p (ns.map V.int)) (h0 : 0 < ns.length) (k : ∀ m, m ∈ ns → (∀ y ∈ ns, m ≤ y) → Q (.int m) H) : rMin K [.ref p] H Q := ⟨p, ns, rfl, h, h0, k⟩
theorem x_maxL (h : SqL K H p (ns.map V.int)) (h0 : 0 < ns.length) (k : ∀ m, m ∈ ns → (∀ y ∈ ns, y ≤ m) → Q (.int m) H) : rMax K [.ref p] H Q := ⟨p, ns, rfl, h, h0, k⟩
theorem x_sorted (h : SqL K H p (ns.map V.int)) (h0 : ns.length < 64) (k : ∀ (ms : List Int) (q : Addr), ms.Perm ns → ms.Pairwise (· ≤ ·) → H q = none → Q (.ref q) (upd H q (.lst (ms.map V.int)))) : rSorted K [.ref p] H Q := ⟨p, ns, rfl, h, h0, k⟩
/-- a list of ints made by a range -/
def rgI (f : Int → Int) (n : Nat) : List Int := (List.range n).map fun j => f (j : Nat)
theorem rgI_len {f : Int → Int} {n : Nat} : (rgI f n).length = n := by unfold rgI; rw [List.length_map, List.length_range]
theorem rgI_snoc {f : Int → Int} {n : Nat} : rgI f (n + 1) = rgI f n ++ [f (n : Nat)] := by unfold rgI; rw [List.range_succ, List.map_append]; rfl
theorem rgI_at {f : Int → Int} {n : Nat} {y : Int} (h0 : 0 ≤ y) (h1 : y < n) : atI ((rgI f n).map V.int) y = some (.int (f y)) := by
  have e : y = ((y.toNat : Nat) : Int) := (Int.toNat_of_nonneg h0).symm
  rw [e]
  refine atI_nat ?_
  unfold rgI
  rw [List.getElem?_map, List.getElem?_map, List.getElem?_range (by omega)]
  rfl
theorem rgI_mem {f : Int → Int} {n : Nat} {z : Int} : z ∈ rgI f n ↔ ∃ y : Int, 0 ≤ y ∧ y < n ∧ f y = z := by
  unfold rgI
  constructor
  · intro h
    obtain ⟨j, hj, e⟩ := List.mem_map.mp h
    exact ⟨(j : Nat), by omega, by have := List.mem_range.mp hj; omega, e⟩
  · rintro ⟨y, h0, h1, e⟩
    refine List.mem_map.mpr ⟨y.toNat, List.mem_range.mpr (by omega), ?_⟩
    rw [Int.toNat_of_nonneg h0]
    exact e
end
end Ch

set_option linter.all false
set_option maxRecDepth 100000
set_option maxHeartbeats 4000000
namespace ChM
/-! ### the mirror of plans and effects -/
inductive Stp where
  | turn
  | mt (r : Bool) (n : Int)
  deriving DecidableEq
/-- (side, need) of each step -/
def sides : Int → List Stp → List (Int × Int)
  | _, [] => []
  | s, .turn :: r => (0, 0) :: sides (0 - s) r
  | s, .mt b n :: r => ((if b then s else 0 - s), n) :: sides s r
def fitsS (c : Int) (l : List Stp) : Prop := ∀ b n, Stp.mt b n ∈ l → 0 ≤ n ∧ n ≤ c
def turns : List Stp → Nat
  | [] => 0
  | .turn :: r => turns r + 1
  | .mt _ _ :: r => turns r
def turning (l : List Stp) : Bool := turns l % 2 == 1
structure Eff where
  c : Int
  lo : Int
  hi : Int
  ex : Int
  goal : Option Int
  tu : Bool
def mkE (c lo hi ex : Int) (g : Option Int) (t : Bool) : Eff := ⟨c, lo, hi, ex, if g = none ∧ lo = hi then some lo else g, t⟩
/-- max and min as Python's two-place ones say them -/
def mx (a b : Int) : Int := if b > a then b else a
def mn (a b : Int) : Int := if b < a then b else a
def Eff.atLeast (e : Eff) (n : Int) : Eff := match e.goal with
  | none => if n ≤ e.hi then mkE e.c (mx e.lo n) e.hi 0 none e.tu else mkE e.c e.hi e.hi (n - e.hi) (some n) e.tu
  | some g => if n ≤ g then e else mkE e.c e.lo e.hi (e.ex + n - g) (some n) e.tu
def Eff.mir (e : Eff) : Eff := mkE e.c (e.c - e.hi) (e.c - e.lo) e.ex (e.goal.map fun g => e.c - g) e.tu
def Eff.atMost (e : Eff) (m : Int) : Eff := (e.mir.atLeast (e.c - m)).mir
def Eff.carried (e : Eff) (x : Int) : Int := mx (mx (e.lo - x) (x - e.hi)) 0 + e.ex
def Eff.place (e : Eff) (x : Int) : Int := match e.goal with
  | none => mn (mx x e.lo) e.hi
  | some g => g
def Eff.fin (e : Eff) (x : Int) : Int := if e.tu then e.c - e.place x else e.place x
structure Eff.Ok (e : Eff) : Prop where
  lo0 : 0 ≤ e.lo
  lh : e.lo ≤ e.hi
  hc : e.hi ≤ e.c
  ex0 : 0 ≤ e.ex
  no : e.goal = none → e.ex = 0 ∧ e.lo < e.hi
  yes : ∀ g, e.goal = some g → 0 ≤ g ∧ g ≤ e.c
def nothing (c : Int) : Eff := mkE c 0 c 0 none false
def moved (c x s n : Int) : Int := if s = 1 then mx x n else if s = -1 then mn x (c - n) else x
def effStep (c : Int) (e : Eff) (p : Int × Int) : Eff := if p.1 = 1 then e.atLeast p.2 else if p.1 = -1 then e.atMost (c - p.2) else e
def effFold (c : Int) (l : List (Int × Int)) : Eff := l.foldl (effStep c) (nothing c)
def effOf (c : Int) (l : List Stp) : Eff :=
  let e := effFold c (sides 1 l)
  mkE c e.lo e.hi e.ex e.goal (turning l)
theorem mx_def (a b : Int) : (mx a b = a ∧ b ≤ a) ∨ (mx a b = b ∧ a < b) := by
  unfold mx
  split <;> omega
theorem mn_def (a b : Int) : (mn a b = a ∧ a ≤ b) ∨ (mn a b = b ∧ b < a) := by
  unfold mn
  split <;> omega
theorem mkE_none {c lo hi ex : Int} {t : Bool} (h : lo < hi) : mkE c lo hi ex none t = ⟨c, lo, hi, ex, none, t⟩ := by
  unfold mkE
  rw [if_neg (by omega)]
theorem mkE_eq {c lo ex : Int} {t : Bool} : mkE c lo lo ex none t = ⟨c, lo, lo, ex, some lo, t⟩ := by
  unfold mkE
  rw [if_pos ⟨rfl, rfl⟩]
theorem mkE_some {c lo hi ex g : Int} {t : Bool} : mkE c lo hi ex (some g) t = ⟨c, lo, hi, ex, some g, t⟩ := by
  unfold mkE
  rw [if_neg (by intro h; cases h.1)]
theorem mkE_cases {c lo hi : Int} {t : Bool} (h0 : 0 ≤ lo) (h1 : lo ≤ hi) (h2 : hi ≤ c) :
    (mkE c lo hi 0 none t).Ok ∧ ∀ x, (mkE c lo hi 0 none t).place x = mn (mx x lo) hi := by
  by_cases e : lo = hi
  · subst e
    rw [mkE_eq]
    refine ⟨⟨h0, h1, h2, Int.le_refl 0, (fun z => nomatch z), fun g hg => ?_⟩, fun x => ?_⟩
    · cases hg
      exact ⟨h0, h2⟩
    · show lo = mn (mx x lo) lo
      have := mx_def x lo
      have := mn_def (mx x lo) lo
      omega
  · rw [mkE_none (by omega)]
    exact ⟨⟨h0, h1, h2, Int.le_refl 0, fun _ => ⟨rfl, by show lo < hi; omega⟩, (fun g hg => nomatch hg)⟩, fun x => rfl⟩
theorem Ok_some {c lo hi ex g : Int} {t : Bool} (h0 : 0 ≤ lo) (h1 : lo ≤ hi) (h2 : hi ≤ c) (h3 : 0 ≤ ex) (h4 : 0 ≤ g) (h5 : g ≤ c) : (mkE c lo hi ex (some g) t).Ok := by
  rw [mkE_some]
  exact ⟨h0, h1, h2, h3, (fun z => nomatch z), fun g1 hg => by cases hg; exact ⟨h4, h5⟩⟩
@[simp] theorem mkE_c {c lo hi ex : Int} {g : Option Int} {t : Bool} : (mkE c lo hi ex g t).c = c := rfl
@[simp] theorem mkE_lo {c lo hi ex : Int} {g : Option Int} {t : Bool} : (mkE c lo hi ex g t).lo = lo := rfl
@[simp] theorem mkE_hi {c lo hi ex : Int} {g : Option Int} {t : Bool} : (mkE c lo hi ex g t).hi = hi := rfl
@[simp] theorem mkE_ex {c lo hi ex : Int} {g : Option Int} {t : Bool} : (mkE c lo hi ex g t).ex = ex := rfl
@[simp] theorem mkE_tu {c lo hi ex : Int} {g : Option Int} {t : Bool} : (mkE c lo hi ex g t).tu = t := rfl
theorem place_some {e : Eff} {g x : Int} (h : e.goal = some g) : e.place x = g := by
  unfold Eff.place
  rw [h]
theorem place_none {e : Eff} {x : Int} (h : e.goal = none) : e.place x = mn (mx x e.lo) e.hi := by
  unfold Eff.place
  rw [h]
theorem place_range {e : Eff} (h : e.Ok) {x : Int} (h0 : 0 ≤ x) (h1 : x ≤ e.c) : 0 ≤ e.place x ∧ e.place x ≤ e.c := by
  have a := h.lo0
  have b := h.lh
  have d := h.hc
  cases g : e.goal with
  | none =>
    rw [place_none g]
    have := mx_def x e.lo
    have := mn_def (mx x e.lo) e.hi
    omega
  | some y =>
    rw [place_some g]
    exact h.yes y g
theorem atLeast_ok {e : Eff} (h : e.Ok) {n : Int} (h0 : 0 ≤ n) (h1 : n ≤ e.c) :
    (e.atLeast n).Ok ∧ (e.atLeast n).c = e.c ∧ (e.atLeast n).tu = e.tu ∧ ∀ x, (e.atLeast n).place x = mx (e.place x) n ∧ (e.atLeast n).carried x = e.carried x + (mx (e.place x) n - e.place x) := by
  have a := h.lo0
  have b := h.lh
  have d := h.hc
  cases g : e.goal with
  | none =>
    obtain ⟨z, l⟩ := h.no g
    unfold Eff.atLeast
    rw [g]
    dsimp only
    by_cases q : n ≤ e.hi
    · rw [if_pos q]
      have m := mx_def e.lo n
      obtain ⟨o, p⟩ := mkE_cases (c := e.c) (lo := mx e.lo n) (hi := e.hi) (t := e.tu) (by omega) (by omega) d
      refine ⟨o, rfl, rfl, fun x => ⟨?_, ?_⟩⟩
      · rw [p, place_none g]
        have := mx_def x e.lo
        have := mx_def x (mx e.lo n)
        have := mn_def (mx x (mx e.lo n)) e.hi
        have := mn_def (mx x e.lo) e.hi
        have := mx_def (mn (mx x e.lo) e.hi) n
        omega
      · rw [place_none g]
        unfold Eff.carried
        simp only [mkE_lo, mkE_hi, mkE_ex]
        have := mx_def x e.lo
        have := mn_def (mx x e.lo) e.hi
        have := mx_def (mn (mx x e.lo) e.hi) n
        have := mx_def (mx e.lo n - x) (x - e.hi)
        have := mx_def (mx (mx e.lo n - x) (x - e.hi)) 0
        have := mx_def (e.lo - x) (x - e.hi)
        have := mx_def (mx (e.lo - x) (x - e.hi)) 0
        omega
    · rw [if_neg q]
      refine ⟨Ok_some (by omega) (by omega) d (by omega) h0 h1, rfl, rfl, fun x => ⟨?_, ?_⟩⟩
      · rw [place_none g, mkE_some]
        show n = _
        have := mx_def x e.lo
        have := mn_def (mx x e.lo) e.hi
        have := mx_def (mn (mx x e.lo) e.hi) n
        omega
      · rw [place_none g]
        unfold Eff.carried
        simp only [mkE_lo, mkE_hi, mkE_ex]
        have := mx_def x e.lo
        have := mn_def (mx x e.lo) e.hi
        have := mx_def (mn (mx x e.lo) e.hi) n
        have := mx_def (e.hi - x) (x - e.hi)
        have := mx_def (mx (e.hi - x) (x - e.hi)) 0
        have := mx_def (e.lo - x) (x - e.hi)
        have := mx_def (mx (e.lo - x) (x - e.hi)) 0
        omega
  | some y =>
    obtain ⟨y0, y1⟩ := h.yes y g
    unfold Eff.atLeast
    rw [g]
    dsimp only
    by_cases q : n ≤ y
    · rw [if_pos q]
      refine ⟨h, rfl, rfl, fun x => ?_⟩
      rw [place_some g]
      have := mx_def y n
      omega
    · rw [if_neg q]
      have := h.ex0
      refine ⟨Ok_some a b d (by omega) h0 h1, rfl, rfl, fun x => ⟨?_, ?_⟩⟩
      · rw [place_some g, mkE_some]
        show n = _
        have := mx_def y n
        omega
      · rw [place_some g]
        unfold Eff.carried
        simp only [mkE_lo, mkE_hi, mkE_ex]
        have := mx_def y n
        omega
theorem mir_ok {e : Eff} (h : e.Ok) : e.mir.Ok ∧ e.mir.c = e.c ∧ e.mir.tu = e.tu ∧ ∀ x, e.mir.place x = e.c - e.place (e.c - x) ∧ e.mir.carried x = e.carried (e.c - x) := by
  have a := h.lo0
  have b := h.lh
  have d := h.hc
  have car : ∀ x, e.mir.carried x = e.carried (e.c - x) := fun x => by
    unfold Eff.carried Eff.mir
    simp only [mkE_lo, mkE_hi, mkE_ex]
    have := mx_def (e.c - e.hi - x) (x - (e.c - e.lo))
    have := mx_def (mx (e.c - e.hi - x) (x - (e.c - e.lo))) 0
    have := mx_def (e.lo - (e.c - x)) (e.c - x - e.hi)
    have := mx_def (mx (e.lo - (e.c - x)) (e.c - x - e.hi)) 0
    omega
  cases g : e.goal with
  | none =>
    obtain ⟨z, l⟩ := h.no g
    have em : e.mir = mkE e.c (e.c - e.hi) (e.c - e.lo) 0 none e.tu := by
      unfold Eff.mir
      rw [g, z] <;> rfl
    obtain ⟨o, p⟩ := mkE_cases (c := e.c) (lo := e.c - e.hi) (hi := e.c - e.lo) (t := e.tu) (by omega) (by omega) (by omega)
    refine ⟨by rw [em]; exact o, rfl, rfl, fun x => ⟨?_, car x⟩⟩
    rw [em, p, place_none g]
    have := mx_def x (e.c - e.hi)
    have := mn_def (mx x (e.c - e.hi)) (e.c - e.lo)
    have := mx_def (e.c - x) e.lo
    have := mn_def (mx (e.c - x) e.lo) e.hi
    omega
  | some y =>
    obtain ⟨y0, y1⟩ := h.yes y g
    have em : e.mir = mkE e.c (e.c - e.hi) (e.c - e.lo) e.ex (some (e.c - y)) e.tu := by
      unfold Eff.mir
      rw [g] <;> rfl
    refine ⟨by rw [em]; exact Ok_some (by omega) (by omega) (by omega) h.ex0 (by omega) (by omega), rfl, rfl, fun x => ⟨?_, car x⟩⟩
    rw [em, mkE_some, place_some g] <;> rfl
theorem atMost_ok {e : Eff} (h : e.Ok) {m : Int} (h0 : 0 ≤ m) (h1 : m ≤ e.c) :
    (e.atMost m).Ok ∧ (e.atMost m).c = e.c ∧ (e.atMost m).tu = e.tu ∧ ∀ x, (e.atMost m).place x = mn (e.place x) m ∧ (e.atMost m).carried x = e.carried x + (e.place x - mn (e.place x) m) := by
  obtain ⟨o1, c1, t1, p1⟩ := mir_ok h
  obtain ⟨o2, c2, t2, p2⟩ := atLeast_ok o1 (n := e.c - m) (by omega) (by rw [c1]; omega)
  obtain ⟨o3, c3, t3, p3⟩ := mir_ok o2
  refine ⟨o3, by unfold Eff.atMost; rw [c3, c2, c1], by unfold Eff.atMost; rw [t3, t2, t1], fun x => ?_⟩
  obtain ⟨a3, b3⟩ := p3 x
  rw [c2, c1] at a3 b3
  obtain ⟨a2, b2⟩ := p2 (e.c - x)
  obtain ⟨a1, b1⟩ := p1 (e.c - x)
  have ex : e.c - (e.c - x) = x := by omega
  rw [ex] at a1 b1
  unfold Eff.atMost
  rw [a3, b3, a2, b2, a1, b1]
  have := mx_def (e.c - e.place x) (e.c - m)
  have := mn_def (e.place x) m
  omega
theorem nothing_ok {c : Int} (h : 0 ≤ c) : (nothing c).Ok ∧ ∀ x, 0 ≤ x → x ≤ c → (nothing c).place x = x ∧ (nothing c).carried x = 0 := by
  obtain ⟨o, p⟩ := mkE_cases (c := c) (lo := 0) (hi := c) (t := false) (by omega) h (by omega)
  refine ⟨o, fun x h0 h1 => ⟨?_, ?_⟩⟩
  · show (mkE c 0 c 0 none false).place x = x
    rw [p]
    have := mx_def x 0
    have := mn_def (mx x 0) c
    omega
  · show (mkE c 0 c 0 none false).carried x = 0
    unfold Eff.carried
    simp only [mkE_lo, mkE_hi, mkE_ex]
    have := mx_def (0 - x) (x - c)
    have := mx_def (mx (0 - x) (x - c)) 0
    omega
/-! ### steps one by one -/
def absI (a : Int) : Int := if a < 0 then -a else a
def simP (c : Int) : List (Int × Int) → Int → Int
  | [], x => x
  | p :: r, x => simP c r (moved c x p.1 p.2)
def simC (c : Int) : List (Int × Int) → Int → Int
  | [], _ => 0
  | p :: r, x => absI (moved c x p.1 p.2 - x) + simC c r (moved c x p.1 p.2)
def fits (c : Int) (l : List (Int × Int)) : Prop := ∀ p ∈ l, (p.1 = 1 ∨ p.1 = -1 ∨ p.1 = 0) ∧ 0 ≤ p.2 ∧ p.2 ≤ c
theorem effStep_ok {c : Int} {e : Eff} (h : e.Ok) (hc : e.c = c) {p : Int × Int} (hs : p.1 = 1 ∨ p.1 = -1 ∨ p.1 = 0) (h0 : 0 ≤ p.2) (h1 : p.2 ≤ c) :
    (effStep c e p).Ok ∧ (effStep c e p).c = c ∧ (effStep c e p).tu = e.tu ∧ ∀ x, (effStep c e p).place x = moved c (e.place x) p.1 p.2 ∧
      (effStep c e p).carried x = e.carried x + absI (moved c (e.place x) p.1 p.2 - e.place x) := by
  unfold effStep moved
  rcases hs with s | s | s
  · rw [if_pos s]
    obtain ⟨a, b, d, f⟩ := atLeast_ok h h0 (by omega)
    refine ⟨a, b.trans hc, d, fun x => ?_⟩
    rw [if_pos s, (f x).1, (f x).2]
    refine ⟨rfl, ?_⟩
    unfold absI
    have := mx_def (e.place x) p.2
    split <;> omega
  · rw [if_neg (by omega), if_pos s]
    obtain ⟨a, b, d, f⟩ := atMost_ok h (m := c - p.2) (by omega) (by omega)
    refine ⟨a, b.trans hc, d, fun x => ?_⟩
    rw [if_neg (by omega), if_pos s, (f x).1, (f x).2]
    refine ⟨rfl, ?_⟩
    unfold absI
    have := mn_def (e.place x) (c - p.2)
    split <;> omega
  · rw [if_neg (by omega), if_neg (by omega)]
    refine ⟨h, hc, rfl, fun x => ?_⟩
    rw [if_neg (by omega), if_neg (by omega)]
    refine ⟨rfl, ?_⟩
    unfold absI
    split <;> omega
theorem fold_ok {c : Int} : ∀ (l : List (Int × Int)) (e : Eff), e.Ok → e.c = c → fits c l →
    (l.foldl (effStep c) e).Ok ∧ (l.foldl (effStep c) e).c = c ∧ (l.foldl (effStep c) e).tu = e.tu ∧ ∀ x, (l.foldl (effStep c) e).place x = simP c l (e.place x) ∧ (l.foldl (effStep c) e).carried x = e.carried x + simC c l (e.place x)
  | [], e, h, hc, _ => ⟨h, hc, rfl, fun x => ⟨rfl, by show e.carried x = e.carried x + 0; omega⟩⟩
  | p :: r, e, h, hc, hf => by
    obtain ⟨hs, h0, h1⟩ := hf p List.mem_cons_self
    obtain ⟨a, b, d, f⟩ := effStep_ok h hc hs h0 h1
    obtain ⟨a2, b2, d2, f2⟩ := fold_ok r (effStep c e p) a b fun q hq => hf q (List.mem_cons_of_mem _ hq)
    refine ⟨a2, b2, d2.trans d, fun x => ?_⟩
    rw [List.foldl_cons, (f2 x).1, (f2 x).2, (f x).1, (f x).2]
    refine ⟨rfl, ?_⟩
    show _ = e.carried x + (absI (moved c (e.place x) p.1 p.2 - e.place x) + simC c r (moved c (e.place x) p.1 p.2))
    omega
theorem mkE_self {e : Eff} (h : e.Ok) (t : Bool) : mkE e.c e.lo e.hi e.ex e.goal t = { e with tu := t } := by
  unfold mkE
  cases g : e.goal with
  | none =>
    have := (h.no g).2
    rw [if_neg (by omega)]
  | some y =>
    rw [if_neg (by intro z; cases z.1)]
theorem sides_fits {c : Int} : ∀ (l : List Stp) (s : Int), (s = 1 ∨ s = -1) → 0 ≤ c → fitsS c l → fits c (sides s l)
  | [], _, _, _, _ => fun p hp => nomatch hp
  | .turn :: r, s, hs, h0, h => fun p hp => by
    rcases List.mem_cons.mp hp with e | hp
    · subst e
      exact ⟨.inr (.inr rfl), by show (0 : Int) ≤ 0; omega, h0⟩
    · exact sides_fits r (0 - s) (by omega) h0 (fun b n hm => h b n (List.mem_cons_of_mem _ hm)) p hp
  | .mt b n :: r, s, hs, h0, h => fun p hp => by
    rcases List.mem_cons.mp hp with e | hp
    · subst e
      refine ⟨?_, h b n List.mem_cons_self⟩
      show (if b = true then s else 0 - s) = 1 ∨ (if b = true then s else 0 - s) = -1 ∨ (if b = true then s else 0 - s) = 0
      split <;> omega
    · exact sides_fits r s hs h0 (fun b n hm => h b n (List.mem_cons_of_mem _ hm)) p hp
theorem effOf_ok {c : Int} {l : List Stp} (hc : 0 ≤ c) (hl : fitsS c l) :
    (effOf c l).Ok ∧ (effOf c l).c = c ∧ (effOf c l).tu = turning l ∧ ∀ x, 0 ≤ x → x ≤ c → (effOf c l).place x = simP c (sides 1 l) x ∧ (effOf c l).carried x = simC c (sides 1 l) x := by
  obtain ⟨n0, n1⟩ := nothing_ok hc
  obtain ⟨a, b, d, f⟩ := fold_ok (sides 1 l) (nothing c) n0 rfl (sides_fits l 1 (.inl rfl) hc hl)
  have e : effOf c l = ⟨c, (effFold c (sides 1 l)).lo, (effFold c (sides 1 l)).hi, (effFold c (sides 1 l)).ex, (effFold c (sides 1 l)).goal, turning l⟩ := by
    show mkE c (effFold c (sides 1 l)).lo (effFold c (sides 1 l)).hi (effFold c (sides 1 l)).ex (effFold c (sides 1 l)).goal (turning l) = _
    have h := mkE_self (e := effFold c (sides 1 l)) a (turning l)
    have hb : (effFold c (sides 1 l)).c = c := b
    rw [hb] at h
    exact h
  rw [e]
  have hcc : (effFold c (sides 1 l)).c = c := b
  have hhc : (effFold c (sides 1 l)).hi ≤ c := Int.le_trans a.hc (Int.le_of_eq hcc)
  refine ⟨⟨a.lo0, a.lh, hhc, a.ex0, a.no, fun g hg => ⟨(a.yes g hg).1, Int.le_trans (a.yes g hg).2 (Int.le_of_eq hcc)⟩⟩, rfl, rfl, fun x h0 h1 => ?_⟩
  obtain ⟨p1, p2⟩ := f x
  rw [(n1 x h0 h1).1, (n1 x h0 h1).2] at *
  refine ⟨p1, ?_⟩
  have p2' : (effFold c (sides 1 l)).carried x = 0 + simC c (sides 1 l) x := p2
  show (effFold c (sides 1 l)).carried x = _
  rw [p2']
  omega
end ChM

set_option linter.all false
set_option autoImplicit false
set_option maxRecDepth 100000
set_option maxHeartbeats 4000000
namespace ChM
/-! ### a simulation of the two rooms -/
def play1 (p : Int × Int) : Stp → (Int × Int) × Int
  | .turn => ((p.2, p.1), 0)
  | .mt true n => ((p.1 + mx 0 (n - p.1), p.2 - mx 0 (n - p.1)), mx 0 (n - p.1))
  | .mt false n => ((p.1 - mx 0 (n - p.2), p.2 + mx 0 (n - p.2)), mx 0 (n - p.2))
def playS : Int × Int → List Stp → Int × Int
  | p, [] => p
  | p, s :: r => playS (play1 p s).1 r
def playC : Int × Int → List Stp → List Int
  | _, [] => []
  | p, s :: r => (play1 p s).2 :: playC (play1 p s).1 r
theorem playS_snoc : ∀ (l : List Stp) (p : Int × Int) (s : Stp), playS p (l ++ [s]) = (play1 (playS p l) s).1
  | [], _, _ => rfl
  | x :: r, p, s => playS_snoc r (play1 p x).1 s
theorem playC_snoc : ∀ (l : List Stp) (p : Int × Int) (s : Stp), playC p (l ++ [s]) = playC p l ++ [(play1 (playS p l) s).2]
  | [], _, _ => rfl
  | x :: r, p, s => congrArg (_ :: ·) (playC_snoc r (play1 p x).1 s)
theorem playC_len : ∀ (l : List Stp) (p : Int × Int), (playC p l).length = l.length
  | [], _ => rfl
  | x :: r, p => congrArg (· + 1) (playC_len r (play1 p x).1)
def sideAt : Int → List Stp → Int
  | s, [] => s
  | s, .turn :: r => sideAt (0 - s) r
  | s, .mt _ _ :: r => sideAt s r
theorem sides_len : ∀ (l : List Stp) (s : Int), (sides s l).length = l.length
  | [], _ => rfl
  | .turn :: r, s => congrArg (· + 1) (sides_len r (0 - s))
  | .mt _ _ :: r, s => congrArg (· + 1) (sides_len r s)
theorem sides_snoc : ∀ (l : List Stp) (s : Int) (x : Stp), sides s (l ++ [x]) = sides s l ++ sides (sideAt s l) [x]
  | [], _, _ => rfl
  | .turn :: r, s, x => by show (0, 0) :: sides (0 - s) (r ++ [x]) = (0, 0) :: sides (0 - s) r ++ _; rw [sides_snoc]; rfl
  | .mt b n :: r, s, x => by show (_, n) :: sides s (r ++ [x]) = (_, n) :: sides s r ++ _; rw [sides_snoc]; rfl
theorem sideAt_snoc : ∀ (l : List Stp) (s : Int) (x : Stp), sideAt s (l ++ [x]) = sideAt (sideAt s l) [x]
  | [], _, _ => rfl
  | .turn :: r, s, x => sideAt_snoc r (0 - s) x
  | .mt b n :: r, s, x => sideAt_snoc r s x
theorem turns_app (a b : List Stp) : turns (a ++ b) = turns a + turns b := by
  induction a with
  | nil => show turns b = 0 + turns b; omega
  | cons s r ih =>
    cases s with
    | turn => show turns (r ++ b) + 1 = turns r + 1 + turns b; omega
    | mt c n => exact ih
theorem turns_step {l : List Stp} {i : Nat} {s : Stp} (h : l[i]? = some s) : turns (l.take (i + 1)) = turns (l.take i) + (if s = .turn then 1 else 0) := by
  rw [List.take_add_one, h, turns_app]
  cases s <;> rfl
theorem turns_le : ∀ l : List Stp, turns l ≤ l.length
  | [] => Nat.le_refl _
  | .turn :: r => Nat.succ_le_succ (turns_le r)
  | .mt _ _ :: r => Nat.le_succ_of_le (turns_le r)
theorem sideAt_turns : ∀ (l : List Stp) (s : Int), sideAt s l = if turns l % 2 = 1 then 0 - s else s
  | [], s => rfl
  | .turn :: r, s => by
    show sideAt (0 - s) r = if (turns r + 1) % 2 = 1 then 0 - s else s
    rw [sideAt_turns r (0 - s)]
    by_cases h : turns r % 2 = 1
    · rw [if_pos h, if_neg (by omega)]
      omega
    · rw [if_neg h, if_pos (by omega)]
  | .mt _ _ :: r, s => sideAt_turns r s
theorem sideAt_turning (l : List Stp) : sideAt 1 l = if turning l then -1 else 1 := by
  rw [sideAt_turns]
  unfold turning
  by_cases h : turns l % 2 = 1
  · rw [h]
    rfl
  · rw [if_neg h, beq_false_of_ne h]
    rfl
/-- the place of the room that is red at first -/
def placeOf (s : Int) (p : Int × Int) : Int := if s = 1 then p.1 else p.2
theorem play_sim {c : Int} : ∀ (l : List Stp) (s : Int) (p : Int × Int), (s = 1 ∨ s = -1) → p.1 + p.2 = c →
    (playS p l).1 + (playS p l).2 = c ∧ placeOf (sideAt s l) (playS p l) = simP c (sides s l) (placeOf s p) ∧ (playC p l).sum = simC c (sides s l) (placeOf s p)
  | [], s, p, _, h => ⟨h, rfl, rfl⟩
  | .turn :: r, s, p, hs, h => by
    obtain ⟨a, b, d⟩ := play_sim r (0 - s) (p.2, p.1) (by omega) (by show p.2 + p.1 = c; omega)
    have e : placeOf (0 - s) (p.2, p.1) = placeOf s p := by
      unfold placeOf
      rcases hs with rfl | rfl
      · rw [if_neg (by decide), if_pos rfl]
      · rw [if_pos (by decide), if_neg (by decide)]
    have m : moved c (placeOf s p) 0 0 = placeOf s p := by
      unfold moved
      rw [if_neg (by decide), if_neg (by decide)]
    rw [e] at b d
    refine ⟨a, ?_, ?_⟩
    · show placeOf (sideAt (0 - s) r) (playS (p.2, p.1) r) = simP c (sides (0 - s) r) (moved c (placeOf s p) 0 0)
      rw [m, b]
    · show (0 :: playC (p.2, p.1) r).sum = absI (moved c (placeOf s p) 0 0 - placeOf s p) + simC c (sides (0 - s) r) (moved c (placeOf s p) 0 0)
      rw [m, List.sum_cons, d]
      unfold absI
      rw [if_neg (by omega)]
      omega
  | .mt true n :: r, s, p, hs, h => by
    have hm := mx_def 0 (n - p.1)
    obtain ⟨a, b, d⟩ := play_sim r s (p.1 + mx 0 (n - p.1), p.2 - mx 0 (n - p.1)) hs (by show p.1 + mx 0 (n - p.1) + (p.2 - mx 0 (n - p.1)) = c; omega)
    have m : moved c (placeOf s p) s n = placeOf s (p.1 + mx 0 (n - p.1), p.2 - mx 0 (n - p.1)) ∧ absI (moved c (placeOf s p) s n - placeOf s p) = mx 0 (n - p.1) := by
      unfold moved placeOf absI
      rcases hs with rfl | rfl
      · rw [if_pos rfl, if_pos rfl, if_pos rfl]
        have := mx_def p.1 n
        dsimp only
        split <;> omega
      · rw [if_neg (by decide), if_pos rfl, if_neg (by decide), if_neg (by decide)]
        have := mn_def p.2 (c - n)
        dsimp only
        split <;> omega
    refine ⟨a, ?_, ?_⟩
    · show placeOf (sideAt s r) _ = simP c (sides s r) (moved c (placeOf s p) s n)
      rw [m.1]
      exact b
    · show (mx 0 (n - p.1) :: playC _ r).sum = absI (moved c (placeOf s p) s n - placeOf s p) + simC c (sides s r) (moved c (placeOf s p) s n)
      rw [m.2, m.1, List.sum_cons, ← d]
      rfl
  | .mt false n :: r, s, p, hs, h => by
    have hm := mx_def 0 (n - p.2)
    obtain ⟨a, b, d⟩ := play_sim r s (p.1 - mx 0 (n - p.2), p.2 + mx 0 (n - p.2)) hs (by show p.1 - mx 0 (n - p.2) + (p.2 + mx 0 (n - p.2)) = c; omega)
    have m : moved c (placeOf s p) (0 - s) n = placeOf s (p.1 - mx 0 (n - p.2), p.2 + mx 0 (n - p.2)) ∧ absI (moved c (placeOf s p) (0 - s) n - placeOf s p) = mx 0 (n - p.2) := by
      unfold moved placeOf absI
      rcases hs with rfl | rfl
      · rw [if_neg (by decide), if_pos (by decide), if_pos rfl, if_pos rfl]
        have := mn_def p.1 (c - n)
        dsimp only
        split <;> omega
      · rw [if_pos (by decide), if_neg (by decide), if_neg (by decide)]
        have := mx_def p.2 n
        dsimp only
        split <;> omega
    refine ⟨a, ?_, ?_⟩
    · show placeOf (sideAt s r) _ = simP c (sides s r) (moved c (placeOf s p) (0 - s) n)
      rw [m.1]
      exact b
    · show (mx 0 (n - p.2) :: playC _ r).sum = absI (moved c (placeOf s p) (0 - s) n - placeOf s p) + simC c (sides s r) (moved c (placeOf s p) (0 - s) n)
      rw [m.2, m.1, List.sum_cons, ← d]
      rfl
/-- a summary is right -/
theorem summary_right {c x : Int} {l : List Stp} (hl : fitsS c l) (h0 : 0 ≤ x) (h1 : x ≤ c) :
    (playC (x, c - x) l).sum = (effOf c l).carried x ∧ (playS (x, c - x) l).1 = (effOf c l).fin x := by
  have hc : 0 ≤ c := by omega
  obtain ⟨o, oc, ot, f⟩ := effOf_ok hc hl
  obtain ⟨f1, f2⟩ := f x h0 h1
  obtain ⟨a, b, d⟩ := play_sim (c := c) l 1 (x, c - x) (.inl rfl) (by show x + (c - x) = c; omega)
  have e : placeOf 1 (x, c - x) = x := rfl
  rw [e] at b d
  refine ⟨by rw [d, f2], ?_⟩
  unfold Eff.fin
  rw [f1, ot, ← b, oc, sideAt_turning]
  unfold placeOf
  cases turning l with
  | true =>
    simp
    omega
  | false => simp
end ChM

set_option linter.all false
set_option autoImplicit false
set_option maxRecDepth 100000
set_option maxHeartbeats 4000000
namespace ChM
/-! ### effects one after another, rounds -/
def Eff.later (a b : Eff) : Eff := if a.tu then b.mir else b
def goal2 (x y : Option Int) : Option Int := match y with
  | none => x
  | some g => some g
def Eff.followed (a b : Eff) : Eff := mkE a.c ((a.atLeast (a.later b).lo).atMost (a.later b).hi).lo ((a.atLeast (a.later b).lo).atMost (a.later b).hi).hi (((a.atLeast (a.later b).lo).atMost (a.later b).hi).ex + (a.later b).ex) (goal2 ((a.atLeast (a.later b).lo).atMost (a.later b).hi).goal (a.later b).goal) (!decide (a.tu = b.tu))
theorem after_ok {a l : Eff} (ha : a.Ok) (hl : l.Ok) (hc : l.c = a.c) (t : Bool) :
    ∀ R, R = mkE a.c ((a.atLeast l.lo).atMost l.hi).lo ((a.atLeast l.lo).atMost l.hi).hi (((a.atLeast l.lo).atMost l.hi).ex + l.ex) (goal2 ((a.atLeast l.lo).atMost l.hi).goal l.goal) t →
    R.Ok ∧ ∀ x, R.place x = l.place (a.place x) ∧ R.carried x = a.carried x + l.carried (a.place x) := by
  intro R eR
  have l0 := hl.lo0
  have l1 := hl.lh
  have l2 := hl.hc
  have l3 := hl.ex0
  obtain ⟨o1, c1, t1, f1⟩ := atLeast_ok ha (n := l.lo) l0 (by omega)
  obtain ⟨o2, c2, t2, f2⟩ := atMost_ok o1 (m := l.hi) (by omega) (by omega)
  generalize hF : (a.atLeast l.lo).atMost l.hi = F at *
  have cF : F.c = a.c := c2.trans c1
  have pF : ∀ x, F.place x = mn (mx (a.place x) l.lo) l.hi := fun x => by rw [(f2 x).1, (f1 x).1]
  have kF : ∀ x, F.carried x = a.carried x + (mx (mx (l.lo - a.place x) (a.place x - l.hi)) 0) := fun x => by
    rw [(f2 x).2, (f1 x).1, (f1 x).2]
    have := mx_def (a.place x) l.lo
    have := mn_def (mx (a.place x) l.lo) l.hi
    have := mx_def (l.lo - a.place x) (a.place x - l.hi)
    have := mx_def (mx (l.lo - a.place x) (a.place x - l.hi)) 0
    omega
  have f0 := o2.lo0
  have g1 := o2.lh
  have g2 := o2.hc
  have g3 := o2.ex0
  have lc : ∀ x, l.carried x = mx (mx (l.lo - x) (x - l.hi)) 0 + l.ex := fun x => rfl
  have Fc : ∀ x, F.carried x = mx (mx (F.lo - x) (x - F.hi)) 0 + F.ex := fun x => rfl
  cases gl : l.goal with
  | none =>
    obtain ⟨e0, e1⟩ := hl.no gl
    rw [gl] at eR
    have eR2 : R = mkE a.c F.lo F.hi (F.ex + l.ex) F.goal t := eR
    rw [e0, Int.add_zero] at eR2
    have hR : R = { F with tu := t } := by
      rw [eR2, ← cF]
      exact mkE_self o2 t
    have lp : ∀ x, l.place x = mn (mx x l.lo) l.hi := fun x => place_none gl
    refine ⟨?_, fun x => ?_⟩
    · rw [hR]
      exact ⟨f0, g1, g2, g3, o2.no, o2.yes⟩
    · have q1 : R.place x = F.place x := by rw [hR]; rfl
      have q2 : R.carried x = F.carried x := by rw [hR]; rfl
      rw [q1, q2, pF, kF, lp, lc, e0]
      refine ⟨rfl, by omega⟩
  | some g =>
    obtain ⟨y0, y1⟩ := hl.yes g gl
    rw [gl] at eR
    have eR2 : R = mkE a.c F.lo F.hi (F.ex + l.ex) (some g) t := eR
    refine ⟨?_, fun x => ?_⟩
    · rw [eR2]
      exact Ok_some f0 g1 (by omega) (by omega) y0 (by omega)
    · have q1 : R.place x = g := by rw [eR2, mkE_some]; rfl
      have q2 : R.carried x = F.carried x + l.ex := by
        rw [eR2]
        unfold Eff.carried
        simp only [mkE_lo, mkE_hi, mkE_ex]
        omega
      rw [q1, q2, kF, place_some gl, lc]
      refine ⟨rfl, by omega⟩
theorem later_ok {a b : Eff} (hb : b.Ok) : (a.later b).Ok ∧ (a.later b).c = b.c := by
  obtain ⟨o, c, _, _⟩ := mir_ok hb
  unfold Eff.later
  split
  · exact ⟨o, c⟩
  · exact ⟨hb, rfl⟩
theorem fin_range {e : Eff} (h : e.Ok) {x : Int} (h0 : 0 ≤ x) (h1 : x ≤ e.c) : 0 ≤ e.fin x ∧ e.fin x ≤ e.c := by
  obtain ⟨a, b⟩ := place_range h h0 h1
  unfold Eff.fin
  split <;> omega
theorem carried_nonneg {e : Eff} (h : e.Ok) (x : Int) : 0 ≤ e.carried x := by
  have := h.ex0
  unfold Eff.carried
  have := mx_def (mx (e.lo - x) (x - e.hi)) 0
  omega
theorem followed_ok {a b : Eff} (ha : a.Ok) (hb : b.Ok) (hc : b.c = a.c) :
    (a.followed b).Ok ∧ (a.followed b).c = a.c ∧ (a.followed b).tu = !decide (a.tu = b.tu) ∧ ∀ x, (a.followed b).fin x = b.fin (a.fin x) ∧ (a.followed b).carried x = a.carried x + b.carried (a.fin x) := by
  obtain ⟨lo, lc⟩ := later_ok (a := a) hb
  obtain ⟨o, f⟩ := after_ok ha lo (lc.trans hc) (!decide (a.tu = b.tu)) (a.followed b) rfl
  have cc : (a.followed b).c = a.c := rfl
  have ct : (a.followed b).tu = !decide (a.tu = b.tu) := rfl
  refine ⟨o, cc, ct, fun x => ?_⟩
  obtain ⟨f1, f2⟩ := f x
  unfold Eff.fin
  rw [cc, ct, f1, f2]
  obtain ⟨_, _, _, m⟩ := mir_ok hb
  obtain ⟨m1, m2⟩ := m (a.place x)
  unfold Eff.later
  cases ta : a.tu with
  | true =>
    simp only [if_pos]
    rw [m1, m2, hc]
    refine ⟨?_, rfl⟩
    cases tb : b.tu
    · simp
      omega
    · simp
  | false =>
    simp only [Bool.false_eq_true, if_false, if_neg]
    cases tb : b.tu
    · simp
    · simp [hc]
/-- rounds of an effect -/
def runF (e : Eff) : Nat → Int → Int
  | 0, x => x
  | n + 1, x => runF e n (e.fin x)
def runC (e : Eff) : Nat → Int → Int
  | 0, _ => 0
  | n + 1, x => e.carried x + runC e n (e.fin x)
theorem runF_add (e : Eff) : ∀ (i j : Nat) (x : Int), runF e (i + j) x = runF e j (runF e i x)
  | 0, j, x => by rw [Nat.zero_add]; rfl
  | i + 1, j, x => by
    rw [show i + 1 + j = (i + j) + 1 by omega]
    exact runF_add e i j (e.fin x)
theorem runC_add (e : Eff) : ∀ (i j : Nat) (x : Int), runC e (i + j) x = runC e i x + runC e j (runF e i x)
  | 0, j, x => by
    rw [Nat.zero_add]
    show runC e j x = 0 + runC e j x
    omega
  | i + 1, j, x => by
    rw [show i + 1 + j = (i + j) + 1 by omega]
    show e.carried x + runC e (i + j) (e.fin x) = (e.carried x + runC e i (e.fin x)) + runC e j (runF e i (e.fin x))
    rw [runC_add e i j (e.fin x)]
    omega
theorem run_range {e : Eff} (h : e.Ok) : ∀ (n : Nat) {x : Int}, 0 ≤ x → x ≤ e.c → 0 ≤ runF e n x ∧ runF e n x ≤ e.c
  | 0, x, h0, h1 => ⟨h0, h1⟩
  | n + 1, x, h0, h1 => run_range h n (fin_range h h0 h1).1 (fin_range h h0 h1).2
structure IsPow (e : Eff) (n : Nat) (f : Eff) : Prop where
  ok : f.Ok
  c : f.c = e.c
  tu : f.tu = (e.tu && n % 2 == 1)
  fin : ∀ x, 0 ≤ x → x ≤ e.c → f.fin x = runF e n x
  car : ∀ x, 0 ≤ x → x ≤ e.c → f.carried x = runC e n x
theorem isPow_zero {e : Eff} (h : e.Ok) : IsPow e 0 (nothing e.c) := by
  have hc : 0 ≤ e.c := Int.le_trans h.lo0 (Int.le_trans h.lh h.hc)
  obtain ⟨o, f⟩ := nothing_ok hc
  refine ⟨o, rfl, by cases e.tu <;> rfl, fun x h0 h1 => ?_, fun x h0 h1 => (f x h0 h1).2⟩
  show (if false = true then _ else (nothing e.c).place x) = x
  rw [if_neg (by decide)]
  exact (f x h0 h1).1
theorem isPow_one {e : Eff} (h : e.Ok) : IsPow e 1 e := ⟨h, rfl, by cases e.tu <;> rfl, fun _ _ _ => rfl, fun x _ _ => by show _ = e.carried x + 0; omega⟩
theorem isPow_add {e a b : Eff} (h : e.Ok) {i j : Nat} (ha : IsPow e i a) (hb : IsPow e j b) : IsPow e (i + j) (a.followed b) := by
  obtain ⟨o, c, t, f⟩ := followed_ok ha.ok hb.ok (hb.c.trans ha.c.symm)
  refine ⟨o, c.trans ha.c, ?_, fun x h0 h1 => ?_, fun x h0 h1 => ?_⟩
  · rw [t, ha.tu, hb.tu]
    cases e.tu with
    | false => rfl
    | true =>
      have hi : i % 2 = 0 ∨ i % 2 = 1 := by omega
      have hj : j % 2 = 0 ∨ j % 2 = 1 := by omega
      have hij : (i + j) % 2 = (i % 2 + j % 2) % 2 := Nat.add_mod i j 2
      rw [hij]
      rcases hi with hi | hi <;> rcases hj with hj | hj <;> rw [hi, hj] <;> decide
  · obtain ⟨r0, r1⟩ := run_range h i h0 h1
    rw [(f x).1, ha.fin x h0 h1, hb.fin _ r0 r1, runF_add]
  · obtain ⟨r0, r1⟩ := run_range h i h0 h1
    rw [(f x).2, ha.fin x h0 h1, ha.car x h0 h1, hb.car _ r0 r1, runC_add]
/-! ### rounds of a plan are a longer plan -/
def times (l : List Stp) : Nat → List Stp
  | 0 => []
  | n + 1 => l ++ times l n
theorem playS_app : ∀ (a b : List Stp) (p : Int × Int), playS p (a ++ b) = playS (playS p a) b
  | [], _, _ => rfl
  | x :: r, b, p => playS_app r b (play1 p x).1
theorem playC_app : ∀ (a b : List Stp) (p : Int × Int), playC p (a ++ b) = playC p a ++ playC (playS p a) b
  | [], _, _ => rfl
  | x :: r, b, p => congrArg (_ :: ·) (playC_app r b (play1 p x).1)
theorem play_keep (l : List Stp) : ∀ (p : Int × Int), (playS p l).1 + (playS p l).2 = p.1 + p.2 := by
  induction l with
  | nil => exact fun p => rfl
  | cons s r ih =>
    intro p
    show (playS (play1 p s).1 r).1 + (playS (play1 p s).1 r).2 = _
    rw [ih]
    cases s with
    | turn => show p.2 + p.1 = _; omega
    | mt b n =>
      cases b
      · show p.1 - mx 0 (n - p.2) + (p.2 + mx 0 (n - p.2)) = _; omega
      · show p.1 + mx 0 (n - p.1) + (p.2 - mx 0 (n - p.1)) = _; omega
theorem play_pair {l : List Stp} {c x : Int} : playS (x, c - x) l = ((playS (x, c - x) l).1, c - (playS (x, c - x) l).1) := by
  have := play_keep l (x, c - x)
  have e : (x, c - x).1 + (x, c - x).2 = c := by show x + (c - x) = c; omega
  rw [e] at this
  generalize playS (x, c - x) l = p at this
  cases p with
  | mk u v =>
    show (u, v) = (u, c - u)
    rw [show v = c - u by show v = _; have : u + v = c := this; omega]
theorem rounds_right {c : Int} {l : List Stp} (hl : fitsS c l) : ∀ (n : Nat) {x : Int}, 0 ≤ x → x ≤ c →
    (playC (x, c - x) (times l n)).sum = runC (effOf c l) n x ∧ (playS (x, c - x) (times l n)).1 = runF (effOf c l) n x
  | 0, x, _, _ => ⟨rfl, rfl⟩
  | n + 1, x, h0, h1 => by
    obtain ⟨s1, s2⟩ := summary_right hl h0 h1
    obtain ⟨o, oc, _, _⟩ := effOf_ok (by omega : 0 ≤ c) hl
    have r := fin_range o h0 (by omega)
    obtain ⟨q1, q2⟩ := rounds_right hl n r.1 (by omega)
    show (playC (x, c - x) (l ++ times l n)).sum = _ ∧ (playS (x, c - x) (l ++ times l n)).1 = _
    rw [playS_app, playC_app, play_pair, s2, List.sum_append, q1, q2, s1]
    exact ⟨rfl, rfl⟩
end ChM

set_option linter.all false
set_option autoImplicit false
set_option maxRecDepth 100000
set_option maxHeartbeats 4000000
namespace ChM
/-! ### needs, two rounds -/
def mxL (l : List Int) : Int := l.foldr (fun a m => if a > m then a else m) 0
theorem mxL_ge : ∀ l : List Int, 0 ≤ mxL l ∧ ∀ y ∈ l, y ≤ mxL l
  | [] => ⟨Int.le_refl 0, fun y hy => nomatch hy⟩
  | a :: r => by
    obtain ⟨h0, h1⟩ := mxL_ge r
    have e : mxL (a :: r) = if a > mxL r then a else mxL r := rfl
    rw [e]
    refine ⟨by split <;> omega, fun y hy => ?_⟩
    rcases List.mem_cons.mp hy with z | z
    · subst z
      split <;> omega
    · have := h1 y z
      split <;> omega
theorem mxL_mem : ∀ l : List Int, mxL l ∈ l ++ [0]
  | [] => List.mem_singleton.mpr rfl
  | a :: r => by
    have e : mxL (a :: r) = if a > mxL r then a else mxL r := rfl
    rw [e]
    split
    · exact List.mem_cons_self
    · exact List.mem_cons_of_mem _ (mxL_mem r)
theorem mxL_one {l : List Int} {m : Int} (h : m ∈ l ++ [0]) (hm : ∀ y ∈ l ++ [0], y ≤ m) : m = mxL l := by
  have a := hm _ (mxL_mem l)
  obtain ⟨h0, h1⟩ := mxL_ge l
  rcases List.mem_append.mp h with z | z
  · have := h1 m z
    omega
  · have : m = 0 := List.mem_singleton.mp z
    omega
def needL (s : Int) (ps : List (Int × Int)) : List Int := (ps.filter fun p => p.1 = s).map (·.2)
theorem needL_snoc (s : Int) (ps : List (Int × Int)) (p : Int × Int) : needL s (ps ++ [p]) = needL s ps ++ (if p.1 = s then [p.2] else []) := by
  unfold needL
  rw [List.filter_append, List.map_append]
  by_cases h : p.1 = s
  · simp [h]
  · simp [h]
theorem needL_mem {s n : Int} {ps : List (Int × Int)} (h : (s, n) ∈ ps) : n ∈ needL s ps := List.mem_map.mpr ⟨(s, n), List.mem_filter.mpr ⟨h, by simp⟩, rfl⟩
def needsOf (l : List Stp) : Int × Int :=
  if turning l then (mx (mxL (needL 1 (sides 1 l))) (mxL (needL (-1) (sides 1 l))), mx (mxL (needL 1 (sides 1 l))) (mxL (needL (-1) (sides 1 l)))) else (mxL (needL 1 (sides 1 l)), mxL (needL (-1) (sides 1 l)))
def fewest (l : List Stp) : Int := mx (needsOf l).1 (needsOf l).2
def sparing (l : List Stp) : Int := (needsOf l).1 + (needsOf l).2
theorem sides_mem : ∀ (l : List Stp) (s : Int) (b : Bool) (n : Int), (s = 1 ∨ s = -1) → Stp.mt b n ∈ l → (1, n) ∈ sides s l ∨ (-1, n) ∈ sides s l
  | [], _, _, _, _, h => nomatch h
  | .turn :: r, s, b, n, hs, h => by
    rcases List.mem_cons.mp h with z | z
    · cases z
    · rcases sides_mem r (0 - s) b n (by omega) z with q | q
      · exact .inl (List.mem_cons_of_mem _ q)
      · exact .inr (List.mem_cons_of_mem _ q)
  | .mt c m :: r, s, b, n, hs, h => by
    rcases List.mem_cons.mp h with z | z
    · cases z
      have e : sides s (.mt c m :: r) = ((if c then s else 0 - s), m) :: sides s r := rfl
      rw [e]
      rcases hs with rfl | rfl <;> cases c
      · exact .inr List.mem_cons_self
      · exact .inl List.mem_cons_self
      · exact .inl List.mem_cons_self
      · exact .inr List.mem_cons_self
    · rcases sides_mem r s b n hs z with q | q
      · exact .inl (List.mem_cons_of_mem _ q)
      · exact .inr (List.mem_cons_of_mem _ q)
theorem fewest_ge (l : List Stp) : (∀ y ∈ needL 1 (sides 1 l), y ≤ fewest l) ∧ (∀ y ∈ needL (-1) (sides 1 l), y ≤ fewest l) ∧ 0 ≤ fewest l := by
  obtain ⟨a0, a1⟩ := mxL_ge (needL 1 (sides 1 l))
  obtain ⟨b0, b1⟩ := mxL_ge (needL (-1) (sides 1 l))
  unfold fewest needsOf
  have := mx_def (mxL (needL 1 (sides 1 l))) (mxL (needL (-1) (sides 1 l)))
  generalize mxL (needL 1 (sides 1 l)) = a at *
  generalize mxL (needL (-1) (sides 1 l)) = b at *
  split
  · have := mx_def (mx a b) (mx a b)
    refine ⟨fun y hy => ?_, fun y hy => ?_, ?_⟩
    · have := a1 y hy; show y ≤ mx (mx a b) (mx a b); omega
    · have := b1 y hy; show y ≤ mx (mx a b) (mx a b); omega
    · show 0 ≤ mx (mx a b) (mx a b); omega
  · refine ⟨fun y hy => ?_, fun y hy => ?_, ?_⟩
    · have := a1 y hy; show y ≤ mx a b; omega
    · have := b1 y hy; show y ≤ mx a b; omega
    · show 0 ≤ mx a b; omega
theorem fits_fewest {l : List Stp} {c : Int} (hg : ∀ b n, Stp.mt b n ∈ l → 0 ≤ n) (h : fewest l ≤ c) : fitsS c l := fun b n hm => by
  obtain ⟨a, d, _⟩ := fewest_ge l
  refine ⟨hg b n hm, ?_⟩
  rcases sides_mem l 1 b n (.inl rfl) hm with q | q
  · exact Int.le_trans (a n (needL_mem q)) h
  · exact Int.le_trans (d n (needL_mem q)) h
/-- two rounds in the long run -/
def twoR (c : Int) (l : List Stp) : Int := runC (effOf c l) 2 (runF (effOf c l) 2 0)
theorem two_any {e f : Eff} (he : e.Ok) (hp : IsPow e 2 f) {x : Int} (x0 : 0 ≤ x) (x1 : x ≤ e.c) : (match f.goal with | none => 0 | some g => f.carried g) = runC e 2 (runF e 2 x) := by
  have r := run_range he 2 x0 x1
  have ft : f.tu = false := by rw [hp.tu]; cases e.tu <;> rfl
  have fp : f.fin x = f.place x := by unfold Eff.fin; rw [ft]; rfl
  rw [← hp.car _ r.1 r.2, ← hp.fin x x0 x1, fp]
  cases g : f.goal with
  | some y =>
    rw [place_some g]
  | none =>
    obtain ⟨z, l⟩ := hp.ok.no g
    rw [place_none g]
    unfold Eff.carried
    rw [z]
    have := mx_def x f.lo
    have := mn_def (mx x f.lo) f.hi
    generalize mn (mx x f.lo) f.hi = p at *
    have := mx_def (f.lo - p) (p - f.hi)
    have := mx_def (mx (f.lo - p) (p - f.hi)) 0
    show (0 : Int) = mx (mx (f.lo - p) (p - f.hi)) 0 + 0
    omega
def halvesV (n : Int) : Int × Int := if n % 2 = 1 then (n, 2) else (n / 2, 1)
end ChM

set_option Elab.async false
set_option linter.all false
set_option autoImplicit false
set_option maxRecDepth 100000
set_option maxHeartbeats 4000000
namespace Ch
open PySem PySem.Spec PyProof.Rows L2 ChM
/-! ### steps, plans -/
def roomS (b : Bool) : Str := if b then "red" else "blue"
def stepV : Stp → List V
  | .turn => [.str "turn"]
  | .mt b n => [.str (roomS b), .int n]
def StepsAt (H : Hp) : List V → List Stp → Prop := Paired fun v s => ∃ p, v = .ref p ∧ H p = some (.tup (stepV s))
theorem pr_len {α β : Type} {R : α → β → Prop} : ∀ {xs : List α} {ys : List β}, Paired R xs ys → xs.length = ys.length
  | _, _, .nil => rfl
  | _, _, .cons _ t => congrArg (· + 1) (pr_len t)
theorem pr_at {α β : Type} {R : α → β → Prop} : ∀ {xs : List α} {ys : List β} {i : Nat} {x : α}, Paired R xs ys → xs[i]? = some x → ∃ y, ys[i]? = some y ∧ R x y
  | _, _, _, _, .nil, e => nomatch e
  | _, _, 0, x, .cons r _, e => ⟨_, rfl, by cases e; exact r⟩
  | _, _, i + 1, x, .cons _ t, e => pr_at (i := i) t e
theorem pr_atR {α β : Type} {R : α → β → Prop} : ∀ {xs : List α} {ys : List β} {i : Nat} {y : β}, Paired R xs ys → ys[i]? = some y → ∃ x, xs[i]? = some x ∧ R x y
  | _, _, _, _, .nil, e => nomatch e
  | _, _, 0, x, .cons r _, e => ⟨_, rfl, by cases e; exact r⟩
  | _, _, i + 1, x, .cons _ t, e => pr_atR (i := i) t e
theorem pr_app {α β : Type} {R : α → β → Prop} : ∀ {xs xs' : List α} {ys ys' : List β}, Paired R xs ys → Paired R xs' ys' → Paired R (xs ++ xs') (ys ++ ys')
  | _, _, _, _, .nil, t => t
  | _, _, _, _, .cons r t, u => .cons r (pr_app t u)
theorem pr_im {α β : Type} {R R' : α → β → Prop} (f : ∀ a b, R a b → R' a b) : ∀ {xs : List α} {ys : List β}, Paired R xs ys → Paired R' xs ys
  | _, _, .nil => .nil
  | _, _, .cons r t => .cons (f _ _ r) (pr_im f t)
theorem pr_take {α β : Type} {R : α → β → Prop} : ∀ (n : Nat) {xs : List α} {ys : List β}, Paired R xs ys → Paired R (xs.take n) (ys.take n)
  | 0, _, _, _ => by rw [List.take_zero, List.take_zero]; exact .nil
  | n + 1, _, _, .nil => .nil
  | n + 1, _, _, .cons r t => .cons r (pr_take n t)
theorem pr_drop {α β : Type} {R : α → β → Prop} : ∀ (n : Nat) {xs : List α} {ys : List β}, Paired R xs ys → Paired R (xs.drop n) (ys.drop n)
  | 0, _, _, t => t
  | n + 1, _, _, .nil => .nil
  | n + 1, _, _, .cons r t => pr_drop n t
theorem pr_snoc {α β : Type} {R : α → β → Prop} {xs : List α} {ys : List β} {x : α} {y : β} (t : Paired R xs ys) (r : R x y) : Paired R (xs ++ [x]) (ys ++ [y]) := pr_app t (.cons r .nil)
theorem StepsAt.mono {H H' : Hp} {vs : List V} {l : List Stp} (e : Same H H') (h : StepsAt H vs l) : StepsAt H' vs l := pr_im (fun _ _ ⟨p, e1, e2⟩ => ⟨p, e1, e p _ e2⟩) h
structure PlanAt (C : Addr) (H : Hp) (p : Addr) (l : List Stp) : Prop where
  ex : ∃ dx t vs, H p = some (.ins C dx [("parts", .ref t)]) ∧ H t = some (.tup vs) ∧ StepsAt H vs l
theorem PlanAt.mono {C : Addr} {H H' : Hp} {p : Addr} {l : List Stp} (e : Same H H') (h : PlanAt C H p l) : PlanAt C H' p l := by
  obtain ⟨dx, t, vs, h1, h2, h3⟩ := h.ex
  exact ⟨dx, t, vs, e _ _ h1, e _ _ h2, h3.mono e⟩
/-- a step that a plan may have -/
def goodS (s : Stp) : Prop := ∀ b n, s = .mt b n → 0 ≤ n ∧ n ≤ 1000000000000000000
def goodP (l : List Stp) : Prop := (∀ s ∈ l, goodS s) ∧ l.length ≤ 60
theorem roomS_cases (b : Bool) : (b = true ∧ roomS b = "red") ∨ (b = false ∧ roomS b = "blue") := by
  cases b
  · exact .inr ⟨rfl, rfl⟩
  · exact .inl ⟨rfl, rfl⟩
/-- (side, need) -/
def pairV (p : Int × Int) : List V := [.int p.1, .int p.2]
def PairsAt (H : Hp) : List V → List (Int × Int) → Prop := Paired fun v s => ∃ p, v = .ref p ∧ H p = some (.tup (pairV s))
theorem PairsAt.mono {H H' : Hp} {vs : List V} {l : List (Int × Int)} (e : Same H H') (h : PairsAt H vs l) : PairsAt H' vs l := pr_im (fun _ _ ⟨p, e1, e2⟩ => ⟨p, e1, e p _ e2⟩) h
/-- a list at r, that is written -/
theorem PairsAt.mono2 {H H' : Hp} {vs : List V} {l : List (Int × Int)} {r : Addr} {xs : List V} {o : HO} (h : PairsAt H vs l) (e : Same H H') (hr : H' r = some (.lst xs)) : PairsAt (upd H' r o) vs l :=
  pr_im (fun _ _ ⟨p, e1, e2⟩ => ⟨p, e1, by rw [upd_ne (ne_of (e p _ e2) hr (by intro z; cases z))]; exact e p _ e2⟩) h
theorem StepsAt.mono2 {H H' : Hp} {vs : List V} {l : List Stp} {r : Addr} {xs : List V} {o : HO} (h : StepsAt H vs l) (e : Same H H') (hr : H' r = some (.lst xs)) : StepsAt (upd H' r o) vs l :=
  pr_im (fun _ _ ⟨p, e1, e2⟩ => ⟨p, e1, by rw [upd_ne (ne_of (e p _ e2) hr (by intro z; cases z))]; exact e p _ e2⟩) h
theorem PlanAt.mono2 {C : Addr} {H H' : Hp} {p r : Addr} {l : List Stp} {xs : List V} {o : HO} (h : PlanAt C H p l) (e : Same H H') (hr : H' r = some (.lst xs)) : PlanAt C (upd H' r o) p l := by
  obtain ⟨dx, t, vs, h1, h2, h3⟩ := h.ex
  exact ⟨dx, t, vs, by rw [upd_ne (ne_of (e p _ h1) hr (by intro z; cases z))]; exact e p _ h1, by rw [upd_ne (ne_of (e t _ h2) hr (by intro z; cases z))]; exact e t _ h2, h3.mono2 e hr⟩
/-! ### effects -/
def goalV : Option Int → V
  | none => .non
  | some g => .int g
def effF (e : Eff) : List (Str × V) := [("chairs", .int e.c), ("low", .int e.lo), ("high", .int e.hi), ("extra", .int e.ex), ("goal", goalV e.goal), ("turned", .bl e.tu)]
def EffAt (C : Addr) (H : Hp) (p : Addr) (e : Eff) : Prop := ∃ dx, H p = some (.ins C dx (effF e))
theorem EffAt.mono {C : Addr} {H H' : Hp} {p : Addr} {e : Eff} (s : Same H H') (h : EffAt C H p e) : EffAt C H' p e := let ⟨dx, q⟩ := h; ⟨dx, s _ _ q⟩
section
variable {H : Hp} {Q : VK} {K : PySem.W.Frag} {C p q : Addr} {e : Eff} {f : Str} {v : V}
theorem x_eff (h : EffAt C H p e) (c : Cls K C) (na : NoAttr K C f) (l : (effF e).lookup f = some v) (k : Q v H) : rFld K f (.ref p) H Q := let ⟨_, q⟩ := h; x_fldAt q c na l k
theorem eff_chairs : (effF e).lookup ("chairs" : Str) = some (.int e.c) := by unfold effF; kernel_rfl
theorem eff_low : (effF e).lookup ("low" : Str) = some (.int e.lo) := by unfold effF; kernel_rfl
theorem eff_high : (effF e).lookup ("high" : Str) = some (.int e.hi) := by unfold effF; kernel_rfl
theorem eff_extra : (effF e).lookup ("extra" : Str) = some (.int e.ex) := by unfold effF; kernel_rfl
theorem eff_goal : (effF e).lookup ("goal" : Str) = some (goalV e.goal) := by unfold effF; kernel_rfl
theorem eff_turned : (effF e).lookup ("turned" : Str) = some (.bl e.tu) := by unfold effF; kernel_rfl
/-- step == ("turn",) -/
def stepD : Stp → PyData
  | .turn => .tuple [.str "turn"]
  | .mt b n => .tuple [.str (roomS b), .int n]
theorem step_dp {s : Stp} (h : H p = some (.tup (stepV s))) : Dp K H (.ref p) (stepD s) := by
  cases s with
  | turn => exact .tup (SqT.of h) (.cons (.str _) .nil)
  | mt b n => exact .tup (SqT.of h) (.cons (.str _) (.cons (.int _) .nil))
theorem eq_turn {s : Stp} (h1 : H p = some (.tup (stepV s))) (h2 : H q = some (.tup [.str "turn"])) (k : Q (.bl (decide (s = .turn))) H) : rEqU K (.ref p) (.ref q) H Q := by
  refine x_eqDp (step_dp h1) (step_dp (s := .turn) h2) ?_ (by decide +kernel) ?_
  · cases s with
    | turn => decide +kernel
    | mt b n => cases b <;> kernel_rfl
  · cases s with
    | turn => exact k
    | mt b n =>
      have ez : PyData.eqv (stepD (.mt b n)) (stepD .turn) = false := by
        show (PyData.eqv (.str (roomS b)) (.str "turn") && false) = false
        rw [Bool.and_false]
      rw [ez]
      exact k
theorem step_len {s : Stp} : (stepV s).length = if s = .turn then 1 else 2 := by
  cases s <;> rfl
end
end Ch
/-! ### the draws' state: a list at st, written in place -/
namespace Ch
open PySem PySem.Spec PyProof.Rows L2 ChM
def SameB (st : Addr) (H H' : Hp) : Prop := ∀ b o, b ≠ st → H b = some o → H' b = some o
theorem SameB.refl (st : Addr) (H : Hp) : SameB st H H := fun _ _ _ h => h
theorem SameB.trans {st : Addr} {H H1 H2 : Hp} (a : SameB st H H1) (b : SameB st H1 H2) : SameB st H H2 := fun c o n h => b c o n (a c o n h)
theorem SameB.of {st : Addr} {H H' : Hp} (s : Same H H') : SameB st H H' := fun c o _ h => s c o h
theorem SameB.upd {st : Addr} {H : Hp} {o : HO} : SameB st H (upd H st o) := fun b u n h => by
  rw [upd_ne n]
  exact h
structure StAt (K : PySem.W.Frag) (H : Hp) (st a : Addr) (ns : List Int) : Prop where
  lst : ∃ pos m r : Int, H st = some (.lst [.ref a, .int pos, .int m, .int r]) ∧ 0 ≤ pos
  scr : ∀ H', SameB st H H' → SqL K H' a (ns.map V.int)
theorem StAt.mono {K : PySem.W.Frag} {H H' : Hp} {st a : Addr} {ns : List Int} (h : StAt K H st a ns) (s : Same H H') : StAt K H' st a ns := by
  obtain ⟨pos, m, r, h1, h2⟩ := h.lst
  exact ⟨⟨pos, m, r, s _ _ h1, h2⟩, fun H2 s2 => h.scr H2 ((SameB.of s).trans s2)⟩
theorem StAt.scr0 {K : PySem.W.Frag} {H : Hp} {st a : Addr} {ns : List Int} (h : StAt K H st a ns) : SqL K H a (ns.map V.int) := h.scr H (SameB.refl _ _)
theorem StAt.put {K : PySem.W.Frag} {H : Hp} {st a : Addr} {ns : List Int} {pos m r : Int} (h : StAt K H st a ns) (h0 : 0 ≤ pos) : StAt K (upd H st (.lst [.ref a, .int pos, .int m, .int r])) st a ns :=
  ⟨⟨pos, m, r, upd_same, h0⟩, fun H' s => h.scr H' (SameB.upd.trans s)⟩
theorem StAt.new {K : PySem.W.Frag} {H : Hp} {st a : Addr} {ns : List Int} {pos m r : Int} (hs : SqL K H a (ns.map V.int)) (hn : H st = none) (h0 : 0 ≤ pos) : StAt K (upd H st (.lst [.ref a, .int pos, .int m, .int r])) st a ns := by
  refine ⟨⟨pos, m, r, upd_same, h0⟩, fun H' s => ?_⟩
  have key : ∀ b o, H b = some o → H' b = some o := fun b o e => by
    have hb : b ≠ st := ne_of_none e hn
    refine s b o hb ?_
    rw [upd_ne hb]
    exact e
  rcases hs with (h | ⟨o, h⟩) | h
  · exact .inl (.inl (key _ _ h))
  · exact .inl (.inr ⟨o, key _ _ h⟩)
  · exact .inr h
/-- not the state: another kind of object, or one that came later -/
theorem StAt.ne {K : PySem.W.Frag} {H : Hp} {st a p : Addr} {ns : List Int} {o : HO} (h : StAt K H st a ns) (hp : H p = some o) (hd : ∀ xs, o ≠ .lst xs) : p ≠ st := by
  obtain ⟨_, _, _, h1, _⟩ := h.lst
  exact ne_of hp h1 (hd _)
theorem StAt.neN {K : PySem.W.Frag} {H : Hp} {st a p : Addr} {ns : List Int} (h : StAt K H st a ns) (hp : H p = none) : p ≠ st := by
  obtain ⟨_, _, _, h1, _⟩ := h.lst
  exact (ne_of_none h1 hp).symm
theorem StepsAt.monoB {K : PySem.W.Frag} {H H' : Hp} {st a : Addr} {ns : List Int} {vs : List V} {l : List Stp} (h : StAt K H st a ns) (s : SameB st H H') (hs : StepsAt H vs l) : StepsAt H' vs l :=
  pr_im (fun _ _ ⟨p, e1, e2⟩ => ⟨p, e1, s p _ (h.ne e2 fun xs z => nomatch z) e2⟩) hs
theorem PlanAt.monoB {K : PySem.W.Frag} {H H' : Hp} {st a C p : Addr} {ns : List Int} {l : List Stp} (h : StAt K H st a ns) (s : SameB st H H') (hp : PlanAt C H p l) : PlanAt C H' p l := by
  obtain ⟨dx, t, vs, h1, h2, h3⟩ := hp.ex
  exact ⟨dx, t, vs, s _ _ (h.ne h1 fun xs z => nomatch z) h1, s _ _ (h.ne h2 fun xs z => nomatch z) h2, StepsAt.monoB h s h3⟩
theorem SameB.free {K : PySem.W.Frag} {H H' : Hp} {st a p : Addr} {ns : List Int} (h : StAt K H' st a ns) (s : SameB st H H') (hp : H' p = none) : H p = none := by
  cases e : H p with
  | none => rfl
  | some o =>
    have := s p o (h.neN hp) e
    rw [hp] at this
    cases this
end Ch
namespace Ch
open PySem PySem.Spec PyProof.Rows L2 ChM
theorem StAt.putD {K : PySem.W.Frag} {H H1 : Hp} {st a D : Addr} {ns : List Int} {o : HO} (S0 : StAt K H st a ns) (S : StAt K H1 st a ns) (hD : H D = none) (sB : SameB st H H1) : StAt K (upd H1 D o) st a ns ∧ SameB st H (upd H1 D o) := by
  have sN : SameB st H (upd H1 D o) := fun b u hb e => by
    rw [upd_ne (ne_of_none e hD)]
    exact sB b u hb e
  obtain ⟨p1, p2, p3, p4, p5⟩ := S.lst
  exact ⟨⟨⟨p1, p2, p3, by rw [upd_ne (S0.neN hD).symm]; exact p4, p5⟩, fun H' s' => S0.scr H' (sN.trans s')⟩, sN⟩
end Ch

set_option Elab.async false
set_option linter.all false
set_option autoImplicit false
set_option maxRecDepth 100000
set_option maxHeartbeats 4000000
/-! ### == of lists and tuples of numbers -/
namespace Ch
open PySem PySem.Spec PyProof.Rows L2 ChM
def Lay (n : Nat) (d : PyData) : Prop := d.canLay0 = true ∧ d.depth ≤ n
theorem lay_all {n : Nat} : ∀ {ds : List PyData}, (∀ d ∈ ds, Lay n d) → PyData.canLayAll0 ds = true ∧ PyData.depthAll ds ≤ n
  | [], _ => by simp [PyData.canLayAll0, PyData.depthAll]
  | d :: ds, h => by
    obtain ⟨a, b⟩ := lay_all (ds := ds) fun e he => h e (List.mem_cons_of_mem _ he)
    obtain ⟨c, e⟩ := h d List.mem_cons_self
    refine ⟨by simp [PyData.canLayAll0, a, c], ?_⟩
    simp only [PyData.depthAll]
    omega
theorem lay_list {n : Nat} {ds : List PyData} (h : ∀ d ∈ ds, Lay n d) : Lay (n + 1) (.list ds) := by
  obtain ⟨a, b⟩ := lay_all h
  refine ⟨by simp only [PyData.canLay0]; exact a, ?_⟩
  simp only [PyData.depth]
  omega
theorem lay_tup {n : Nat} {ds : List PyData} (h : ∀ d ∈ ds, Lay n d) : Lay (n + 1) (.tuple ds) := by
  obtain ⟨a, b⟩ := lay_all h
  refine ⟨by simp only [PyData.canLay0]; exact a, ?_⟩
  simp only [PyData.depth]
  omega
theorem lay_int (n : Nat) (i : Int) : Lay n (.int i) := ⟨by simp [PyData.canLay0], by simp [PyData.depth]⟩
theorem lay_str (n : Nat) (i : Str) (h : PyData.strOk i = true) : Lay n (.str i) := ⟨by simp only [PyData.canLay0]; exact h, by simp [PyData.depth]⟩
theorem lay_bool (n : Nat) (i : Bool) : Lay n (.bool i) := ⟨by simp [PyData.canLay0], by simp [PyData.depth]⟩
theorem lay_none (n : Nat) : Lay n .none := ⟨by simp [PyData.canLay0], by simp [PyData.depth]⟩
theorem Lay.shaped {n : Nat} {d : PyData} (h : Lay n d) (hn : n ≤ 64 := by decide) : SeqAt.shaped d = true := by
  show (d.canLay0 && decide (d.depth ≤ 64)) = true
  rw [Bool.and_eq_true]
  exact ⟨h.1, decide_eq_true (Nat.le_trans h.2 hn)⟩
theorem lay_map {α : Type} {n : Nat} {f : α → PyData} (h : ∀ a, Lay n (f a)) (xs : List α) : ∀ d ∈ xs.map f, Lay n d := fun d hd => by
  obtain ⟨a, _, rfl⟩ := List.mem_map.mp hd
  exact h a
theorem eqvAll_map {α : Type} [DecidableEq α] {f : α → PyData} (h : ∀ a b, PyData.eqv (f a) (f b) = decide (a = b)) : ∀ xs ys : List α, PyData.eqvAll (xs.map f) (ys.map f) = decide (xs = ys)
  | [], [] => by simp [PyData.eqvAll]
  | [], _ :: _ => by simp [PyData.eqvAll]
  | _ :: _, [] => by simp [PyData.eqvAll]
  | x :: xs, y :: ys => by
    simp only [List.map_cons, PyData.eqvAll]
    rw [h, eqvAll_map h xs ys]
    by_cases e : x = y <;> by_cases e2 : xs = ys <;> simp [e, e2]
theorem eqv_int (a b : Int) : PyData.eqv (.int a) (.int b) = decide (a = b) := by
  simp only [PyData.eqv]
  by_cases e : a = b <;> simp [e]
theorem eqv_str (a b : Str) : PyData.eqv (.str a) (.str b) = decide (a = b) := by
  simp only [PyData.eqv]
  by_cases e : a = b
  · simp [e]
  · rw [decide_eq_false e]
    exact beq_false_of_ne e
theorem dpAll_ints {K : PySem.W.Frag} {H : Hp} : ∀ ns : List Int, DpAll K H (ns.map V.int) (ns.map PyData.int)
  | [] => .nil
  | n :: ns => .cons (.int n) (dpAll_ints ns)
section
variable {H : Hp} {Q : VK} {K : PySem.W.Frag} {p q : Addr} {ns ms : List Int} {a b c d : Int}
theorem x_neL (h1 : SqL K H p (ns.map V.int)) (h2 : SqL K H q (ms.map V.int)) (k : Q (.bl (!decide (ns = ms))) H) : rNeU K (.ref p) (.ref q) H Q := by
  refine x_neDp (.lst h1 (dpAll_ints ns)) (.lst h2 (dpAll_ints ms)) (lay_list (lay_map (lay_int 0) ns)).shaped (lay_list (lay_map (lay_int 0) ms)).shaped ?_
  have e : PyData.eqv (.list (ns.map PyData.int)) (.list (ms.map PyData.int)) = decide (ns = ms) := by
    simp only [PyData.eqv]
    exact eqvAll_map eqv_int ns ms
  rw [e]
  exact k
theorem x_eqL (h1 : SqL K H p (ns.map V.int)) (h2 : SqL K H q (ms.map V.int)) (k : Q (.bl (decide (ns = ms))) H) : rEqU K (.ref p) (.ref q) H Q := by
  refine x_eqDp (.lst h1 (dpAll_ints ns)) (.lst h2 (dpAll_ints ms)) (lay_list (lay_map (lay_int 0) ns)).shaped (lay_list (lay_map (lay_int 0) ms)).shaped ?_
  have e : PyData.eqv (.list (ns.map PyData.int)) (.list (ms.map PyData.int)) = decide (ns = ms) := by
    simp only [PyData.eqv]
    exact eqvAll_map eqv_int ns ms
  rw [e]
  exact k
theorem x_neTu (h1 : SqT K H p (ns.map V.int)) (h2 : SqT K H q (ms.map V.int)) (k : Q (.bl (!decide (ns = ms))) H) : rNeU K (.ref p) (.ref q) H Q := by
  refine x_neDp (.tup h1 (dpAll_ints ns)) (.tup h2 (dpAll_ints ms)) (lay_tup (lay_map (lay_int 0) ns)).shaped (lay_tup (lay_map (lay_int 0) ms)).shaped ?_
  have e : PyData.eqv (.tuple (ns.map PyData.int)) (.tuple (ms.map PyData.int)) = decide (ns = ms) := by
    simp only [PyData.eqv]
    exact eqvAll_map eqv_int ns ms
  rw [e]
  exact k
theorem x_eqTu (h1 : SqT K H p (ns.map V.int)) (h2 : SqT K H q (ms.map V.int)) (k : Q (.bl (decide (ns = ms))) H) : rEqU K (.ref p) (.ref q) H Q := by
  refine x_eqDp (.tup h1 (dpAll_ints ns)) (.tup h2 (dpAll_ints ms)) (lay_tup (lay_map (lay_int 0) ns)).shaped (lay_tup (lay_map (lay_int 0) ms)).shaped ?_
  have e : PyData.eqv (.tuple (ns.map PyData.int)) (.tuple (ms.map PyData.int)) = decide (ns = ms) := by
    simp only [PyData.eqv]
    exact eqvAll_map eqv_int ns ms
  rw [e]
  exact k
/-- (a, b) != (c, d) -/
theorem x_neP (h1 : H p = some (.tup [.int a, .int b])) (h2 : H q = some (.tup [.int c, .int d])) (k : Q (.bl (!decide (a = c ∧ b = d))) H) : rNeU K (.ref p) (.ref q) H Q := by
  refine x_neTu (ns := [a, b]) (ms := [c, d]) (SqT.of h1) (SqT.of h2) ?_
  rw [show decide ([a, b] = [c, d]) = decide (a = c ∧ b = d) by simp]
  exact k
theorem x_eqP (h1 : H p = some (.tup [.int a, .int b])) (h2 : H q = some (.tup [.int c, .int d])) (k : Q (.bl (decide (a = c ∧ b = d))) H) : rEqU K (.ref p) (.ref q) H Q := by
  refine x_eqTu (ns := [a, b]) (ms := [c, d]) (SqT.of h1) (SqT.of h2) ?_
  rw [show decide ([a, b] = [c, d]) = decide (a = c ∧ b = d) by simp]
  exact k
/-- numbers or None -/
theorem x_neG {x y : Option Int} (k : Q (.bl (!decide (x = y))) H) : rNeU K (goalV x) (goalV y) H Q := by
  refine .inl ⟨by cases x <;> cases y <;> rfl, ?_⟩
  rw [show decide (goalV x = goalV y) = decide (x = y) by cases x <;> cases y <;> simp [goalV]]
  exact k
theorem x_eqG {x y : Option Int} (k : Q (.bl (decide (x = y))) H) : rEqU K (goalV x) (goalV y) H Q := by
  refine .inl ⟨by cases x <;> cases y <;> rfl, ?_⟩
  rw [show decide (goalV x = goalV y) = decide (x = y) by cases x <;> cases y <;> simp [goalV]]
  exact k
/-- slices -/
theorem x_sl {r : V → Option Int → Option Int → Hp → VK → Prop} {te : TE} {tl th : TO} {σ : L2.St} (k : te σ H fun x H1 => tl σ H1 fun l H2 => th σ H2 fun u H3 => r x l u H3 Q) : L2.tSl r te tl th σ H Q := k
theorem x_slL {xs : List V} {lo hi : Option Int} (h : SqL K H p xs) (k : ∀ q, H q = none → Q (.ref q) (upd H q (.lst (cutV xs lo hi)))) : rSlL K (.ref p) lo hi H Q := ⟨p, xs, rfl, h, k⟩
theorem x_noPart {σ : L2.St} {QO : Option Int → Hp → Prop} (k : QO none H) : tNoPart σ H QO := k
theorem x_part {σ : L2.St} {te : TE} {QO : Option Int → Hp → Prop} (k : te σ H fun x H1 => ∃ i, x = .int i ∧ QO (some i) H1) : tPart te σ H QO := k
theorem x_partI {i : Int} {R : Int → Prop} (k : R i) : ∃ j, V.int i = .int j ∧ R j := ⟨i, rfl, k⟩
theorem x_rep {xs : List V} {n : Int} (h : H p = some (.lst xs)) (h0 : -(2 ^ 63) ≤ n) (h1 : n < 2 ^ 63) (h2 : xs.length * n.toNat ≤ sizeLine) (k : ∀ q, H q = none → Q (.ref q) (upd H q (.lst (List.replicate n.toNat xs).flatten))) : rTimes (.ref p) (.int n) H Q := .inr (.inr ⟨p, n, xs, rfl, rfl, h, h0, h1, h2, k⟩)
end
/-- a slice of paired lists -/
theorem pr_cut {β : Type} {R : V → β → Prop} {xs : List V} {ys : List β} (lo hi : Option Int) (h : Paired R xs ys) : Paired R (cutV xs lo hi) ((ys.drop (HT.sIx xs.length 0 lo)).take (HT.sIx xs.length xs.length hi - HT.sIx xs.length 0 lo)) := pr_take _ (pr_drop _ h)
end Ch
/-! ### new objects, the heap behind them named -/
namespace Ch
open PySem PySem.Spec PyProof.Rows L2 ChM
section
variable {H : Hp} {Q : VK} {K : PySem.W.Frag} {p q : Addr} {xs ys : List V} {o : HO} {n : Nat} {R : Addr → Hp → Prop}
theorem n_new (h : n ≤ sizeLine) (k : ∀ p H', H p = none → Same H H' → H' p = some o → R p H') : n ≤ sizeLine ∧ ∀ p, H p = none → R p (upd H p o) := ⟨h, fun p hp => k p _ hp (Same.new hp) upd_same⟩
theorem n_new0 (k : ∀ p H', H p = none → Same H H' → H' p = some o → R p H') : ∀ p, H p = none → R p (upd H p o) := fun p hp => k p _ hp (Same.new hp) upd_same
theorem n_slL {lo hi : Option Int} (h : SqL K H p xs) (k : ∀ q H', H q = none → Same H H' → H' q = some (.lst (cutV xs lo hi)) → Q (.ref q) H') : rSlL K (.ref p) lo hi H Q := x_slL h fun q hq => k q _ hq (Same.new hq) upd_same
theorem n_plusL (h1 : H p = some (.lst xs)) (h2 : H q = some (.lst ys)) (h3 : xs.length + ys.length ≤ sizeLine) (k : ∀ r H', H r = none → Same H H' → H' r = some (.lst (xs ++ ys)) → Q (.ref r) H') : rPlus (.ref p) (.ref q) H Q := x_plusL h1 h2 h3 fun q hq => k q _ hq (Same.new hq) upd_same
theorem n_rep {i : Int} (h : H p = some (.lst xs)) (h0 : -(2 ^ 63) ≤ i) (h1 : i < 2 ^ 63) (h2 : xs.length * i.toNat ≤ sizeLine) (k : ∀ q H', H q = none → Same H H' → H' q = some (.lst (List.replicate i.toNat xs).flatten) → Q (.ref q) H') : rTimes (.ref p) (.int i) H Q := x_rep h h0 h1 h2 fun q hq => k q _ hq (Same.new hq) upd_same
theorem fits_sub {h : Int} {l l' : List Stp} (hl : fitsS h l) (hs : ∀ s ∈ l', s ∈ l) : fitsS h l' := fun b n hm => hl b n (hs _ hm)
theorem mem_cut {α : Type} {l : List α} {a b : Nat} {s : α} (h : s ∈ (l.drop a).take b) : s ∈ l := List.mem_of_mem_drop (List.mem_of_mem_take h)
theorem fits_app {h : Int} {l m : List Stp} (hl : fitsS h l) (hm : fitsS h m) : fitsS h (l ++ m) := fun b n hx => by
  rcases List.mem_append.mp hx with z | z
  · exact hl b n z
  · exact hm b n z
end
end Ch
namespace Ch
open PySem PySem.Spec PyProof.Rows L2
theorem nws {H H' : Hp} {p : Addr} {o : HO} (h : upd H p o = H') (hp : H p = none) : Same H H' ∧ H' p = some o := by
  subst h
  exact ⟨Same.new hp, upd_same⟩
end Ch
namespace Ch
open PySem PySem.Spec PyProof.Rows L2 ChM
theorem StepsAt.put {H : Hp} {p : Addr} {vs : List V} {l : List Stp} (s : Stp) (h : H p = some (.tup (stepV s))) (t : StepsAt H vs l) : StepsAt H (.ref p :: vs) (s :: l) := .cons ⟨p, rfl, h⟩ t
end Ch
/-! ### ways that meet -/
namespace Ch
open PySem PySem.Spec PyProof.Rows L2
section
variable {σ : L2.St} {H : Hp} {D : Ends} {t : TT} {t1 t2 : TS} {b : Bool}
/-- if: what is known of everything behind it -/
theorem x_ifM (R : L2.St → Hp → Prop) (hT : b = true → ∀ N : L2.St → Hp → Prop, (∀ σ' H', R σ' H' → N σ' H') → t1 { D with nx := N } σ H) (hF : b = false → ∀ N : L2.St → Hp → Prop, (∀ σ' H', R σ' H' → N σ' H') → t2 { D with nx := N } σ H) (h1 : ∀ σ' H', R σ' H' → D.nx σ' H') :
    if b = true then t1 D σ H else t2 D σ H := by
  cases b with
  | true => exact hT rfl _ h1
  | false => exact hF rfl _ h1
theorem x_ifMd {c : Prop} [Decidable c] (R : L2.St → Hp → Prop) (hT : c → ∀ N : L2.St → Hp → Prop, (∀ σ' H', R σ' H' → N σ' H') → t1 { D with nx := N } σ H) (hF : ¬ c → ∀ N : L2.St → Hp → Prop, (∀ σ' H', R σ' H' → N σ' H') → t2 { D with nx := N } σ H) (h1 : ∀ σ' H', R σ' H' → D.nx σ' H') :
    if decide c = true then t1 D σ H else t2 D σ H := x_ifM R (fun e => hT (of_decide_eq_true e)) (fun e => hF (of_decide_eq_false e)) h1
/-- an if that is passed by -/
theorem x_skip (R : Hp → Prop) (hf : ∀ QT : Bool → Hp → Prop, (∀ H', R H' → QT false H') → t σ H QT) (h1 : ∀ H', R H' → t2 D σ H') : tIfS t t1 t2 D σ H := hf _ fun H' r => h1 H' r
end
end Ch
namespace Ch
open PySem PySem.Spec PyProof.Rows L2
/-- c or e, true in any way -/
theorem x_orK {c : Prop} [Decidable c] {tb : TE} {σ : L2.St} {H : Hp} {k : VK} (hF : ¬ c → ∀ Q' : VK, Q' (.bl true) H → tb σ H Q') (h : k (.bl true) H) : if decide c = true then k (.bl true) H else tb σ H k := by
  by_cases e : c
  · rw [decide_eq_true e]
    exact h
  · rw [decide_eq_false e]
    exact hF e _ h
theorem x_aug {i : Nat} {te : TE} {ti : TIp} {D : Ends} {σ : L2.St} {H : Hp} {v : V} (h : σ[i]? = some (some v)) (k : te σ H fun y H1 => ti v y H1 fun z H2 => D.nx (σ.set i (some z)) H2) : tAug i te ti D σ H := ⟨v, h, k⟩
theorem x_ipI {f : Int → Int → Int} {i j : Int} {H : Hp} {Q : VK} (k : Q (.int (f i j)) H) : ipI f (.int i) (.int j) H Q := ⟨i, j, rfl, rfl, k⟩
end Ch

set_option Elab.async false
set_option linter.all false
set_option autoImplicit false
set_option maxRecDepth 100000
set_option maxHeartbeats 4000000
/-! ### max of a tuple of ints -/
namespace Ch
open PySem PySem.Spec PyProof.Rows L2
section
variable {prog : Program} {w : World} {A : Around} {E : Value → Shared → Prop} {s : Shared}
theorem max_intTup {l : Addr} {xs : Array (Int × Tok)} {Q : Value → Shared → Prop} (hh : A.handled = none) (hl : s.heap.IsTuple l (intItems xs)) (hne : 0 < xs.size)
    (h : ∀ v h' tk, (intItems xs)[argBest (fun i j => decide (numAt xs i > numAt xs j)) (xs.size - 1)]? = some v → (∀ b o, s.heap.get? b = some o → h'.get? b = some o) → Q v { s with heap := h', toks := tk }) :
    wpAny (model prog w) A (call (.builtin "max") [.ref l]) Q E s := by
  have hlt : l < s.heap.objs.size := by
    obtain ⟨o, ho, _⟩ := hl
    exact Heap.lt_size ho
  refine call_max_walk (wpAny_pyIter_tuple hl ?_)
  refine ⟨_, [_, l], [_], _, _, _, _, rfl, Walks.tuple (A := A.in1) hh _ l (Nat.ne_of_lt hlt) (intItems xs),
    ⟨⟨_, Heap.get?_push_size _ rfl, rfl, rfl⟩, hl.push _⟩, fun c hc => ?_, by simpa [intItems] using hne, CmpOf.ints_gt (numAt xs) (fun _ _ => intItems_at), fun v h' tk hP hk => ?_⟩
  · show c < (s.heap.push _).objs.size
    rw [Heap.size_push]
    rcases List.mem_cons.mp hc with rfl | hc
    · exact Nat.lt_succ_self _
    · rcases List.mem_cons.mp hc with rfl | hc
      · exact Nat.lt_succ_of_lt hlt
      · cases hc
  · refine h v h' tk (by simpa [intItems] using hP) fun b o e => hk b o (fun hm => ?_) (Heap.get?_push_of_some _ e)
    rcases List.mem_cons.mp hm with e1 | hm
    · exact absurd (e1 ▸ Heap.lt_size e) (Nat.lt_irrefl _)
    · cases hm
theorem maxT_raw {l : Addr} {its : List Value} {ns : List Int} {Q : Value → Shared → Prop} (hh : A.handled = none) (hl : s.heap.IsTuple l its.toArray) (hi : IntsAre its ns) (hne : 0 < ns.length)
    (h : ∀ h' tk M t', (∀ b o, s.heap.get? b = some o → h'.get? b = some o) → M ∈ ns → (∀ a, a ∈ ns → a ≤ M) → Q (.int M t') { s with heap := h', toks := tk }) : wpAny (model prog w) A (call (.builtin "max") [.ref l]) Q E s := by
  obtain ⟨xs, e⟩ := hi.allInts.items
  have hn : numsOf (intItems xs).toList = ns := by rw [← e]; exact hi.numsOf
  rw [nums_intItems] at hn
  subst hn
  rw [e] at hl
  have hsz : 0 < xs.size := by simpa using hne
  refine max_intTup hh hl hsz fun v h' tk hv hk => ?_
  obtain ⟨t, rfl⟩ := intItems_at hv
  obtain ⟨h1, h2⟩ := argBest_gt (numAt xs) (xs.size - 1)
  refine h h' tk _ t hk ?_ fun a ha => ?_
  · rw [numAt_eq]; exact PySem.getD_mem (by rw [List.length_map, Array.length_toList]; omega)
  · obtain ⟨j, hj, rfl⟩ := mem_getD ha
    rw [List.length_map, Array.length_toList] at hj
    rw [← numAt_eq]; exact h2 j (by omega)
end
def rMaxT (K : PySem.W.Frag) : List V → Hp → VK → Prop := fun vs H Q => ∃ (a : Addr) (ns : List Int), vs = [V.ref a] ∧ SqT K H a (ns.map V.int) ∧ 0 < ns.length ∧ ∀ m, m ∈ ns → (∀ y, y ∈ ns → y ≤ m) → Q (.int m) H
theorem cr_maxT {X : Cx} (hc : X.calm = true) : CallR X (.builtin "max") (rMaxT X.K) := by
  intro pins s σ H vs us Q I r h
  obtain ⟨a, ns, rfl, hs, hne, q⟩ := h
  obtain ⟨its, rv, hl, _⟩ := I.tuple hs
  rw [Vals.ref1 r]
  exact maxT_raw (I.ok.hd hc) hl rv.ints hne fun h' tk m t' hk h1 h2 => ⟨.int _, H, I.kept hk, ⟨_, rfl⟩, q m h1 h2⟩
theorem c_maxTK {X : Cx} (K : PySem.W.Frag) (hc : X.calm = true) (hK : X.K = K := by rfl) : CallR X (.builtin "max") (rMaxT K) := by subst hK; exact cr_maxT hc
theorem x_maxT {H : Hp} {Q : VK} {K : PySem.W.Frag} {p : Addr} {ns : List Int} (h : SqT K H p (ns.map V.int)) (h0 : 0 < ns.length) (k : ∀ m, m ∈ ns → (∀ y ∈ ns, y ≤ m) → Q (.int m) H) : rMaxT K [.ref p] H Q := ⟨p, ns, rfl, h, h0, k⟩
end Ch
/-! ### xs[i] op= e -/
namespace Ch
open PySem PySem.Spec PyProof.Rows L2
def rGetL (K : PySem.W.Frag) : V → V → Hp → VK → Prop := fun x y H Q => ∃ p xs i v, x = .ref p ∧ y = .int i ∧ SqL K H p xs ∧ 0 ≤ i ∧ atI xs i = some v ∧ Q v H
theorem get_list {X : Cx} : PGet X (rGetL X.K) := by
  intro pins s σ H x y v u Q I rx ry h
  obtain ⟨p, xs, i, z, rfl, rfl, hq, h0, he, q⟩ := h
  cases rx
  obtain ⟨t, rfl⟩ := ry
  obtain ⟨its, r, pl, hz⟩ := I.list hq
  obtain ⟨j, h1, h2, h3, h4, h5⟩ := atI_get he
  obtain ⟨w, ew, rw'⟩ := r.get h2
  have hl := r.length
  have hn := line63
  have hj : i.toNat = j := by
    rw [seqIndex_of h0 h5] at h1
    exact Option.some.inj h1
  exact wpAny_getItem_list pl.isList h0 (by omega) (by rw [hj]; simpa using ew) ⟨z, H, I, rw', q⟩
theorem get_listK {X : Cx} (K : PySem.W.Frag) (hK : X.K = K := by rfl) : PGet X (rGetL K) := by subst hK; exact get_list
section
variable {σ : L2.St} {H : Hp} {D : Ends} {K : PySem.W.Frag} {p : Addr} {xs : List V} {i : Int} {v : V} {Q : VK}
theorem x_augS {to ti te : TE} {tget : V → V → Hp → VK → Prop} {tip : TIp} {tset : TSet} (k : to σ H fun o H1 => ti σ H1 fun i H2 => tget o i H2 fun x H3 => te σ H3 fun y H4 => tip x y H4 fun z H5 => tset o i z H5 fun H6 => D.nx σ H6) : tAugS to ti te tget tip tset D σ H := k
theorem x_getL (h : SqL K H p xs) (h0 : 0 ≤ i) (e : atI xs i = some v) (k : Q v H) : rGetL K (.ref p) (.int i) H Q := ⟨p, xs, i, v, rfl, rfl, h, h0, e, k⟩
end
end Ch
/-! ### cls(*e), cls a local name -/
namespace Ch
open PySem PySem.Spec PyProof.Rows L2
def tMkV (i : Nat) (C : Addr) (sp : Sp) (E : XK) (t : TA) : TE := fun σ H Q => σ[i]? = some (some (.ref C)) ∧ tMk C sp E t σ H Q
theorem pe_mkSV {X : Cx} {CX : CXT} {k i : Nat} {f C : Addr} {sp : Sp} {E : XK} {x : Str} {np pos sp_ : Pos} {e : Expr} {ta : TE} (M : Mk X.K C f) (F : FnR X.prog X.w X.K X.mg X.base CX k f sp) (hr : Room (k + 1) X.A) (hx : Passes CX X E) (hN : X.N[i]? = some x) (hv : Vis X.env.scope x) (he : PE X e ta)
    (hd : (x == ("__debug__" : Str)) = false := by decide) (hcd : (x == ("__classdict__" : Str)) = false := by decide)
    (hst : starEach [.Starred e sp_] X.env = [(true, eval e X.env)] := by rfl) : PE X (.Call (.Name x np) [.Starred e sp_] [] pos) (tMkV i C sp E (tStarA X.K ta)) := by
  refine ⟨fun pins s σ H Q I h => ?_⟩
  obtain ⟨hs, h⟩ := h
  refine wpAny_Call_Name_kw (thn ((pe_var (pos := np) (i := i) hN hv hd hcd).run pins s σ H (fun v H1 => v = .ref C ∧ H1 = H) I ⟨.ref C, hs, rfl, rfl⟩) fun u s1 ⟨v, H1, I1, r1, ev, eH⟩ => ?_)
  subst ev
  rw [eH] at I1
  cases r1
  refine PySem.W.callWith_S (h₀ := X.base) I1.ok.mod.kin M.kp (thn (he.run pins s1 σ H _ I1 h) fun v s1 ⟨y, H1, I1, ry, a, xs, ey, hxs, q⟩ => ?_) hst
  subst ey
  obtain rfl : v = Value.ref a := ry
  exact StX.star_any I1 hxs fun us s2 I2 rv => ⟨I2.kIn, StX.run_makeR M F hr hx I2 rv q⟩
end Ch

set_option linter.all false
set_option autoImplicit false
set_option maxRecDepth 100000
set_option maxHeartbeats 4000000
namespace ChM
/-! ### effects written out -/
theorem eff_ext {e f : Eff} (h1 : e.c = f.c) (h2 : e.lo = f.lo) (h3 : e.hi = f.hi) (h4 : e.ex = f.ex) (h5 : e.goal = f.goal) (h6 : e.tu = f.tu) : e = f := by
  cases e; cases f
  cases h1; cases h2; cases h3; cases h4; cases h5; cases h6
  rfl
theorem mir_some (c lo hi ex g : Int) (t : Bool) : (⟨c, lo, hi, ex, some g, t⟩ : Eff).mir = ⟨c, c - hi, c - lo, ex, some (c - g), t⟩ := mkE_some
theorem mir_none (c lo hi ex : Int) (t : Bool) (h : lo < hi) : (⟨c, lo, hi, ex, none, t⟩ : Eff).mir = ⟨c, c - hi, c - lo, ex, none, t⟩ := mkE_none (show c - hi < c - lo by omega)
theorem atLeast_some (c lo hi ex g n : Int) (t : Bool) : (⟨c, lo, hi, ex, some g, t⟩ : Eff).atLeast n = if n ≤ g then ⟨c, lo, hi, ex, some g, t⟩ else ⟨c, lo, hi, ex + n - g, some n, t⟩ := by
  unfold Eff.atLeast
  dsimp only
  rw [mkE_some]
theorem atMost_some (c lo hi ex g m : Int) (t : Bool) : (⟨c, lo, hi, ex, some g, t⟩ : Eff).atMost m = if g ≤ m then ⟨c, lo, hi, ex, some g, t⟩ else ⟨c, lo, hi, ex + g - m, some m, t⟩ := by
  unfold Eff.atMost
  rw [mir_some, atLeast_some]
  show Eff.mir (if c - m ≤ c - g then _ else _) = _
  by_cases h : g ≤ m
  · rw [if_pos (by omega), if_pos h, mir_some]
    refine eff_ext rfl ?_ ?_ rfl ?_ rfl
    · show c - (c - lo) = lo; omega
    · show c - (c - hi) = hi; omega
    · show some (c - (c - g)) = some g; congr 1; omega
  · rw [if_neg (by omega), if_neg h, mir_some]
    refine eff_ext rfl ?_ ?_ ?_ ?_ rfl
    · show c - (c - lo) = lo; omega
    · show c - (c - hi) = hi; omega
    · show ex + (c - m) - (c - g) = ex + g - m; omega
    · show some (c - (c - m)) = some m; congr 1; omega
theorem atLeast_none (c lo hi ex n : Int) (t : Bool) : (⟨c, lo, hi, ex, none, t⟩ : Eff).atLeast n = if n ≤ hi then mkE c (mx lo n) hi 0 none t else ⟨c, hi, hi, n - hi, some n, t⟩ := by
  unfold Eff.atLeast
  dsimp only
  rw [mkE_some]
theorem atMost_none (c lo hi ex m : Int) (t : Bool) (h : lo < hi) : (⟨c, lo, hi, ex, none, t⟩ : Eff).atMost m = if lo ≤ m then mkE c lo (mn hi m) 0 none t else ⟨c, lo, lo, lo - m, some m, t⟩ := by
  unfold Eff.atMost
  rw [mir_none _ _ _ _ _ h, atLeast_none]
  show Eff.mir (if c - m ≤ c - lo then _ else _) = _
  by_cases q : lo ≤ m
  · rw [if_pos (by omega), if_pos q]
    have a := mx_def (c - hi) (c - m)
    have b := mn_def hi m
    by_cases e : lo = mn hi m
    · rw [← e, mkE_eq]
      have e2 : mx (c - hi) (c - m) = c - lo := by omega
      rw [e2, mkE_eq, mir_some]
      refine eff_ext rfl ?_ ?_ rfl ?_ rfl
      · show c - (c - lo) = lo; omega
      · show c - (c - lo) = lo; omega
      · show some (c - (c - lo)) = some lo; congr 1; omega
    · rw [mkE_none (show lo < mn hi m by omega), mkE_none (show mx (c - hi) (c - m) < c - lo by omega), mir_none _ _ _ _ _ (by omega)]
      refine eff_ext rfl ?_ ?_ rfl rfl rfl
      · show c - (c - lo) = lo; omega
      · show c - mx (c - hi) (c - m) = mn hi m; omega
  · rw [if_neg (by omega), if_neg q, mir_some]
    refine eff_ext rfl ?_ ?_ ?_ ?_ rfl
    · show c - (c - lo) = lo; omega
    · show c - (c - lo) = lo; omega
    · show c - m - (c - lo) = lo - m; omega
    · show some (c - (c - m)) = some m; congr 1; omega
theorem nothing_pos {c : Int} (h : 0 < c) : nothing c = ⟨c, 0, c, 0, none, false⟩ := mkE_none h
/-! ### known houses -/
theorem two_eff {a b s : Int} (a1 : 1 ≤ a) (b1 : 1 ≤ b) (s1 : 1 ≤ s) (sa : s ≤ a) (sb : s ≤ b) : effOf (a + b - s) [.mt true a, .mt false b] = ⟨a + b - s, a, a, s, some (a - s), false⟩ := by
  have es : sides 1 [.mt true a, .mt false b] = [(1, a), (-1, b)] := rfl
  have m0 : mx 0 a = a := by have := mx_def 0 a; omega
  have st1 : effStep (a + b - s) (nothing (a + b - s)) (1, a) = mkE (a + b - s) a (a + b - s) 0 none false := by
    rw [nothing_pos (by omega)]
    unfold effStep
    rw [if_pos rfl, atLeast_none, if_pos (by show a ≤ a + b - s; omega), m0]
  have st2 : effStep (a + b - s) (mkE (a + b - s) a (a + b - s) 0 none false) (-1, b) = ⟨a + b - s, a, a, s, some (a - s), false⟩ := by
    unfold effStep
    rw [if_neg (show ¬ ((-1 : Int) = 1) by decide), if_pos rfl]
    show Eff.atMost _ (a + b - s - b) = _
    by_cases h : a = a + b - s
    · rw [← h, mkE_eq, atMost_some, if_neg (by omega)]
      refine eff_ext rfl rfl rfl ?_ ?_ rfl
      · show 0 + a - (a - b) = s; omega
      · show some (a - b) = some (a - s); congr 1; omega
    · rw [mkE_none (by omega), atMost_none _ _ _ _ _ _ (by omega), if_neg (by omega)]
      refine eff_ext rfl rfl rfl ?_ ?_ rfl
      · show a - (a + b - s - b) = s; omega
      · show some (a + b - s - b) = some (a - s); congr 1; omega
  have ef : effFold (a + b - s) (sides 1 [.mt true a, .mt false b]) = ⟨a + b - s, a, a, s, some (a - s), false⟩ := by
    rw [es]
    show effStep _ (effStep _ (nothing (a + b - s)) (1, a)) (-1, b) = _
    rw [st1, st2]
  show mkE (a + b - s) (effFold (a + b - s) (sides 1 [.mt true a, .mt false b])).lo _ _ _ _ = _
  rw [ef]
  exact mkE_some
theorem turn_eff {a s : Int} (a1 : 1 ≤ a) (s1 : 1 ≤ s) (sa : s ≤ a) : effOf (2 * a - s) [.mt true a, .turn] = ⟨2 * a - s, a, 2 * a - s, 0, (if a < 2 * a - s then none else some a), true⟩ := by
  have es : sides 1 [.mt true a, .turn] = [(1, a), (0, 0)] := rfl
  have m0 : mx 0 a = a := by have := mx_def 0 a; omega
  have ef : effFold (2 * a - s) (sides 1 [.mt true a, .turn]) = mkE (2 * a - s) a (2 * a - s) 0 none false := by
    rw [es]
    show effStep (2 * a - s) (effStep (2 * a - s) (nothing (2 * a - s)) (1, a)) (0, 0) = _
    rw [nothing_pos (by omega)]
    have t1 : effStep (2 * a - s) ⟨2 * a - s, 0, 2 * a - s, 0, none, false⟩ (1, a) = mkE (2 * a - s) a (2 * a - s) 0 none false := by
      unfold effStep
      rw [if_pos rfl, atLeast_none, if_pos (by show a ≤ 2 * a - s; omega), m0]
    rw [t1]
    unfold effStep
    rw [if_neg (show ¬ ((0 : Int) = 1) by decide), if_neg (show ¬ ((0 : Int) = -1) by decide)]
  show mkE (2 * a - s) (effFold (2 * a - s) (sides 1 [.mt true a, .turn])).lo (effFold (2 * a - s) (sides 1 [.mt true a, .turn])).hi (effFold (2 * a - s) (sides 1 [.mt true a, .turn])).ex (effFold (2 * a - s) (sides 1 [.mt true a, .turn])).goal true = _
  rw [ef]
  by_cases h : a < 2 * a - s
  · rw [if_pos h, mkE_none h]
    exact mkE_none h
  · have e : a = 2 * a - s := by omega
    rw [if_neg h, ← e, mkE_eq]
    exact mkE_some
end ChM

set_option linter.all false
set_option autoImplicit false
set_option maxRecDepth 100000
set_option maxHeartbeats 4000000
namespace ChM
open Ch
/-! ### simple plans, in plain -/
def lastW (c g : Int) (m : Nat) : Int := if m % 2 = 0 then c - g else g
def longW (c b g : Int) (m : Nat) (up : Bool) : Int := if up then c - b + c * ((m : Int) - 2) + lastW c g m else c - (c - b) + c * ((m : Int) - 2) + lastW c (c - g) m
def placesL (c g : Int) (m : Nat) (up : Bool) : List Int := rgI (fun j => if decide (decide (j % 2 = 0) = up) then c else 0) (m - 1) ++ [g]
def shortGo : Int → List Int → Int → List Int
  | _, [], _ => []
  | _, [z], _ => [z]
  | pv, z :: nx :: r, sl =>
    let st : Int := if z > pv then 1 else -1
    let less := mn sl (absI (z - mx (pv * st) (nx * st) * st) - 1)
    (z - less * st) :: shortGo (z - less * st) (nx :: r) (sl - less)
def possW (c b g : Int) (m : Nat) (up : Bool) : Bool := if up then decide (b < c) && (if m % 2 = 0 then decide (g < c) else decide (g > 0)) else decide (b > 0) && (if m % 2 = 0 then decide (g > 0) else decide (g < c))
/-- so many moves do, the first goes so -/
def doesW (c b g L : Int) (m : Nat) (up : Bool) : Prop := possW c b g m up = true ∧ L ≤ longW c b g m up
def WayOf (c b g L : Int) (up : Bool) (zs : List Int) : Prop :=
  (L = absI (g - b) ∧ up = decide (g > b) ∧ zs = [g]) ∨
  (L ≠ absI (g - b) ∧ ∃ m : Nat, 2 ≤ m ∧ doesW c b g L m up ∧ (∀ m' u, 2 ≤ m' → m' < m → ¬ doesW c b g L m' u) ∧ (up = false → ¬ doesW c b g L m true) ∧ zs = shortGo b (placesL c g m up) ((longW c b g m up - L) / 2))
def stepTo (c z : Int) (up : Bool) : Stp := if up then .mt true z else .mt false (c - z)
def zsteps (c : Int) : Bool → List Int → List Stp
  | _, [] => []
  | up, z :: r => stepTo c z up :: zsteps c (!up) r
def SimpleOf (e : Eff) (l : List Stp) : Prop :=
  (e.ex = 0 ∧ l = (if e.lo > 0 then [stepTo e.c e.lo true] else []) ++ (if e.hi < e.c then [stepTo e.c e.hi false] else [])) ∨
  (e.ex ≠ 0 ∧ ∃ g up zs, e.goal = some g ∧ WayOf e.c e.lo g e.ex up zs ∧ l = stepTo e.c e.lo (!up) :: zsteps e.c up zs)
theorem shortGo_len : ∀ (zs : List Int) (pv sl : Int), (shortGo pv zs sl).length = zs.length
  | [], _, _ => rfl
  | [_], _, _ => rfl
  | z :: nx :: r, pv, sl => congrArg (· + 1) (shortGo_len (nx :: r) _ _)
theorem zsteps_snoc (c : Int) : ∀ (zs : List Int) (up : Bool) (z : Int), zsteps c up (zs ++ [z]) = zsteps c up zs ++ [stepTo c z (if zs.length % 2 = 0 then up else !up)]
  | [], up, z => rfl
  | y :: r, up, z => by
    show stepTo c y up :: zsteps c (!up) (r ++ [z]) = stepTo c y up :: (zsteps c (!up) r ++ _)
    rw [zsteps_snoc c r (!up) z]
    congr 3
    show _ = stepTo c z (if (r.length + 1) % 2 = 0 then up else !up)
    congr 1
    by_cases h : r.length % 2 = 0
    · rw [if_pos h, if_neg (by omega)]
    · rw [if_neg h, if_pos (by omega), Bool.not_not]
theorem zsteps_len (c : Int) : ∀ (zs : List Int) (up : Bool), (zsteps c up zs).length = zs.length
  | [], _ => rfl
  | y :: r, up => congrArg (· + 1) (zsteps_len c r (!up))
/-! ### zigzags -/
def Zig : Bool → Int → List Int → Prop
  | _, _, [] => True
  | up, pv, z :: r => (if up = true then pv < z else z < pv) ∧ Zig (!up) z r
def inR (c : Int) (l : List Int) : Prop := ∀ z ∈ l, 0 ≤ z ∧ z ≤ c
theorem inR_cons {c z : Int} {l : List Int} (h : 0 ≤ z ∧ z ≤ c) (t : inR c l) : inR c (z :: l) := fun y hy => by
  rcases List.mem_cons.mp hy with e | e
  · subst e; exact h
  · exact t y e
theorem inR_tail {c z : Int} {l : List Int} (h : inR c (z :: l)) : (0 ≤ z ∧ z ≤ c) ∧ inR c l := ⟨h z List.mem_cons_self, fun y hy => h y (List.mem_cons_of_mem _ hy)⟩
/-- how much one place gives way -/
def lessAt (up : Bool) (pv z nx sl : Int) : Int := if up = true then mn sl (z - mx pv nx - 1) else mn sl (mn pv nx - z - 1)
theorem short_up {pv z nx sl : Int} {r : List Int} (h1 : pv < z) (h2 : nx < z) : shortGo pv (z :: nx :: r) sl = (z - lessAt true pv z nx sl) :: shortGo (z - lessAt true pv z nx sl) (nx :: r) (sl - lessAt true pv z nx sl) := by
  have e : mn sl (absI (z - mx (pv * 1) (nx * 1) * 1) - 1) = lessAt true pv z nx sl := by
    unfold lessAt
    rw [if_pos rfl, Int.mul_one, Int.mul_one, Int.mul_one]
    have := mx_def pv nx
    congr 1
    unfold absI
    rw [if_neg (by omega)]
  show (let st : Int := if z > pv then 1 else -1
    let less := mn sl (absI (z - mx (pv * st) (nx * st) * st) - 1)
    (z - less * st) :: shortGo (z - less * st) (nx :: r) (sl - less)) = _
  rw [if_pos h1]
  dsimp only
  rw [e, Int.mul_one]
theorem short_dn {pv z nx sl : Int} {r : List Int} (h1 : z < pv) (h2 : z < nx) : shortGo pv (z :: nx :: r) sl = (z + lessAt false pv z nx sl) :: shortGo (z + lessAt false pv z nx sl) (nx :: r) (sl - lessAt false pv z nx sl) := by
  have e : mn sl (absI (z - mx (pv * -1) (nx * -1) * -1) - 1) = lessAt false pv z nx sl := by
    unfold lessAt
    rw [if_neg (by decide)]
    have := mx_def (pv * -1) (nx * -1)
    have := mn_def pv nx
    congr 1
    unfold absI
    split <;> omega
  show (let st : Int := if z > pv then 1 else -1
    let less := mn sl (absI (z - mx (pv * st) (nx * st) * st) - 1)
    (z - less * st) :: shortGo (z - less * st) (nx :: r) (sl - less)) = _
  rw [if_neg (show ¬ z > pv by omega)]
  dsimp only
  rw [e, show z - lessAt false pv z nx sl * -1 = z + lessAt false pv z nx sl by omega]
theorem shortGo_zig (c : Int) : ∀ (zs : List Int) (up : Bool) (pv sl : Int), Zig up pv zs → inR c zs → 0 ≤ sl → Zig up pv (shortGo pv zs sl) ∧ inR c (shortGo pv zs sl)
  | [], _, _, _, _, _, _ => ⟨trivial, fun z hz => nomatch hz⟩
  | [z], _, _, _, h, hr, _ => ⟨h, hr⟩
  | z :: nx :: r, up, pv, sl, h, hr, hs => by
    obtain ⟨h1, h2, h3⟩ := h
    obtain ⟨rz, rt⟩ := inR_tail hr
    obtain ⟨rn, _⟩ := inR_tail rt
    cases up with
    | true =>
      have h1 : pv < z := h1
      have h2 : nx < z := h2
      rw [short_up h1 h2]
      have hl : lessAt true pv z nx sl = mn sl (z - mx pv nx - 1) := rfl
      generalize lessAt true pv z nx sl = le at *
      have := mx_def pv nx
      have := mn_def sl (z - mx pv nx - 1)
      obtain ⟨a, b⟩ := shortGo_zig c (nx :: r) false (z - le) (sl - le) ⟨by show nx < z - le; omega, h3⟩ rt (by omega)
      exact ⟨⟨by show pv < z - le; omega, a⟩, inR_cons (by omega) b⟩
    | false =>
      have h1 : z < pv := h1
      have h2 : z < nx := h2
      rw [short_dn h1 h2]
      have hl : lessAt false pv z nx sl = mn sl (mn pv nx - z - 1) := rfl
      generalize lessAt false pv z nx sl = le at *
      have := mn_def pv nx
      have := mn_def sl (mn pv nx - z - 1)
      obtain ⟨a, b⟩ := shortGo_zig c (nx :: r) true (z + le) (sl - le) ⟨by show z + le < nx; omega, h3⟩ rt (by omega)
      exact ⟨⟨by show z + le < pv; omega, a⟩, inR_cons (by omega) b⟩
def placesR (c g : Int) : Nat → Bool → List Int
  | 0, _ => [g]
  | k + 1, up => (if up = true then c else 0) :: placesR c g k (!up)
theorem rgI_cons {f : Int → Int} {n : Nat} : rgI f (n + 1) = f 0 :: rgI (fun j => f (j + 1)) n := by
  unfold rgI
  rw [List.range_succ_eq_map, List.map_cons, List.map_map]
  refine congrArg (f 0 :: ·) ?_
  refine List.map_congr_left fun j _ => ?_
  show f ((j + 1 : Nat) : Int) = f ((j : Int) + 1)
  rw [Int.natCast_add]; rfl
theorem places_eq (c g : Int) : ∀ (k : Nat) (up : Bool), placesL c g (k + 1) up = placesR c g k up
  | 0, _ => rfl
  | k + 1, up => by
    show rgI (fun j => if decide (decide (j % 2 = 0) = up) then c else 0) (k + 1) ++ [g] = (if up = true then c else 0) :: placesR c g k (!up)
    rw [rgI_cons, List.cons_append, ← places_eq c g k (!up)]
    congr 1
    · cases up <;> rfl
    · show _ = rgI (fun j => if decide (decide (j % 2 = 0) = !up) then c else 0) k ++ [g]
      congr 2
      funext j
      have e : decide (decide ((j + 1) % 2 = 0) = up) = decide (decide (j % 2 = 0) = !up) := by
        by_cases h : j % 2 = 0
        · rw [decide_eq_true h, decide_eq_false (show ¬ (j + 1) % 2 = 0 by omega)]
          cases up <;> rfl
        · rw [decide_eq_false h, decide_eq_true (show (j + 1) % 2 = 0 by omega)]
          cases up <;> rfl
      rw [e]
theorem placesR_len (c g : Int) : ∀ (k : Nat) (up : Bool), (placesR c g k up).length = k + 1
  | 0, _ => rfl
  | k + 1, up => congrArg (· + 1) (placesR_len c g k (!up))
theorem placesR_in {c g : Int} (hc : 0 ≤ c) (hg : 0 ≤ g ∧ g ≤ c) : ∀ (k : Nat) (up : Bool), inR c (placesR c g k up)
  | 0, _ => inR_cons hg fun z hz => nomatch hz
  | k + 1, up => inR_cons (by cases up <;> simp [hc]) (placesR_in hc hg k (!up))
/-- the direction of the last of so many moves -/
def lastUp : Nat → Bool → Bool
  | 0, up => up
  | k + 1, up => lastUp k (!up)
theorem lastUp_par : ∀ (k : Nat) (up : Bool), lastUp k up = if k % 2 = 0 then up else !up
  | 0, _ => rfl
  | k + 1, up => by
    show lastUp k (!up) = _
    rw [lastUp_par k (!up)]
    by_cases h : k % 2 = 0
    · rw [if_pos h, if_neg (by omega)]
    · rw [if_neg h, if_pos (by omega), Bool.not_not]
theorem places_zigI {c g : Int} (hc : 0 < c) : ∀ (k : Nat) (up : Bool), (if lastUp k up = true then 0 < g else g < c) → Zig up (if up = true then 0 else c) (placesR c g k up)
  | 0, true, h => ⟨h, trivial⟩
  | 0, false, h => ⟨h, trivial⟩
  | k + 1, true, h => ⟨hc, places_zigI hc k false h⟩
  | k + 1, false, h => ⟨hc, places_zigI hc k true h⟩
theorem places_zig {c b g : Int} (hc : 0 < c) {k : Nat} {up : Bool} (hb : if up = true then b < c else 0 < b) (h : if lastUp (k + 1) up = true then 0 < g else g < c) : Zig up b (placesR c g (k + 1) up) := by
  cases up with
  | true => exact ⟨hb, places_zigI hc k false h⟩
  | false => exact ⟨hb, places_zigI hc k true h⟩
theorem possW_spec {c b g : Int} {k : Nat} {up : Bool} : possW c b g (k + 2) up = true ↔ (if up = true then b < c else 0 < b) ∧ (if lastUp (k + 1) up = true then 0 < g else g < c) := by
  rw [lastUp_par]
  unfold possW
  by_cases h : (k + 2) % 2 = 0
  · have h' : ¬ (k + 1) % 2 = 0 := by omega
    cases up <;> simp [h, h']
  · have h' : (k + 1) % 2 = 0 := by omega
    have h2 : (k + 2) % 2 = 1 := by omega
    cases up <;> simp [h', h2]
/-- what a way tells of its places -/
theorem way_zig {c b g L : Int} {up : Bool} {zs : List Int} (hb : 0 ≤ b ∧ b ≤ c) (hg : 0 ≤ g ∧ g ≤ c) (hL : L ≠ 0) (h : WayOf c b g L up zs) : Zig up b zs ∧ inR c zs := by
  rcases h with ⟨e, eu, ez⟩ | ⟨ne, m, m2, ⟨hp, hl⟩, _, _, ez⟩
  · subst eu ez
    refine ⟨⟨?_, trivial⟩, inR_cons hg fun z hz => nomatch hz⟩
    by_cases q : g > b
    · rw [if_pos (decide_eq_true q)]; exact q
    · rw [if_neg (by rw [decide_eq_false q]; decide)]
      unfold absI at e
      split at e <;> omega
  · obtain ⟨k, rfl⟩ : ∃ k, m = k + 2 := ⟨m - 2, by omega⟩
    obtain ⟨h1, h2⟩ := possW_spec.mp hp
    have hc : 0 < c := by
      cases up
      · have : 0 < b := h1; omega
      · have : b < c := h1; omega
    rw [places_eq c g (k + 1) up] at ez
    subst ez
    exact shortGo_zig c _ up b _ (places_zig hc h1 h2) (placesR_in (by omega) hg _ _) (by omega)
theorem stepTo_good {c z : Int} {up : Bool} (c1 : c ≤ 1000000000000000000) (h : 0 ≤ z ∧ z ≤ c) : goodS (stepTo c z up) := by
  intro b n e
  unfold stepTo at e
  split at e <;> cases e <;> omega
theorem zsteps_good {c : Int} (c1 : c ≤ 1000000000000000000) : ∀ (zs : List Int) (up : Bool), inR c zs → ∀ s ∈ zsteps c up zs, goodS s
  | [], _, _, s, hs => nomatch hs
  | z :: r, up, h, s, hs => by
    obtain ⟨hz, hr⟩ := inR_tail h
    rcases List.mem_cons.mp hs with e | e
    · subst e
      exact stepTo_good c1 hz
    · exact zsteps_good c1 r (!up) hr s e
theorem simple_good {e : Eff} (h : e.Ok) (c1 : e.c ≤ 1000000000000000000) {l : List Stp} (hs : SimpleOf e l) : ∀ s ∈ l, goodS s := by
  have a := h.lo0
  have b := h.lh
  have d := h.hc
  rcases hs with ⟨_, el⟩ | ⟨ne, g, up, zs, eg, hw, el⟩
  · subst el
    intro s hs
    rcases List.mem_append.mp hs with q | q
    · split at q
      · rw [List.mem_singleton.mp q]; exact stepTo_good c1 (by omega)
      · exact nomatch q
    · split at q
      · rw [List.mem_singleton.mp q]; exact stepTo_good c1 (by omega)
      · exact nomatch q
  · subst el
    obtain ⟨_, hr⟩ := way_zig (c := e.c) (by omega) (h.yes g eg) ne hw
    intro s hs
    rcases List.mem_cons.mp hs with q | q
    · subst q; exact stepTo_good c1 (by omega)
    · exact zsteps_good c1 zs up hr s q
/-! ### no plan has fewer steps -/
def longR (c g : Int) : Int → Nat → Bool → Int
  | b, 0, up => if up = true then g - b else b - g
  | b, k + 1, up => if up = true then c - b + longR c g c k false else b + longR c g 0 k true
theorem longR_t (c g b : Int) (k : Nat) : longR c g b (k + 1) true = c - b + longR c g c k false := if_pos rfl
theorem longR_f (c g b : Int) (k : Nat) : longR c g b (k + 1) false = b + longR c g 0 k true := if_neg (by decide)
theorem longR_ext (c g d : Int) : ∀ (k : Nat) (b : Int) (up : Bool), (lastUp k up = true → longR c (g + d) b k up = longR c g b k up + d) ∧ (lastUp k up = false → longR c (g - d) b k up = longR c g b k up + d)
  | 0, b, true => ⟨fun _ => by show g + d - b = g - b + d; omega, fun h => nomatch h⟩
  | 0, b, false => ⟨(fun h => nomatch h), fun _ => by show b - (g - d) = b - g + d; omega⟩
  | k + 1, b, true => by
    obtain ⟨p, q⟩ := longR_ext c g d k c false
    rw [longR_t, longR_t, longR_t]
    exact ⟨fun h => by rw [p h]; omega, fun h => by rw [q h]; omega⟩
  | k + 1, b, false => by
    obtain ⟨p, q⟩ := longR_ext c g d k 0 true
    rw [longR_f, longR_f, longR_f]
    exact ⟨fun h => by rw [p h]; omega, fun h => by rw [q h]; omega⟩
theorem longR_rev {c g d : Int} (g0 : 0 ≤ g) (g1 : g ≤ c) : ∀ (k : Nat) (b : Int) (up : Bool), (lastUp k up = true → longR c g b k up + d ≤ longR c (g - d) b (k + 1) up) ∧ (lastUp k up = false → longR c g b k up + d ≤ longR c (g + d) b (k + 1) up)
  | 0, b, true => ⟨fun _ => by show g - b + d ≤ c - b + (c - (g - d)); omega, fun h => nomatch h⟩
  | 0, b, false => ⟨(fun h => nomatch h), fun _ => by show b - g + d ≤ b + (g + d - 0); omega⟩
  | k + 1, b, true => by
    obtain ⟨p, q⟩ := longR_rev (d := d) g0 g1 k c false
    rw [longR_t, longR_t, longR_t]
    exact ⟨fun h => by have := p h; omega, fun h => by have := q h; omega⟩
  | k + 1, b, false => by
    obtain ⟨p, q⟩ := longR_rev (d := d) g0 g1 k 0 true
    rw [longR_f, longR_f, longR_f]
    exact ⟨fun h => by have := p h; omega, fun h => by have := q h; omega⟩
theorem longR_ends (c g : Int) : ∀ k : Nat, longR c g c k false = c * k + (if lastUp k false = true then g else c - g) ∧ longR c g 0 k true = c * k + (if lastUp k true = true then g else c - g)
  | 0 => by
    refine ⟨?_, ?_⟩
    · show c - g = c * 0 + (c - g); omega
    · show g - 0 = c * 0 + g; omega
  | k + 1 => by
    obtain ⟨p, q⟩ := longR_ends c g k
    have e : c * ((k + 1 : Nat) : Int) = c * k + c := by rw [Int.natCast_add, Int.mul_add]; show c * k + c * 1 = _; rw [Int.mul_one]
    rw [longR_f, longR_t, p, q, e]
    refine ⟨?_, ?_⟩
    · show c + (c * k + (if lastUp k true = true then g else c - g)) = c * k + c + (if lastUp k true = true then g else c - g); omega
    · show c - 0 + (c * k + (if lastUp k false = true then g else c - g)) = c * k + c + (if lastUp k false = true then g else c - g); omega
theorem longW_eq (c b g : Int) (k : Nat) (up : Bool) : longW c b g (k + 2) up = longR c g b (k + 1) up := by
  obtain ⟨p, q⟩ := longR_ends c g k
  have e : (((k + 2 : Nat) : Int) - 2) = k := by omega
  have ep : (k + 2) % 2 = 0 ↔ k % 2 = 0 := by omega
  unfold longW lastW
  rw [e]
  rw [lastUp_par] at p q
  cases up with
  | true =>
    rw [if_pos rfl, longR_t, p]
    by_cases h : k % 2 = 0
    · rw [if_pos (ep.mpr h), if_pos h, if_neg (by decide)]; omega
    · rw [if_neg (fun z => h (ep.mp z)), if_neg h, if_pos (by decide)]; omega
  | false =>
    rw [if_neg (by decide), longR_f, q]
    by_cases h : k % 2 = 0
    · rw [if_pos (ep.mpr h), if_pos h, if_pos (by decide)]; omega
    · rw [if_neg (fun z => h (ep.mp z)), if_neg h, if_neg (by decide)]; omega
def endsN (c lo hi : Int) : Nat := (if lo > 0 then 1 else 0) + (if hi < c then 1 else 0)
/-- k + 1 moves, the first one up or down, come from b to g and carry x -/
def Reach (c b g x : Int) : Nat → Bool → Prop
  | 0, up => 0 < x ∧ x = longR c g b 0 up
  | k + 1, up => x ≤ longR c g b (k + 1) up ∧ (if up = true then b < c else 0 < b) ∧ (if lastUp (k + 1) up = true then 0 < g else g < c)
theorem reach_start {c b g x : Int} (b0 : 0 ≤ b ∧ b ≤ c) (g0 : 0 ≤ g ∧ g ≤ c) : ∀ {k : Nat} {up : Bool}, Reach c b g x k up → if up = true then b < c else 0 < b
  | 0, true, ⟨h0, h⟩ => by have h : x = g - b := h; show b < c; omega
  | 0, false, ⟨h0, h⟩ => by have h : x = b - g := h; show 0 < b; omega
  | k + 1, _, h => h.2.1
theorem reach_up {c b g x d : Int} (b0 : 0 ≤ b ∧ b ≤ c) (g0 : 0 ≤ g ∧ g ≤ c) (d0 : 0 < d) {k : Nat} {up : Bool} (h : Reach c b g x k up) : ∃ k', k' ≤ k + 1 ∧ Reach c b (g + d) (x + d) k' up := by
  cases hl : lastUp k up with
  | true =>
    refine ⟨k, Nat.le_succ k, ?_⟩
    have ee := (longR_ext c g d k b up).1 hl
    cases k with
    | zero =>
      obtain ⟨h1, h2⟩ := h
      exact ⟨by omega, by omega⟩
    | succ k =>
      obtain ⟨h1, h2, h3⟩ := h
      refine ⟨by omega, h2, ?_⟩
      rw [if_pos hl]; omega
  | false =>
    refine ⟨k + 1, Nat.le_refl _, ?_⟩
    have ee := (longR_rev (d := d) g0.1 g0.2 k b up).2 hl
    have hs := reach_start b0 g0 h
    have hx : x ≤ longR c g b k up := by
      cases k with
      | zero => exact Int.le_of_eq h.2
      | succ k => exact h.1
    refine ⟨by omega, hs, ?_⟩
    have : lastUp (k + 1) up = true := by
      rw [lastUp_par] at hl ⊢
      by_cases q : k % 2 = 0
      · rw [if_pos q] at hl; rw [if_neg (by omega), hl]; rfl
      · rw [if_neg q] at hl; rw [if_pos (by omega)]; cases up <;> simp_all
    rw [if_pos this]; omega
theorem reach_dn {c b g x d : Int} (b0 : 0 ≤ b ∧ b ≤ c) (g0 : 0 ≤ g ∧ g ≤ c) (d0 : 0 < d) {k : Nat} {up : Bool} (h : Reach c b g x k up) : ∃ k', k' ≤ k + 1 ∧ Reach c b (g - d) (x + d) k' up := by
  cases hl : lastUp k up with
  | false =>
    refine ⟨k, Nat.le_succ k, ?_⟩
    have ee := (longR_ext c g d k b up).2 hl
    cases k with
    | zero =>
      obtain ⟨h1, h2⟩ := h
      exact ⟨by omega, by omega⟩
    | succ k =>
      obtain ⟨h1, h2, h3⟩ := h
      refine ⟨by omega, h2, ?_⟩
      rw [if_neg (by rw [hl]; decide)]; omega
  | true =>
    refine ⟨k + 1, Nat.le_refl _, ?_⟩
    have ee := (longR_rev (d := d) g0.1 g0.2 k b up).1 hl
    have hs := reach_start b0 g0 h
    have hx : x ≤ longR c g b k up := by
      cases k with
      | zero => exact Int.le_of_eq h.2
      | succ k => exact h.1
    refine ⟨by omega, hs, ?_⟩
    have : lastUp (k + 1) up = false := by
      rw [lastUp_par] at hl ⊢
      by_cases q : k % 2 = 0
      · rw [if_pos q] at hl; rw [if_neg (by omega), hl]; rfl
      · rw [if_neg q] at hl; rw [if_pos (by omega)]; cases up <;> simp_all
    rw [if_neg (by rw [this]; decide)]; omega
/-- n meetings may have made this -/
structure Few (e : Eff) (n : Nat) : Prop where
  eq : ∀ g, e.goal = some g → e.lo = e.hi
  z : e.ex = 0 → endsN e.c e.lo e.hi ≤ n ∧ ∀ g, e.goal = some g → g = e.lo
  p : e.ex ≠ 0 → ∀ g, e.goal = some g → ∃ k up, k + 2 ≤ n ∧ Reach e.c e.lo g e.ex k up
theorem Few.le {e : Eff} {n m : Nat} (h : Few e n) (q : n ≤ m) : Few e m :=
  ⟨h.eq, fun z => ⟨Nat.le_trans (h.z z).1 q, (h.z z).2⟩, fun z g hg => let ⟨k, up, a, b⟩ := h.p z g hg; ⟨k, up, Nat.le_trans a q, b⟩⟩
theorem ends_lo {c lo lo' hi : Int} : endsN c lo' hi ≤ endsN c lo hi + 1 := by unfold endsN; split <;> split <;> omega
theorem ends_hi {c lo hi hi' : Int} : endsN c lo hi' ≤ endsN c lo hi + 1 := by unfold endsN; split <;> split <;> split <;> omega
theorem few_mk {c lo hi : Int} {t : Bool} {n : Nat} (h : endsN c lo hi ≤ n) : Few (mkE c lo hi 0 none t) n := by
  by_cases e : lo = hi
  · subst e
    rw [mkE_eq]
    exact ⟨fun _ _ => rfl, fun _ => ⟨h, fun g hg => by cases hg; rfl⟩, fun z => absurd rfl z⟩
  · have : mkE c lo hi 0 none t = ⟨c, lo, hi, 0, none, t⟩ := by unfold mkE; rw [if_neg (fun z => e z.2)]
    rw [this]
    exact ⟨(fun g hg => nomatch hg), fun _ => ⟨h, (fun g hg => nomatch hg)⟩, fun z => absurd rfl z⟩
theorem few_least {e : Eff} (he : e.Ok) {n : Nat} (h : Few e n) {a : Int} (a0 : 0 ≤ a) (a1 : a ≤ e.c) : Few (e.atLeast a) (n + 1) := by
  obtain ⟨c, lo, hi, ex, goal, t⟩ := e
  have l0 := he.lo0
  have l1 := he.lh
  have l2 := he.hc
  have l3 := he.ex0
  dsimp only at l0 l1 l2 l3 a1
  cases goal with
  | none =>
    obtain ⟨z, _⟩ := he.no rfl
    have z : ex = 0 := z
    subst z
    have hz := (h.z rfl).1
    dsimp only at hz
    rw [atLeast_none]
    split
    · exact few_mk (Nat.le_trans ends_lo (Nat.succ_le_succ hz))
    · rename_i q
      refine ⟨fun _ _ => rfl, fun z => ?_, fun _ g hg => ?_⟩
      · exfalso
        have z : a - hi = 0 := z
        omega
      · cases hg
        refine ⟨0, true, ?_, by show 0 < a - hi; omega, rfl⟩
        have : 1 ≤ endsN c lo hi := by unfold endsN; rw [if_pos (show hi < c by omega)]; omega
        omega
  | some g =>
    obtain ⟨g0, g1⟩ := he.yes g rfl
    dsimp only at g0 g1
    have elh : lo = hi := h.eq g rfl
    subst elh
    rw [atLeast_some]
    split
    · exact h.le (Nat.le_succ n)
    · rename_i q
      refine ⟨fun _ _ => rfl, fun z => ?_, fun _ g2 hg => ?_⟩
      · have z : ex + a - g = 0 := z
        omega
      · cases hg
        by_cases e0 : ex = 0
        · subst e0
          obtain ⟨hz, hgl⟩ := h.z rfl
          obtain rfl : g = lo := hgl g rfl
          dsimp only at hz
          refine ⟨0, true, ?_, by show 0 < 0 + a - g; omega, by show 0 + a - g = a - g; omega⟩
          have : 1 ≤ endsN c g g := by unfold endsN; rw [if_pos (show g < c by omega)]; omega
          omega
        · obtain ⟨k, up, hk, hr⟩ := h.p e0 g rfl
          obtain ⟨k2, hk2, hr2⟩ := reach_up (d := a - g) ⟨l0, by show lo ≤ c; omega⟩ ⟨g0, g1⟩ (by omega) hr
          dsimp only at hr2
          rw [show g + (a - g) = a by omega, show ex + (a - g) = ex + a - g by omega] at hr2
          exact ⟨k2, up, by omega, hr2⟩
theorem few_most {e : Eff} (he : e.Ok) {n : Nat} (h : Few e n) {a : Int} (a0 : 0 ≤ a) (a1 : a ≤ e.c) : Few (e.atMost a) (n + 1) := by
  obtain ⟨c, lo, hi, ex, goal, t⟩ := e
  have l0 := he.lo0
  have l1 := he.lh
  have l2 := he.hc
  have l3 := he.ex0
  dsimp only at l0 l1 l2 l3 a1
  cases goal with
  | none =>
    obtain ⟨z, lt⟩ := he.no rfl
    have z : ex = 0 := z
    have lt : lo < hi := lt
    subst z
    have hz := (h.z rfl).1
    dsimp only at hz
    rw [atMost_none _ _ _ _ _ _ lt]
    split
    · exact few_mk (Nat.le_trans ends_hi (Nat.succ_le_succ hz))
    · rename_i q
      refine ⟨fun _ _ => rfl, fun z => ?_, fun _ g hg => ?_⟩
      · exfalso
        have z : lo - a = 0 := z
        have q : ¬ lo ≤ a := q
        omega
      · cases hg
        have q : ¬ lo ≤ a := q
        refine ⟨0, false, ?_, by show 0 < lo - a; omega, rfl⟩
        have : 1 ≤ endsN c lo hi := by unfold endsN; rw [if_pos (show lo > 0 by omega)]; omega
        omega
  | some g =>
    obtain ⟨g0, g1⟩ := he.yes g rfl
    dsimp only at g0 g1
    have elh : lo = hi := h.eq g rfl
    subst elh
    rw [atMost_some]
    split
    · exact h.le (Nat.le_succ n)
    · rename_i q
      refine ⟨fun _ _ => rfl, fun z => ?_, fun _ g2 hg => ?_⟩
      · have z : ex + g - a = 0 := z
        omega
      · cases hg
        by_cases e0 : ex = 0
        · subst e0
          obtain ⟨hz, hgl⟩ := h.z rfl
          obtain rfl : g = lo := hgl g rfl
          dsimp only at hz
          refine ⟨0, false, ?_, by show 0 < 0 + g - a; omega, by show 0 + g - a = g - a; omega⟩
          have : 1 ≤ endsN c g g := by unfold endsN; rw [if_pos (show g > 0 by omega)]; omega
          omega
        · obtain ⟨k, up, hk, hr⟩ := h.p e0 g rfl
          obtain ⟨k2, hk2, hr2⟩ := reach_dn (d := g - a) ⟨l0, by show lo ≤ c; omega⟩ ⟨g0, g1⟩ (by omega) hr
          dsimp only at hr2
          rw [show g - (g - a) = a by omega, show ex + (g - a) = ex + g - a by omega] at hr2
          exact ⟨k2, up, by omega, hr2⟩
def mtc (ps : List (Int × Int)) : Nat := (ps.filter fun p => p.1 ≠ 0).length
theorem mtc_sides : ∀ (l : List Stp) (s : Int), (s = 1 ∨ s = -1) → mtc (sides s l) + turns l = l.length
  | [], _, _ => rfl
  | .turn :: r, s, hs => by
    have := mtc_sides r (0 - s) (by omega)
    have e : mtc (sides s (.turn :: r)) = mtc (sides (0 - s) r) := by
      show (List.filter _ ((0, 0) :: sides (0 - s) r)).length = _
      rw [List.filter_cons_of_neg (by simp)]; rfl
    rw [e]
    show _ + (turns r + 1) = r.length + 1
    omega
  | .mt b n :: r, s, hs => by
    have := mtc_sides r s hs
    have e : mtc (sides s (.mt b n :: r)) = mtc (sides s r) + 1 := by
      show (List.filter _ (((if b then s else 0 - s), n) :: sides s r)).length = _
      rw [List.filter_cons_of_pos (by cases b <;> simp <;> omega)]; rfl
    rw [e]
    show _ + turns r = r.length + 1
    omega
theorem few_fold {c : Int} : ∀ (ps : List (Int × Int)) (e : Eff) (n : Nat), e.Ok → e.c = c → fits c ps → Few e n → Few (ps.foldl (effStep c) e) (n + mtc ps)
  | [], e, n, _, _, _, h => h
  | p :: r, e, n, he, hc, hf, h => by
    obtain ⟨hs, h0, h1⟩ := hf p List.mem_cons_self
    obtain ⟨a, b, _, _⟩ := effStep_ok he hc hs h0 h1
    have hr : fits c r := fun q hq => hf q (List.mem_cons_of_mem _ hq)
    rw [List.foldl_cons]
    rcases hs with s | s | s
    · have e1 : effStep c e p = e.atLeast p.2 := by unfold effStep; rw [if_pos s]
      have m : mtc (p :: r) = mtc r + 1 := by unfold mtc; rw [List.filter_cons_of_pos (by simp; omega)]; rfl
      rw [m, show n + (mtc r + 1) = n + 1 + mtc r by omega]
      refine few_fold r _ _ a b hr ?_
      rw [e1]
      exact few_least he h h0 (by omega)
    · have e1 : effStep c e p = e.atMost (c - p.2) := by unfold effStep; rw [if_neg (by omega), if_pos s]
      have m : mtc (p :: r) = mtc r + 1 := by unfold mtc; rw [List.filter_cons_of_pos (by simp; omega)]; rfl
      rw [m, show n + (mtc r + 1) = n + 1 + mtc r by omega]
      refine few_fold r _ _ a b hr ?_
      rw [e1]
      exact few_most he h (by omega) (by omega)
    · have e1 : effStep c e p = e := by unfold effStep; rw [if_neg (by omega), if_neg (by omega)]
      have m : mtc (p :: r) = mtc r := by unfold mtc; rw [List.filter_cons_of_neg (by simp; omega)]
      rw [m]
      refine few_fold r _ _ a b hr ?_
      rw [e1]
      exact h
theorem effOf_few {c : Int} {l : List Stp} (hc : 0 ≤ c) (hl : fitsS c l) : Few (effOf c l) (mtc (sides 1 l)) := by
  obtain ⟨n0, _⟩ := nothing_ok hc
  have hf := sides_fits l 1 (.inl rfl) hc hl
  obtain ⟨a, b, _, _⟩ := fold_ok (c := c) (sides 1 l) (nothing c) n0 rfl hf
  have fz : Few (nothing c) 0 := few_mk (by unfold endsN; rw [if_neg (by omega), if_neg (by omega)]; exact Nat.le_refl _)
  have f := few_fold (c := c) (sides 1 l) (nothing c) 0 n0 rfl hf fz
  rw [Nat.zero_add] at f
  have hb : (effFold c (sides 1 l)).c = c := b
  have e : effOf c l = ⟨c, (effFold c (sides 1 l)).lo, (effFold c (sides 1 l)).hi, (effFold c (sides 1 l)).ex, (effFold c (sides 1 l)).goal, turning l⟩ := by
    have h := mkE_self (e := effFold c (sides 1 l)) a (turning l)
    rw [hb] at h
    exact h
  rw [e]
  have e2 : (effFold c (sides 1 l)).c = c := hb
  exact ⟨f.eq, fun z => by have := f.z z; rw [show ((sides 1 l).foldl (effStep c) (nothing c)).c = c from hb] at this; exact this, fun z => by have := f.p z; rw [show ((sides 1 l).foldl (effStep c) (nothing c)).c = c from hb] at this; exact this⟩
theorem reach_does {c b g x : Int} {k : Nat} {up : Bool} (h : Reach c b g x k up) (ne : x ≠ absI (g - b)) : ∃ k', k = k' + 1 ∧ doesW c b g x (k' + 2) up := by
  cases k with
  | zero =>
    exfalso
    obtain ⟨h0, h1⟩ := h
    refine ne ?_
    unfold absI
    cases up
    · have h1 : x = b - g := h1
      rw [if_pos (by omega)]; omega
    · have h1 : x = g - b := h1
      rw [if_neg (by omega)]; omega
  | succ k =>
    obtain ⟨h1, h2, h3⟩ := h
    exact ⟨k, rfl, possW_spec.mpr ⟨h2, h3⟩, by rw [longW_eq]; exact h1⟩
theorem placesL_len (c g : Int) {m : Nat} (h : 2 ≤ m) (up : Bool) : (placesL c g m up).length = m := by
  obtain ⟨k, rfl⟩ : ∃ k, m = k + 1 := ⟨m - 1, by omega⟩
  rw [places_eq, placesR_len]
theorem few_simple {e : Eff} {n : Nat} (h : Few e n) {l : List Stp} (hs : SimpleOf e l) : l.length ≤ n := by
  rcases hs with ⟨e0, el⟩ | ⟨ne, g, up, zs, eg, hw, el⟩
  · subst el
    refine Nat.le_trans (Nat.le_of_eq ?_) (h.z e0).1
    unfold endsN
    rw [List.length_append]
    congr 1 <;> split <;> rfl
  · subst el
    obtain ⟨k, u, hk, hr⟩ := h.p ne g eg
    show (zsteps e.c up zs).length + 1 ≤ n
    rw [zsteps_len]
    rcases hw with ⟨_, _, ez⟩ | ⟨nl, m, m2, _, hmin, _, ez⟩
    · subst ez
      show 1 + 1 ≤ n
      omega
    · obtain ⟨k', rfl, hd⟩ := reach_does hr nl
      have : m ≤ k' + 2 := by
        rcases Nat.lt_or_ge (k' + 2) m with q | q
        · exact absurd hd (hmin _ u (by omega) q)
        · exact q
      rw [ez, shortGo_len, placesL_len _ _ m2]
      omega
theorem few_ex {e : Eff} {n : Nat} (h : Few e n) (ne : e.ex ≠ 0) {g : Int} (eg : e.goal = some g) (nl : e.ex ≠ absI (g - e.lo)) : ∃ m u, 2 ≤ m ∧ m ≤ n ∧ doesW e.c e.lo g e.ex m u := by
  obtain ⟨k, u, hk, hr⟩ := h.p ne g eg
  obtain ⟨k', rfl, hd⟩ := reach_does hr nl
  exact ⟨k' + 2, u, by omega, by omega, hd⟩
def turnL (b : Bool) : List Stp := if b then [.turn] else []
/-- the simple plan has no more steps -/
theorem simple_le {c : Int} {l l' : List Stp} (hc : 0 ≤ c) (hl : fitsS c l) (hs : SimpleOf (effOf c l) l') : (l' ++ turnL (turning l)).length ≤ l.length := by
  have a := few_simple (effOf_few hc hl) hs
  have b := mtc_sides l 1 (.inl rfl)
  rw [List.length_append]
  cases ht : turning l with
  | false => show l'.length + 0 ≤ _; omega
  | true =>
    have : turns l ≠ 0 := fun z => by
      unfold turning at ht
      rw [z] at ht
      cases ht
    show l'.length + 1 ≤ _
    omega
theorem simple_goodP {c : Int} {l l' : List Stp} (hc : 0 ≤ c) (c1 : c ≤ 1000000000000000000) (hl : fitsS c l) (h60 : l.length ≤ 60) (hs : SimpleOf (effOf c l) l') : goodP (l' ++ turnL (turning l)) := by
  obtain ⟨o, oc, _, _⟩ := effOf_ok hc hl
  refine ⟨fun s hs' => ?_, Nat.le_trans (simple_le hc hl hs) h60⟩
  rcases List.mem_append.mp hs' with q | q
  · exact simple_good o (by rw [oc]; exact c1) hs s q
  · unfold turnL at q
    split at q
    · rw [List.mem_singleton.mp q]; intro b n z; cases z
    · exact nomatch q
theorem simple_ex {c : Int} {l : List Stp} (hc : 0 ≤ c) (hl : fitsS c l) (h60 : l.length ≤ 60) (ne : (effOf c l).ex ≠ 0) (g : Int) (eg : (effOf c l).goal = some g) (nl : (effOf c l).ex ≠ absI (g - (effOf c l).lo)) : ∃ m u, 2 ≤ m ∧ m ≤ 9000 ∧ doesW (effOf c l).c (effOf c l).lo g (effOf c l).ex m u := by
  obtain ⟨m, u, a, b, d⟩ := few_ex (effOf_few hc hl) ne eg nl
  have := mtc_sides l 1 (.inl rfl)
  exact ⟨m, u, a, by omega, d⟩
/-- there is one simple plan -/
theorem way_one {c b g L : Int} {u v : Bool} {xs ys : List Int} (h : WayOf c b g L u xs) (k : WayOf c b g L v ys) : u = v ∧ xs = ys := by
  rcases h with ⟨e, eu, ez⟩ | ⟨ne, m, m2, hd, hm, hu, ez⟩ <;> rcases k with ⟨e', eu', ez'⟩ | ⟨ne', m', m2', hd', hm', hu', ez'⟩
  · exact ⟨eu.trans eu'.symm, ez.trans ez'.symm⟩
  · exact absurd e ne'
  · exact absurd e' ne
  · have em : m = m' := by
      rcases Nat.lt_trichotomy m m' with q | q | q
      · exact absurd hd (hm' m u m2 q)
      · exact q
      · exact absurd hd' (hm m' v m2' q)
    subst em
    have euv : u = v := by
      cases u <;> cases v
      · rfl
      · exact absurd hd' (hu rfl)
      · exact absurd hd (hu' rfl)
      · rfl
    subst euv
    exact ⟨rfl, ez.trans ez'.symm⟩
theorem simple_one {e : Eff} {l m : List Stp} (h : SimpleOf e l) (k : SimpleOf e m) : l = m := by
  rcases h with ⟨e0, el⟩ | ⟨ne, g, u, zs, eg, hw, el⟩ <;> rcases k with ⟨e0', el'⟩ | ⟨ne', g', u', zs', eg', hw', el'⟩
  · exact el.trans el'.symm
  · exact absurd e0 ne'
  · exact absurd e0' ne
  · rw [eg] at eg'
    cases eg'
    obtain ⟨rfl, rfl⟩ := way_one hw hw'
    exact el.trans el'.symm
end ChM

set_option Elab.async false
set_option linter.all false
set_option maxRecDepth 100000
set_option maxHeartbeats 4000000
/-! ### an own exception class called with keywords: its __new__ takes no notice of them -/
namespace ChZ
open PySem PySem.W PySem.Calls PyProof.Rows PySem.HandSPX
section
variable {M : Model} {prog : Program} {w : World} {A : Around} {E : Value → Shared → Prop} {R : Result → Shared → Prop} {h : Heap} {g : Array GenState} {d : Drawn} {t : Nat} {os : OsState}
variable {nm q : Str} {C N : Addr} {bs bm bmB : List Value} {hdct : Bool} {sn : List Str} {sub : List Value} {ab : Bool} {col : Option Bool} {dd : Option Addr} {k0 k1 k2 k3 k5 : Option Value} {B newId initId : String} {kw : List (Str × Value)}
theorem newcheck_kw (F : ExcBaseFacts B newId initId bmB) (hT : ∀ X : String, bm.contains (.type X) = bmB.contains (.type X)) {Q : Unit → Shared → Prop}
    (hC : h.get? C = some (excClassObj nm q C N bs bm hdct sn sub ab col dd k0 k1 k2 k3 k5 newId)) (hq : Q () ⟨h, g, d, t, os⟩) :
    wpAny M A (checkBuiltinCall newId ⟨[.ref C], kw⟩) Q E ⟨h, g, d, t, os⟩ := by
  have inB : (Value.ref C :: bm).contains (.type B) = true := by
    rw [List.contains_cons, hT, F.hasB, Bool.or_true]
  have ns := F.noStar
  simp only [checkBuiltinCall, F.newKind,
    F.newSplit, F.newRow]
  repeat (first
    | refine wpAny_loadPart_at hC ?_
    | (refine wpAny_isSubtype_exc hC ?_; rw [inB])
    | refine wpAny_staticBase_exc hC ?_
    | refine wpAny_madeBy_exc hC ?_
    | simp only [bne_self_eq_false, Bool.false_eq_true, if_false]
    | wp_step)
  exact hq
theorem new_kw (F : ExcBaseFacts B newId initId bmB) (hT : ∀ X : String, bm.contains (.type X) = bmB.contains (.type X))
    (hC : h.get? C = some (excClassObj nm q C N bs bm hdct sn sub ab col dd k0 k1 k2 k3 k5 newId))
    (hq : R (.ok (.ret (.ref (h.objs.size + 1)))) ⟨(h.push (kdv_tup [])).push (excO C h.objs.size), g, d, t, os⟩) :
    codeAny (model prog w) A (.builtin newId ⟨[.ref C], kw⟩) R ⟨h, g, d, t, os⟩ := by
  have he := F.ends
  have inB : (Value.ref C :: bm).contains (.type B) = true := by
    rw [List.contains_cons, hT, F.hasB, Bool.or_true]
  have inA : (Value.ref C :: bm).contains (.type "AttributeError") = false := by
    rw [List.contains_cons, hT, F.noAttr]
    rfl
  have inN : (Value.ref C :: bm).contains (.type "NameError") = false := by
    rw [List.contains_cons, hT, F.noName]
    rfl
  refine codeAny_builtinAt F.entry ?_
  unfold Builtin.«BaseException.__new__»
  refine PySem.wpAt_bind ?_
  show PySem.wpAt _ _ _ (stack >>= _) _ _ _
  refine PySem.wpAt_bind (PySem.wpAt_stack fun p below => PySem.wpAt_of_wpAny ?_)
  wp_walk
  refine PySem.wpAt_of_wpAny ?_
  rw [F.owner]
  repeat (first
    | with_reducible refine wpAny_madeHere_exc F.canon hC ?_
    | with_reducible refine wpAny_loadPart_at hC ?_
    | (with_reducible refine wpAny_isSubtype_exc hC ?_
       first
       | rw [inB]
       | rw [inA]
       | rw [inN])
    | wp_step)
  show R _ _
  rw [Heap.size_push]
  exact hq
theorem tcall_kw (F : ExcBaseFacts B newId initId bmB) (hT : ∀ X : String, bm.contains (.type X) = bmB.contains (.type X)) {fI : Addr} {Q : Fin → Shared → Prop}
    (hC : h.get? C = some (excClassObj nm q C N bs bm hdct sn sub ab col dd k0 k1 k2 k3 k5 newId))
    (hi : Looks (model prog w) h (typeLookup (.ref C) "__init__") (some (.ref fI))) (hb : ∀ self, Looks (model prog w) h (bindSpecial (.ref fI) self) (.ref fI, [self]))
    (hq : codeAny (model prog w) A (.call (.ref fI) ⟨[.ref (h.objs.size + 1)], kw⟩)
      (fun r s' => match r with
        | .ok (.ret v) => v = .none ∧ Q (.done (.ret (.ref (h.objs.size + 1)))) s'
        | .ok _ => False
        | .error e => E e s')
      ⟨(h.push (kdv_tup [])).push (excO C h.objs.size), g, d, t, os⟩) :
    wpAny (model prog w) A (Builtin.«type.__call__» ⟨[.ref C], kw⟩) Q E ⟨h, g, d, t, os⟩ := by
  repeat (first
    | with_reducible refine wpAny_loadPart_at hC ?_
    | with_reducible refine wpAny_madeBy_exc hC ?_
    | wp_step)
  refine codeAny_call_builtin_code (Code.quiet_builtin _ F.quiet) (newcheck_kw F hT hC ?_)
  refine new_kw F hT hC ?_
  show wpAny _ _ _ _ _ _
  have kk : ∀ b o, h.get? b = some o → ((h.push (kdv_tup [])).push (excO C h.objs.size)).get? b = some o := fun b o e => Heap.get?_push_of_some _ (Heap.get?_push_of_some _ e)
  have hC2 := kk _ _ hC
  have hg2 : ((h.push (kdv_tup [])).push (excO C h.objs.size)).get? (h.objs.size + 1) = some (excO C h.objs.size) := by heap_get
  have inC : (Value.ref C :: bm).contains (.ref C) = true := by simp
  have j1 := hi.keeps kk
  have j2 := (hb (.ref (h.objs.size + 1))).keeps kk
  unfold isInstance
  repeat (first
    | with_reducible refine wpAny_loadPart_at hg2 ?_
    | (with_reducible refine wpAny_isSubtype_exc hC2 ?_
       rw [inC])
    | wp_step)
  show wpAny _ _ (typeLookup (.ref C) _) _ _ _
  refine j1.at ?_
  refine wpAny_holding (wpAny_bind (j2.at ?_))
  refine wpAny_bind (wpAny_call (codeAny_mono hq fun r s' z => ?_))
  rcases r with e | (v | _ | _ | _)
  · exact z
  · exact z.elim
  · exact z.elim
  · exact z.elim
  · obtain ⟨rfl, z⟩ := z
    first
    | exact wpAny_pure (wpAny_pure z)
    | (wp_walk; exact z)
theorem call_kw (F : ExcBaseFacts B newId initId bmB) (hT : ∀ X : String, bm.contains (.type X) = bmB.contains (.type X)) {fI : Addr}
    (hC : h.get? C = some (excClassObj nm q C N bs bm hdct sn sub ab col dd k0 k1 k2 k3 k5 newId))
    (hi : Looks (model prog w) h (typeLookup (.ref C) "__init__") (some (.ref fI))) (hb : ∀ self, Looks (model prog w) h (bindSpecial (.ref fI) self) (.ref fI, [self]))
    (hq : codeAny (model prog w) (A.under (.builtin "type.__call__" ⟨[.ref C], kw⟩)) (.call (.ref fI) ⟨[.ref (h.objs.size + 1)], kw⟩) (InitBack (h.objs.size + 1) R)
      ⟨(h.push (kdv_tup [])).push (excO C h.objs.size), g, d, t, os⟩) :
    codeAny (model prog w) A (.call (.ref C) ⟨[], kw⟩) R ⟨h, g, d, t, os⟩ := by
  have f1 := tc_lookup
  have f2 := tc_bind (.ref C)
  have ty : (⟨h, g, d, t, os⟩ : Shared).TypeIs (.ref C) "type" := ⟨_, hC, rfl⟩
  refine codeAny_of_tree ?_
  show wpAny _ _ (callAny (.ref C) _) _ _ _
  repeat (any_goals (first
    | assumption
    | with_reducible refine wpAny_loadPart_at hC ?_
    | wp_step))
  refine ⟨rfl, ?_⟩
  refine codeAny_call_builtin_at (Code.quiet_builtin _ (by decide +kernel)) entry_typeCall (wpAny_check_type_call_sub hC (tcall_kw F hT hC hi hb ?_))
  refine codeAny_mono hq fun r s' z => ?_
  rcases r with e | (v | _ | _ | _) <;> exact z
end
end ChZ
/-! ### raise C(f = e), C's __init__(self, *, f) calling an own base's __init__ -/
namespace Ch
open PySem PySem.Spec PyProof.Rows L2
/-- what __init__(self, *, f) keeps -/
def spXI (f : Str) (C : Addr) : Sp := fun vs H Q _ => ∃ (a : Addr) (v : V), vs = [.ref a, v] ∧ H a = some (exo a C none) ∧
  ∀ d, H d = none → d ≠ a → Q .non (upd (upd H d (exd d [(f, v)])) a (exo a C (some d)))
def tRx (C : Addr) (f : Str) (tk : TA) : L2.St → Hp → XK → Prop := fun σ H Q => tk σ H fun zs H1 => ∃ v, zs = [v] ∧ ∀ d, H1 d = none → Q (.ref C) (some d) (upd H1 d (.xd [(f, v)]))
theorem left_xd {H : Hp} {a C d : Addr} {f : Str} {v : V} (ha : H a = none) (hda : d ≠ a) :
    upd (L2.del (upd (upd (upd H a (exo a C none)) d (exd d [(f, v)])) a (exo a C (some d))) a) d (.xd [(f, v)]) = upd H d (.xd [(f, v)]) := by
  funext b
  by_cases h1 : b = d
  · rw [h1, upd_same, upd_same]
  · rw [upd_ne h1, upd_ne h1]
    by_cases h2 : b = a
    · rw [h2, del_same, ha]
    · rw [del_ne h2, upd_ne h2, upd_ne h1, upd_ne h2]
theorem pmk_kw {X : Cx} {CX : CXT} {x f : Str} {C fI : Addr} {k : Nat} {fd : FuncData} {kws : List Keyword} {tk : TA} {p pos : Pos} (T : OexC X.K C) (iC : PySem.W.findIn X.K (.ref C) "__init__" = some (some (.ref fI)))
    (tI : PySem.W.typeIn X.K (.ref fI) = some (.type "function")) (F1 : FnOk X.prog X.w X.K X.mg X.base CX k fI fd ["self", f] (spXI f C)) (hr : Room (k + 1) X.A)
    (hb : ∀ (s : Shared) (u v : Value), BindsTo s fd ⟨[u], [(f, v)]⟩ [("self", u), (f, v)]) (hx : Passes CX X (fun _ _ _ => False)) (hg : Gl X x) (hm : X.mg x = some (.ref C)) (hkw : PK X kws tk)
    (hall : (backToKw pos (keywordEach kws X.env)).all (·.1.isSome) = true := by rfl) (hks : (backToKw pos (keywordEach kws X.env)).filterMap (·.1) = [f] := by rfl) (hdb : (x == ("__debug__" : Str)) = false := by decide)
    (hpl : ((backTo pos (starEach [] X.env)).any (·.1) || (backToKw pos (keywordEach kws X.env)).any (·.1.isNone)) = false := by rfl) : PMk X (.Call (.Name x p) [] kws pos) (tRx C f tk) := by
  intro pins s σ H Q I h
  obtain ⟨nm, q, N, bs, bm, sn, sub, ab, col, dd, k0, k1, k2, k3, k5, hC, hbm⟩ := T.cls
  refine wpAny_Call_Name_kw (ld_glob I hg hm ?_ hdb)
  refine PySem.W.callWith_KW0 (h₀ := X.base) I.ok.mod.kin T.kC hall ?_ hpl
  refine thn (hkw.run pos pins s σ H _ I h) fun ws s2 ⟨zs, H1, I1, rz, v, ez, hq⟩ => ⟨I1.kIn, ?_⟩
  rw [hks]
  subst ez
  cases rz with
  | @cons _ u _ ur ru rn =>
    cases rn
    show wpAny _ _ (call (.ref C) [] [(f, u)]) _ _ _
    obtain ⟨hp, g, dr, tk', os⟩ := s2
    have hsz : hp.objs.size ≤ hp.objs.size + 1 := Nat.le_succ _
    have hn : H1 (hp.objs.size + 1) = none := I1.hok.fresh hsz
    have kk : ∀ b o, hp.get? b = some o → ((hp.push (PySem.W.kdv_tup [])).push (PySem.HandSPX.excO C hp.objs.size)).get? b = some o := fun b o e => Heap.get?_push_of_some _ (Heap.get?_push_of_some _ e)
    have hget : ((hp.push (PySem.W.kdv_tup [])).push (PySem.HandSPX.excO C hp.objs.size)).get? (hp.objs.size + 1) = some (PySem.HandSPX.excO C hp.objs.size) := by heap_get
    have I2 : Inv X pins σ (upd H1 (hp.objs.size + 1) (exo (hp.objs.size + 1) C none)) ⟨(hp.push (PySem.W.kdv_tup [])).push (PySem.HandSPX.excO C hp.objs.size), g, dr, tk', os⟩ :=
      I1.laid (t' := tk') (a := hp.objs.size + 1) (o := exo (hp.objs.size + 1) C none) (h' := (hp.push (PySem.W.kdv_tup [])).push (PySem.HandSPX.excO C hp.objs.size)) kk hsz (exo_ok hget)
    have r2 : Vals [V.ref (hp.objs.size + 1), v] [Value.ref (hp.objs.size + 1), u] := .cons rfl (.cons ru .nil)
    have hsp : spXI f C [V.ref (hp.objs.size + 1), v] (upd H1 (hp.objs.size + 1) (exo (hp.objs.size + 1) C none))
        (fun w H2 => w = .non ∧ ∃ d, H1 d = none ∧ d ≠ hp.objs.size + 1 ∧ H2 = upd (upd (upd H1 (hp.objs.size + 1) (exo (hp.objs.size + 1) C none)) d (exd d [(f, v)])) (hp.objs.size + 1) (exo (hp.objs.size + 1) C (some d))) (fun _ _ _ => False) :=
      ⟨_, v, rfl, upd_same, fun d hd hne => ⟨rfl, d, by rw [upd_ne hne] at hd; exact hd, hne, rfl⟩⟩
    refine wpAny_call (ChZ.call_kw PySem.F.excBase_ValueError (fun Y => PySem.HandSPX.refsVE_contains Y bm hbm) (I1.kIn _ _ hC) (PySem.W.looks_findIn I1.kIn iC) (fun self => PySem.W.bind_fn I1.kIn self tI)
      (codeAny_mono (F1.run _ X.stack _ _ ⟨[Value.ref (hp.objs.size + 1)], [(f, u)]⟩ [Value.ref (hp.objs.size + 1), u] _ _ (fun _ _ _ => False) (hr.make C [] [(f, u)]) (I2.env0.make C [] [(f, u)]) (hb _ _ _) r2 hsp) fun r s' hq' => ?_))
    cases r with
    | error er => exact hx pins σ _ _ er s' I2 hq'
    | ok fl =>
      cases fl with
      | ret u' =>
        obtain ⟨w, H2, os2, bare2, un2, hok2, rv, ev, d, hd1, hda, eH⟩ := hq'
        subst ev
        have q2 := hq d hd1
        rw [← left_xd (C := C) hn hda, ← eH] at q2
        have ea : H2 (hp.objs.size + 1) = some (exo (hp.objs.size + 1) C (some d)) := by rw [eH, upd_same]
        have ed : H2 d = some (exd d [(f, v)]) := by rw [eH, upd_ne hda, upd_same]
        obtain ⟨h2, g2, d2, t2, os'⟩ := s'
        exact ⟨rv, mk_end (raises_own T.exC T.tyC) I1 hsz kk un2 hok2 os2 bare2 ea ed hd1 q2⟩
      | next => exact False.elim hq'
      | brk => exact False.elim hq'
      | cont => exact False.elim hq'
/-- B.__init__(self, ..), B an own class that takes ValueError's -/
theorem pe_cinit {X : Cx} {x : Str} {B : Addr} {e : Expr} {es : List Expr} {ta : TA} {p1 p2 pos : Pos} {pl : Sem Bool} (hg : Gl X x) (hm : X.mg x = some (.ref B)) (r : ClX.CRead X.K B (.type "type"))
    (vB : PySem.W.findCls X.K (.ref B) (.type "type") "__init__" = some (.val (.builtin "ValueError.__init__"))) (ha : PA X (e :: es) ta) (hdb : (x == ("__debug__" : Str)) = false := by decide)
    (hc : eval (.Call (.Attribute (.Name x p1) "__init__" p2) (e :: es) [] pos) X.env = (do
      let ov ← eval (.Name x p1) X.env
      standAt p2.atName
      let (f, first) ← holding [ov] (getMethod ov "__init__" pl)
      callWith pos f first (backTo pos (starEach (e :: es) X.env)) (backToKw pos (keywordEach [] X.env))) := by rfl)
    (he : starEach (e :: es) X.env = (false, eval e X.env) :: starEach es X.env := by rfl) (hpl : (backTo pos (starEach es X.env)).any (·.1) = false := by rfl) :
    PE X (.Call (.Attribute (.Name x p1) "__init__" p2) (e :: es) [] pos) (tVeI X.K ta) := by
  refine ⟨fun pins s σ H Q I h => ?_⟩
  refine PySem.W.methodCall_KW (ld_glob I hg hm ?_ hdb) hc
  refine PySem.W.method_cls I.kIn r.ga (PySem.W.cls_value I.kIn r.rd vB (by rfl) ?_)
  show wpAny _ _ (callWith pos (Value.builtin "ValueError.__init__") [] (backTo pos (starEach (e :: es) X.env)) []) _ _ _
  refine PyProof.Rows.callWith_method1 (thn (ha.run pos pins _ σ H _ (I.tok _) h) fun us s1 ⟨vs, H1, I1, r1, a, C, ws, ev, hl, T, ea, q⟩ => ?_) he hpl
  subst ev
  cases r1 with
  | @cons _ u0 _ ur ra rw' =>
    obtain rfl : u0 = Value.ref a := ra
    have hlen : ur.length ≤ sizeLine := by
      rw [← Paired.length rw', sizeLine_eq]
      omega
    exact oinit_ok T I1 ea hlen fun s' J => ⟨.non, H1, J, rfl, q⟩
end Ch
/-! ### what the head tells of such a class -/
namespace ChH
open PySem PySem.Spec PyProof.Rows L2 He
def oexB (x : Str) (K : PySem.W.Frag) : Bool := (match K.lookup (ga K x) with
  | some ⟨.type "type", _, .cls cd, sl⟩ => (match cd.mro, sl.toList with
    | .ref C' :: bm, [_, _, _, _, some (.builtin n), _] => decide (C' = ga K x) && (decide (n = "ValueError.__new__") && (!cd.hasDel && (cd.hasDict && PySem.HandSPX.refsVE bm)))
    | _, _ => false)
  | _ => false) && (eqO (PySem.W.findIn K (.ref (ga K x)) "__setattr__") (some (some (.builtin "object.__setattr__"))) && (decide (PySem.W.subIn K (.ref (ga K x)) (.type "BaseException") = some true) &&
    (decide (PySem.W.typeIn K (.ref (ga K x)) = some (.type "type")) && (PySem.W.keepIn K (.ref (ga K x)) && (eqO (PySem.W.findIn K (.ref (ga K x)) "__init__") (some (some (.ref (ma K (ga K x) "__init__")))) &&
      decide (PySem.W.typeIn K (.ref (ma K (ga K x) "__init__")) = some (.type "function")))))))
structure Oex (K : PySem.W.Frag) (x : Str) : Prop where
  T : OexC K (ga K x)
  iC : PySem.W.findIn K (.ref (ga K x)) "__init__" = some (some (.ref (ma K (ga K x) "__init__")))
  tI : PySem.W.typeIn K (.ref (ma K (ga K x) "__init__")) = some (.type "function")
theorem oex_ok {K : PySem.W.Frag} {x : Str} (h : oexB x K = true) : Oex K x := by
  obtain ⟨h1, h⟩ := ba h
  obtain ⟨h2, h⟩ := ba h
  obtain ⟨h3, h⟩ := ba h
  obtain ⟨h4, h⟩ := ba h
  obtain ⟨h5, h⟩ := ba h
  obtain ⟨h6, h7⟩ := ba h
  refine ⟨⟨?_, eqO_ok h2, of_decide_eq_true h3, of_decide_eq_true h4, h5⟩, eqO_ok h6, of_decide_eq_true h7⟩
  split at h1
  · rename_i dd cd sl ho
    split at h1
    · rename_i C' bm k0 k1 k2 k3 n k5 hmr hs
      obtain ⟨a1, h1⟩ := ba h1
      obtain ⟨a2, h1⟩ := ba h1
      obtain ⟨a3, h1⟩ := ba h1
      obtain ⟨a4, a5⟩ := ba h1
      have a1 := of_decide_eq_true a1
      have a2 := of_decide_eq_true a2
      subst a1 a2
      obtain ⟨nm, bs, mro, ns, qn, hd, sn, sub, ab, col, del⟩ := cd
      dsimp only at hmr a3 a4
      have a3 : del = false := by cases del <;> first | rfl | exact absurd a3 (by decide)
      subst hmr a3 a4
      have hsl : sl = #[k0, k1, k2, k3, some (.builtin "ValueError.__new__"), k5] := by
        obtain ⟨l⟩ := sl
        simp only at hs
        rw [hs]
      subst hsl
      exact ⟨nm, qn, ns, bs, bm, sn, sub, ab, col, dd, k0, k1, k2, k3, k5, ho, a5⟩
    · cases h1
  · cases h1
def viB (x : Str) (K : PySem.W.Frag) : Bool := match PySem.W.findCls K (.ref (ga K x)) (.type "type") "__init__" with
  | some (.val (.builtin n)) => decide (n = "ValueError.__init__")
  | _ => false
theorem vi_ok {K : PySem.W.Frag} {x : Str} (h : viB x K = true) : PySem.W.findCls K (.ref (ga K x)) (.type "type") "__init__" = some (.val (.builtin "ValueError.__init__")) := by
  unfold viB at h
  split at h
  · rename_i n e
    rw [e, of_decide_eq_true h]
  · cases h
end ChH

set_option Elab.async false
set_option linter.all false
set_option autoImplicit false
set_option maxRecDepth 100000
set_option maxHeartbeats 4000000
/-! ### a def whose code object is told; its table of code objects -/
namespace Ch
open PySem PySem.Spec PyProof.Rows L2 LamX ChM
section
variable {P : Program} {w : World} {K : PySem.W.Frag} {mg : Str → Option Value} {base : Heap} {x qual : Str} {params : Arguments} {body : List Stmt} {scope : Scope} {kws : List (Str × V)} {f : Addr} {fd : FuncData}
theorem fnok_code {CX : CXT} {N ps : List Str} {k : Nat} {sp : Sp} (F : FunD K x qual params body scope [] kws f fd) (S : FnScope N ps scope) (len : ∀ vs H Q E, sp vs H Q E → vs.length = ps.length)
    (body_ok : ∀ (cdv : Value) (A : Around) (outer : List Env) (s : Shared) (H : Hp) (vs : List V) (Q : VK) (E : XK), fd.code = cdv → Room k (A.deeper (envOfC qual scope s.heap.objs.size f cdv)) → sp vs H Q E →
      ∃ t, PSs (cxOf CX P w K mg base N qual scope f cdv A outer s H E) body t ∧ t { nx := fun _ H' => Q .non H', rt := Q } (start N vs) H) : FnOk P w K mg base CX (k + 1) f fd ps sp := by
  obtain ⟨oc, od, dV, kV, doc, pm, an, cdv, ct, osl, rfl, lk, hcd, _, _⟩ := F.ex
  exact fn_of lk hcd S len fun A outer s H vs Q E hr hsp => body_ok cdv A outer s H vs Q E rfl hr hsp
/-- keyword-only parameter k, given -/
theorem kbind1 {k : Str} (F : FunD K x qual params body scope [] [] f fd) (h : ∀ (kV doc pm : Value) (an : Option Addr) (cdv ct u v : Value), bindArgs (PySem.W.fnOf x qual params body scope .none kV doc pm an cdv ct) ⟨[u], [(k, v)]⟩ = pure [(("self" : Str), u), (k, v)]) :
    ∀ (s : Shared) (u v : Value), BindsTo s fd ⟨[u], [(k, v)]⟩ [("self", u), (k, v)] := by
  obtain ⟨oc, od, dV, kV, doc, pm, an, cdv, ct, osl, rfl, lk, hcd, hD, _⟩ := F.ex
  rcases hD with ⟨_, rfl⟩ | ⟨ne, _⟩
  · exact fun s u v => BindsTo.of_eq (h kV doc pm an cdv ct u v)
  · exact absurd rfl ne
/-- x(lambda: body) -/
theorem pe_lamF {X : Cx} {T : List (Addr × Str)} {TT : (XK → Hp → VK → Prop) → Hp → VK → Prop} {x a : Str} {g c P : Addr} {k : Nat} {pg : Arguments} {bg : List Stmt} {sg : Scope} {fd : FuncData} {Ng : List Str}
    {params : Arguments} {body : Expr} {scope : Scope} {t : XK → TE} {p lpos pos : Pos} (F : FunD X.K x x pg bg sg [] [] g fd) (hm : X.mg x = some (.ref g)) (hb : Binds X.K fd [a] []) (Sg : FnScope Ng [a] sg)
    (hG : ∀ cdg : Value, GivesTo X Ng x sg g cdg bg a (X.env.qual ++ "<lambda>") TT) (TB : TabB X.base X.mg c P) (hcode : X.env.code = .ref c) (hmT : (P, X.env.qual ++ "<lambda>") ∈ T) (hu : ∀ p ∈ T, p.1 = P → p.2 = X.env.qual ++ "<lambda>")
    (hr : Room (k + 2) X.A) (L : LamS X.env.scope scope) (hbody : ∀ (A : Around) (outer : List Env) (s : Shared) (H : Hp) (E : XK) (f c' : Addr), Room k (A.deeper (lamEnv X scope s.heap.objs.size f c')) → PE (lamCx X A outer s H E scope f c') body (t E)) (hg : Gl X x)
    (hNg : Ng[0]? = some a) (hva : Vis sg a) (hdef : defaultsOf params X.env = ([], []))
    (hbind : ∀ (q : Str) (cl : List (Str × Addr)) (pm cv ctv : Value), bindArgs (PySem.W.kla_fn "<lambda>" q params body scope cl pm cv ctv) ⟨[], []⟩ = pure [])
    (hdb : (x == ("__debug__" : Str)) = false := by decide) (hd : (a == ("__debug__" : Str)) = false := by decide) (hcd : (a == ("__classdict__" : Str)) = false := by decide) :
    PE X (.Call (.Name x p) [.Lambda params body scope lpos] [] pos) (tLam T TT t) := by
  obtain ⟨oc, od, dV, kV, doc, pm, an, cdv, ct, osl, rfl, lk, hcd', _, _⟩ := id F.ex
  exact pe_lamcall hg hm F.kp lk hcd' hb Sg hNg hva (hG cdv) TB hcode hmT hu hr L hdef hbind hbody hdb hd hcd
end
/-! ### heaps whose tables of code objects grow -/
section
variable {H H' : Hp}
theorem ExtN.same {H1 : Hp} (a : ExtN H H1) (b : Same H1 H') : ExtN H H' := a.trans (ExtN.of b)
theorem ExtN.lst (e : ExtN H H') {a : Addr} {xs : List V} (h : H a = some (.lst xs)) : H' a = some (.lst xs) := e a _ h fun ps z => nomatch z
theorem ExtN.tup (e : ExtN H H') {a : Addr} {xs : List V} (h : H a = some (.tup xs)) : H' a = some (.tup xs) := e a _ h fun ps z => nomatch z
theorem ExtN.ins (e : ExtN H H') {a C dx : Addr} {fs : List (Str × V)} (h : H a = some (.ins C dx fs)) : H' a = some (.ins C dx fs) := e a _ h fun ps z => nomatch z
theorem ExtN.steps (e : ExtN H H') {vs : List V} {l : List Stp} (h : StepsAt H vs l) : StepsAt H' vs l := pr_im (fun _ _ ⟨p, e1, e2⟩ => ⟨p, e1, ExtN.tup e e2⟩) h
theorem ExtN.plan (e : ExtN H H') {C p : Addr} {l : List Stp} (h : PlanAt C H p l) : PlanAt C H' p l := by
  obtain ⟨dx, t, vs, h1, h2, h3⟩ := h.ex
  exact ⟨dx, t, vs, ExtN.ins e h1, ExtN.tup e h2, ExtN.steps e h3⟩
theorem ExtN.seqL {K : PySem.W.Frag} (e : ExtN H H') {a : Addr} {xs : List V} (h : SqL K H a xs) : SqL K H' a xs := by
  rcases h with (h | ⟨o, h⟩) | h
  · exact .inl (.inl (ExtN.lst e h))
  · exact .inl (.inr ⟨o, e _ _ h fun ps z => nomatch z⟩)
  · exact .inr h
theorem ExtN.free (e : ExtN H H') {a : Addr} (h : H' a = none) : H a = none ∨ ∃ ps, H a = some (.tbl ps) := by
  cases q : H a with
  | none => exact .inl rfl
  | some o =>
    cases o with
    | tbl ps => exact .inr ⟨ps, rfl⟩
    | _ => exact absurd (h.symm.trans (e a _ q fun ps z => nomatch z)) (by simp)
theorem ExtN.st {K : PySem.W.Frag} (e : ExtN H H') {st a : Addr} {ns : List Int} (h : StAt K H st a ns) : StAt K H' st a ns := by
  obtain ⟨pos, m, r, h1, h2⟩ := h.lst
  refine ⟨⟨pos, m, r, ExtN.lst e h1, h2⟩, fun H2 s2 => ?_⟩
  rcases ExtN.seqL e h.scr0 with (q | ⟨o, q⟩) | q
  · by_cases z : a = st
    · rcases h.scr (upd H st (.tup [])) SameB.upd with (y | ⟨o, y⟩) | y
      · rw [z, upd_same] at y; cases y
      · rw [z, upd_same] at y; cases y
      · exact .inr y
    · exact .inl (.inl (s2 a _ z q))
  · have z : a ≠ st := ne_of q (ExtN.lst e h1) fun z => nomatch z
    exact .inl (.inr ⟨o, s2 a _ z q⟩)
  · exact .inr q
/-- tables stay where nothing but lists is written -/
theorem tabs_keep {T : List (Addr × Str)} (t : Tabs T H) (k : ∀ b o, (∀ xs, o ≠ .lst xs) → H b = some o → H' b = some o) : Tabs T H' := fun p hp => by
  obtain ⟨ps, h1, h2, h3⟩ := t p hp
  refine ⟨ps, k _ _ (fun xs z => nomatch z) h1, h2, fun pos cv hc => ?_⟩
  obtain ⟨c, e1, e2⟩ := h3 pos cv hc
  exact ⟨c, e1, k _ _ (fun xs z => by unfold CodeO at z; cases z) e2⟩
theorem tabs_same {T : List (Addr × Str)} (t : Tabs T H) (k : Same H H') : Tabs T H' := Tabs.ext t k
theorem tabs_B {K : PySem.W.Frag} {T : List (Addr × Str)} {st a : Addr} {ns : List Int} (t : Tabs T H) (S : StAt K H st a ns) (k : SameB st H H') : Tabs T H' := tabs_keep t fun b o hd e => k b o (S.ne e hd) e
end
/-! ### readings -/
section
variable {σ : L2.St} {H : Hp} {Q : VK} {K : PySem.W.Frag} {QX : XK} {D : Ends}
theorem x_rx {C : Addr} {f : Str} {tk : TA} (k : tk σ H fun zs H1 => ∃ v, zs = [v] ∧ ∀ d, H1 d = none → QX (.ref C) (some d) (upd H1 d (.xd [(f, v)]))) : tRx C f tk σ H QX := k
theorem x_rx1 {A : V → Prop} {v : V} (k : A v) : ∃ u, [v] = [u] ∧ A u := ⟨v, rfl, k⟩
theorem x_vei {ta : TA} (k : ta σ H fun vs H1 => ∃ (a C : Addr) (ws : List V), vs = .ref a :: ws ∧ ws.length ≤ 1000 ∧ OexC K C ∧ H1 a = some (exo a C none) ∧ Q .non H1) : tVeI K ta σ H Q := k
theorem x_lam {T : List (Addr × Str)} {TT : (XK → Hp → VK → Prop) → Hp → VK → Prop} {t : XK → TE} (h : Tabs T H) (k : ∀ H1, ExtN H H1 → Tabs T H1 → TT (fun E H' Q' => t E σ H' Q') H1 Q) : tLam T TT t σ H Q := ⟨h, k⟩
end
end Ch
/-! ### what the head tells of a def's table -/
namespace ChH
open PySem PySem.Spec PyProof.Rows L2 He LamX
def cdA (K : PySem.W.Frag) (f : Addr) : Addr := match (fdOf K f).code with
  | .ref c => c
  | _ => 0
def tbA (K : PySem.W.Frag) (f : Addr) : Addr := match K.lookup (cdA K f) with
  | some ⟨_, _, .fields vs, _⟩ => (match (vs[11]? : Option Value) with
    | some (.ref P) => P
    | _ => 0)
  | _ => 0
def tabB (x : Str) (K : PySem.W.Frag) : Bool := (match (fdOf K (ga K x)).code with
  | .ref c => (match K.lookup c with
    | some ⟨.type t, _, .fields vs, _⟩ => decide (t = "code") && ((match (vs[11]? : Option Value) with
      | some (.ref P) => decide (c ≠ P) && (match K.lookup P with
        | none => true
        | some _ => false)
      | _ => false) && ((match vs.getD 18 .none with
      | .str _ _ => true
      | _ => false) && ((match vs.getD 7 .none with
      | .int _ _ => true
      | _ => false) && ((match vs.getD 9 .none with
      | .bool _ => true
      | _ => false) && (match vs.getD 10 .none with
      | .int _ _ => true
      | _ => false)))))
    | _ => false)
  | _ => false)
structure TabOk (K : PySem.W.Frag) (f : Addr) : Prop where
  code : (fdOf K f).code = .ref (cdA K f)
  none_ : K.lookup (tbA K f) = none
  hd : ∀ h : Heap, K.In h → PySem.W.CodeHd h (cdA K f) (tbA K f)
  lk : ∃ e dd vs sl, K.lookup (cdA K f) = some ⟨e, dd, .fields vs, sl⟩ ∧ vs[11]? = some (.ref (tbA K f))
theorem tab_ok {K : PySem.W.Frag} {x : Str} (h : tabB x K = true) : TabOk K (ga K x) := by
  unfold tabB at h
  split at h
  · rename_i c ec
    have eC : cdA K (ga K x) = c := by unfold cdA; rw [ec]
    split at h
    · rename_i t dd vs sl el
      obtain ⟨h1, h⟩ := ba h
      obtain ⟨h2, h⟩ := ba h
      obtain ⟨h3, h⟩ := ba h
      obtain ⟨h4, h⟩ := ba h
      obtain ⟨h5, h6⟩ := ba h
      have h1 := of_decide_eq_true h1
      subst h1
      split at h2
      · rename_i P eP
        obtain ⟨a1, a2⟩ := ba h2
        have eT : tbA K (ga K x) = P := by unfold tbA; rw [eC, el]; dsimp only; rw [eP]
        have g11 : vs.getD 11 .none = .ref P := by
          rw [Array.getD_eq_getD_getElem?, eP]
          rfl
        split at h3
        · rename_i s1 t1 e18
          split at h4
          · rename_i i7 t7 e7
            split at h5
            · rename_i b9 e9
              split at h6
              · rename_i i10 t10 e10
                refine ⟨ec.trans (by rw [eC]), ?_, fun hh KX => ?_, ⟨_, _, _, _, by rw [eC]; exact el, by rw [eT]; exact eP⟩⟩
                · rw [eT]
                  split at a2
                  · assumption
                  · cases a2
                · rw [eC, eT]
                  exact ⟨_, vs, s1, t1, i7, t7, b9, i10, t10, KX _ _ el, rfl, rfl, eP, g11, e18, e7, e9, e10, of_decide_eq_true a1⟩
              · cases h6
            · cases h5
          · cases h4
        · cases h3
      · cases h2
    · cases h
  · cases h
def tneB (x y : Str) (K : PySem.W.Frag) : Bool := decide (tbA K (ga K x) ≠ tbA K (ga K y))
theorem tne_ok {K : PySem.W.Frag} {x y : Str} (h : tneB x y K = true) : tbA K (ga K x) ≠ tbA K (ga K y) := of_decide_eq_true h
def nfB (x f : Str) (K : PySem.W.Frag) : Bool := eqO (PySem.W.findIn K (.ref (ga K x)) f) (some none)
theorem nf_ok {K : PySem.W.Frag} {x f : Str} (h : nfB x f K = true) : PySem.W.findIn K (.ref (ga K x)) f = some none := eqO_ok h
def xfF (x : Str) (K : PySem.W.Frag) : Bool := L2.xfB K (ga K x)
theorem xf_ok {K : PySem.W.Frag} {x : Str} (h : xfF x K = true) : L2.XfC K (ga K x) := L2.xfB_ok h
end ChH
namespace Ch
open PySem PySem.Spec PyProof.Rows L2
theorem x_ost {K : PySem.W.Frag} {f : Str} {to te : TE} {D : Ends} {σ : L2.St} {H : Hp} (k : te σ H fun y H1 => to σ H1 fun x H2 => ∃ a C : Addr, x = .ref a ∧ OexC K C ∧ PySem.W.findIn K (.ref C) f = some none ∧
  ((H2 a = some (exo a C none) ∧ ∀ dx, H2 dx = none → dx ≠ a → D.nx σ (upd (upd H2 dx (exd dx [(f, y)])) a (exo a C (some dx)))) ∨
    ∃ (dx : Addr) (fs : List (Str × V)), H2 a = some (exo a C (some dx)) ∧ H2 dx = some (exd dx fs) ∧ fs.length ≤ 900 ∧ D.nx σ (upd H2 dx (exd dx ((f, y) :: fs))))) : tOst K f to te D σ H := k
end Ch
/-! ### the end of a law whose defs make lambdas -/
namespace Ch
open PySem PySem.Spec PyProof.Rows L2 LamX
theorem walk_tab {l : PySem.W.OpenLaw} {n k : Nat} {q : Program} {loose : List Str} {XP : (Str → Option Value) → Heap → Prop} {YP : World → Heap → Prop} {d : DefRec} {CX : CXT} {x : Str}
    (hn : l.most = some n) (hn2 : n ≤ sizeLine) (hdf : d.params.defaults = []) (hr : Room k callerA)
    (F : ∀ (w : World) (mg : Str → Option Value) (fa : Addr) (h : Heap), YP w h → h.Ns mainGlobals mg → mg d.name = some (.ref fa) →
      ∃ K : PySem.W.Frag, K.In h ∧ ((∀ (y : Str) (fy : Addr), ((recsOf q).any fun e => e.name == y) = true → mg y = some (.ref fy) → OwnTab K fy h) → LawAtS l w K CX k n x mg fa h))
    (hCX : ∀ (H : Hp) (s : Shared) (e : Value) (s' : Shared), CX [] H s (fun _ _ _ => False) e s' → False) : PySem.W.WalkO q loose XP YP l.row.toRowW d [] (fun f vs => PySem.call f vs) := by
  refine Att.attach_callB hn hdf fun w s₀ s₁ mg mb fa o pm cd doc a vs ns G Y ho hd hcd hmg hobj hints hlen hbits hg => ?_
  obtain ⟨K, KX, FF⟩ := F w mg fa _ Y G.T.g hmg
  have own : ∀ (y : Str) (fy : Addr), ((recsOf q).any fun e => e.name == y) = true → mg y = some (.ref fy) → OwnTab K fy s₁.heap := by
    intro y fy hy hmy c P o1 fd1 e dd vs1 sl k1 k2 k3 k4 k5
    obtain ⟨dL, hm, hn1⟩ := List.any_eq_true.mp hy
    have en : dL.name = y := beq_iff_eq.mp hn1
    obtain ⟨a', o', fd', c', P', h1, h2, h3, h4, h5, h6⟩ := G.T.tab dL hm
    rw [en, hmy] at h1
    cases h1
    have g1 := KX _ _ k1
    rw [g1] at h2
    cases h2
    rw [k2] at h3
    cases h3
    rw [k3] at h4
    cases h4
    obtain ⟨⟨oc, vc, u1, _, u3, u4⟩, hP⟩ := h6
    have g2 := KX _ _ k4
    rw [g2] at u1
    cases u1
    cases u3
    rw [k5] at u4
    cases u4
    exact hP
  obtain ⟨fd, cs, sp, hT, nT, C, hb, hsp, hF⟩ := FF own
  exact law_callTs KX G.T.g G.T.b G.T.builtins G.T.nolimit hg hT nT C G.T.bmain hobj hints (Nat.le_trans hlen hn2) hr hF hb (fun H hH hS => hsp H a ns hlen hbits hH hS) fun H e s' => hCX H s₁ e s'
end Ch
namespace ChH
open PySem PySem.Spec PyProof.Rows L2 He LamX
/-- the table at the start -/
theorem TabOk.empty {K : PySem.W.Frag} {x : Str} {f : Addr} {h : Heap} {qual : Str} {ps : Arguments} {bd : List Stmt} {sc : Scope} (T : TabOk K f) (F : FunD K x qual ps bd sc [] [] f (fdOf K f)) (own : OwnTab K f h) :
    h.get? (tbA K f) = some { cls := .none, data := .fields #[] } := by
  obtain ⟨e, dd, vs, sl, l1, l2⟩ := T.lk
  obtain ⟨oc, od, dV, kV, doc, pm, an, cdv, ct, osl, ef, lk, _⟩ := F.ex
  exact own _ _ _ _ _ _ _ _ lk rfl T.code l1 l2
end ChH
/-! ### a look at the head that leaves the tables of code objects out -/
namespace ChH
open PySem PySem.Spec PyProof.Rows L2 He
def noTab (g : Addr → Option Obj) (a : Addr) : Bool := match g a with
  | some ⟨.none, _, .fields _, _⟩ => false
  | _ => true
def obsTG (n : Nat) (fa : List Fa) (xs : List Fx) (fn : List He5.DefA) (g : Addr → Option Obj) : AlD := obsC fa xs fn (frG g ((He5.asA g n).filter (noTab g)))
def hookT (n : Nat) (fa : List Fa) (xs : List Fx) (fn : List He5.DefA) : PySem.W.Hook where
  α := AlD
  obs := fun s => obsTG n fa xs fn s.heap.get?
  val := fun _ => He5.valA fn
  says := fun _ h => ∃ K : PySem.W.Frag, K.In h ∧ SaysC fa xs fn K
  of := fun _ _ e => ⟨_, frG_in, e⟩
  keeps := fun _ _ _ ⟨K, hK, c⟩ k => ⟨K, hK.keeps k, c⟩
theorem obsTG_eq {n : Nat} {fa : List Fa} {xs : List Fx} {fn : List He5.DefA} {g : Addr → Option Obj} {s : Shared} (h : ∀ a, g a = s.heap.get? a) : obsTG n fa xs fn g = (hookT n fa xs fn).obs s := by
  rw [show g = s.heap.get? from funext h]
  rfl
end ChH
namespace Ch
open PySem PySem.Spec PyProof.Rows L2 LamX
theorem takes_len {X : Cx} {W : WX} (t : Takes X W) : Takes X (fun cls d σ H => σ.length = X.N.length → W cls d σ H) := fun u s' ⟨a, B, sI, pins, σ, H, cls, d, e, I, nb, up, sky, na, os, ag, w⟩ =>
  t u s' ⟨a, B, sI, pins, σ, H, cls, d, e, I, nb, up, sky, na, os, ag, w (by first | exact I.len | exact I.len.symm)⟩
theorem x_xf {a : Addr} {cls : Value} {d : Option Addr} {C : Addr} {f : Str} {te : TE} {σ : L2.St} {H : Hp} {Q : VK} (k : te σ H fun x H1 => x = .ref a ∧ cls = .ref C ∧ ∃ (dd : Addr) (fs : List (Str × V)) (v : V), d = some dd ∧ H1 dd = some (.xd fs) ∧ fs.lookup f = some v ∧ Q v H1) : tXf a cls d C f te σ H Q := k
/-- try: return a() / except X as e: return (nm, e.f) -/
def TTx (CT : Addr) (nm f : Str) : (XK → Hp → VK → Prop) → Hp → VK → Prop := fun tl H Q =>
  tl (fun cls d H' => cls = .ref CT ∧ ∃ dd v, d = some dd ∧ H' dd = some (.xd [(f, v)]) ∧ ∀ t, H' t = none → Q (.ref t) (upd H' t (.tup [.str nm, v]))) H Q
theorem x_TTx {CT : Addr} {nm f : Str} {tl : XK → Hp → VK → Prop} {H : Hp} {Q : VK} (k : tl (fun cls d H' => cls = .ref CT ∧ ∃ dd v, d = some dd ∧ H' dd = some (.xd [(f, v)]) ∧ ∀ t, H' t = none → Q (.ref t) (upd H' t (.tup [.str nm, v]))) H Q) : TTx CT nm f tl H Q := k
/-- try: return a() / except X: return (nm,) -/
def TTn (CN : Addr) (nm : Str) : (XK → Hp → VK → Prop) → Hp → VK → Prop := fun tl H Q =>
  tl (fun cls _ H' => cls = .ref CN ∧ ∀ t, H' t = none → Q (.ref t) (upd H' t (.tup [.str nm]))) H Q
theorem x_TTn {CN : Addr} {nm : Str} {tl : XK → Hp → VK → Prop} {H : Hp} {Q : VK} (k : tl (fun cls _ H' => cls = .ref CN ∧ ∀ t, H' t = none → Q (.ref t) (upd H' t (.tup [.str nm]))) H Q) : TTn CN nm tl H Q := k
end Ch

set_option Elab.async false
set_option linter.all false
set_option autoImplicit false
set_option maxRecDepth 100000
set_option maxHeartbeats 4000000
/-! ### lambdas as values: made, kept, called later -/
namespace LamV
open PySem PySem.Spec PyProof.Rows L2 LamX
/-- the function of a lambda with these defaults -/
def fdV (q : Str) (params : Arguments) (body : Expr) (scope : Scope) (cl : List (Str × Addr)) (pm cdv ct dV : Value) : FuncData :=
  { name := "<lambda>", qualname := q, params := params, body := .expr body, scope := scope, globals := mainGlobals, closure := cl, defaults := dV, kwdefaults := .none,
    doc := .none, pyModule := pm, annotations := none, code := cdv, closureTuple := ct, builtins := builtinsNs }
def obV (q : Str) (params : Arguments) (body : Expr) (scope : Scope) (cl : List (Str × Addr)) (pm : Value) (c' : Addr) (ct dV : Value) : Obj :=
  { cls := .type "function", data := .func (fdV q params body scope cl pm (.ref c') ct dV) }
/-- the object at f is such a function -/
def LamO (f : Addr) (q : Str) (params : Arguments) (body : Expr) (scope : Scope) (cl : List (Str × Addr)) (c' : Addr) (dV : Value) : HO :=
  .ext fun h => ∃ pm ct, h.get? f = some (obV q params body scope cl pm c' ct dV)
theorem lamO_tbl {f : Addr} {q : Str} {params : Arguments} {body : Expr} {scope : Scope} {cl : List (Str × Addr)} {c' : Addr} {dV : Value} (ps : Array Value) : LamO f q params body scope cl c' dV ≠ .tbl ps := fun z => by
  unfold LamO at z
  cases z
theorem lamO_lst {f : Addr} {q : Str} {params : Arguments} {body : Expr} {scope : Scope} {cl : List (Str × Addr)} {c' : Addr} {dV : Value} (xs : List V) : LamO f q params body scope cl c' dV ≠ .lst xs := fun z => by
  unfold LamO at z
  cases z
theorem lamO_ok {P : Program} {w : World} {H : Hp} {h : Heap} {f : Addr} {q : Str} {params : Arguments} {body : Expr} {scope : Scope} {cl : List (Str × Addr)} {pm ct dV : Value} {c' : Addr} (e : h.get? f = some (obV q params body scope cl pm c' ct dV)) :
    ObjOk P w H h f (LamO f q params body scope cl c' dV) :=
  ⟨⟨pm, ct, e⟩, ⟨_, e⟩, fun h1 h2 ⟨u1, u2, z⟩ k => ⟨u1, u2, k _ z⟩⟩
theorem lamO_at {P : Program} {w : World} {H : Hp} {h : Heap} {f : Addr} {q : Str} {params : Arguments} {body : Expr} {scope : Scope} {cl : List (Str × Addr)} {dV : Value} {c' : Addr} (ok : HOk P w H h) (e : H f = some (LamO f q params body scope cl c' dV)) :
    ∃ pm ct, h.get? f = some (obV q params body scope cl pm c' ct dV) := by
  have x : ObjOk P w H h f (.ext fun h => ∃ pm ct, h.get? f = some (obV q params body scope cl pm c' ct dV)) := ok f _ e
  exact x.1
/-! #### making -/
section
variable {M : Model} {A : Around} {E : Value → Shared → Prop} {s : Shared} {q : Str} {params : Arguments} {body : Expr} {scope : Scope} {env : Env} {c P : Addr} {ps : Array Value} {pos : Pos} {ln : Nat}
  {mg : Str → Option Value} {cl : List (Str × Addr)} {Q : Value → Shared → Prop} {dV : Value}
/-- its code object is new -/
theorem tail_new (hcl : closureFor scope env = pure cl) (hge : env.globals = mainGlobals) (hg : s.heap.Ns mainGlobals mg) (hco : env.code = .ref c) (C : PySem.W.CodeHd s.heap c P)
    (hP : s.heap.get? P = some { cls := .none, data := .fields ps }) (ht : TriplesOk ps.toList) (hnf : codeAmong pos ps.toList = none) (hgP : mainGlobals ≠ P) (hb : s.heap.BuiltinsAt mg P)
    (h : ∀ c' ct h' tk, Heap.ExtBut P s.heap h' → s.heap.objs.size ≤ c' → c' < h'.objs.size → h'.CodeRec (.ref c') q → h'.get? P = some { cls := .none, data := .fields (ps ++ #[rawInt pos.line, rawInt pos.col, .ref c']) } →
      Q (.ref h'.objs.size) { s with heap := h'.push (obV q params body scope cl ((mg "__name__").getD .none) c' ct dV), toks := tk }) :
    wpAny M A (makeTail "<lambda>" q params (.expr body) scope env dV .none none pos ln) Q E s := by
  obtain ⟨bm, ob, b1, b2, _, b4, b5, b6, b7, b8⟩ := hb
  unfold makeTail
  rw [hcl, hge]
  refine wpAny_bind (wpAny_pure ?_)
  cases cl with
  | nil =>
    simp only [List.isEmpty_nil, if_true]
    refine wpAny_bind (wpAny_pure ?_)
    refine wpAny_bind (wpAny_functionCodeX hco (C.code hP ht) (C.tab hP) hnf fun c' h' tk hx g1 g2 _ hrec htb _ => ?_)
    have hg2 := hg.extBut hx hgP
    refine wpAny_bind (wpAny_builtinsFor hg2 b1 b2 (hx _ _ b4 b5) b6 b7 b8 ?_)
    refine wpAny_bind (wpAny_nsGet hg2 ?_)
    exact wpAny_bind (wpAny_pure (wpAny_newObj_type (h c' .none h' tk hx g1 g2 hrec htb.2) (by size_fits)))
  | cons u r =>
    simp only [List.isEmpty_cons, Bool.false_eq_true, if_false]
    refine wpAny_bind (wpAny_newTextTuple ?_)
    have C2 := fun oT : Obj => C.keeps (h' := s.heap.push oT) fun b o e => Heap.get?_push_of_some _ e
    refine wpAny_bind (wpAny_functionCodeX hco ((C2 _).code (Heap.get?_push_of_some _ hP) ht) ((C2 _).tab (Heap.get?_push_of_some _ hP)) hnf fun c' h' tk hx g1 g2 _ hrec htb _ => ?_)
    have hg2 := (hg.push _).extBut hx hgP
    have hx2 : Heap.ExtBut P s.heap h' := fun b o nb e => hx b o nb (Heap.get?_push_of_some _ e)
    have g3 : s.heap.objs.size ≤ c' := Nat.le_trans (by rw [Heap.size_push]; omega) g1
    refine wpAny_bind (wpAny_builtinsFor hg2 b1 b2 (hx2 _ _ b4 b5) b6 b7 b8 ?_)
    refine wpAny_bind (wpAny_nsGet hg2 ?_)
    exact wpAny_bind (wpAny_pure (wpAny_newObj_type (h c' _ h' tk hx2 g3 g2 hrec htb.2) (by size_fits)))
/-- its code object is found in the table -/
theorem tail_hit {c' : Addr} (hcl : closureFor scope env = pure cl) (hge : env.globals = mainGlobals) (hg : s.heap.Ns mainGlobals mg) (hco : env.code = .ref c) (C : PySem.W.CodeHd s.heap c P)
    (hP : s.heap.get? P = some { cls := .none, data := .fields ps }) (ht : TriplesOk ps.toList) (hf : codeAmong pos ps.toList = some (.ref c')) (hb : s.heap.BuiltinsAt mg P)
    (h : ∀ (ct : Value) (h' : Heap) (tk : Tok), (∀ b o, s.heap.get? b = some o → h'.get? b = some o) → s.heap.objs.size ≤ h'.objs.size →
      Q (.ref h'.objs.size) { s with heap := h'.push (obV q params body scope cl ((mg "__name__").getD .none) c' ct dV), toks := tk }) :
    wpAny M A (makeTail "<lambda>" q params (.expr body) scope env dV .none none pos ln) Q E s := by
  obtain ⟨bm, ob, b1, b2, _, b4, b5, b6, b7, b8⟩ := hb
  unfold makeTail
  rw [hcl, hge]
  refine wpAny_bind (wpAny_pure ?_)
  cases cl with
  | nil =>
    simp only [List.isEmpty_nil, if_true]
    refine wpAny_bind (wpAny_pure ?_)
    refine wpAny_bind (wpAny_functionCode_hit hco (C.code hP ht) hf ?_)
    refine wpAny_bind (wpAny_builtinsFor hg b1 b2 b5 b6 b7 b8 ?_)
    refine wpAny_bind (wpAny_nsGet hg ?_)
    exact wpAny_bind (wpAny_pure (wpAny_newObj_type (h .none s.heap s.toks (fun _ _ z => z) (Nat.le_refl _)) (by size_fits)))
  | cons u r =>
    simp only [List.isEmpty_cons, Bool.false_eq_true, if_false]
    refine wpAny_bind (wpAny_newTextTuple ?_)
    have C2 := fun oT : Obj => C.keeps (h' := s.heap.push oT) fun b o e => Heap.get?_push_of_some _ e
    refine wpAny_bind (wpAny_functionCode_hit hco ((C2 _).code (Heap.get?_push_of_some _ hP) ht) hf ?_)
    refine wpAny_bind (wpAny_builtinsFor (hg.push _) b1 b2 (Heap.get?_push_of_some _ b5) b6 b7 b8 ?_)
    refine wpAny_bind (wpAny_nsGet (hg.push _) ?_)
    exact wpAny_bind (wpAny_pure (wpAny_newObj_type (h _ _ s.toks (fun b o e => Heap.get?_push_of_some _ e) (by rw [Heap.size_push]; omega)) (by size_fits)))
end
section
variable {X : Cx} {pins : List (Addr × Obj)} {σ : L2.St} {H : Hp} {s : Shared}
/-- the rest of the making, its defaults there -/
theorem make_rest {T : List (Addr × Str)} {c P : Addr} {params : Arguments} {body : Expr} {scope : Scope} {pos : Pos} {ln : Nat} {dV : Value} {E : Value → Shared → Prop} {Q : Value → Shared → Prop} (I : Inv X pins σ H s) (TB : TabB X.base X.mg c P) (hco : X.env.code = .ref c)
    (hm : (P, X.env.qual ++ "<lambda>") ∈ T) (hu : ∀ p ∈ T, p.1 = P → p.2 = X.env.qual ++ "<lambda>") (hT : Tabs T H) (hfree : ∀ y ∈ scope.names, y.2 = .free → ∃ c, X.env.cells.lookup y.1 = some c)
    (h : ∀ (f c' : Addr) (H1 : Hp) (s' : Shared), Inv X pins σ H1 s' → ExtN H H1 → Tabs T H1 → H1 f = some (LamO f (X.env.qual ++ "<lambda>") params body scope (cloFrom X.env.cells scope.names []) c' dV) → H1 c' = some (CodeO c' (X.env.qual ++ "<lambda>")) → Q (.ref f) s') :
    wpAny (model X.prog X.w) X.A (makeTail "<lambda>" (X.env.qual ++ "<lambda>") params (.expr body) scope X.env dV .none none pos ln) Q E s := by
  obtain ⟨ps, hP, ht, ha⟩ := hT _ hm
  have bP : s.heap.BuiltinsAt X.mg P := TB.bm.keeps I.bk
  have hP' : s.heap.get? P = some { cls := .none, data := .fields ps } := I.hok P _ hP
  cases hc : codeAmong pos ps.toList with
  | none =>
    refine tail_new (mg := X.mg) (c := c) (P := P) (ps := ps) (closure_ok hfree) I.ok.glob (I.mod.glob.keeps I.bk) hco (TB.code.keeps I.bk) hP' ht hc TB.gP bP fun c' ct h' tk hx g1 g2 hrec htb => ?_
    obtain ⟨c2, oc, vs, t, e2, hoc, hd, hv⟩ := hrec
    cases e2
    have nC : H c' = none := I.hok.fresh g1
    have nPc : P ≠ c' := ne_of_none hP nC
    have I1 := inv_table (t' := tk) (more := #[rawInt pos.line, rawInt pos.col, .ref c']) (h' := h') I hP (fun b o nb e => hx b o nb e) htb g1 ⟨oc, vs, t, hoc, hd, hv⟩
    have hE : ExtN H (upd (upd H P (.tbl (ps ++ #[rawInt pos.line, rawInt pos.col, .ref c']))) c' (CodeO c' (X.env.qual ++ "<lambda>"))) := fun b o e n => by
      have z : b ≠ P := fun z => n ps (Option.some.inj (e.symm.trans (by rw [z]; exact hP)))
      rw [upd_ne (ne_of_none e nC), upd_ne z]
      exact e
    have eL : (ps ++ #[rawInt pos.line, rawInt pos.col, .ref c']).toList = ps.toList ++ [rawInt pos.line, rawInt pos.col, .ref c'] := by simp
    have T1 : Tabs T (upd (upd H P (.tbl (ps ++ #[rawInt pos.line, rawInt pos.col, .ref c']))) c' (CodeO c' (X.env.qual ++ "<lambda>"))) := fun p hp => by
      by_cases z : p.1 = P
      · rw [hu p hp z, z]
        refine ⟨_, by rw [upd_ne nPc, upd_same], by rw [eL]; exact PySem.TriplesOk_snoc _ _ _ _ ht, fun p' cv hcv => ?_⟩
        rw [eL] at hcv
        rcases among_app _ ht hcv with y | y
        · obtain ⟨d0, d1, d2⟩ := ha p' cv y
          exact ⟨d0, d1, hE _ _ d2 codeO_ne⟩
        · exact ⟨c', y, upd_same⟩
      · obtain ⟨qs, a1, a2, a3⟩ := hT p hp
        refine ⟨qs, by rw [upd_ne (ne_of_none a1 nC), upd_ne z]; exact a1, a2, fun p' cv hcv => ?_⟩
        obtain ⟨d0, d1, d2⟩ := a3 p' cv hcv
        exact ⟨d0, d1, hE _ _ d2 codeO_ne⟩
    have nf := I1.hok.fresh (Nat.le_refl h'.objs.size)
    have e1 := Heap.get?_push_size h' (o := obV (X.env.qual ++ "<lambda>") params body scope (cloFrom X.env.cells scope.names []) ((X.mg "__name__").getD .none) c' ct dV) rfl
    have I2 := I1.laid (t' := tk) (a := h'.objs.size) (o := LamO h'.objs.size (X.env.qual ++ "<lambda>") params body scope (cloFrom X.env.cells scope.names []) c' dV) (h' := h'.push (obV (X.env.qual ++ "<lambda>") params body scope (cloFrom X.env.cells scope.names []) ((X.mg "__name__").getD .none) c' ct dV))
      (fun b o e => Heap.get?_push_of_some _ e) (Nat.le_refl _) (lamO_ok e1)
    exact h _ c' _ _ I2 (hE.trans (ExtN.of (Ch.Same.new nf))) (Tabs.ext T1 (Ch.Same.new nf)) upd_same (Ch.up upd_same nf)
  | some cv =>
    obtain ⟨c', e, hco'⟩ := ha pos cv hc
    subst e
    refine tail_hit (mg := X.mg) (c := c) (P := P) (ps := ps) (closure_ok hfree) I.ok.glob (I.mod.glob.keeps I.bk) hco (TB.code.keeps I.bk) hP' ht hc bP fun ct h' tk hx g1 => ?_
    have I1 := I.kept (t' := tk) hx
    have nf : H h'.objs.size = none := I.hok.fresh g1
    have e1 := Heap.get?_push_size h' (o := obV (X.env.qual ++ "<lambda>") params body scope (cloFrom X.env.cells scope.names []) ((X.mg "__name__").getD .none) c' ct dV) rfl
    have I2 := I1.laid (t' := tk) (a := h'.objs.size) (o := LamO h'.objs.size (X.env.qual ++ "<lambda>") params body scope (cloFrom X.env.cells scope.names []) c' dV) (h' := h'.push (obV (X.env.qual ++ "<lambda>") params body scope (cloFrom X.env.cells scope.names []) ((X.mg "__name__").getD .none) c' ct dV))
      (fun b o e => Heap.get?_push_of_some _ e) (Nat.le_refl _) (lamO_ok e1)
    exact h _ c' _ _ I2 (ExtN.of (Ch.Same.new nf)) (Tabs.ext hT (Ch.Same.new nf)) upd_same (Ch.up hco' nf)
end
end LamV
/-! #### the rules of making -/
namespace LamV
open PySem PySem.Spec PyProof.Rows L2 LamX
def tLamMk (T : List (Addr × Str)) (q : Str) (params : Arguments) (body : Expr) (scope : Scope) (cl : List (Str × Addr)) : TE := fun σ H Q => Tabs T H ∧
  ∀ (f c' : Addr) (H1 : Hp), ExtN H H1 → Tabs T H1 → H1 f = some (LamO f q params body scope cl c' .none) → H1 c' = some (CodeO c' q) → Q (.ref f) H1
def tLamMk1 (T : List (Addr × Str)) (q : Str) (params : Arguments) (body : Expr) (scope : Scope) (cl : List (Str × Addr)) (d : Int) : TE := fun σ H Q => Tabs T H ∧
  ∀ (f c' D : Addr) (H1 : Hp), ExtN H H1 → Tabs T H1 → H1 f = some (LamO f q params body scope cl c' (.ref D)) → H1 c' = some (CodeO c' q) → H1 D = some (.tup [.int d]) → Q (.ref f) H1
section
variable {X : Cx} {T : List (Addr × Str)} {c P : Addr} {params : Arguments} {body : Expr} {scope : Scope} {pos : Pos}
/-- lambda: body -/
theorem pe_lam (TB : TabB X.base X.mg c P) (hco : X.env.code = .ref c) (hm : (P, X.env.qual ++ "<lambda>") ∈ T) (hu : ∀ p ∈ T, p.1 = P → p.2 = X.env.qual ++ "<lambda>") (hfree : X.Ok → ∀ y ∈ scope.names, y.2 = .free → ∃ c, X.env.cells.lookup y.1 = some c)
    (hdef : defaultsOf params X.env = ([], [])) : PE X (.Lambda params body scope pos) (tLamMk T (X.env.qual ++ "<lambda>") params body scope (cloFrom X.env.cells scope.names [])) := by
  refine ⟨fun pins s σ H Q I h => ?_⟩
  obtain ⟨hT, h⟩ := h
  refine PySem.W.kla_eval hdef ?_
  rw [makeFunction_eq]
  simp only [List.zip_nil_right, List.filterMap_nil,
    List.isEmpty_nil, if_true, pure_bind]
  exact make_rest I TB hco hm hu hT (hfree I.ok) fun f c' H1 s' I1 e1 T1 a1 a2 => ⟨.ref f, H1, I1, rfl, h f c' H1 e1 T1 a1 a2⟩
/-- lambda p=d: body, d a written int -/
theorem pe_lam1 {d : Int} {ed : Expr} (TB : TabB X.base X.mg c P) (hco : X.env.code = .ref c) (hm : (P, X.env.qual ++ "<lambda>") ∈ T) (hu : ∀ p ∈ T, p.1 = P → p.2 = X.env.qual ++ "<lambda>") (hfree : X.Ok → ∀ y ∈ scope.names, y.2 = .free → ∃ c, X.env.cells.lookup y.1 = some c)
    (he : PE X ed (tC (.int d))) (hdef : defaultsOf params X.env = ([eval ed X.env], [])) : PE X (.Lambda params body scope pos) (tLamMk1 T (X.env.qual ++ "<lambda>") params body scope (cloFrom X.env.cells scope.names []) d) := by
  refine ⟨fun pins s σ H Q I h => ?_⟩
  obtain ⟨hT, h⟩ := h
  rw [arm_eval_Lambda, hdef]
  show wpAny _ _ (do
    let dv ← evalAll [eval ed X.env]
    let kdv ← holding dv (evalAllOpt [])
    makeFunction "<lambda>" (X.env.qual ++ "<lambda>") params (.expr body) scope X.env dv kdv [] pos pos.line) _ _ _
  refine wpAny_bind (wpAny_evalAll_cons (thn (he.run pins s σ H (fun v H1 => v = .int d ∧ H1 = H) I ⟨rfl, rfl⟩) fun u s1 ⟨v, H1, I1, rv, ev, eH⟩ => wpAny_pure ?_))
  subst ev
  subst eH
  refine wpAny_bind (wpAny_holding (wpAny_pure ?_))
  rw [makeFunction_eq]
  simp only [List.zip_nil_right, List.filterMap_nil,
    List.isEmpty_nil, List.isEmpty_cons, Bool.false_eq_true, if_false, if_true, pure_bind]
  refine wpAny_bind (wpAny_newTextTuple ?_)
  have nD : H1 s1.heap.objs.size = none := I1.hok.fresh (Nat.le_refl _)
  have I2 := I1.laid (t' := s1.toks) (a := s1.heap.objs.size) (o := .tup [.int d]) (h' := s1.heap.push { cls := .type "tuple", data := .seq [u].toArray }) (fun b o e => Heap.get?_push_of_some _ e) (Nat.le_refl _)
    ⟨by show 1 ≤ sizeLine; rw [sizeLine_eq]; omega, [u], .cons rv .nil, ⟨_, Heap.get?_push_size _ rfl, rfl, _, rfl⟩⟩
  have s2 := Ch.Same.new (o := .tup [.int d]) nD
  exact make_rest I2 TB hco hm hu (Tabs.ext hT s2) (hfree I.ok) fun f c' H1 s' I1 e1 T1 a1 a2 => ⟨.ref f, H1, I1, rfl, h f c' _ H1 ((ExtN.of s2).trans e1) T1 a1 a2 (e1 _ _ upd_same fun ps z => nomatch z)⟩
end
/-! #### calling -/
/-- how the call without arguments binds -/
def DOk (params : Arguments) (body : Expr) (scope : Scope) (dV : Value) (H : Hp) : Prop :=
  (dV = .none ∧ ∀ (q : Str) (cl : List (Str × Addr)) (pm cv ct : Value), bindArgs (fdV q params body scope cl pm cv ct .none) ⟨[], []⟩ = pure []) ∨
  ∃ (D : Addr) (d : V) (p : Str), dV = .ref D ∧ H D = some (.tup [d]) ∧ scope.names.lookup p = some .local ∧
    ∀ (q : Str) (cl : List (Str × Addr)) (pm cv ct u : Value), ∃ kf : Option (Array Value) → Sem (List (Str × Value)), bindArgs (fdV q params body scope cl pm cv ct (.ref D)) ⟨[], []⟩ = seqItems? (.ref D) >>= kf ∧ kf (some #[u]) = pure [(p, u)]
/-- what the lambda's scope may hold: own names that the def does not know -/
structure LamS3 (sc : Scope) (N : List Str) (scope : Scope) : Prop where
  kind : scope.kind = .function
  co : scope.isCoroutine = false
  gen : scope.isGenerator = false
  cel : ∀ y ∈ scope.names, y.2 ≠ .cell
  own : ∀ y ∈ scope.names, y.2 = .local → y.1 ∉ N
  free : ∀ y ∈ scope.names, y.2 = .free → sc.names.lookup y.1 = some .cell ∨ sc.names.lookup y.1 = some .free
def lamS3B (sc : Scope) (N : List Str) (scope : Scope) : Bool :=
  decide (scope.kind = .function) && (!scope.isCoroutine && (!scope.isGenerator && scope.names.all fun y => !decide (y.2 = .cell) && ((!decide (y.2 = .local) || !N.contains y.1) && (!decide (y.2 = .free) || (decide (sc.names.lookup y.1 = some .cell) || decide (sc.names.lookup y.1 = some .free))))))
theorem lamS3_by {sc : Scope} {N : List Str} {scope : Scope} (h : lamS3B sc N scope = true) : LamS3 sc N scope := by
  unfold lamS3B at h
  rw [Bool.and_eq_true, Bool.and_eq_true, Bool.and_eq_true, List.all_eq_true] at h
  obtain ⟨h1, h2, h3, h4⟩ := h
  have g : ∀ y ∈ scope.names, y.2 ≠ .cell ∧ (y.2 = .local → y.1 ∉ N) ∧ (y.2 = .free → sc.names.lookup y.1 = some .cell ∨ sc.names.lookup y.1 = some .free) := fun y hy => by
    have := h4 y hy
    rw [Bool.and_eq_true, Bool.and_eq_true, Bool.or_eq_true, Bool.or_eq_true, Bool.or_eq_true] at this
    obtain ⟨a, b, c⟩ := this
    refine ⟨by simpa using a, fun e => ?_, fun e => ?_⟩
    · rcases b with b | b
      · rw [e] at b; simp at b
      · simpa using b
    · rcases c with c | c | c
      · rw [e] at c; simp at c
      · exact .inl (of_decide_eq_true c)
      · exact .inr (of_decide_eq_true c)
  exact ⟨of_decide_eq_true h1, by simpa using h2, by simpa using h3, fun y hy => (g y hy).1, fun y hy => (g y hy).2.1, fun y hy => (g y hy).2.2⟩
theorem LamS3.has {X : Cx} {scope : Scope} (L : LamS3 X.env.scope X.N scope) (ok : X.Ok) : ∀ y ∈ scope.names, y.2 = .free → ∃ c, X.env.cells.lookup y.1 = some c := fun y hy e => by
  rcases L.free y hy e with u | u
  · exact ok.has _ (.inl u)
  · exact ok.has _ (.inr u)
section
variable {X : Cx} {pins : List (Addr × Obj)} {σ : L2.St} {H HZ : Hp} {s s1 : Shared}
theorem enter {A : Around} {outer : List Env} {E : XK} {scope : Scope} {f c' : Addr} {g1 : Heap} {tk : Nat} {binds : List (Str × Value)} (I : Inv X pins σ H s) (L : LamS3 X.env.scope X.N scope) (e0 : Env0 X.prog X.w X.K X.mg X.base A outer s1 HZ) (hd : A.handled = none)
    (kc : ∀ y c, X.env.cells.lookup y = some c → HZ c = none ∧ ∀ v, s.heap.IsCell c v → s1.heap.IsCell c v) (hns : g1.Ns s1.heap.objs.size fun y => binds.reverse.lookup y) (kp : ∀ b o, s1.heap.get? b = some o → g1.get? b = some o) :
    Inv (lamCx X A outer s1 HZ E scope f c') [] σ HZ { s1 with heap := g1, toks := tk } := by
  have hfr := L.has I.ok
  have back : ∀ {y c}, (cloFrom X.env.cells scope.names []).lookup y = some c → X.env.cells.lookup y = some c := fun {y c} e => by
    rcases cloFrom_mem (PySem.mem_of_lookup e) with hm | ⟨u1, u2⟩
    · cases hm
    · obtain ⟨c1, hc⟩ := hfr _ u1 rfl
      have hc : X.env.cells.lookup y = some c1 := hc
      have ec : c = c1 := by
        rw [u2, hc] <;> rfl
      rw [ec]
      exact hc
  have there : ∀ {y}, scope.names.lookup y = some .free → ∃ c, (cloFrom X.env.cells scope.names []).lookup y = some c := fun {y} hl => by
    have hy : (y, NameKind.free) ∈ scope.names := PySem.mem_of_lookup hl
    exact mem_lookup (cloFrom_has (cells := X.env.cells) (acc := []) hy)
  have cellIn : ∀ {y : Str} {c : Addr} {v : Option Value}, X.env.cells.lookup y = some c → s.heap.IsCell c v → g1.IsCell c v := fun {y c v} e z => by
    obtain ⟨o, ho, hdt⟩ := (kc y c e).2 v z
    exact ⟨o, kp _ _ ho, hdt⟩
  have noex : ∀ b : Addr, b ∉ (lamCx X A outer s1 HZ E scope f c').ex := fun b z => absurd (show b ∈ ([] : List Addr) from z) (by simp)
  refine ⟨⟨e0.mod, L.kind, rfl, rfl, Nat.le_refl _, fun y z c u1 u2 => I.ok.inj y z c (back u1) (back u2), fun y hy => ?_, fun y c z _ => ?_, fun _ => hd, Around.frames_deeper e0.frames, .inr ⟨rfl, rfl⟩, fun b z => absurd z (noex b), e0.bs, e0.bsz, fun b _ _ => noex b,
      fun b z => absurd z (noex b), e0.funs, e0.frf⟩, rfl, e0.bare, Un.kept kp,
    ⟨_, hns, fun i y v u1 u2 u3 => ?_⟩, fun y c e => ?_, e0.hok.fresh (Nat.le_refl _), fun y c e => ?_, fun q hq => absurd (show q ∈ ([] : List (Addr × Obj)) ++ [] from hq) (by simp), e0.hok.kept kp, I.len⟩
  · have hy : scope.names.lookup y = some .cell ∨ scope.names.lookup y = some .free := hy
    rcases hy with hy | hy
    · exact absurd rfl (L.cel _ (PySem.mem_of_lookup hy))
    · exact there hy
  · have z : false = true := z
    cases z
  · have u3 : Vis scope y := u3
    rcases u3 with k | k | k
    · exact absurd (List.mem_of_getElem? u1) (L.own _ (PySem.mem_of_lookup k) rfl)
    · exact absurd rfl (L.cel _ (PySem.mem_of_lookup k))
    · obtain ⟨m, _, hl⟩ := I.loc
      have vis : Vis X.env.scope y := (L.free _ (PySem.mem_of_lookup k) rfl).elim (fun u => .inr (.inl u)) (fun u => .inr (.inr u))
      obtain ⟨w', r, q⟩ := hl i y v u1 u2 vis
      obtain ⟨c2, h2⟩ := there k
      refine ⟨w', r, .inr ⟨.inr k, c2, h2, ?_⟩⟩
      have c1 := back h2
      rcases q with ⟨k', _⟩ | ⟨_, c3, e', z⟩
      · have k' : X.env.scope.names.lookup y = some .local := k'
        rcases L.free _ (PySem.mem_of_lookup k) rfl with u | u <;> rw [show X.env.scope.names.lookup y = _ from u] at k' <;> cases k'
      · rw [c1] at e'
        cases e'
        exact cellIn c1 z
  · obtain ⟨w', z⟩ := I.cell y c (back e)
    exact ⟨w', cellIn (back e) z⟩
  · exact (kc y c (back e)).1
/-- a(), in the def that got the lambda -/
theorem pe_actV {CXg : CXT} {Eg : XK} {Ng : List Str} {qg : Str} {sg : Scope} {g f c' : Addr} {cdg dV : Value} {params : Arguments} {body : Expr} {scope : Scope} {k i : Nat} {a : Str} {pn : List (Addr × Obj)} {xe : Value → Shared → Prop} {W : WX} {E : XK} {tb : TE} {p1 p2 : Pos}
    {sc : Shared} {Hc : Hp} (I : Inv X pins σ Hc sc) (link : ∀ y c, X.env.cells.lookup y = some c → H c = none ∧ ∀ v, sc.heap.IsCell c v → s.heap.IsCell c v) (L : LamS3 X.env.scope X.N scope) (hfO : H f = some (LamO f (X.env.qual ++ "<lambda>") params body scope (cloFrom X.env.cells scope.names []) c' dV))
    (tk : Takes ((cxOf CXg X.prog X.w X.K X.mg X.base Ng qg sg g cdg X.A X.stack s H Eg).tr pn xe) W) (hW : ∀ cls d σ' H', E cls d H' → W cls d σ' H') (hr : Room (k + 1) (X.A.deeper (envOfC qg sg s.heap.objs.size g cdg)))
    (hbody : ∀ (A : Around) (outer : List Env) (s : Shared) (H : Hp), Room k (A.deeper (lamEnv X scope s.heap.objs.size f c')) → PE (lamCx X A outer s H E scope f c') body tb)
    (hN : Ng[i]? = some a) (hv : Vis sg a) (hd : (a == ("__debug__" : Str)) = false := by decide) (hcd : (a == ("__classdict__" : Str)) = false := by decide) :
    PE ((cxOf CXg X.prog X.w X.K X.mg X.base Ng qg sg g cdg X.A X.stack s H Eg).tr pn xe) (.Call (.Name a p1) [] [] p2)
      (fun σZ HZ Q => σZ[i]? = some (some (.ref f)) ∧ HZ c' = some (CodeO c' (X.env.qual ++ "<lambda>")) ∧ HZ f = some (LamO f (X.env.qual ++ "<lambda>") params body scope (cloFrom X.env.cells scope.names []) c' dV) ∧ DOk params body scope dV HZ ∧ tb σ HZ Q) := by
  refine ⟨fun pinsZ sZ σZ HZ Q IZ h => ?_⟩
  obtain ⟨hs, hc, hfz, hdo, ht⟩ := h
  refine wpAny_Call_Name_kw (thn ((pe_var (pos := p1) (i := i) hN hv hd hcd).run pinsZ sZ σZ HZ (fun v H1 => v = .ref f ∧ H1 = HZ) IZ ⟨.ref f, hs, rfl, rfl⟩) fun u s1 ⟨v, H1, I1, r1, q1⟩ => ?_)
  obtain ⟨ev, eH⟩ := q1
  subst ev
  rw [eH] at I1
  obtain rfl : u = Value.ref f := r1
  obtain ⟨pm1, ct1, of1⟩ := lamO_at I1.hok hfz
  refine PySem.W.callWith_F0 ⟨_, _, _, _, of1⟩ ?_
  have un : Un (frs X.stack) [] H HZ s.heap s1.heap := I1.base
  have kc : ∀ y c, X.env.cells.lookup y = some c → HZ c = none ∧ ∀ v, sc.heap.IsCell c v → s1.heap.IsCell c v := fun y c e => by
    obtain ⟨n, l⟩ := link y c e
    obtain ⟨w0, z0⟩ := I.cell y c e
    obtain ⟨o0, e0, _⟩ := l w0 z0
    refine ⟨un.free c o0 e0 n (by simp), fun v z => ?_⟩
    obtain ⟨o, ho, hdt⟩ := l v z
    obtain ⟨sl, q⟩ := un.any ho n (by simp)
    exact ⟨_, q, hdt⟩
  obtain ⟨⟨oc, vs, t, hoc, hdc, hvc⟩, _, _⟩ := I1.hok c' _ hc
  have bnd : ∃ binds : List (Str × Value), BindsTo s1 (fdV (X.env.qual ++ "<lambda>") params body scope (cloFrom X.env.cells scope.names []) pm1 (.ref c') ct1 dV) ⟨[], []⟩ binds ∧ ∀ y ∈ binds, scope.names.lookup y.1 = some .local := by
    rcases hdo with ⟨rfl, hb⟩ | ⟨D, d, p, rfl, hD, hl, hb1⟩
    · exact ⟨[], BindsTo.of_eq (hb _ _ _ _ _), fun y hy => nomatch hy⟩
    · have x : ObjOk X.prog X.w HZ s1.heap D (.tup [d]) := I1.hok D _ hD
      obtain ⟨_, its, rv, oT, n1, n2, n3, n4⟩ := x
      cases rv with
      | @cons _ u0 _ ur ra rw' =>
        cases rw'
        exact ⟨[(p, u0)], let ⟨kf, b1, b2⟩ := hb1 _ _ _ _ _ u0; BindsTo.of_defaults (T := D) (o := oT) (items := #[u0]) (n := n3) (k := kf) rfl n1 n4 b1 b2, fun y hy => by rw [List.mem_singleton.mp hy]; exact hl⟩
  obtain ⟨binds, hbt, hbl⟩ := bnd
  have rc : codeAny (model X.prog X.w) (X.A.deeper (envOfC qg sg s.heap.objs.size g cdg)) (.call (.ref f) ⟨[], []⟩) (CR (L2.CX X.prog X.w) (envOfC qg sg s.heap.objs.size g cdg :: X.stack) X.prog X.w HZ s1 Q E) s1 := by
    refine PySem.W.kla_callFunE hr.depth of1 rfl L.co L.gen rfl ⟨c', oc, vs, t, rfl, hoc, hdc, hvc⟩ (hbt _ _ _ _ ?_)
    refine wpAny_newFunctionEnv (fun y hy => L.cel y hy) hbl (fun g1 hns hsb => ⟨I1.nolimit.fresh _ hsb, ?_⟩) L.kind
    show codeAny _ _ (.expr body (lamEnv X scope s1.heap.objs.size f c')) _ _
    have kp : ∀ b o, s1.heap.get? b = some o → g1.get? b = some o := fun b o e => hsb.extBut b o (Nat.ne_of_lt (Heap.lt_size e)) (Heap.get?_push_of_some _ e)
    have J : Inv (lamCx X (X.A.deeper (envOfC qg sg s.heap.objs.size g cdg)) (envOfC qg sg s.heap.objs.size g cdg :: X.stack) s1 HZ E scope f c') [] σ HZ { s1 with heap := g1, toks := s1.toks + binds.length } := enter I L I1.env0 hr.hd kc hns kp
    refine PySem.W.kla_codeExpr (wpAny_mono ((hbody _ _ s1 HZ (hr.deeper _)).run [] _ _ HZ Q J ht) (fun v s' hq => ?_) fun e s' hq => hq)
    obtain ⟨w', H', J', rv, q⟩ := hq
    exact ⟨w', H', J'.os, J'.bare, J'.base, J'.hok, rv, q⟩
  have hx : Passes (L2.CX X.prog X.w) ((cxOf CXg X.prog X.w X.K X.mg X.base Ng qg sg g cdg X.A X.stack s H Eg).tr pn xe) E := passes_call tk hW
  refine wpAny_call (codeAny_mono rc fun r s' hq => ?_)
  cases r with
  | error e => exact hx pinsZ σZ HZ s1 e s' I1 hq
  | ok fl =>
    cases fl with
    | ret u => exact I1.after hq
    | next => exact False.elim hq
    | brk => exact False.elim hq
    | cont => exact False.elim hq
/-- x(w), w a name that holds a lambda made here -/
def tOutV (X : Cx) (k i : Nat) (TT : (XK → Hp → VK → Prop) → Hp → VK → Prop) : TE := fun σ H Q => ∃ (f c' : Addr) (dV : Value) (params : Arguments) (body : Expr) (scope : Scope) (t : XK → TE), σ[i]? = some (some (.ref f)) ∧
  H f = some (LamO f (X.env.qual ++ "<lambda>") params body scope (cloFrom X.env.cells scope.names []) c' dV) ∧ H c' = some (CodeO c' (X.env.qual ++ "<lambda>")) ∧ LamS3 X.env.scope X.N scope ∧
  (∀ (A : Around) (outer : List Env) (s : Shared) (H : Hp) (E : XK), Room k (A.deeper (lamEnv X scope s.heap.objs.size f c')) → PE (lamCx X A outer s H E scope f c') body (t E)) ∧
  TT (fun E H' Q' => H' f = some (LamO f (X.env.qual ++ "<lambda>") params body scope (cloFrom X.env.cells scope.names []) c' dV) ∧ DOk params body scope dV H' ∧ t E σ H' Q') H Q
theorem pe_callV {TT : (XK → Hp → VK → Prop) → Hp → VK → Prop} {x a b : Str} {g : Addr} {k i : Nat} {pg : Arguments} {bg : List Stmt} {sg : Scope} {fd : FuncData} {Ng : List Str} {p p0 pos : Pos} (F : FunD X.K x x pg bg sg [] [] g fd) (hm : X.mg x = some (.ref g)) (hb : Binds X.K fd [a] [])
    (Sg : FnScope Ng [a] sg) (hG : ∀ cdg : Value, GivesTo X Ng x sg g cdg bg a (X.env.qual ++ "<lambda>") TT) (hr : Room (k + 2) X.A) (hw : PE X (.Name b p0) (tVar i)) (hg : Gl X x) (hNg : Ng[0]? = some a) (hva : Vis sg a)
    (hdb : (x == ("__debug__" : Str)) = false := by decide) (hd : (a == ("__debug__" : Str)) = false := by decide) (hcd : (a == ("__classdict__" : Str)) = false := by decide)
    (he : starEach [.Name b p0] X.env = (false, eval (.Name b p0) X.env) :: starEach [] X.env := by rfl) (hpl : (backTo pos (starEach [] X.env)).any (·.1) = false := by rfl) :
    PE X (.Call (.Name x p) [.Name b p0] [] pos) (tOutV X k i TT) := by
  obtain ⟨oc, od, dVg, kV, doc, pm, an, cdv, ctg, osl, rfl, lk, hcd', _, _⟩ := id F.ex
  refine ⟨fun pins s σ H Q I h => ?_⟩
  obtain ⟨f, c', dV, params, body, scope, t, hs, hfO, hco, L, hbody, hTT⟩ := h
  refine wpAny_Call_Name_kw (ld_glob I hg hm ?_ hdb)
  have ha : PA X [.Name b p0] (tCons (tVar i) tNil) := pa_cons hw pa_nil
  refine PySem.W.callWith_K (h₀ := X.base) I.ok.mod.kin F.kp (thn (ha.run pos pins s σ H (fun vs H1 => vs = [.ref f] ∧ H1 = H) I ⟨.ref f, hs, rfl, rfl⟩) fun us s1 hh => ?_) he hpl
  obtain ⟨vs, H1, I1, r1, ev, eH⟩ := hh
  subst ev
  rw [eH] at I1
  obtain rfl := Vals.ref1 r1
  refine ⟨I1.kIn, ?_⟩
  have rc : codeAny (model X.prog X.w) X.A (.call (.ref g) ⟨[.ref f], []⟩) (CR C8.CX0 X.stack X.prog X.w H s1 Q C8.E0) s1 := by
    refine run_ofS (N := Ng) (ps := [a]) (us := [.ref f]) (vs := [.ref f]) lk hcd' Sg hr I1.env0 (hb s1 [.ref f] I1.kIn rfl) (.cons rfl .nil) rfl fun hr' => ?_
    obtain ⟨t', ht', hq'⟩ := hG cdv f c' s1 H Q _ (fun W pn xe E p1 p2 tk hW => pe_actV (i := 0) I1 (fun y c e => ⟨I1.freeC y c e, fun v z => z⟩) L hfO tk hW hr' (fun A outer s H hr2 => hbody A outer s H E hr2) hNg hva hd hcd) hco hTT
    exact ⟨t', ht'.nox, hq'⟩
  refine wpAny_call (codeAny_mono rc fun r s2 hq => ?_)
  cases r with
  | error e => exact (show False from hq).elim
  | ok fl =>
    cases fl with
    | ret u => exact I1.after hq
    | next => exact False.elim hq
    | brk => exact False.elim hq
    | cont => exact False.elim hq
/-- x(w), w a name of a comprehension, that holds a lambda of the def around -/
def tOutI (X : Cx) (k i : Nat) (TT : (XK → Hp → VK → Prop) → Hp → VK → Prop) (σ0 : L2.St) : TE := fun σ H Q => ∃ (f c' : Addr) (dV : Value) (params : Arguments) (body : Expr) (scope : Scope) (t : XK → TE), σ[i]? = some (some (.ref f)) ∧
  H f = some (LamO f (X.env.qual ++ "<lambda>") params body scope (cloFrom X.env.cells scope.names []) c' dV) ∧ H c' = some (CodeO c' (X.env.qual ++ "<lambda>")) ∧ LamS3 X.env.scope X.N scope ∧
  (∀ (A : Around) (outer : List Env) (s : Shared) (H : Hp) (E : XK), Room k (A.deeper (lamEnv X scope s.heap.objs.size f c')) → PE (lamCx X A outer s H E scope f c') body (t E)) ∧
  TT (fun E H' Q' => H' f = some (LamO f (X.env.qual ++ "<lambda>") params body scope (cloFrom X.env.cells scope.names []) c' dV) ∧ DOk params body scope dV H' ∧ t E σ0 H' Q') H Q
theorem pe_callI {sc : Shared} {Hc : Hp} {bsc : Scope} {ce : Env} {fp : List Addr} {TT : (XK → Hp → VK → Prop) → Hp → VK → Prop} {x a b : Str} {g : Addr} {k i : Nat} {pg : Arguments} {bg : List Stmt} {sg : Scope} {fd : FuncData} {Ng : List Str} {p p0 pos : Pos}
    (I0 : Inv X pins σ Hc sc) (hfp : ∀ b ∈ fp, FpOk X pins Hc b) (F : FunD X.K x x pg bg sg [] [] g fd) (hm : X.mg x = some (.ref g)) (hb : Binds X.K fd [a] [])
    (Sg : FnScope Ng [a] sg) (hG : ∀ cdg : Value, GivesTo X Ng x sg g cdg bg a (X.env.qual ++ "<lambda>") TT) (hr : Room (k + 2) X.A) (hw : PE (X.blk sc Hc bsc ce fp) (.Name b p0) (tVar i)) (hg : Gl (X.blk sc Hc bsc ce fp) x) (hNg : Ng[0]? = some a) (hva : Vis sg a)
    (hdb : (x == ("__debug__" : Str)) = false := by decide) (hd : (a == ("__debug__" : Str)) = false := by decide) (hcd : (a == ("__classdict__" : Str)) = false := by decide)
    (he : starEach [.Name b p0] (X.blk sc Hc bsc ce fp).env = (false, eval (.Name b p0) (X.blk sc Hc bsc ce fp).env) :: starEach [] (X.blk sc Hc bsc ce fp).env := by rfl) (hpl : (backTo pos (starEach [] (X.blk sc Hc bsc ce fp).env)).any (·.1) = false := by rfl) :
    PE (X.blk sc Hc bsc ce fp) (.Call (.Name x p) [.Name b p0] [] pos) (tOutI X k i TT σ) := by
  obtain ⟨oc, od, dVg, kV, doc, pm, an, cdv, ctg, osl, rfl, lk, hcd', _, _⟩ := id F.ex
  refine ⟨fun pins' s τ H Q I h => ?_⟩
  obtain ⟨f, c', dV, params, body, scope, t, hs, hfO, hco, L, hbody, hTT⟩ := h
  refine wpAny_Call_Name_kw (ld_glob I hg hm ?_ hdb)
  have ha : PA (X.blk sc Hc bsc ce fp) [.Name b p0] (tCons (tVar i) tNil) := pa_cons hw pa_nil
  refine PySem.W.callWith_K (h₀ := X.base) I.ok.mod.kin F.kp (thn (ha.run pos pins' s τ H (fun vs H1 => vs = [.ref f] ∧ H1 = H) I ⟨.ref f, hs, rfl, rfl⟩) fun us s1 hh => ?_) he hpl
  obtain ⟨vs, H1, I1, r1, ev, eH⟩ := hh
  subst ev
  rw [eH] at I1
  obtain rfl := Vals.ref1 r1
  refine ⟨I1.kIn, ?_⟩
  have ub : Un (X.blk sc Hc bsc ce fp).fs fp Hc H sc.heap s1.heap := I1.base
  have link : ∀ y c, X.env.cells.lookup y = some c → H c = none ∧ ∀ v, sc.heap.IsCell c v → s1.heap.IsCell c v := fun y c e => by
    have nfp : c ∉ fp := fun z => (hfp c z).2.2.2.2.1 y c e rfl
    have n := I0.freeC y c e
    obtain ⟨w0, o0, e0, _⟩ := I0.cell y c e
    refine ⟨ub.free c o0 e0 n nfp, fun v z => ?_⟩
    obtain ⟨o, ho, hdt⟩ := z
    obtain ⟨sl, q⟩ := ub.any ho n nfp
    exact ⟨_, q, hdt⟩
  have rc : codeAny (model X.prog X.w) X.A (.call (.ref g) ⟨[.ref f], []⟩) (CR C8.CX0 X.stack X.prog X.w H s1 Q C8.E0) s1 := by
    refine run_ofS (N := Ng) (ps := [a]) (us := [.ref f]) (vs := [.ref f]) lk hcd' Sg hr I1.env0 (hb s1 [.ref f] I1.kIn rfl) (.cons rfl .nil) rfl fun hr' => ?_
    obtain ⟨t', ht', hq'⟩ := hG cdv f c' s1 H Q _ (fun W pn xe E p1 p2 tk hW => pe_actV (i := 0) I0 link L hfO tk hW hr' (fun A outer s H hr2 => hbody A outer s H E hr2) hNg hva hd hcd) hco hTT
    exact ⟨t', ht'.nox, hq'⟩
  refine wpAny_call (codeAny_mono rc fun r s2 hq => ?_)
  cases r with
  | error e => exact (show False from hq).elim
  | ok fl =>
    cases fl with
    | ret u => exact I1.after hq
    | next => exact False.elim hq
    | brk => exact False.elim hq
    | cont => exact False.elim hq
end
end LamV

set_option Elab.async false
set_option linter.all false
set_option autoImplicit false
set_option maxRecDepth 100000
set_option maxHeartbeats 4000000
/-! ### what is known of a lambda that is kept -/
namespace LamV
open PySem PySem.Spec PyProof.Rows L2 LamX Ch
/-- f is a lambda of the def X, its body read by t -/
def LamAt (X : Cx) (k : Nat) (t : XK → TE) (f : Addr) (H : Hp) : Prop := ∃ (c' : Addr) (dV : Value) (params : Arguments) (body : Expr) (scope : Scope), H f = some (LamO f (X.env.qual ++ "<lambda>") params body scope (cloFrom X.env.cells scope.names []) c' dV) ∧
  H c' = some (CodeO c' (X.env.qual ++ "<lambda>")) ∧ LamS3 X.env.scope X.N scope ∧
  (∀ (A : Around) (outer : List Env) (s : Shared) (H : Hp) (E : XK), Room k (A.deeper (lamEnv X scope s.heap.objs.size f c')) → PE (lamCx X A outer s H E scope f c') body (t E)) ∧ DOk params body scope dV H
section
variable {X : Cx} {k : Nat} {t : XK → TE} {f : Addr} {H H' : Hp} {Q : VK} {T : List (Addr × Str)} {σ : L2.St}
theorem LamAt.keep (h : LamAt X k t f H) (kp : ∀ b o, (∀ ps, o ≠ .tbl ps) → (∀ xs, o ≠ .lst xs) → H b = some o → H' b = some o) : LamAt X k t f H' := by
  obtain ⟨c', dV, params, body, scope, h1, h2, h3, h4, h5⟩ := h
  refine ⟨c', dV, params, body, scope, kp _ _ (fun ps => lamO_tbl ps) (fun xs => lamO_lst xs) h1, kp _ _ (fun ps z => by unfold CodeO at z; cases z) (fun ps z => by unfold CodeO at z; cases z) h2, h3, h4, ?_⟩
  rcases h5 with h5 | ⟨D, d, p, e1, e2, e3⟩
  · exact .inl h5
  · exact .inr ⟨D, d, p, e1, kp _ _ (fun ps z => nomatch z) (fun ps z => nomatch z) e2, e3⟩
theorem LamAt.same (h : LamAt X k t f H) (s : Same H H') : LamAt X k t f H' := h.keep fun b o _ _ e => s b o e
theorem LamAt.ext (h : LamAt X k t f H) (s : ExtN H H') : LamAt X k t f H' := h.keep fun b o n _ e => s b o e n
theorem LamAt.draw {K : PySem.W.Frag} {st a : Addr} {ns : List Int} (h : LamAt X k t f H) (S : StAt K H st a ns) (s : SameB st H H') : LamAt X k t f H' := h.keep fun b o _ n e => s b o (S.ne e n) e
/-- lambda: body -/
theorem x_lamMk {params : Arguments} {body : Expr} {scope : Scope} (hT : Tabs T H) (L : LamS3 X.env.scope X.N scope)
    (hbody : ∀ (f c' : Addr) (A : Around) (outer : List Env) (s : Shared) (H : Hp) (E : XK), Room k (A.deeper (lamEnv X scope s.heap.objs.size f c')) → PE (lamCx X A outer s H E scope f c') body (t E))
    (hb : ∀ (q : Str) (cl : List (Str × Addr)) (pm cv ct : Value), bindArgs (fdV q params body scope cl pm cv ct .none) ⟨[], []⟩ = pure [])
    (kk : ∀ f H1, ExtN H H1 → Tabs T H1 → LamAt X k t f H1 → Q (.ref f) H1) : tLamMk T (X.env.qual ++ "<lambda>") params body scope (cloFrom X.env.cells scope.names []) σ H Q :=
  ⟨hT, fun f c' H1 e1 T1 h1 h2 => kk f H1 e1 T1 ⟨c', .none, params, body, scope, h1, h2, L, hbody f c', .inl ⟨rfl, hb⟩⟩⟩
/-- lambda p=d: body -/
theorem x_lamMk1 {params : Arguments} {body : Expr} {scope : Scope} {d : Int} (p : Str) (hT : Tabs T H) (L : LamS3 X.env.scope X.N scope)
    (hbody : ∀ (f c' : Addr) (A : Around) (outer : List Env) (s : Shared) (H : Hp) (E : XK), Room k (A.deeper (lamEnv X scope s.heap.objs.size f c')) → PE (lamCx X A outer s H E scope f c') body (t E))
    (hl : scope.names.lookup p = some .local) (hb : ∀ (D : Addr) (q : Str) (cl : List (Str × Addr)) (pm cv ct u : Value), ∃ kf : Option (Array Value) → Sem (List (Str × Value)), bindArgs (fdV q params body scope cl pm cv ct (.ref D)) ⟨[], []⟩ = seqItems? (.ref D) >>= kf ∧ kf (some #[u]) = pure [(p, u)])
    (kk : ∀ f H1, ExtN H H1 → Tabs T H1 → LamAt X k t f H1 → Q (.ref f) H1) : tLamMk1 T (X.env.qual ++ "<lambda>") params body scope (cloFrom X.env.cells scope.names []) d σ H Q :=
  ⟨hT, fun f c' D H1 e1 T1 h1 h2 h3 => kk f H1 e1 T1 ⟨c', .ref D, params, body, scope, h1, h2, L, hbody f c', .inr ⟨D, .int d, p, rfl, h3, hl, hb D⟩⟩⟩
/-- x(w) in a comprehension -/
theorem x_outI {i : Nat} {TT : (XK → Hp → VK → Prop) → Hp → VK → Prop} {σ0 : L2.St} (L : LamAt X k t f H) (hs : σ[i]? = some (some (.ref f))) (mono : ∀ tl tl' : XK → Hp → VK → Prop, (∀ E Q', tl E H Q' → tl' E H Q') → TT tl H Q → TT tl' H Q) (h : TT (fun E H' Q' => t E σ0 H' Q') H Q) : tOutI X k i TT σ0 σ H Q := by
  obtain ⟨c', dV, params, body, scope, h1, h2, h3, h4, h5⟩ := L
  exact ⟨f, c', dV, params, body, scope, t, hs, h1, h2, h3, h4, mono _ _ (fun E Q' z => ⟨h1, h5, z⟩) h⟩
/-- x(w) in the def itself -/
theorem x_outV {i : Nat} {TT : (XK → Hp → VK → Prop) → Hp → VK → Prop} (L : LamAt X k t f H) (hs : σ[i]? = some (some (.ref f))) (mono : ∀ tl tl' : XK → Hp → VK → Prop, (∀ E Q', tl E H Q' → tl' E H Q') → TT tl H Q → TT tl' H Q) (h : TT (fun E H' Q' => t E σ H' Q') H Q) : tOutV X k i TT σ H Q := by
  obtain ⟨c', dV, params, body, scope, h1, h2, h3, h4, h5⟩ := L
  exact ⟨f, c', dV, params, body, scope, t, hs, h1, h2, h3, h4, mono _ _ (fun E Q' z => ⟨h1, h5, z⟩) h⟩
end
end LamV

set_option linter.all false
set_option autoImplicit false
set_option maxRecDepth 100000
set_option maxHeartbeats 4000000
namespace ChM
/-! ### ways of carrying, told by their places -/
def okAt (c : Int) (p : Int × Int) (y : Int) : Prop := (p.1 = 1 → p.2 ≤ y) ∧ (p.1 = -1 → y ≤ c - p.2)
def WayIn (c : Int) : List (Int × Int) → List Int → Prop
  | [], [] => True
  | p :: r, y :: ys => okAt c p y ∧ WayIn c r ys
  | _, _ => False
def lenW : Int → List Int → Int
  | _, [] => 0
  | x, y :: ys => absI (y - x) + lenW y ys
def endW : Int → List Int → Int
  | x, [] => x
  | _, y :: ys => endW y ys
theorem absI_spec (a : Int) : (absI a = a ∧ 0 ≤ a) ∨ (absI a = -a ∧ a < 0) := by
  unfold absI
  split <;> omega
theorem lenW_nonneg : ∀ (ys : List Int) (x : Int), 0 ≤ lenW x ys
  | [], _ => Int.le_refl 0
  | y :: ys, x => by
    have := lenW_nonneg ys y
    have := absI_spec (y - x)
    show 0 ≤ absI (y - x) + lenW y ys
    omega
theorem moved_between {c : Int} {q : Int × Int} {y p : Int} (hs : q.1 = 1 ∨ q.1 = -1 ∨ q.1 = 0) (h : okAt c q y) : absI (moved c p q.1 q.2 - p) + absI (y - moved c p q.1 q.2) = absI (y - p) := by
  obtain ⟨h1, h2⟩ := h
  have a1 := absI_spec (moved c p q.1 q.2 - p)
  have a2 := absI_spec (y - moved c p q.1 q.2)
  have a3 := absI_spec (y - p)
  have m : moved c p q.1 q.2 = if q.1 = 1 then mx p q.2 else if q.1 = -1 then mn p (c - q.2) else p := rfl
  rcases hs with s | s | s
  · rw [if_pos s] at m
    have := h1 s
    have := mx_def p q.2
    omega
  · rw [if_neg (by omega), if_pos s] at m
    have := h2 s
    have := mn_def p (c - q.2)
    omega
  · rw [if_neg (by omega), if_neg (by omega)] at m
    omega
/-- no way is shorter than the lazy one and the way that is left -/
theorem way_ge {c : Int} : ∀ (ps : List (Int × Int)) (ys : List Int) (p y : Int), fits c ps → WayIn c ps ys → simC c ps p + absI (endW y ys - simP c ps p) ≤ lenW y ys + absI (y - p)
  | [], [], p, y, _, _ => by
    show 0 + absI (y - p) ≤ 0 + absI (y - p)
    omega
  | [], _ :: _, _, _, _, h => nomatch (show False from h)
  | _ :: _, [], _, _, _, h => nomatch (show False from h)
  | q :: r, y1 :: ys, p, y, hf, ⟨h1, h2⟩ => by
    have ih := way_ge r ys (moved c p q.1 q.2) y1 (fun z hz => hf z (List.mem_cons_of_mem _ hz)) h2
    have b := moved_between (p := p) (hf q List.mem_cons_self).1 h1
    have a1 := absI_spec (y1 - p)
    have a2 := absI_spec (y1 - y)
    have a3 := absI_spec (y - p)
    show absI (moved c p q.1 q.2 - p) + simC c r (moved c p q.1 q.2) + absI (endW y1 ys - simP c r (moved c p q.1 q.2)) ≤ absI (y1 - y) + lenW y1 ys + absI (y - p)
    omega
def lazyW (c : Int) : List (Int × Int) → Int → List Int
  | [], _ => []
  | q :: r, x => moved c x q.1 q.2 :: lazyW c r (moved c x q.1 q.2)
theorem lazy_in {c : Int} : ∀ (ps : List (Int × Int)) (x : Int), WayIn c ps (lazyW c ps x) ∧ lenW x (lazyW c ps x) = simC c ps x ∧ endW x (lazyW c ps x) = simP c ps x
  | [], _ => ⟨trivial, rfl, rfl⟩
  | q :: r, x => by
    obtain ⟨a, b, d⟩ := lazy_in r (moved c x q.1 q.2)
    refine ⟨⟨⟨fun s => ?_, fun s => ?_⟩, a⟩, ?_, d⟩
    · unfold moved
      rw [if_pos s]
      have := mx_def x q.2
      omega
    · unfold moved
      rw [if_neg (by omega), if_pos s]
      have := mn_def x (c - q.2)
      omega
    · show absI (moved c x q.1 q.2 - x) + lenW (moved c x q.1 q.2) (lazyW c r (moved c x q.1 q.2)) = absI (moved c x q.1 q.2 - x) + simC c r (moved c x q.1 q.2)
      rw [b]
/-! ### two rounds -/
theorem sides_app : ∀ (l m : List Stp) (s : Int), sides s (l ++ m) = sides s l ++ sides (sideAt s l) m
  | [], _, _ => rfl
  | .turn :: r, m, s => by show (0, 0) :: sides (0 - s) (r ++ m) = (0, 0) :: (sides (0 - s) r ++ sides (sideAt (0 - s) r) m); rw [sides_app r m (0 - s)]
  | .mt b n :: r, m, s => by show (_, n) :: sides s (r ++ m) = (_, n) :: (sides s r ++ sides (sideAt s r) m); rw [sides_app r m s]
theorem times_fits {c : Int} {l : List Stp} (h : fitsS c l) : ∀ n, fitsS c (times l n)
  | 0 => fun b n hm => nomatch hm
  | n + 1 => fun b m hm => by
    rcases List.mem_append.mp hm with z | z
    · exact h b m z
    · exact times_fits h n b m z
theorem times_turns (l : List Stp) : ∀ n, turns (times l n) = n * turns l
  | 0 => (Nat.zero_mul _).symm
  | n + 1 => by
    show turns (l ++ times l n) = _
    rw [turns_app, times_turns l n, Nat.succ_mul]
    omega
def ps2 (l : List Stp) : List (Int × Int) := sides 1 (times l 2)
theorem two_eff2 {c : Int} {l : List Stp} (hc : 0 ≤ c) (hl : fitsS c l) :
    ∃ f : Eff, f.Ok ∧ f.c = c ∧ (∀ x, 0 ≤ x → x ≤ c → f.carried x = simC c (ps2 l) x ∧ f.place x = simP c (ps2 l) x ∧ runC (effOf c l) 2 x = f.carried x ∧ runF (effOf c l) 2 x = f.place x) := by
  have hf := times_fits hl 2
  obtain ⟨o, oc, ot, of⟩ := effOf_ok hc hf
  refine ⟨effOf c (times l 2), o, oc, fun x h0 h1 => ?_⟩
  obtain ⟨p, q⟩ := of x h0 h1
  obtain ⟨r1, r2⟩ := rounds_right hl 2 h0 h1
  obtain ⟨s1, s2⟩ := summary_right hf h0 h1
  have tf : (effOf c (times l 2)).tu = false := by
    rw [ot]
    unfold turning
    rw [times_turns]
    have : 2 * turns l % 2 = 0 := by omega
    rw [this]
    rfl
  have ff : (effOf c (times l 2)).fin x = (effOf c (times l 2)).place x := by unfold Eff.fin; rw [tf]; rfl
  refine ⟨q, p, ?_, ?_⟩
  · rw [← r1, ← s1]
  · rw [← r2, ← ff, ← s2]
theorem two_way {c : Int} {l : List Stp} (hc : 0 ≤ c) (hl : fitsS c l) : ∃ a ys, 0 ≤ a ∧ a ≤ c ∧ WayIn c (ps2 l) ys ∧ endW a ys = a ∧ lenW a ys = twoR c l := by
  obtain ⟨f, o, oc, h⟩ := two_eff2 hc hl
  obtain ⟨_, _, _, e2⟩ := h 0 (Int.le_refl 0) hc
  have r := place_range o (Int.le_refl 0) (by omega)
  rw [oc] at r
  obtain ⟨k1, k2, k3, _⟩ := h (f.place 0) r.1 r.2
  obtain ⟨w1, w2, w3⟩ := lazy_in (c := c) (ps2 l) (f.place 0)
  refine ⟨f.place 0, _, r.1, r.2, w1, ?_, ?_⟩
  · rw [w3, ← k2]
    cases g : f.goal with
    | some y => rw [place_some g, place_some g]
    | none =>
      have := (o.no g).2
      rw [place_none g, place_none g]
      have := mx_def 0 f.lo
      have := mn_def (mx 0 f.lo) f.hi
      have := mx_def (mn (mx 0 f.lo) f.hi) f.lo
      have := mn_def (mx (mn (mx 0 f.lo) f.hi) f.lo) f.hi
      omega
  · rw [w2, ← k1, ← k3, ← e2]
    rfl
theorem two_le {c : Int} {l : List Stp} (hc : 0 ≤ c) (hl : fitsS c l) {a : Int} {ys : List Int} (a0 : 0 ≤ a) (a1 : a ≤ c) (w : WayIn c (ps2 l) ys) (e : endW a ys = a) : twoR c l ≤ lenW a ys := by
  obtain ⟨f, o, oc, h⟩ := two_eff2 hc hl
  have hf : fits c (ps2 l) := sides_fits _ 1 (.inl rfl) hc (times_fits hl 2)
  have g := way_ge (ps2 l) ys a a hf w
  obtain ⟨k1, k2, _, _⟩ := h a a0 a1
  rw [e, ← k1, ← k2] at g
  obtain ⟨_, _, _, e2⟩ := h 0 (Int.le_refl 0) hc
  have r := place_range o (Int.le_refl 0) (by omega)
  rw [oc] at r
  obtain ⟨_, _, k3, _⟩ := h (f.place 0) r.1 r.2
  have tw : twoR c l = f.carried (f.place 0) := by
    unfold twoR
    rw [e2, k3]
  rw [tw]
  have z := absI_spec (a - a)
  have ab := absI_spec (a - f.place a)
  have n := lenW_nonneg ys a
  cases gg : f.goal with
  | none =>
    obtain ⟨ex, lt⟩ := o.no gg
    have c1 : f.carried (f.place 0) = mx (mx (f.lo - f.place 0) (f.place 0 - f.hi)) 0 + f.ex := rfl
    rw [c1, ex]
    rw [place_none gg]
    have := mx_def 0 f.lo
    have := mn_def (mx 0 f.lo) f.hi
    generalize mn (mx 0 f.lo) f.hi = q at *
    have := mx_def (f.lo - q) (q - f.hi)
    have := mx_def (mx (f.lo - q) (q - f.hi)) 0
    omega
  | some y =>
    rw [place_some gg] at ab ⊢
    rw [place_some gg] at g
    have c1 : f.carried y = mx (mx (f.lo - y) (y - f.hi)) 0 + f.ex := rfl
    have c2 : f.carried a = mx (mx (f.lo - a) (a - f.hi)) 0 + f.ex := rfl
    have := mx_def (f.lo - y) (y - f.hi)
    have := mx_def (mx (f.lo - y) (y - f.hi)) 0
    have := mx_def (f.lo - a) (a - f.hi)
    have := mx_def (mx (f.lo - a) (a - f.hi)) 0
    omega
theorem two_nonneg {c : Int} {l : List Stp} (hc : 0 ≤ c) (hl : fitsS c l) : 0 ≤ twoR c l := by
  obtain ⟨a, ys, _, _, _, _, e⟩ := two_way hc hl
  rw [← e]
  exact lenW_nonneg ys a
theorem wayIn_le {c d : Int} (h : c ≤ d) : ∀ (ps : List (Int × Int)) (ys : List Int), WayIn c ps ys → WayIn d ps ys
  | [], [], _ => trivial
  | [], _ :: _, h => nomatch (show False from h)
  | _ :: _, [], h => nomatch (show False from h)
  | _ :: r, _ :: ys, ⟨⟨a, b⟩, w⟩ => ⟨⟨a, fun s => by have := b s; omega⟩, wayIn_le h r ys w⟩
theorem fitsS_le {c d : Int} {l : List Stp} (h : fitsS c l) (e : c ≤ d) : fitsS d l := fun b n hm => ⟨(h b n hm).1, Int.le_trans (h b n hm).2 e⟩
theorem two_mono {c d : Int} {l : List Stp} (hc : 0 ≤ c) (hl : fitsS c l) (h : c ≤ d) : twoR d l ≤ twoR c l := by
  obtain ⟨a, ys, a0, a1, w, e, el⟩ := two_way hc hl
  rw [← el]
  exact two_le (by omega) (fitsS_le hl h) a0 (by omega) (wayIn_le h _ _ w) e
/-! ### savings never grow -/
def midL (k : Int) : List Int → List Int → List Int
  | y :: ys, z :: zs => (y + z + k) / 2 :: midL k ys zs
  | _, _ => []
theorem mid_in {c : Int} {k : Int} (hk : k = 0 ∨ k = 1) : ∀ (ps : List (Int × Int)) (ys zs : List Int), WayIn c ps ys → WayIn (c + 2) ps zs → WayIn (c + 1) ps (midL k ys zs)
  | [], [], [], _, _ => trivial
  | [], _ :: _, _, h, _ => nomatch (show False from h)
  | [], [], _ :: _, _, h => nomatch (show False from h)
  | _ :: _, [], _, h, _ => nomatch (show False from h)
  | _ :: _, _ :: _, [], _, h => nomatch (show False from h)
  | p :: r, y :: ys, z :: zs, ⟨⟨a1, b1⟩, w1⟩, ⟨⟨a2, b2⟩, w2⟩ => ⟨⟨fun s => by have := a1 s; have := a2 s; omega, fun s => by have := b1 s; have := b2 s; omega⟩, mid_in hk r ys zs w1 w2⟩
theorem mid_end {c d : Int} {k : Int} : ∀ (ps : List (Int × Int)) (ys zs : List Int) (a b : Int), WayIn c ps ys → WayIn d ps zs → endW ((a + b + k) / 2) (midL k ys zs) = (endW a ys + endW b zs + k) / 2
  | [], [], [], _, _, _, _ => rfl
  | [], _ :: _, _, _, _, h, _ => nomatch (show False from h)
  | [], [], _ :: _, _, _, _, h => nomatch (show False from h)
  | _ :: _, [], _, _, _, h, _ => nomatch (show False from h)
  | _ :: _, _ :: _, [], _, _, _, h => nomatch (show False from h)
  | p :: r, y :: ys, z :: zs, _, _, ⟨_, w1⟩, ⟨_, w2⟩ => mid_end r ys zs y z w1 w2
theorem mid_len {c d : Int} : ∀ (ps : List (Int × Int)) (ys zs : List Int) (a b : Int), WayIn c ps ys → WayIn d ps zs → lenW ((a + b + 0) / 2) (midL 0 ys zs) + lenW ((a + b + 1) / 2) (midL 1 ys zs) ≤ lenW a ys + lenW b zs
  | [], [], [], _, _, _, _ => Int.le_refl _
  | [], _ :: _, _, _, _, h, _ => nomatch (show False from h)
  | [], [], _ :: _, _, _, _, h => nomatch (show False from h)
  | _ :: _, [], _, _, _, h, _ => nomatch (show False from h)
  | _ :: _, _ :: _, [], _, _, _, h => nomatch (show False from h)
  | p :: r, y :: ys, z :: zs, a, b, ⟨_, w1⟩, ⟨_, w2⟩ => by
    have ih := mid_len r ys zs y z w1 w2
    have e1 := absI_spec ((y + z + 0) / 2 - (a + b + 0) / 2)
    have e2 := absI_spec ((y + z + 1) / 2 - (a + b + 1) / 2)
    have e3 := absI_spec (y - a)
    have e4 := absI_spec (z - b)
    show absI ((y + z + 0) / 2 - (a + b + 0) / 2) + lenW ((y + z + 0) / 2) (midL 0 ys zs) + (absI ((y + z + 1) / 2 - (a + b + 1) / 2) + lenW ((y + z + 1) / 2) (midL 1 ys zs)) ≤ absI (y - a) + lenW y ys + (absI (z - b) + lenW z zs)
    omega
theorem two_convex {c : Int} {l : List Stp} (hc : 0 ≤ c) (hl : fitsS c l) : 2 * twoR (c + 1) l ≤ twoR c l + twoR (c + 2) l := by
  obtain ⟨a, ys, a0, a1, w1, e1, l1⟩ := two_way hc hl
  obtain ⟨b, zs, b0, b1, w2, e2, l2⟩ := two_way (c := c + 2) (by omega) (fitsS_le hl (by omega))
  have hl1 : fitsS (c + 1) l := fitsS_le hl (by omega)
  have m := mid_len (ps2 l) ys zs a b w1 w2
  have x := two_le (c := c + 1) (by omega) hl1 (a := (a + b + 0) / 2) (by omega) (by omega) (mid_in (.inl rfl) _ _ _ w1 w2) (by rw [mid_end (ps2 l) ys zs a b w1 w2, e1, e2])
  have y := two_le (c := c + 1) (by omega) hl1 (a := (a + b + 1) / 2) (by omega) (by omega) (mid_in (.inr rfl) _ _ _ w1 w2) (by rw [mid_end (ps2 l) ys zs a b w1 w2, e1, e2])
  omega
def savR (c : Int) (l : List Stp) : Int := twoR c l - twoR (c + 1) l
theorem sav_step {c : Int} {l : List Stp} (hc : 0 ≤ c) (hl : fitsS c l) : savR (c + 1) l ≤ savR c l := by
  have := two_convex hc hl
  unfold savR
  rw [show c + 1 + 1 = c + 2 by omega]
  omega
theorem sav_anti {c : Int} {l : List Stp} (hc : 0 ≤ c) (hl : fitsS c l) : ∀ n : Nat, savR (c + n) l ≤ savR c l
  | 0 => by rw [show c + ((0 : Nat) : Int) = c by omega]; exact Int.le_refl _
  | n + 1 => by
    have := sav_anti hc hl n
    have := sav_step (c := c + n) (by omega) (fitsS_le hl (by omega))
    rw [show c + ((n + 1 : Nat) : Int) = c + n + 1 by omega]
    omega
theorem sav_le {c d : Int} {l : List Stp} (hc : 0 ≤ c) (hl : fitsS c l) (h : c ≤ d) : savR d l ≤ savR c l := by
  have := sav_anti hc hl (d - c).toNat
  rw [show c + ((d - c).toNat : Int) = d by omega] at this
  exact this
theorem sav_nonneg {c : Int} {l : List Stp} (hc : 0 ≤ c) (hl : fitsS c l) : 0 ≤ savR c l := by
  have := two_mono hc hl (show c ≤ c + 1 by omega)
  unfold savR
  omega
/-! ### needs in two rounds -/
theorem sides_neg : ∀ (l : List Stp) (s : Int), sides (0 - s) l = (sides s l).map fun p => (0 - p.1, p.2)
  | [], _ => rfl
  | .turn :: r, s => by
    show (0, 0) :: sides (0 - (0 - s)) r = (0 - 0, 0) :: (sides (0 - s) r).map _
    rw [sides_neg r (0 - s)]
    rfl
  | .mt b n :: r, s => by
    show ((if b then 0 - s else 0 - (0 - s)), n) :: sides (0 - s) r = (0 - (if b then s else 0 - s), n) :: (sides s r).map _
    rw [sides_neg r s]
    cases b <;> rfl
theorem ps2_eq (l : List Stp) : ps2 l = sides 1 l ++ (if turning l = true then (sides 1 l).map (fun p => (0 - p.1, p.2)) else sides 1 l) := by
  show sides 1 (l ++ (l ++ [])) = _
  rw [List.append_nil, sides_app, sideAt_turns]
  unfold turning
  by_cases h : turns l % 2 = 1
  · rw [if_pos h, sides_neg l 1, if_pos (by rw [h]; rfl)]
  · rw [if_neg h, if_neg (by intro z; exact h (by simpa using z))]
theorem needL_in {s n : Int} {ps : List (Int × Int)} (h : n ∈ needL s ps) : (s, n) ∈ ps := by
  unfold needL at h
  obtain ⟨p, hp, e⟩ := List.mem_map.mp h
  obtain ⟨h1, h2⟩ := List.mem_filter.mp hp
  have : p.1 = s := by simpa using h2
  cases p
  cases this
  cases e
  exact h1
theorem mxL_at (l : List Int) : mxL l = 0 ∨ mxL l ∈ l := by
  rcases List.mem_append.mp (mxL_mem l) with h | h
  · exact .inr h
  · exact .inl (List.mem_singleton.mp h)
theorem needs_two (l : List Stp) : (∀ n, (1, n) ∈ ps2 l → n ≤ (needsOf l).1) ∧ (∀ n, (-1, n) ∈ ps2 l → n ≤ (needsOf l).2) ∧ ((needsOf l).1 = 0 ∨ (1, (needsOf l).1) ∈ ps2 l) ∧ ((needsOf l).2 = 0 ∨ (-1, (needsOf l).2) ∈ ps2 l) ∧ 0 ≤ (needsOf l).1 ∧ 0 ≤ (needsOf l).2 := by
  obtain ⟨a0, a1⟩ := mxL_ge (needL 1 (sides 1 l))
  obtain ⟨b0, b1⟩ := mxL_ge (needL (-1) (sides 1 l))
  have am := mxL_at (needL 1 (sides 1 l))
  have bm := mxL_at (needL (-1) (sides 1 l))
  have u1 : ∀ n, (1, n) ∈ sides 1 l → n ≤ mxL (needL 1 (sides 1 l)) := fun n h => a1 n (needL_mem h)
  have u2 : ∀ n, (-1, n) ∈ sides 1 l → n ≤ mxL (needL (-1) (sides 1 l)) := fun n h => b1 n (needL_mem h)
  have am' : mxL (needL 1 (sides 1 l)) = 0 ∨ (1, mxL (needL 1 (sides 1 l))) ∈ sides 1 l := am.imp id needL_in
  have bm' : mxL (needL (-1) (sides 1 l)) = 0 ∨ (-1, mxL (needL (-1) (sides 1 l))) ∈ sides 1 l := bm.imp id needL_in
  rw [ps2_eq]
  unfold needsOf
  generalize mxL (needL 1 (sides 1 l)) = A at *
  generalize mxL (needL (-1) (sides 1 l)) = B at *
  by_cases h : turning l = true
  · rw [if_pos h, if_pos h]
    have fl : ∀ s n : Int, (s, n) ∈ (sides 1 l).map (fun p => (0 - p.1, p.2)) ↔ (0 - s, n) ∈ sides 1 l := fun s n => by
      constructor
      · intro q
        obtain ⟨p, hp, e⟩ := List.mem_map.mp q
        cases p with
        | mk u v =>
          cases e
          rw [show 0 - (0 - u) = u by omega]
          exact hp
      · intro q
        exact List.mem_map.mpr ⟨_, q, by show (0 - (0 - s), n) = (s, n); rw [show 0 - (0 - s) = s by omega]⟩
    have m := mx_def A B
    refine ⟨fun n hn => ?_, fun n hn => ?_, ?_, ?_, by show 0 ≤ mx A B; omega, by show 0 ≤ mx A B; omega⟩
    · show n ≤ mx A B
      rcases List.mem_append.mp hn with q | q
      · have := u1 n q; omega
      · have := u2 n ((fl 1 n).mp q); omega
    · show n ≤ mx A B
      rcases List.mem_append.mp hn with q | q
      · have := u2 n q; omega
      · have := u1 n ((fl (-1) n).mp q); omega
    · show mx A B = 0 ∨ (1, mx A B) ∈ _
      rcases m with ⟨e, _⟩ | ⟨e, _⟩ <;> rw [e]
      · exact am'.imp id fun q => List.mem_append_left _ q
      · exact bm'.imp id fun q => List.mem_append_right _ ((fl 1 B).mpr q)
    · show mx A B = 0 ∨ (-1, mx A B) ∈ _
      rcases m with ⟨e, _⟩ | ⟨e, _⟩ <;> rw [e]
      · exact am'.imp id fun q => List.mem_append_right _ ((fl (-1) A).mpr q)
      · exact bm'.imp id fun q => List.mem_append_left _ q
  · rw [if_neg h, if_neg h]
    refine ⟨fun n hn => ?_, fun n hn => ?_, am'.imp id fun q => List.mem_append_left _ q, bm'.imp id fun q => List.mem_append_left _ q, a0, b0⟩
    · rcases List.mem_append.mp hn with q | q <;> exact u1 n q
    · rcases List.mem_append.mp hn with q | q <;> exact u2 n q
theorem const_in {c a : Int} : ∀ (ps : List (Int × Int)), (∀ n, (1, n) ∈ ps → n ≤ a) → (∀ n, (-1, n) ∈ ps → a ≤ c - n) → ∃ ys, WayIn c ps ys ∧ endW a ys = a ∧ lenW a ys = 0
  | [], _, _ => ⟨[], trivial, rfl, rfl⟩
  | (s, n) :: r, h1, h2 => by
    obtain ⟨ys, w, e, z⟩ := const_in r (fun m hm => h1 m (List.mem_cons_of_mem _ hm)) (fun m hm => h2 m (List.mem_cons_of_mem _ hm))
    refine ⟨a :: ys, ⟨⟨fun q => ?_, fun q => ?_⟩, w⟩, e, ?_⟩
    · have q : s = 1 := q
      subst q
      exact h1 n List.mem_cons_self
    · have q : s = -1 := q
      subst q
      exact h2 n List.mem_cons_self
    · show absI (a - a) + lenW a ys = 0
      rw [z]
      have := absI_spec (a - a)
      omega
theorem const_of {c : Int} : ∀ (ps : List (Int × Int)) (ys : List Int) (a : Int), WayIn c ps ys → lenW a ys = 0 → (∀ n, (1, n) ∈ ps → n ≤ a) ∧ (∀ n, (-1, n) ∈ ps → a ≤ c - n)
  | [], [], _, _, _ => ⟨(fun n h => nomatch h), (fun n h => nomatch h)⟩
  | [], _ :: _, _, h, _ => nomatch (show False from h)
  | _ :: _, [], _, h, _ => nomatch (show False from h)
  | (s, m) :: r, y :: ys, a, ⟨⟨h1, h2⟩, w⟩, e => by
    have e : absI (y - a) + lenW y ys = 0 := e
    have n0 := lenW_nonneg ys y
    have ab := absI_spec (y - a)
    have ya : y = a := by omega
    subst ya
    obtain ⟨i1, i2⟩ := const_of r ys y w (by omega)
    refine ⟨fun n hn => ?_, fun n hn => ?_⟩
    · rcases List.mem_cons.mp hn with q | q
      · cases q; exact h1 rfl
      · exact i1 n q
    · rcases List.mem_cons.mp hn with q | q
      · cases q; exact h2 rfl
      · exact i2 n q
theorem spare_zero {c : Int} {l : List Stp} (hl : fitsS c l) (h : sparing l ≤ c) : twoR c l = 0 := by
  obtain ⟨n1, n2, _, _, p1, p2⟩ := needs_two l
  unfold sparing at h
  obtain ⟨ys, w, e, z⟩ := const_in (c := c) (a := (needsOf l).1) (ps2 l) n1 (fun n hn => by have := n2 n hn; omega)
  have a := two_le (by omega) hl p1 (by omega) w e
  have b := two_nonneg (c := c) (by omega) hl
  omega
theorem spare_pos {c : Int} {l : List Stp} (hc : 0 ≤ c) (hl : fitsS c l) (h : c < sparing l) : 0 < twoR c l := by
  obtain ⟨_, _, m1, m2, p1, p2⟩ := needs_two l
  have b := two_nonneg hc hl
  rcases Int.lt_or_le 0 (twoR c l) with q | q
  · exact q
  · exfalso
    obtain ⟨a, ys, a0, a1, w, _, el⟩ := two_way hc hl
    obtain ⟨i1, i2⟩ := const_of (ps2 l) ys a w (by omega)
    unfold sparing at h
    have u : (needsOf l).1 ≤ a := by
      rcases m1 with z | z
      · omega
      · exact i1 _ z
    have v : a ≤ c - (needsOf l).2 := by
      rcases m2 with z | z
      · omega
      · exact i2 _ z
    omega
/-! ### the fewest chairs -/
def needsL : List Stp → List Int
  | [] => []
  | .turn :: r => needsL r
  | .mt _ n :: r => n :: needsL r
theorem needsL_mem {n : Int} : ∀ {l : List Stp}, n ∈ needsL l ↔ ∃ b, Stp.mt b n ∈ l
  | [] => ⟨(fun h => nomatch h), (fun ⟨b, h⟩ => nomatch h)⟩
  | .turn :: r => ⟨fun h => by obtain ⟨b, q⟩ := (needsL_mem (l := r)).mp h; exact ⟨b, List.mem_cons_of_mem _ q⟩, fun ⟨b, h⟩ => by
    rcases List.mem_cons.mp h with q | q
    · cases q
    · exact (needsL_mem (l := r)).mpr ⟨b, q⟩⟩
  | .mt c m :: r => ⟨fun h => by
    rcases List.mem_cons.mp h with q | q
    · subst q; exact ⟨c, List.mem_cons_self⟩
    · obtain ⟨b, q⟩ := (needsL_mem (l := r)).mp q; exact ⟨b, List.mem_cons_of_mem _ q⟩, fun ⟨b, h⟩ => by
    rcases List.mem_cons.mp h with q | q
    · cases q; exact List.mem_cons_self
    · exact List.mem_cons_of_mem _ ((needsL_mem (l := r)).mpr ⟨b, q⟩)⟩
theorem sides_need : ∀ (l : List Stp) (s t n : Int), (t, n) ∈ sides s l → t ≠ 0 → n ∈ needsL l
  | [], _, _, _, h, _ => nomatch h
  | .turn :: r, s, t, n, h, ht => by
    rcases List.mem_cons.mp h with q | q
    · cases q; exact absurd rfl ht
    · exact sides_need r (0 - s) t n q ht
  | .mt b m :: r, s, t, n, h, ht => by
    rcases List.mem_cons.mp h with q | q
    · cases q; exact List.mem_cons_self
    · exact List.mem_cons_of_mem _ (sides_need r s t n q ht)
theorem fewest_is {l : List Stp} {m : Int} (hm : m ∈ needsL l ++ [0]) (hx : ∀ y ∈ needsL l ++ [0], y ≤ m) : fewest l = m := by
  obtain ⟨a, d, z⟩ := fewest_ge l
  have le : m ≤ fewest l := by
    rcases List.mem_append.mp hm with q | q
    · obtain ⟨b, hb⟩ := needsL_mem.mp q
      rcases sides_mem l 1 b m (.inl rfl) hb with y | y
      · exact a m (needL_mem y)
      · exact d m (needL_mem y)
    · have : m = 0 := List.mem_singleton.mp q
      omega
  have am := mxL_at (needL 1 (sides 1 l))
  have bm := mxL_at (needL (-1) (sides 1 l))
  have z0 := hx 0 (List.mem_append_right _ List.mem_cons_self)
  have ua : mxL (needL 1 (sides 1 l)) ≤ m := by
    rcases am with q | q
    · omega
    · exact hx _ (List.mem_append_left _ (sides_need l 1 1 _ (needL_in q) (by decide)))
  have ub : mxL (needL (-1) (sides 1 l)) ≤ m := by
    rcases bm with q | q
    · omega
    · exact hx _ (List.mem_append_left _ (sides_need l 1 (-1) _ (needL_in q) (by decide)))
  have ge : fewest l ≤ m := by
    unfold fewest needsOf
    have := mx_def (mxL (needL 1 (sides 1 l))) (mxL (needL (-1) (sides 1 l)))
    generalize mxL (needL 1 (sides 1 l)) = A at *
    generalize mxL (needL (-1) (sides 1 l)) = B at *
    split
    · have := mx_def (mx A B) (mx A B)
      show mx (mx A B) (mx A B) ≤ m
      omega
    · show mx A B ≤ m
      omega
  omega
theorem spare_le (l : List Stp) : sparing l ≤ 2 * fewest l := by
  unfold sparing fewest
  have := mx_def (needsOf l).1 (needsOf l).2
  omega
theorem spare_ge (l : List Stp) : fewest l ≤ sparing l := by
  obtain ⟨_, _, _, _, p1, p2⟩ := needs_two l
  unfold sparing fewest
  have := mx_def (needsOf l).1 (needsOf l).2
  omega
theorem few_fits {c : Int} {l : List Stp} (hc : 0 ≤ c) (hl : fitsS c l) : fewest l ≤ c := by
  have all : ∀ y ∈ needsL l, y ≤ c := fun y hy => by
    obtain ⟨b, hb⟩ := needsL_mem.mp hy
    exact (hl b y hb).2
  have u1 := mxL_at (needL 1 (sides 1 l))
  have u2 := mxL_at (needL (-1) (sides 1 l))
  have w1 : mxL (needL 1 (sides 1 l)) ≤ c := by
    rcases u1 with q | q
    · omega
    · exact all _ (sides_need l 1 1 _ (needL_in q) (by decide))
  have w2 : mxL (needL (-1) (sides 1 l)) ≤ c := by
    rcases u2 with q | q
    · omega
    · exact all _ (sides_need l 1 (-1) _ (needL_in q) (by decide))
  unfold fewest needsOf
  have := mx_def (mxL (needL 1 (sides 1 l))) (mxL (needL (-1) (sides 1 l)))
  generalize mxL (needL 1 (sides 1 l)) = A at *
  generalize mxL (needL (-1) (sides 1 l)) = B at *
  split
  · have := mx_def (mx A B) (mx A B)
    show mx (mx A B) (mx A B) ≤ c
    omega
  · show mx A B ≤ c
    omega
theorem halves_ok (n : Int) : ((halvesV n).2 = 2 ∧ n % 2 = 1 ∧ (halvesV n).1 = n) ∨ ((halvesV n).2 = 1 ∧ 2 * (halvesV n).1 = n) := by
  unfold halvesV
  by_cases h : n % 2 = 1
  · rw [if_pos h]; exact .inl ⟨rfl, h, rfl⟩
  · rw [if_neg h]; refine .inr ⟨rfl, ?_⟩; show 2 * (n / 2) = n; omega
theorem halves_back (n : Int) : (halvesV n).1 * 2 / (halvesV n).2 = n := by
  rcases halves_ok n with ⟨a, _, c⟩ | ⟨a, c⟩ <;> rw [a] <;> omega
/-! ### from any start, in the long run -/
theorem long_any {c : Int} {l : List Stp} (hc : 0 ≤ c) (hl : fitsS c l) {x : Int} (x0 : 0 ≤ x) (x1 : x ≤ c) (n : Nat) : runC (effOf c l) 2 (runF (effOf c l) (n + 2) x) = twoR c l := by
  obtain ⟨o, oc, _, _⟩ := effOf_ok hc hl
  have ip := isPow_add o (isPow_one o) (isPow_one o)
  have r := run_range o n x0 (by rw [oc]; exact x1)
  rw [runF_add]
  rw [← two_any o ip r.1 r.2]
  exact two_any o ip (Int.le_refl 0) (by omega)
/-! ### prices -/
def priceC (l : List Stp) (pr cr c : Int) : Int := 2 * pr * c + cr * twoR c l
theorem price_step (l : List Stp) (pr cr c : Int) : priceC l pr cr (c + 1) = priceC l pr cr c + 2 * pr - cr * savR c l := by
  unfold priceC savR
  rw [Int.mul_add, Int.mul_sub, Int.mul_one]
  omega
theorem price_up {l : List Stp} {pr cr b : Int} (h : ∀ j, b ≤ j → cr * savR j l ≤ 2 * pr) : ∀ n : Nat, priceC l pr cr b ≤ priceC l pr cr (b + n)
  | 0 => by rw [show b + ((0 : Nat) : Int) = b by omega]; exact Int.le_refl _
  | n + 1 => by
    have := price_up h n
    have := h (b + n) (by omega)
    rw [show b + ((n + 1 : Nat) : Int) = b + n + 1 by omega, price_step]
    omega
theorem price_down {l : List Stp} {pr cr b f : Int} (h : ∀ j, f ≤ j → j < b → 2 * pr < cr * savR j l) : ∀ n : Nat, f ≤ b - n → priceC l pr cr b + n ≤ priceC l pr cr (b - n)
  | 0, _ => by rw [show b - ((0 : Nat) : Int) = b by omega]; omega
  | n + 1, hf => by
    have := price_down h n (by omega)
    have := h (b - ((n + 1 : Nat) : Int)) hf (by omega)
    have e := price_step l pr cr (b - ((n + 1 : Nat) : Int))
    rw [show b - ((n + 1 : Nat) : Int) + 1 = b - n by omega] at e
    omega
theorem best_is {l : List Stp} {pr cr b : Int} (hg : ∀ b n, Stp.mt b n ∈ l → 0 ≤ n) (p0 : 0 ≤ pr) (c0 : 0 ≤ cr) (b0 : fewest l ≤ b) (b1 : b ≤ sparing l) (h1 : b = fewest l ∨ 2 * pr < cr * savR (b - 1) l) (h2 : b = sparing l ∨ cr * savR b l ≤ 2 * pr) {c : Int} (hc : fewest l ≤ c) :
    priceC l pr cr b ≤ priceC l pr cr c ∧ (c < b → priceC l pr cr b < priceC l pr cr c) := by
  have f0 := (fewest_ge l).2.2
  have fit : ∀ c, fewest l ≤ c → fitsS c l := fun c h => fits_fewest hg h
  have up : ∀ j, b ≤ j → cr * savR j l ≤ 2 * pr := fun j hj => by
    rcases h2 with e | e
    · have z : savR j l = 0 := by
        unfold savR
        rw [spare_zero (fit j (by omega)) (by omega), spare_zero (fit (j + 1) (by omega)) (by omega)]
        rfl
      rw [z, Int.mul_zero]
      omega
    · have := sav_le (by omega) (fit b b0) hj
      have := Int.mul_le_mul_of_nonneg_left this c0
      omega
  have dn : ∀ j, fewest l ≤ j → j < b → 2 * pr < cr * savR j l := fun j hj hb => by
    rcases h1 with e | e
    · omega
    · have := sav_le (by omega) (fit j hj) (show j ≤ b - 1 by omega)
      have := Int.mul_le_mul_of_nonneg_left this c0
      omega
  rcases Int.lt_or_le c b with q | q
  · have := price_down dn (b - c).toNat (by omega)
    rw [show b - ((b - c).toNat : Int) = c by omega] at this
    exact ⟨by omega, fun _ => by omega⟩
  · have := price_up up (c - b).toNat
    rw [show b + ((c - b).toNat : Int) = c by omega] at this
    exact ⟨this, fun z => by omega⟩
end ChM

set_option linter.all false
set_option autoImplicit false
/-! ### a plan repeated, step by step -/
namespace ChM
theorem times_snoc (l : List Stp) : ∀ n, times l (n + 1) = times l n ++ l
  | 0 => by show l ++ [] = [] ++ l; simp
  | n + 1 => by
    show l ++ times l (n + 1) = (l ++ times l n) ++ l
    rw [times_snoc l n, List.append_assoc]
theorem times_len (l : List Stp) : ∀ n, (times l n).length = n * l.length
  | 0 => by simp [times]
  | n + 1 => by
    show (l ++ times l n).length = _
    rw [List.length_append, times_len l n, Nat.succ_mul]
    omega
theorem times_add (l : List Stp) : ∀ n m, times l (n + m) = times l n ++ times l m
  | 0, m => by rw [Nat.zero_add]; rfl
  | n + 1, m => by
    rw [show n + 1 + m = (n + m) + 1 by omega]
    show l ++ times l (n + m) = (l ++ times l n) ++ times l m
    rw [times_add l n m, List.append_assoc]
def preS (l : List Stp) (j : Nat) : List Stp := times l (j / l.length) ++ l.take (j % l.length)
theorem preS_succ {l : List Stp} (h0 : 0 < l.length) (j : Nat) {st : Stp} (h : l[j % l.length]? = some st) : preS l (j + 1) = preS l j ++ [st] := by
  have hm := Nat.mod_lt j h0
  have hd := Nat.div_add_mod j l.length
  have tk : l.take (j % l.length + 1) = l.take (j % l.length) ++ [st] := by rw [List.take_add_one, h]; rfl
  unfold preS
  by_cases q : j % l.length + 1 = l.length
  · have e1 : (j + 1) / l.length = j / l.length + 1 := by
      have : j + 1 = (j / l.length + 1) * l.length := by
        rw [Nat.succ_mul, Nat.mul_comm]
        omega
      rw [this, Nat.mul_div_cancel _ h0]
    have e2 : (j + 1) % l.length = 0 := by
      have : j + 1 = (j / l.length + 1) * l.length := by
        rw [Nat.succ_mul, Nat.mul_comm]
        omega
      rw [this, Nat.mul_mod_left]
    rw [e1, e2, times_snoc, List.take_zero, List.append_nil, List.append_assoc, ← tk, q, List.take_length]
  · have lt : j % l.length + 1 < l.length := by omega
    have e1 : (j + 1) / l.length = j / l.length ∧ (j + 1) % l.length = j % l.length + 1 := by
      have ej : j + 1 = (j % l.length + 1) + l.length * (j / l.length) := by omega
      constructor
      · rw [ej, Nat.add_mul_div_left _ _ h0, Nat.div_eq_of_lt lt, Nat.zero_add]
      · rw [ej, Nat.add_mul_mod_self_left, Nat.mod_eq_of_lt lt]
    rw [e1.1, e1.2, tk, List.append_assoc]
theorem preS_zero (l : List Stp) : preS l 0 = [] := by
  unfold preS
  rw [Nat.zero_div, Nat.zero_mod]
  rfl
theorem preS_round {l : List Stp} (h0 : 0 < l.length) (r i : Nat) : preS l (r * l.length + i) = times l r ++ preS l i := by
  unfold preS
  rw [show r * l.length + i = i + l.length * r by rw [Nat.mul_comm]; omega, Nat.add_mul_div_left _ _ h0, Nat.add_mul_mod_self_left, Nat.add_comm (i / l.length) r, times_add, List.append_assoc]
theorem times_take {l : List Stp} (h0 : 0 < l.length) : ∀ (m N : Nat), m ≤ N * l.length → (times l N).take m = preS l m
  | 0, N, _ => by rw [preS_zero, List.take_zero]
  | m + 1, N, h => by
    have ih := times_take h0 m N (by omega)
    have hm := Nat.mod_lt m h0
    obtain ⟨st, hst⟩ : ∃ st, l[m % l.length]? = some st := ⟨_, List.getElem?_eq_getElem hm⟩
    rw [preS_succ h0 m hst, List.take_add_one, ih]
    congr 1
    have hd := Nat.div_add_mod m l.length
    have hq : m / l.length < N := by
      refine Nat.div_lt_of_lt_mul ?_
      rw [Nat.mul_comm]
      omega
    obtain ⟨k, rfl⟩ : ∃ k, N = m / l.length + (k + 1) := ⟨N - m / l.length - 1, by omega⟩
    have e : times l (m / l.length + (k + 1)) = times l (m / l.length) ++ (l ++ times l k) := times_add l _ _
    have e2 : m = (times l (m / l.length)).length + m % l.length := by
      rw [times_len, Nat.mul_comm]
      omega
    have e3 : (times l (m / l.length + (k + 1)))[m]? = l[m % l.length]? := by
      rw [e, List.getElem?_append_right (by rw [times_len, Nat.mul_comm]; omega), times_len, Nat.mul_comm (m / l.length),
        show m - l.length * (m / l.length) = m % l.length by omega, List.getElem?_append_left hm]
    rw [e3, hst]
    rfl
/-- both rooms behind j steps -/
def runS (c : Int) (l : List Stp) (x : Int) (j : Nat) : Int × Int := playS (x, c - x) (preS l j)
/-- what step j (from 0) carries -/
def cntS (c : Int) (l : List Stp) (x : Int) (j : Nat) : Int := match l[j % l.length]? with
  | some st => (play1 (runS c l x j) st).2
  | none => 0
def plcS (c : Int) (l : List Stp) (x : Int) (j : Nat) : Int := placeOf (sideAt 1 (l.take (j % l.length))) (runS c l x j)
section
variable {c x : Int} {l : List Stp}
theorem runS_succ (h0 : 0 < l.length) (j : Nat) {st : Stp} (h : l[j % l.length]? = some st) : runS c l x (j + 1) = (play1 (runS c l x j) st).1 := by
  unfold runS
  rw [preS_succ h0 j h, playS_snoc]
theorem runS_sum (j : Nat) : (runS c l x j).1 + (runS c l x j).2 = c := by
  unfold runS
  rw [play_keep]
  show x + (c - x) = c
  omega
theorem sideAt_or : ∀ (l : List Stp) (s : Int), (s = 1 ∨ s = -1) → sideAt s l = 1 ∨ sideAt s l = -1
  | [], s, h => h
  | .turn :: r, s, h => sideAt_or r (0 - s) (by omega)
  | .mt _ _ :: r, s, h => sideAt_or r s h
theorem side_at {i : Nat} {st : Stp} (h : l[i]? = some st) : ∃ p, (sides 1 l)[i]? = some p ∧ sides (sideAt 1 (l.take i)) [st] = [p] := by
  have hi : i < l.length := (List.getElem?_eq_some_iff.mp h).1
  have e : l = l.take i ++ (st :: l.drop (i + 1)) := by
    have q : l[i] = st := (List.getElem?_eq_some_iff.mp h).2
    rw [← q, List.getElem_cons_drop, List.take_append_drop]
  obtain ⟨p, hp⟩ : ∃ p, sides (sideAt 1 (l.take i)) [st] = [p] := by
    cases st <;> exact ⟨_, rfl⟩
  refine ⟨p, ?_, hp⟩
  have q : sides 1 l = sides 1 (l.take i) ++ (sides (sideAt 1 (l.take i)) [st] ++ sides (sideAt (sideAt 1 (l.take i)) [st]) (l.drop (i + 1))) := by
    rw [← sides_app, ← sides_app]
    rw [List.singleton_append, ← e]
  rw [q, List.getElem?_append_right (by rw [sides_len, List.length_take]; omega), sides_len, List.length_take, show i - min i l.length = 0 by omega, hp]
  rfl
theorem cnt_step (h0 : 0 < l.length) {j : Nat} {p : Int × Int} (hp : (sides 1 l)[j % l.length]? = some p) :
    cntS c l x j = absI (moved c (plcS c l x j) p.1 p.2 - plcS c l x j) ∧
    plcS c l x (j + 1) = (if j % l.length + 1 = l.length then (if turning l = true then c - moved c (plcS c l x j) p.1 p.2 else moved c (plcS c l x j) p.1 p.2) else moved c (plcS c l x j) p.1 p.2) := by
  have hm := Nat.mod_lt j h0
  obtain ⟨st, hst⟩ : ∃ st, l[j % l.length]? = some st := ⟨_, List.getElem?_eq_getElem hm⟩
  obtain ⟨p', hp', hs⟩ := side_at hst
  rw [hp] at hp'
  cases hp'
  have so := sideAt_or (l.take (j % l.length)) 1 (.inl rfl)
  obtain ⟨_, g2, g3⟩ := play_sim (c := c) [st] (sideAt 1 (l.take (j % l.length))) (runS c l x j) so (runS_sum j)
  rw [hs] at g2 g3
  have g2' : placeOf (sideAt (sideAt 1 (l.take (j % l.length))) [st]) (play1 (runS c l x j) st).1 = moved c (plcS c l x j) p.1 p.2 := g2
  have g3' : (play1 (runS c l x j) st).2 + 0 = absI (moved c (plcS c l x j) p.1 p.2 - plcS c l x j) + 0 := g3
  rw [← runS_succ h0 j hst, ← sideAt_snoc] at g2'
  have tk : l.take (j % l.length + 1) = l.take (j % l.length) ++ [st] := by rw [List.take_add_one, hst]; rfl
  rw [← tk] at g2'
  refine ⟨?_, ?_⟩
  · unfold cntS
    rw [hst]
    show (play1 (runS c l x j) st).2 = _
    omega
  · by_cases q : j % l.length + 1 = l.length
    · rw [if_pos q]
      rw [q, List.take_length, sideAt_turning] at g2'
      have e2 : (j + 1) % l.length = 0 := by
        have hd := Nat.div_add_mod j l.length
        have : j + 1 = (j / l.length + 1) * l.length := by
          rw [Nat.succ_mul, Nat.mul_comm]
          omega
        rw [this, Nat.mul_mod_left]
      have e3 : plcS c l x (j + 1) = (runS c l x (j + 1)).1 := by
        unfold plcS
        rw [e2]
        rfl
      have hsum := runS_sum (c := c) (x := x) (l := l) (j + 1)
      by_cases t : turning l = true
      · rw [if_pos t] at g2' ⊢
        have : placeOf (-1) (runS c l x (j + 1)) = (runS c l x (j + 1)).2 := rfl
        rw [this] at g2'
        rw [e3, ← g2']
        omega
      · rw [if_neg t] at g2' ⊢
        rw [e3, ← g2']
        rfl
    · rw [if_neg q]
      have lt : j % l.length + 1 < l.length := by omega
      have e1 : (j + 1) % l.length = j % l.length + 1 := by
        have hd := Nat.div_add_mod j l.length
        have ej : j + 1 = (j % l.length + 1) + l.length * (j / l.length) := by omega
        rw [ej, Nat.add_mul_mod_self_left, Nat.mod_eq_of_lt lt]
      unfold plcS
      rw [e1]
      exact g2'
theorem runS_round (h0 : 0 < l.length) (hl : fitsS c l) (x0 : 0 ≤ x) (x1 : x ≤ c) (r i : Nat) : runS c l x (r * l.length + i) = runS c l (runF (effOf c l) r x) i := by
  unfold runS
  rw [preS_round h0, playS_app, play_pair, (rounds_right hl r x0 x1).2]
theorem cntS_round (h0 : 0 < l.length) (hl : fitsS c l) (x0 : 0 ≤ x) (x1 : x ≤ c) (r i : Nat) : cntS c l x (r * l.length + i) = cntS c l (runF (effOf c l) r x) i := by
  have e : (r * l.length + i) % l.length = i % l.length := by
    rw [show r * l.length + i = i + l.length * r by rw [Nat.mul_comm]; omega, Nat.add_mul_mod_self_left]
  unfold cntS
  rw [e, runS_round h0 hl x0 x1]
theorem plcS_round (h0 : 0 < l.length) (hl : fitsS c l) (x0 : 0 ≤ x) (x1 : x ≤ c) (r i : Nat) (hi : i < l.length) : plcS c l x (r * l.length + i) = simP c ((sides 1 l).take i) (runF (effOf c l) r x) := by
  have e : (r * l.length + i) % l.length = i := by
    rw [show r * l.length + i = i + l.length * r by rw [Nat.mul_comm]; omega, Nat.add_mul_mod_self_left, Nat.mod_eq_of_lt hi]
  unfold plcS
  rw [e, runS_round h0 hl x0 x1]
  obtain ⟨_, g2, _⟩ := play_sim (c := c) (l.take i) 1 (runF (effOf c l) r x, c - runF (effOf c l) r x) (.inl rfl) (by show _ + (c - _) = c; omega)
  have e2 : runS c l (runF (effOf c l) r x) i = playS (runF (effOf c l) r x, c - runF (effOf c l) r x) (l.take i) := by
    unfold runS preS
    rw [Nat.div_eq_of_lt hi, Nat.mod_eq_of_lt hi]
    rfl
  rw [e2, g2]
  congr 1
  have q : l = l.take i ++ l.drop i := (List.take_append_drop i l).symm
  have q2 : sides 1 l = sides 1 (l.take i) ++ sides (sideAt 1 (l.take i)) (l.drop i) := by
    rw [← sides_app, ← q]
  rw [q2, List.take_left' (by rw [sides_len, List.length_take]; omega)]
theorem cnts_play (h0 : 0 < l.length) : ∀ m : Nat, (List.range m).map (fun i => cntS c l x i) = playC (x, c - x) (preS l m)
  | 0 => by rw [preS_zero]; rfl
  | m + 1 => by
    have hm := Nat.mod_lt m h0
    obtain ⟨st, hst⟩ : ∃ st, l[m % l.length]? = some st := ⟨_, List.getElem?_eq_getElem hm⟩
    rw [List.range_succ, List.map_append, cnts_play h0 m, preS_succ h0 m hst, playC_snoc]
    congr 1
    show [cntS c l x m] = _
    unfold cntS
    rw [hst]
    rfl
end
end ChM

set_option Elab.async false
set_option linter.all false
set_option autoImplicit false
set_option maxRecDepth 100000
set_option maxHeartbeats 4000000
/-! ### what the laws' own texts share -/
namespace Ch
open PySem PySem.Spec PyProof.Rows L2 LamX ChM
theorem pick3 {u v x : V} {z : Int} (h0 : 0 ≤ z) (h1 : z < 3) : ∃ y, atI [u, v, x] z = some y ∧ (y = u ∨ y = v ∨ y = x) := by
  have : z = 0 ∨ z = 1 ∨ z = 2 := by omega
  rcases this with e | e | e
  · subst e; exact ⟨u, rfl, .inl rfl⟩
  · subst e; exact ⟨v, rfl, .inr (.inl rfl)⟩
  · subst e; exact ⟨x, rfl, .inr (.inr rfl)⟩
theorem x_rg2 {ta tb : TE} {σ : L2.St} {H : Hp} {R : Int → Int → Hp → Prop} (k : ta σ H fun x H1 => tb σ H1 fun y H2 => ∃ i j, x = .int i ∧ y = .int j ∧ R i j H2) : tRg2 ta tb σ H R := k
theorem steps_rep {H : Hp} {ps : List V} {l : List Stp} (h : StepsAt H ps l) : ∀ n : Nat, StepsAt H (List.replicate n ps).flatten (times l n)
  | 0 => .nil
  | n + 1 => by
    rw [List.replicate_succ, List.flatten_cons]
    exact pr_app h (steps_rep h n)
/-- if c: .., what is known of the slots and the heap behind it -/
theorem x_ifInv {c : Prop} [Decidable c] {t1 : TS} {D : Ends} {σ : L2.St} {H : Hp} (R : L2.St → Hp → Prop) (hF : ¬ c → R σ H) (hT : c → ∀ nx : L2.St → Hp → Prop, (∀ σ' H', R σ' H' → nx σ' H') → t1 { D with nx := nx } σ H)
    (h1 : ∀ σ' H', R σ' H' → D.nx σ' H') : if decide c = true then t1 D σ H else tNext D σ H := by
  by_cases h : c
  · rw [decide_eq_true h]
    exact hT h D.nx h1
  · rw [decide_eq_false h]
    exact h1 _ _ (hF h)
theorem cut_mid (xs : List V) {lo hi : Int} (h0 : 0 ≤ lo) (h1 : lo ≤ hi) (h2 : hi ≤ xs.length) : cutV xs (some lo) (some hi) = (xs.drop lo.toNat).take (hi - lo).toNat := by
  obtain ⟨a, rfl⟩ : ∃ a : Nat, lo = (a : Int) := ⟨lo.toNat, by omega⟩
  obtain ⟨b, rfl⟩ : ∃ b : Nat, hi = (b : Int) := ⟨hi.toNat, by omega⟩
  unfold cutV
  rw [HT.sIx_nat, HT.sIx_nat, Nat.min_eq_left (by omega), Nat.min_eq_left (by omega)]
  congr 1
  omega
theorem snoc_in {H H' : Hp} {D d : Addr} {ys vs : List V} {o : HO} (hD : H D = some (.lst ys)) (h : ∀ z ∈ ys, ∃ d, z = .ref d ∧ H d = some (.tup vs)) (s : Same H H') (e : H' d = some (.tup vs)) : ∀ z ∈ ys ++ [V.ref d], ∃ d, z = .ref d ∧ upd H' D o d = some (.tup vs) := fun z hz => by
  have key : ∀ d, H' d = some (.tup vs) → upd H' D o d = some (.tup vs) := fun d e => by
    rw [upd_ne fun q => ?_]
    · exact e
    · rw [q, s _ _ hD] at e
      cases e
  rcases List.mem_append.mp hz with hz | hz
  · obtain ⟨d', e', h'⟩ := h z hz
    exact ⟨d', e', key _ (s _ _ h')⟩
  · exact ⟨d, List.mem_singleton.mp hz, key _ e⟩
/-- what a law that makes lambdas holds on to: the draws' state, the tables, plans, lambdas -/
structure Bn (X : Cx) (k : Nat) (Ls : List (Addr × (XK → TE))) (C : Addr) (K : PySem.W.Frag) (T : List (Addr × Str)) (st a : Addr) (ns : List Int) (Ps : List (Addr × List Stp)) (H : Hp) : Prop where
  S : StAt K H st a ns
  T : Tabs T H
  P : ∀ p ∈ Ps, PlanAt C H p.1 p.2
  L : ∀ p ∈ Ls, LamV.LamAt X k p.2 p.1 H
section
variable {X : Cx} {k : Nat} {Ls : List (Addr × (XK → TE))} {C : Addr} {K : PySem.W.Frag} {T : List (Addr × Str)} {st a : Addr} {ns : List Int} {Ps : List (Addr × List Stp)} {H H' : Hp}
theorem Bn.same (b : Bn X k Ls C K T st a ns Ps H) (s : Same H H') : Bn X k Ls C K T st a ns Ps H' := ⟨b.S.mono s, tabs_same b.T s, fun p hp => (b.P p hp).mono s, fun p hp => (b.L p hp).same s⟩
theorem Bn.draw (b : Bn X k Ls C K T st a ns Ps H) (s : SameB st H H') (S' : StAt K H' st a ns) : Bn X k Ls C K T st a ns Ps H' := ⟨S', tabs_B b.T b.S s, fun p hp => PlanAt.monoB b.S s (b.P p hp), fun p hp => (b.L p hp).draw b.S s⟩
theorem Bn.ext (b : Bn X k Ls C K T st a ns Ps H) (e : ExtN H H') (T' : Tabs T H') : Bn X k Ls C K T st a ns Ps H' := ⟨ExtN.st e b.S, T', fun p hp => ExtN.plan e (b.P p hp), fun p hp => (b.L p hp).ext e⟩
theorem Bn.more (b : Bn X k Ls C K T st a ns Ps H) {p : Addr × (XK → TE)} (h : LamV.LamAt X k p.2 p.1 H) : Bn X k (p :: Ls) C K T st a ns Ps H := ⟨b.S, b.T, b.P, fun q hq => by
  rcases List.mem_cons.mp hq with z | z
  · rw [z]; exact h
  · exact b.L q z⟩
theorem Bn.plan (b : Bn X k Ls C K T st a ns Ps H) {x : Addr} {l : List Stp} (h : PlanAt C H x l) : Bn X k Ls C K T st a ns ((x, l) :: Ps) H := ⟨b.S, b.T, fun q hq => by
  rcases List.mem_cons.mp hq with z | z
  · rw [z]; exact h
  · exact b.P q z, b.L⟩
theorem Bn.forget (b : Bn X k Ls C K T st a ns Ps H) : Bn X k [] C K T st a ns Ps H := ⟨b.S, b.T, b.P, fun p hp => nomatch hp⟩
/-- xs.append(e) where xs is a list that came later than the state -/
theorem Bn.app (b : Bn X k Ls C K T st a ns Ps H) {H0 : Hp} {w : Addr} {xs ys : List V} (hw : H w = some (.lst xs)) (S0 : StAt K H0 st a ns) (h0 : H0 w = none) (s0 : ∀ b o, (∀ ps, o ≠ .tbl ps) → H0 b = some o → H b = some o) : Bn X k Ls C K T st a ns Ps (upd H w (.lst ys)) := by
  have kW : ∀ b o, (∀ xs, o ≠ .lst xs) → H b = some o → (upd H w (.lst ys)) b = some o := fun b o n e => by
    rw [upd_ne fun z => ?_]
    · exact e
    · rw [z, hw] at e
      exact n _ (Option.some.inj e).symm
  have eN : ExtN H0 (upd H w (.lst ys)) := fun b o e n => by
    rw [upd_ne (ne_of_none e h0)]
    exact s0 b o n e
  exact ⟨ExtN.st eN S0, tabs_keep b.T kW, fun p hp => by
    obtain ⟨dx, t, vs, h1, h2, h3⟩ := (b.P p hp).ex
    exact ⟨dx, t, vs, kW _ _ (fun xs z => nomatch z) h1, kW _ _ (fun xs z => nomatch z) h2, pr_im (fun _ _ ⟨p, e1, e2⟩ => ⟨p, e1, kW _ _ (fun xs z => nomatch z) e2⟩) h3⟩, fun p hp => (b.L p hp).keep fun b o _ n e => kW b o n e⟩
end
end Ch

set_option Elab.async false
set_option linter.all false
set_option autoImplicit false
set_option maxRecDepth 100000
/-! ChNk: keys of a dict that are tuples of tuples. -/
namespace NkX
open PySem PySem.Spec PyProof.Rows L2
open Sem (wp)
section
variable (P : Program) (w : World)
/-- the heap has all tuples that another has -/
def TupIn (h h' : Heap) : Prop := ∀ a o items m, h.get? a = some o → o.data = .seq items m → h'.get? a = some o
/-- values of a sort that may stand in a key, n tuples deep -/
structure AnyK (K : Type) [DecidableEq K] (n : Nat) where
  is : Heap → K → Value → Prop
  hash : K → Int
  draws : K → Nat
  inj : ∀ {h : Heap} {x y : K} {v : Value}, is h x v → is h y v → x = y
  keeps : ∀ {h h' : Heap} {k : K} {v : Value}, is h k v → TupIn h h' → is h' k v
  pyHash : ∀ {A : Around} {E : Value → Shared → Prop} {s : Shared} {k : K} {v : Value} {Q : Int → Shared → Prop}, A.units + n ≤ cLine → is s.heap k v → Q (hash k) { s with toks := s.toks + draws k } → wpAny (model P w) A (PySem.pyHash v) Q E s
  eqBool : ∀ {A : Around} {E : Value → Shared → Prop} {s : Shared} {x y : K} {u v : Value} {Q : Bool → Shared → Prop}, A.units + n ≤ cLine → is s.heap x u → is s.heap y v → Q (decide (x = y)) s → wpAny (model P w) A (PySem.eqBool u v) Q E s
  quiet : ∀ {A : Around} {E : Value → Shared → Prop} {s : Shared} {k : K} {v : Value} {Q : Bool → Shared → Prop} (m : Nat), n ≤ m → is s.heap k v → Q true s → wpAny (model P w) A (eqIsQuiet m v) Q E s
end
section
variable {P : Program} {w : World}
/-- ints -/
def intK (P : Program) (w : World) : AnyK P w Int 0 where
  is := fun _ n v => (intKind P w).is n v = true
  hash := (intKind P w).hash
  draws := fun _ => 1
  inj := fun h1 h2 => (intKind P w).inj _ _ _ h1 h2
  keeps := fun h _ => h
  pyHash := fun _ h k => (intKind P w).pyHash h k
  eqBool := fun _ h1 h2 k => (intKind P w).eqBool h1 h2 k
  quiet := fun m _ h k => by
    rw [eqIsQuiet_byValue m ((intKind P w).byValue _ _ h)]
    exact wpAny_pure k
/-- what stands at the places of a tuple: told by a hash and draws each -/
def Hs (P : Program) (w : World) (A : Around) (h : Heap) (v : Value) (p : Int × Nat) : Prop := ∀ (E : Value → Shared → Prop) (s : Shared) (Q : Int → Shared → Prop), s.heap = h → Q p.1 { s with toks := s.toks + p.2 } → wpAny (model P w) A (PySem.pyHash v) Q E s
def sumD (l : List (Int × Nat)) : Nat := (l.map (·.2)).sum
theorem sumD_snoc (l : List (Int × Nat)) (p : Int × Nat) : sumD (l ++ [p]) = sumD l + p.2 := by
  unfold sumD
  rw [List.map_append, List.sum_append]
  rfl
theorem hash_tup {A : Around} {E : Value → Shared → Prop} {s : Shared} {a : Addr} {items : Array Value} {l : List (Int × Nat)} {Q : Int → Shared → Prop} (hu : A.units < cLine) (ht : IsTup s.heap a items) (hp : Paired (Hs P w A.in1 s.heap) items.toList l)
    (k : Q (reduceHash (Builtin.Tuple.tupleHashOf (l.map (·.1)))) { s with toks := s.toks + (sumD l + 1) }) : wpAny (model P w) A (PySem.pyHash (.ref a)) Q E s := by
  obtain ⟨o, ho, hc, n, hd⟩ := ht
  have hT : s.TypeIs (.ref a) "tuple" := ⟨o, ho, hc⟩
  unfold PySem.pyHash
  first | unfold pyHashByItsType | skip
  first | refine wpAny_bind (wpAny_cRoomFor_or (.inr hu) ?_) | skip
  refine wpAny_bind (wpAny_specialOf hT F.slot_tuple_hash.lookup ?_)
  show wpAny _ _ (if (some (Value.builtin "tuple.__hash__") == some Value.none) = true then _ else _) Q E s
  rw [if_neg (by rw [beq_builtin_none]; exact Bool.false_ne_true)]
  refine wpAny_bind (wpAny_specialOf hT F.slot_tuple_hash.lookup ?_)
  show wpAny _ _ (callSpecialIfBoundUnlessNone? (.ref a) "__hash__" _ >>= _) Q E s
  refine wpAny_bind (wpAny_callSpecialIfBoundUnlessNone?_slot hT F.slot_tuple_hash (wpAny_call_entry F.slot_tuple_hash hT F.entry_tuple_hash ?_ (F.args_tuple_hash_1 _)))
  show wpAny _ _ (Builtin.Tuple.tupleItemsOf (.ref a) >>= _) _ _ s
  refine wpAny_bind (wpAny_tupleItemsOf ho hd ?_)
  refine wpAny_bind ?_
  rw [← Array.forIn_toList]
  refine wpAny_forIn_list _ (fun rest (b : Array Int) s' => ∃ done left, l = done ++ left ∧ Paired (Hs P w A.in1 s.heap) rest left ∧ b.toList = done.map (·.1) ∧ s' = { s with toks := s.toks + sumD done }) _ ?_ ?_ _ _ ⟨[], l, rfl, hp, rfl, rfl⟩
  · rintro x rest b s' ⟨done, left, rfl, hl, hb, rfl⟩
    cases hl with
    | @cons _ p _ left' h1 hl' =>
      refine wpAny_bind (h1 _ _ _ rfl ?_)
      first
        | exact wpAny_pure ⟨done ++ [p], left', by simp, hl', by simp [hb], by simp [sumD_snoc, Nat.add_assoc]⟩
        | exact wpAny_bind (wpAny_pure (wpAny_pure ⟨done ++ [p], left', by simp, hl', by simp [hb], by simp [sumD_snoc, Nat.add_assoc]⟩))
  · rintro b s' ⟨done, left, rfl, hl, hb, rfl⟩
    cases hl
    rw [List.append_nil] at k
    show wpAny _ _ (retInt (Builtin.Tuple.tupleHashOf b.toList)) _ _ _
    rw [hb]
    refine wpAny_ret_mkInt ?_
    show wpAny _ _ (if (decide (-(2 : Int) ^ 63 ≤ Builtin.Tuple.tupleHashOf (done.map (·.1))) && decide (Builtin.Tuple.tupleHashOf (done.map (·.1)) < 2 ^ 63)) = true then _ else _) Q E _
    unfold reduceHash at k
    by_cases hr : (decide (-(2 : Int) ^ 63 ≤ Builtin.Tuple.tupleHashOf (done.map (·.1))) && decide (Builtin.Tuple.tupleHashOf (done.map (·.1)) < 2 ^ 63)) = true
    · rw [if_pos hr]
      rw [if_pos hr] at k
      exact wpAny_pure (by simpa [Nat.add_assoc] using k)
    · rw [if_neg hr]
      rw [if_neg hr] at k
      exact wpAny_bind (wpAny_rule (wpAny_pure (by simpa [Nat.add_assoc] using k)))
/-- two items, and whether they are equal -/
def Es (P : Program) (w : World) (A : Around) (h : Heap) (p : Value × Value) (b : Bool) : Prop := ∀ (E : Value → Shared → Prop) (s : Shared) (Q : Bool → Shared → Prop), s.heap = h → Q b s → wpAny (model P w) A (PySem.eqBool p.1 p.2) Q E s
theorem eq_tree {A : Around} {E : Value → Shared → Prop} {s : Shared} {a b : Addr} {xs ys : Array Value} {l : List Bool} {R : Fin → Shared → Prop} (hx : IsTup s.heap a xs) (hy : IsTup s.heap b ys) (hp : Paired (Es P w A s.heap) (xs.toList.zip ys.toList) l)
    (k : R (.done (.ret (.bool (l.all id && (xs.size == ys.size))))) s) : wpAny (model P w) A (Builtin.«tuple.__eq__» ⟨[.ref a, .ref b], []⟩) R E s := by
  obtain ⟨oa, hoa, hca, na, hda⟩ := hx
  obtain ⟨ob, hob, hcb, nb, hdb⟩ := hy
  have hTb : s.TypeIs (.ref b) "tuple" := ⟨ob, hob, hcb⟩
  show wpAny _ _ (isInstance (.ref b) (.type "tuple") >>= _) _ _ s
  refine wpAny_bind (wpAny_isInstance hTb isSubtype_tuple_tuple ?_)
  simp only [Bool.not_true, Bool.false_eq_true, if_false]
  refine wpAny_bind (wpAny_tupleItemsOf hoa hda ?_)
  refine wpAny_bind (wpAny_tupleItemsOf hob hdb ?_)
  refine wpAny_bind ?_
  refine wpAny_forIn_list _ (fun rest r s' => r.1 = none ∧ s' = s ∧ ∃ left, Paired (Es P w A s.heap) rest left ∧ left.all id = l.all id) _ ?_ ?_ _ _ ⟨rfl, rfl, l, hp, rfl⟩
  · rintro ⟨u, v⟩ rest r s' ⟨hr, rfl, left, hl, hall⟩
    cases hl with
    | @cons _ c _ left' h1 hl' =>
      refine wpAny_bind (h1 _ _ _ rfl ?_)
      cases c with
      | true =>
        simp only [Bool.not_true, Bool.false_eq_true, if_false]
        exact wpAny_pure ⟨rfl, rfl, left', hl', hall⟩
      | false =>
        simp only [Bool.not_false, if_true]
        have e : l.all id = false := hall.symm
        rw [e] at k
        exact wpAny_bind (wpAny_pure (wpAny_pure (wpAny_pure k)))
  · rintro ⟨r1, r2⟩ s' ⟨hr, rfl, left, hl, hall⟩
    simp only at hr
    subst hr
    cases hl
    have e : l.all id = true := hall.symm
    rw [e] at k
    exact wpAny_pure k
theorem eq_tup {A : Around} {E : Value → Shared → Prop} {s : Shared} {a b : Addr} {xs ys : Array Value} {l : List Bool} {c : Bool} {Q : Bool → Shared → Prop} (hu : A.units < cLine) (hx : IsTup s.heap a xs) (hy : IsTup s.heap b ys) (hp : Paired (Es P w A.in1 s.heap) (xs.toList.zip ys.toList) l)
    (hc : c = (l.all id && (xs.size == ys.size))) (hr : a = b → c = true) (k : Q c s) : wpAny (model P w) A (PySem.eqBool (.ref a) (.ref b)) Q E s := by
  have hTa : s.TypeIs (.ref a) "tuple" := let ⟨o, h1, h2, _⟩ := hx; ⟨o, h1, h2⟩
  have hTb : s.TypeIs (.ref b) "tuple" := let ⟨o, h1, h2, _⟩ := hy; ⟨o, h1, h2⟩
  unfold PySem.eqBool
  try with_reducible refine wpAny_holding ?_
  show wpAny _ _ (if (Value.ref a == Value.ref b) = true then _ else _) Q E s
  by_cases hab : (Value.ref a == Value.ref b) = true
  · rw [if_pos hab]
    have e : a = b := by have := eq_of_beq hab; injection this
    rw [hr e] at k
    exact wpAny_bind (wpAny_rule (wpAny_pure k))
  · rw [if_neg hab]
    refine wpAny_bind (wpAny_richCompare_same_room (op := .Eq) hTa hTb F.slot_tuple_eq (wpAny_call_entry F.slot_tuple_eq hTa F.entry_tuple_eq (eq_tree hx hy hp ⟨_, rfl, (fun e => nomatch e), wpAny_truthy_bool ?_⟩) (F.args_tuple_eq_2 _ _)) hu)
    rw [← hc]
    exact k
theorem quiet_tup {A : Around} {E : Value → Shared → Prop} {s : Shared} {a : Addr} {items : Array Value} {Q : Bool → Shared → Prop} {m : Nat} (ht : IsTup s.heap a items)
    (hp : ∀ v ∈ items.toList, ∀ (E : Value → Shared → Prop) (Q : Bool → Shared → Prop), Q true s → wpAny (model P w) A (eqIsQuiet m v) Q E s) (k : Q true s) : wpAny (model P w) A (eqIsQuiet (m + 1) (.ref a)) Q E s := by
  obtain ⟨o, ho, hc, n, hd⟩ := ht
  have hT : s.TypeIs (.ref a) "tuple" := ⟨o, ho, hc⟩
  unfold eqIsQuiet
  refine wpAny_bind (wpAny_specialOf hT F.slot_tuple_eq.lookup ?_)
  show wpAny _ _ (isInstance (.ref a) (.type "tuple") >>= _) _ _ s
  refine wpAny_bind (wpAny_isInstance hT isSubtype_tuple_tuple ?_)
  simp only [Bool.not_true, Bool.false_eq_true, if_false]
  refine wpAny_bind (wpAny_seqItems ho hd ?_)
  refine wpAny_bind ?_
  show wpAny _ _ (forIn items _ _) _ _ s
  rw [← Array.forIn_toList]
  refine wpAny_forIn_list _ (fun rest r s' => r.1 = none ∧ s' = s ∧ ∀ v ∈ rest, ∀ (E : Value → Shared → Prop) (Q : Bool → Shared → Prop), Q true s → wpAny (model P w) A (eqIsQuiet m v) Q E s) _ ?_ ?_ _ _ ⟨rfl, rfl, hp⟩
  · rintro v rest r s' ⟨hr, rfl, hall⟩
    refine wpAny_bind (hall v List.mem_cons_self _ _ ?_)
    simp only [Bool.not_true, Bool.false_eq_true, if_false]
    exact wpAny_pure ⟨rfl, rfl, fun u hu' => hall u (List.mem_cons_of_mem _ hu')⟩
  · rintro ⟨r1, r2⟩ s' ⟨hr, rfl, _⟩
    simp only at hr
    subst hr
    exact wpAny_pure k
theorem tup_one {h : Heap} {a : Addr} {xs ys : Array Value} (hx : IsTup h a xs) (hy : IsTup h a ys) : xs = ys := by
  obtain ⟨o, h1, _, n, h2⟩ := hx
  obtain ⟨o', h1', _, n', h2'⟩ := hy
  obtain rfl : o = o' := Option.some.inj (h1.symm.trans h1')
  rw [h2] at h2'
  injection h2' with e _
theorem tup_keep {h h' : Heap} {a : Addr} {xs : Array Value} (t : TupIn h h') (hx : IsTup h a xs) : IsTup h' a xs := by
  obtain ⟨o, h1, h3, n, h2⟩ := hx
  exact ⟨o, t _ _ _ _ h1 h2, h3, n, h2⟩
section
variable {K : Type} [DecidableEq K] {n : Nat} (a : AnyK P w K n)
theorem items_inj {h : Heap} : ∀ {x y : List K} {vs : List Value}, Paired (a.is h) x vs → Paired (a.is h) y vs → x = y
  | _, _, _, .nil, .nil => rfl
  | _, _, _, .cons h1 t1, .cons h2 t2 => by rw [a.inj h1 h2, items_inj t1 t2]
theorem items_hs {A : Around} {s : Shared} (hu : A.units + n ≤ cLine) : ∀ {x : List K} {vs : List Value}, Paired (a.is s.heap) x vs → Paired (Hs P w A s.heap) vs (x.map fun k => (a.hash k, a.draws k))
  | _, _, .nil => .nil
  | _, _, .cons h1 t1 => .cons (fun E s' Q e k => a.pyHash hu (by rw [e]; exact h1) k) (items_hs hu t1)
theorem items_es {A : Around} {s : Shared} (hu : A.units + n ≤ cLine) : ∀ {x y : List K} {vs us : List Value}, Paired (a.is s.heap) x vs → Paired (a.is s.heap) y us → Paired (Es P w A s.heap) (vs.zip us) (List.zipWith (fun p q => decide (p = q)) x y)
  | _, _, _, _, .nil, _ => .nil
  | _, _, _, _, .cons _ _, .nil => .nil
  | _, _, _, _, .cons h1 t1, .cons h2 t2 => .cons (fun E s' Q e k => a.eqBool hu (by rw [e]; exact h1) (by rw [e]; exact h2) k) (items_es hu t1 t2)
end
theorem all_zip {K : Type} [DecidableEq K] : ∀ x y : List K, decide (x = y) = ((List.zipWith (fun p q => decide (p = q)) x y).all id && (x.length == y.length))
  | [], [] => rfl
  | [], y :: ys => by simp
  | x :: xs, [] => by simp
  | x :: xs, y :: ys => by
    have ih := all_zip xs ys
    by_cases h : x = y
    · subst h
      simp only [List.cons.injEq, true_and, List.zipWith_cons_cons, decide_true, List.all_cons, id, Bool.true_and, List.length_cons]
      rw [ih]
      congr 1
      by_cases q : xs.length = ys.length <;> simp [q]
    · simp [h]
/-- tuples of things of one sort -/
def listK {K : Type} [DecidableEq K] {n : Nat} (a : AnyK P w K n) : AnyK P w (List K) (n + 1) where
  is := fun h ks v => ∃ b items, v = .ref b ∧ IsTup h b items ∧ Paired (a.is h) ks items.toList
  hash := fun ks => reduceHash (Builtin.Tuple.tupleHashOf ((ks.map fun k => (a.hash k, a.draws k)).map (·.1)))
  draws := fun ks => sumD (ks.map fun k => (a.hash k, a.draws k)) + 1
  inj := fun h1 h2 => by
    obtain ⟨b, xs, rfl, t1, p1⟩ := h1
    obtain ⟨b', ys, e, t2, p2⟩ := h2
    cases e
    rw [tup_one t2 t1] at p2
    exact items_inj a p1 p2
  keeps := fun h1 t => by
    obtain ⟨b, xs, rfl, t1, p1⟩ := h1
    exact ⟨b, xs, rfl, tup_keep t t1, Paired.mapP p1 fun _ _ z => a.keeps z t⟩
  pyHash := fun {A E s k v Q} hu h1 q => by
    obtain ⟨b, xs, rfl, t1, p1⟩ := h1
    exact hash_tup (by omega) t1 (items_hs a (by show A.units + 1 + n ≤ cLine; omega) p1) q
  eqBool := fun {A E s x y u v Q} hu h1 h2 q => by
    obtain ⟨b, xs, rfl, t1, p1⟩ := h1
    obtain ⟨c, ys, rfl, t2, p2⟩ := h2
    refine eq_tup (by omega) t1 t2 (items_es a (by show A.units + 1 + n ≤ cLine; omega) p1 p2) ?_ (fun e => ?_) q
    · rw [all_zip]
      congr 1
      rw [← Array.length_toList, ← Array.length_toList, ← Paired.length p1, ← Paired.length p2]
    · subst e
      rw [tup_one t2 t1] at p2
      exact decide_eq_true (items_inj a p1 p2)
  quiet := fun {A E s k v Q} m hm h1 q => by
    obtain ⟨b, xs, rfl, t1, p1⟩ := h1
    obtain ⟨m', rfl⟩ : ∃ m', m = m' + 1 := ⟨m - 1, by omega⟩
    refine quiet_tup t1 (fun v hv E Q k => ?_) q
    obtain ⟨j, hj⟩ := List.mem_iff_getElem?.mp hv
    have gen : ∀ {ks : List K} {vs : List Value} {j : Nat}, Paired (a.is s.heap) ks vs → vs[j]? = some v → ∃ k, a.is s.heap k v := by
      intro ks vs j r
      induction r generalizing j with
      | nil => intro e; cases e
      | @cons p q ps qs h _ ih =>
        intro e
        cases j with
        | zero => cases e; exact ⟨_, h⟩
        | succ j => exact ih e
    obtain ⟨kk, hk⟩ := gen p1 hj
    exact a.quiet m' (by omega) hk k
/-- pairs of things of two sorts -/
def pairK {K L : Type} [DecidableEq K] [DecidableEq L] {n m : Nat} (a : AnyK P w K n) (b : AnyK P w L m) (N : Nat) (hn : n ≤ N) (hm : m ≤ N) : AnyK P w (K × L) (N + 1) where
  is := fun h k v => ∃ c u1 u2, v = .ref c ∧ IsTup h c #[u1, u2] ∧ a.is h k.1 u1 ∧ b.is h k.2 u2
  hash := fun k => reduceHash (Builtin.Tuple.tupleHashOf [a.hash k.1, b.hash k.2])
  draws := fun k => a.draws k.1 + b.draws k.2 + 1
  inj := fun h1 h2 => by
    obtain ⟨c, u1, u2, rfl, t1, p1, p2⟩ := h1
    obtain ⟨c', v1, v2, e, t2, q1, q2⟩ := h2
    cases e
    have e := congrArg Array.toList (tup_one t2 t1)
    simp only [List.cons.injEq] at e
    obtain ⟨e1, e2, _⟩ := e
    rw [e1] at q1
    rw [e2] at q2
    exact Prod.ext (a.inj p1 q1) (b.inj p2 q2)
  keeps := fun h1 t => by
    obtain ⟨c, u1, u2, rfl, t1, p1, p2⟩ := h1
    exact ⟨c, u1, u2, rfl, tup_keep t t1, a.keeps p1 t, b.keeps p2 t⟩
  pyHash := fun {A E s k v Q} hu h1 q => by
    obtain ⟨c, u1, u2, rfl, t1, p1, p2⟩ := h1
    have hu' : A.in1.units = A.units + 1 := rfl
    refine hash_tup (l := [(a.hash k.1, a.draws k.1), (b.hash k.2, b.draws k.2)]) (by omega) t1 (.cons (fun E s' Q e z => a.pyHash (by omega) (by rw [e]; exact p1) z) (.cons (fun E s' Q e z => b.pyHash (by omega) (by rw [e]; exact p2) z) .nil)) ?_
    exact q
  eqBool := fun {A E s x y u v Q} hu h1 h2 q => by
    obtain ⟨c, u1, u2, rfl, t1, p1, p2⟩ := h1
    obtain ⟨c', v1, v2, rfl, t2, q1, q2⟩ := h2
    have hu' : A.in1.units = A.units + 1 := rfl
    have hd : decide (x = y) = ([decide (x.1 = y.1), decide (x.2 = y.2)].all id && ((#[u1, u2] : Array Value).size == (#[v1, v2] : Array Value).size)) := by
      by_cases z1 : x.1 = y.1
      · by_cases z2 : x.2 = y.2
        · rw [decide_eq_true (Prod.ext z1 z2), decide_eq_true z1, decide_eq_true z2]; rfl
        · rw [decide_eq_false (fun e => z2 (congrArg Prod.snd e)), decide_eq_true z1, decide_eq_false z2]; rfl
      · rw [decide_eq_false (fun e => z1 (congrArg Prod.fst e)), decide_eq_false z1]; rfl
    refine eq_tup (l := [decide (x.1 = y.1), decide (x.2 = y.2)]) (by omega) t1 t2 (.cons (fun E s' Q e z => a.eqBool (by omega) (by rw [e]; exact p1) (by rw [e]; exact q1) z) (.cons (fun E s' Q e z => b.eqBool (by omega) (by rw [e]; exact p2) (by rw [e]; exact q2) z) .nil)) hd (fun e => ?_) q
    subst e
    have e := congrArg Array.toList (tup_one t2 t1)
    simp only [List.cons.injEq] at e
    obtain ⟨e1, e2, _⟩ := e
    rw [e1] at q1
    rw [e2] at q2
    exact decide_eq_true (Prod.ext (a.inj p1 q1) (b.inj p2 q2))
  quiet := fun {A E s k v Q} j hj h1 q => by
    obtain ⟨c, u1, u2, rfl, t1, p1, p2⟩ := h1
    obtain ⟨j', rfl⟩ : ∃ j', j = j' + 1 := ⟨j - 1, by omega⟩
    refine quiet_tup t1 (fun v hv E Q z => ?_) q
    rcases List.mem_cons.mp hv with e | hv
    · rw [e]; exact a.quiet j' (by omega) p1 z
    · rw [List.mem_singleton.mp hv]; exact b.quiet j' (by omega) p2 z
/-- keys of a dict -/
def nestKind {K : Type} [DecidableEq K] {n : Nat} (a : AnyK P w K n) (hn : n ≤ 8) : HeapKind P w K where
  is := fun h k b => a.is h k (.ref b)
  hash := a.hash
  draws := a.draws
  room := fun A => A.units + n ≤ cLine
  inj := fun h1 h2 => a.inj h1 h2
  keeps := fun {h h' k b d o es ep} h1 ho hd hs => a.keeps h1 fun c oc items m hc hcd => by
    have hne : c ≠ d := by
      rintro rfl
      obtain rfl : oc = o := Option.some.inj (hc.symm.trans ho)
      rw [hcd] at hd
      exact nomatch hd
    exact (hs.2 c hne).trans hc
  pyHash := fun hu hk h => a.pyHash hu hk h
  eqBool := fun hu hx hy h => a.eqBool hu hx hy h
  quiet := fun hk h => a.quiet 8 hn hk h
end
end NkX

set_option Elab.async false
set_option linter.all false
set_option autoImplicit false
set_option maxRecDepth 100000
/-! ChNd: a dict whose keys are (tuple of pairs of ints, int) and whose values are ints. -/
namespace NkX
open PySem PySem.Spec PyProof.Rows L2
open Sem (wp)
abbrev RK := List (Int × Int) × Int
def rowsKind (P : Program) (w : World) : HeapKind P w RK := nestKind (pairK (listK (pairK (intK P w) (intK P w) 0 (Nat.le_refl _) (Nat.le_refl _))) (intK P w) 2 (Nat.le_refl _) (by decide)) (by decide)
/-- a key in the abstract heap -/
def PrAt (H : Hp) (v : V) (p : Int × Int) : Prop := ∃ c, v = .ref c ∧ H c = some (.tup [.int p.1, .int p.2])
def KAt (H : Hp) (k : RK) (b : Addr) : Prop := ∃ R vs, H b = some (.tup [.ref R, .int k.2]) ∧ H R = some (.tup vs) ∧ Paired (PrAt H) vs k.1
theorem KAt.keep {H H' : Hp} {k : RK} {b : Addr} (h : KAt H k b) (s : ∀ a xs, H a = some (.tup xs) → H' a = some (.tup xs)) : KAt H' k b := by
  obtain ⟨R, vs, h1, h2, h3⟩ := h
  exact ⟨R, vs, s _ _ h1, s _ _ h2, Paired.mapP h3 fun v p ⟨c, e, z⟩ => ⟨c, e, s _ _ z⟩⟩
section
variable {P : Program} {w : World} {H : Hp} {h : Heap}
theorem int_is {n : Int} {u : Value} (r : RelV (.int n) u) : (intKind P w).is n u = true := by
  obtain ⟨t, rfl⟩ := r
  show (Value.int n t).isInt n = true
  simp [Value.isInt]
theorem two_at {a : Addr} {x y : V} (ok : HOk P w H h) (e : H a = some (.tup [x, y])) : ∃ u v, RelV x u ∧ RelV y v ∧ IsTup h a #[u, v] := by
  obtain ⟨_, its, r, t⟩ := (show ObjOk P w H h a (.tup [x, y]) from ok a _ e)
  cases r with
  | cons r1 r2 =>
    cases r2 with
    | cons r3 r4 =>
      cases r4
      exact ⟨_, _, r1, r3, t⟩
theorem kat_is {k : RK} {b : Addr} (ok : HOk P w H h) (x : KAt H k b) : (rowsKind P w).is h k b := by
  obtain ⟨R, vs, h1, h2, h3⟩ := x
  obtain ⟨u, v, r1, r2, t1⟩ := two_at ok h1
  obtain rfl : u = Value.ref R := r1
  refine ⟨b, _, _, rfl, t1, ?_, int_is r2⟩
  obtain ⟨_, its, r, t⟩ := (show ObjOk P w H h R (.tup vs) from ok R _ h2)
  refine ⟨R, its.toArray, rfl, t, ?_⟩
  have gen : ∀ {vs : List V} {ps : List (Int × Int)} {its : List Value}, Paired (PrAt H) vs ps → Vals vs its → Paired ((pairK (intK P w) (intK P w) 0 (Nat.le_refl _) (Nat.le_refl _)).is h) ps its := by
    intro vs ps its q
    induction q generalizing its with
    | nil => intro r; cases r; exact .nil
    | @cons v p vs ps hv _ ih =>
      intro r
      cases r with
      | cons r1 r2 =>
        obtain ⟨c, e, z⟩ := hv
        subst e
        obtain ⟨u1, u2, a1, a2, tt⟩ := two_at ok z
        exact .cons ⟨c, u1, u2, r1, tt, int_is a1, int_is a2⟩ (ih r2)
  have := gen h3 r
  simpa using this
end
/-- what the dict holds -/
abbrev KVs := List (RK × Addr × Int)
def NRel (p : RK × Addr × Int) (q : RK × Addr × Value) : Prop := p.1 = q.1 ∧ p.2.1 = q.2.1 ∧ RelV (.int p.2.2) q.2.2
def dNk (P : Program) (w : World) (d : Addr) (kvs : KVs) : HO := .ext fun h => kvs.length ≤ sizeLine ∧ (d == sysModules) = false ∧ ∃ xs, Paired NRel kvs xs ∧ ∃ o es ep, h.get? d = some o ∧ o.ExactDict ∧ o.data = .dict es ep ∧ es.toList = xs.map (entryOfKey (rowsKind P w)) ∧ (xs.map (·.1)).Nodup
structure DN (P : Program) (w : World) (H : Hp) (d : Addr) (kvs : KVs) : Prop where
  at' : H d = some (dNk P w d kvs)
  ks : ∀ p ∈ kvs, KAt H p.1 p.2.1
def valN (kvs : KVs) (k : RK) : Option Int := (kvs.find? fun x => decide (x.1 = k)).map (·.2.2)
theorem nrel_val {kvs : KVs} {xs : List (RK × Addr × Value)} (r : Paired NRel kvs xs) (k : RK) : RelO ((valN kvs k).map V.int) ((atKey xs k).map (·.2)) := by
  induction r with
  | nil => exact True.intro
  | @cons p q ps qs hp _ ih =>
    unfold valN atKey at *
    rw [List.find?_cons, List.find?_cons, ← hp.1]
    by_cases z : p.1 = k
    · rw [decide_eq_true z]
      exact hp.2.2
    · rw [decide_eq_false z]
      exact ih
section
variable {P : Program} {w : World} {H H' : Hp} {h : Heap} {d : Addr} {kvs : KVs}
theorem DN.keep (x : DN P w H d kvs) (h0 : H' d = H d) (s : ∀ a xs, H a = some (.tup xs) → H' a = some (.tup xs)) : DN P w H' d kvs := ⟨h0.trans x.at', fun p hp => (x.ks p hp).keep s⟩
theorem dn_of (ok : HOk P w H h) (x : DN P w H d kvs) : kvs.length ≤ sizeLine ∧ (d == sysModules) = false ∧ ∃ xs, Paired NRel kvs xs ∧ h.DictOfH (rowsKind P w) d xs := by
  obtain ⟨⟨z, y, xs, r, o, es, ep, h1, h2, h3, h4, h5⟩, _, _⟩ := (show ObjOk P w H h d (dNk P w d kvs) from ok d _ x.at')
  refine ⟨z, y, xs, r, o, es, ep, h1, h2, h3, h4, fun q hq => ?_, h5⟩
  obtain ⟨j, hj⟩ := List.mem_iff_getElem?.mp hq
  have gen : ∀ {kvs : KVs} {xs : List (RK × Addr × Value)} {j : Nat}, Paired NRel kvs xs → xs[j]? = some q → ∃ p ∈ kvs, NRel p q := by
    intro kvs xs j r
    induction r generalizing j with
    | nil => intro e; cases e
    | @cons p q' ps qs hp _ ih =>
      intro e
      cases j with
      | zero => cases e; exact ⟨p, List.mem_cons_self, hp⟩
      | succ j =>
        obtain ⟨p', h1, h2⟩ := ih (j := j) e
        exact ⟨p', List.mem_cons_of_mem _ h1, h2⟩
  obtain ⟨p, hp, n1, n2, _⟩ := gen r hj
  rw [← n1, ← n2]
  exact kat_is ok (x.ks p hp)
theorem dn_obj {P : Program} {w : World} {H : Hp} {h : Heap} {d : Addr} {kvs : KVs} (z : kvs.length ≤ sizeLine) (hd : (d == sysModules) = false) {xs : List (RK × Addr × Value)} (r : Paired NRel kvs xs) (dd : h.DictOfH (rowsKind P w) d xs) : ObjOk P w H h d (dNk P w d kvs) := by
  obtain ⟨o, es, ep, h1, h2, h3, h4, _, h5⟩ := dd
  refine ⟨⟨z, hd, xs, r, o, es, ep, h1, h2, h3, h4, h5⟩, ⟨o, h1⟩, ?_⟩
  rintro a b ⟨z, hd, xs, r, o, es, ep, h1, h2, h3, h4, h5⟩ k
  exact ⟨z, hd, xs, r, o, es, ep, k _ h1, h2, h3, h4, h5⟩
end
section
variable {X : Cx} {pins : List (Addr × Obj)} {σ : L2.St} {H : Hp} {s : Shared} {d b : Addr} {kvs : KVs} {k : RK} {n : Int} {A : Around} {E : Value → Shared → Prop}
theorem room_of {P : Program} {w : World} (hu : A.units + 64 < cLine) : (rowsKind P w).room A.in1 := by
  show A.units + 1 + 3 ≤ cLine
  omega
theorem n_in {Q : Value → Shared → Prop} (hu : A.units + 64 < cLine) (I : Inv X pins σ H s) (x : DN X.prog X.w H d kvs) (y : KAt H k b) (h : ∀ s', Inv X pins σ H s' → Q (.bool (valN kvs k).isSome) s') :
    wpAny (model X.prog X.w) A (compareOp .In (.ref b) (.ref d)) Q E s := by
  obtain ⟨z, hd, xs, rel, dd⟩ := dn_of I.hok x
  refine wpAny_in_heap (room_of hu) (kat_is I.hok y) hd dd ?_
  have q := (nrel_val rel k).isSome_eq
  rw [Option.isSome_map, Option.isSome_map] at q
  rw [← q]
  exact h _ (I.tok _)
theorem n_notIn {Q : Value → Shared → Prop} (hu : A.units + 64 < cLine) (I : Inv X pins σ H s) (x : DN X.prog X.w H d kvs) (y : KAt H k b) (h : ∀ s', Inv X pins σ H s' → Q (.bool (!(valN kvs k).isSome)) s') :
    wpAny (model X.prog X.w) A (compareOp .NotIn (.ref b) (.ref d)) Q E s := by
  obtain ⟨z, hd, xs, rel, dd⟩ := dn_of I.hok x
  refine wpAny_notIn_heap (room_of hu) (kat_is I.hok y) hd dd ?_
  have q := (nrel_val rel k).isSome_eq
  rw [Option.isSome_map, Option.isSome_map] at q
  rw [← q]
  exact h _ (I.tok _)
theorem n_getItem {Q : Value → Shared → Prop} (hu : A.units + 64 < cLine) (I : Inv X pins σ H s) (x : DN X.prog X.w H d kvs) (y : KAt H k b) (g : valN kvs k = some n) (h : ∀ w' s', Inv X pins σ H s' → RelV (.int n) w' → Q w' s') :
    wpAny (model X.prog X.w) A (getItem (.ref d) (.ref b)) Q E s := by
  obtain ⟨z, hd, xs, rel, dd⟩ := dn_of I.hok x
  have rv := nrel_val rel k
  rw [g, Option.map_some] at rv
  obtain ⟨w', hw, rw'⟩ := RelO.some_of (v := .int n) (o := (atKey xs k).map (·.2)) rv
  obtain ⟨p, hp, hp2⟩ := Option.map_eq_some_iff.mp hw
  refine wpAny_getItem_heap (room_of hu) (kat_is I.hok y) dd hp ?_
  rw [hp2]
  exact h w' _ (I.tok _) rw'
theorem n_get2 {Q : Value → Shared → Prop} {m : V} {r : Value} (hu : A.units + 64 < cLine) (I : Inv X pins σ H s) (x : DN X.prog X.w H d kvs) (y : KAt H k b) (rd : RelV m r) (h : ∀ w' s', Inv X pins σ H s' → RelV (((valN kvs k).map V.int).getD m) w' → Q w' s') :
    wpAny (model X.prog X.w) A (call (.builtin "dict.get") [.ref d, .ref b, r]) Q E s := by
  obtain ⟨z, hd, xs, rel, dd⟩ := dn_of I.hok x
  refine call_meetsIn PySem.F.slot_dict_get dd.typeIs PySem.F.entry_dict_get (PySem.F.args_dict_get_3 _ _ _) (meetsH_dict_get_default (rowsKind X.prog X.w) d b hd r) ⟨room_of hu, k, xs, kat_is I.hok y, dd, h _ _ (I.tok _) ?_⟩
  exact (nrel_val rel k).getD rd
/-- a new key is set -/
theorem n_put {P : Program} {w : World} {H : Hp} {kvs : KVs} (x : DN P w H d kvs) (y : KAt H k b) : DN P w (upd H d (dNk P w d (kvs ++ [(k, b, n)]))) d (kvs ++ [(k, b, n)]) := by
  have kp : ∀ a xs, H a = some (.tup xs) → (upd H d (dNk P w d (kvs ++ [(k, b, n)]))) a = some (.tup xs) := fun a xs e => by
    rw [upd_ne (ne_of e x.at' (fun z => nomatch z))]
    exact e
  refine ⟨upd_same, fun p hp => ?_⟩
  rcases List.mem_append.mp hp with z | z
  · exact (x.ks p z).keep kp
  · rw [List.mem_singleton.mp z]
    exact y.keep kp
theorem n_store {r : Value} {h' : Heap} {t : Nat} (I : Inv X pins σ H s) (x : DN X.prog X.w H d kvs) (g : valN kvs k = none) (hl : kvs.length < sizeLine) (rv : RelV (.int n) r) {xs : List (RK × Addr × Value)} (rel : Paired NRel kvs xs) (hd : (d == sysModules) = false)
    (dd' : h'.DictOfH (rowsKind X.prog X.w) d (storedH xs k b r)) (hs : Heap.SameBut d s.heap h') : Inv X pins σ (upd H d (dNk X.prog X.w d (kvs ++ [(k, b, n)]))) { s with heap := h', toks := t } := by
  have rv0 := nrel_val rel k
  rw [g] at rv0
  have ha : atKey xs k = none := by
    cases e : atKey xs k with
    | none => rfl
    | some p => rw [e] at rv0; exact rv0.elim
  rw [storedH_new ha] at dd'
  have he : ∃ q, h'.get? d = some q := let ⟨q, _, _, hq, _⟩ := dd'; ⟨q, hq⟩
  exact d_write I (by rw [x.at']; exact True.intro) hs he (dn_obj (by rw [List.length_append]; show kvs.length + 1 ≤ _; omega) hd (Paired.snoc rel ⟨rfl, rfl, rv⟩) dd')
theorem n_setItem {Q : Unit → Shared → Prop} {r : Value} (hu : A.units + 64 < cLine) (I : Inv X pins σ H s) (x : DN X.prog X.w H d kvs) (y : KAt H k b) (g : valN kvs k = none) (hl : kvs.length < sizeLine) (rv : RelV (.int n) r)
    (h : ∀ s', Inv X pins σ (upd H d (dNk X.prog X.w d (kvs ++ [(k, b, n)]))) s' → Q () s') : wpAny (model X.prog X.w) A (setItem (.ref d) (.ref b) r) Q E s := by
  obtain ⟨z, hd, xs, rel, dd⟩ := dn_of I.hok x
  exact wpAny_setItem_heap (hsz := by rw [← Paired.length rel]; exact z) (room_of hu) (kat_is I.hok y) dd fun h' dd' hs => h _ (n_store I x g hl rv rel hd dd' hs)
theorem n_typeIs (I : Inv X pins σ H s) (x : DN X.prog X.w H d kvs) : s.TypeIs (.ref d) "dict" := let ⟨_, _, _, _, dd⟩ := dn_of I.hok x; dd.typeIs
end
/-! ### readings and rules -/
def tNGet (P : Program) (w : World) (td ty : TE) : TE := fun σ H Q => td σ H fun x H1 => ty σ H1 fun y H2 => ∃ d kvs k b n, x = .ref d ∧ y = .ref b ∧ DN P w H2 d kvs ∧ KAt H2 k b ∧ valN kvs k = some n ∧ Q (.int n) H2
def tNIn (P : Program) (w : World) (ty td : TE) : TE := fun σ H Q => ty σ H fun y H1 => td σ H1 fun x H2 => ∃ d kvs k b, x = .ref d ∧ y = .ref b ∧ DN P w H2 d kvs ∧ KAt H2 k b ∧ Q (.bl (valN kvs k).isSome) H2
def tNNotIn (P : Program) (w : World) (ty td : TE) : TE := fun σ H Q => ty σ H fun y H1 => td σ H1 fun x H2 => ∃ d kvs k b, x = .ref d ∧ y = .ref b ∧ DN P w H2 d kvs ∧ KAt H2 k b ∧ Q (.bl (!(valN kvs k).isSome)) H2
def sNPut (P : Program) (w : World) (td ty tv : TE) : TS := fun D σ H => tv σ H fun v H1 => td σ H1 fun x H2 => ty σ H2 fun y H3 => ∃ d kvs k b n, x = .ref d ∧ y = .ref b ∧ v = .int n ∧ DN P w H3 d kvs ∧ KAt H3 k b ∧ valN kvs k = none ∧ kvs.length < sizeLine ∧ D.nx σ (upd H3 d (dNk P w d (kvs ++ [(k, b, n)])))
def tNDisp (P : Program) (w : World) (tk tv : TE) : TE := fun σ H Q => ∀ d, H d = none → tk σ (upd H d (dNk P w d [])) fun x H1 => tv σ H1 fun y H2 => H2 d = some (dNk P w d []) ∧ ∃ k b n, x = .ref b ∧ y = .int n ∧ KAt H2 k b ∧ Q (.ref d) (upd H2 d (dNk P w d ([] ++ [(k, b, n)])))
section
variable {X : Cx} {o i value : Expr} {pos pos' : Pos} {td ty tv tk : TE}
theorem pe_nget (hu : X.A.units + 64 < cLine) (ho : PE X o td) (hi : PE X i ty) (hs : NoSl i) : PE X (.Subscript o i pos) (tNGet X.prog X.w td ty) := by
  refine ⟨fun pins s σ H Q I h => ?_⟩
  refine subD_of PySem.F.slot_dict_getitem.lookup hs (thn (ho.run pins s σ H _ I h) fun u s1 ⟨x, H1, I1, rx, q1⟩ => thn (hi.run pins s1 σ H1 _ I1 q1) fun iv s2 ⟨y, H2, I2, ry, d, kvs, k, b, n, ex, ey, x2, y2, g, q2⟩ => ?_)
  subst ex ey
  obtain rfl : u = Value.ref d := rx
  obtain rfl : iv = Value.ref b := ry
  exact ⟨n_typeIs I2 x2, n_getItem hu I2 x2 y2 g fun w' s3 I3 rw' => ⟨.int n, H2, I3, rw', q2⟩⟩
theorem pc_nin (hu : X.A.units + 64 < cLine) (hi : PE X i ty) (ho : PE X o td) : PC X .In i o (tNIn X.prog X.w ty td) := by
  refine ⟨fun pins s σ H Q I h => ?_⟩
  refine thn (hi.run pins s σ H _ I h) fun iv s1 ⟨y, H1, I1, ry, q1⟩ => thn (ho.run pins s1 σ H1 _ I1 q1) fun u s2 ⟨x, H2, I2, rx, d, kvs, k, b, ex, ey, x2, y2, q2⟩ => ?_
  subst ex ey
  obtain rfl : u = Value.ref d := rx
  obtain rfl : iv = Value.ref b := ry
  exact n_in hu I2 x2 y2 fun s3 I3 => ⟨.bl (valN kvs k).isSome, H2, I3, rfl, q2⟩
theorem pc_nnotin (hu : X.A.units + 64 < cLine) (hi : PE X i ty) (ho : PE X o td) : PC X .NotIn i o (tNNotIn X.prog X.w ty td) := by
  refine ⟨fun pins s σ H Q I h => ?_⟩
  refine thn (hi.run pins s σ H _ I h) fun iv s1 ⟨y, H1, I1, ry, q1⟩ => thn (ho.run pins s1 σ H1 _ I1 q1) fun u s2 ⟨x, H2, I2, rx, d, kvs, k, b, ex, ey, x2, y2, q2⟩ => ?_
  subst ex ey
  obtain rfl : u = Value.ref d := rx
  obtain rfl : iv = Value.ref b := ry
  exact n_notIn hu I2 x2 y2 fun s3 I3 => ⟨.bl (!(valN kvs k).isSome), H2, I3, rfl, q2⟩
theorem ps_nput (hu : X.A.units + 64 < cLine) (ho : PE X o td) (hi : PE X i ty) (hv : PE X value tv) (hs : swapsWith value (some (.Subscript o i pos')) pos.line X.env = pure false) :
    PS X (.Assign [.Subscript o i pos'] value pos) (sNPut X.prog X.w td ty tv) := by
  refine ⟨fun pins s σ H D I h => ?_⟩
  refine wpAny_Assign_Subscript (thn (hv.run pins s σ H _ I h) fun r s1 ⟨v, H1, I1, rv, q1⟩ => thn (ho.run pins s1 σ H1 _ I1 q1) fun u s2 ⟨x, H2, I2, rx, q2⟩ => thn (hi.run pins s2 σ H2 _ I2 q2) fun iv s3 ⟨y, H3, I3, ry, d, kvs, k, b, n, ex, ey, ev, x3, y3, g, hl, q3⟩ => ?_) hs
  subst ex ey ev
  obtain rfl : u = Value.ref d := rx
  obtain rfl : iv = Value.ref b := ry
  exact n_setItem hu I3 x3 y3 g hl rv fun s4 I4 => ⟨σ, _, I4, q3⟩
def rGetN (P : Program) (w : World) : V → List V → Hp → VK → Prop := fun x xs H Q => ∃ d kvs k b m, x = .ref d ∧ xs = [.ref b, m] ∧ DN P w H d kvs ∧ KAt H k b ∧ Q (((valN kvs k).map V.int).getD m) H
theorem mt_getN (hu : X.A.units + 64 < cLine) : MtR X "dict.get" (rGetN X.prog X.w) := by
  intro pins s σ H x xs v us Q I rx rxs h
  obtain ⟨d, kvs, k, b, m, rfl, rfl, x1, y1, q⟩ := h
  obtain rfl : v = Value.ref d := rx
  cases rxs with
  | cons r1 r2 =>
    cases r2 with
    | cons r3 r4 =>
      cases r4
      obtain rfl := (show _ = Value.ref b from r1)
      exact n_get2 hu I x1 y1 r3 fun w' s' I' rw' => ⟨_, H, I', rw', q⟩
def tNGet2 (P : Program) (w : World) (td ty tx : TE) : TE := fun σ H Q => td σ H fun x H1 => ∃ d kvs, x = .ref d ∧ DN P w H1 d kvs ∧ ty σ H1 fun y H2 => tx σ H2 fun z H3 => ∃ kvs' k b, y = .ref b ∧ DN P w H3 d kvs' ∧ KAt H3 k b ∧ Q (((valN kvs' k).map V.int).getD z) H3
theorem pe_nget2 {e f : Expr} {apos cpos : Pos} {tx : TE} (hu : X.A.units + 64 < cLine) (ho : PE X o td) (he : PE X e ty) (hf : PE X f tx) (m : M2 X o "get" apos e f cpos) : PE X (.Call (.Attribute o "get" apos) [e, f] [] cpos) (tNGet2 X.prog X.w td ty tx) := by
  refine ⟨fun pins s σ H Q I h => ?_⟩
  refine wpAny_Call_method m.base m.few m.line PySem.F.plainAttrs_dict PySem.F.slot_dict_get PySem.F.type_dict_get (thn (ho.run pins s σ H _ I h) fun u s1 ⟨x, H1, I1, rx, d, kvs, ex, x1, q1⟩ => ?_)
  subst ex
  obtain rfl : u = Value.ref d := rx
  obtain ⟨_, _, _, _, ob, _, _, h1, h2, _⟩ := dn_of I1.hok x1
  refine ⟨n_typeIs I1 x1, fun b q => by cases q; exact ⟨ob, h1, h2.2.1⟩, ?_⟩
  rw [m.trees]
  refine Calls.callWith_builtin rfl (Calls.evalArgs_plain (Calls.spliced_cons (thn (he.run pins s1 σ H1 _ I1 q1) fun iv s2 ⟨y, H2, I2, ry, q2⟩ =>
    Calls.spliced_cons (thn (hf.run pins s2 σ H2 _ I2 q2) fun fv s3 ⟨z, H3, I3, rz, kvs', k, b, ey, x3, y3, q3⟩ => Calls.spliced_nil ?_))))
  subst ey
  obtain rfl : iv = Value.ref b := ry
  exact n_get2 hu I3 x3 y3 rz fun w' s4 I4 rw' => ⟨_, H3, I4, rw', q3⟩
theorem dn_empty {P : Program} {w : World} {H : Hp} (h : Heap) (hb : sysModules < h.objs.size) : ObjOk P w H (h.push { cls := .type "dict", data := .dict #[] }) h.objs.size (dNk P w h.objs.size []) :=
  dn_obj (Nat.zero_le _) (beq_eq_false_iff_ne.mpr (Ne.symm (Nat.ne_of_lt hb))) .nil (Heap.DictOfH.new h)
theorem pe_ndisp (hu : X.A.units + 64 < cLine) (hk : PE X i tk) (hv : PE X value tv) : PE X (.Dict [some i] [value] pos) (tNDisp X.prog X.w tk tv) := by
  refine ⟨fun pins s σ H Q I q => ?_⟩
  have hn := I.hok.fresh (Nat.le_refl s.heap.objs.size)
  have I1 := I.laid (a := s.heap.objs.size) (o := dNk X.prog X.w s.heap.objs.size []) (h' := s.heap.push { cls := .type "dict", data := .dict #[] }) (t' := s.toks) (fun _ _ q => Heap.get?_push_of_some _ q) (Nat.le_refl _) (dn_empty s.heap I.big)
  refine wpAny_Dict_any rfl rfl (List.cons_ne_nil _ _) (by show 1 ≤ 15; decide) (pairTrees_cons_walk (thn (hk.run pins _ σ _ _ I1 (q _ hn)) fun u s1 ⟨x, H1, I1, rx, q1⟩ => thn (hv.run pins s1 σ H1 _ I1 q1) fun r s2 ⟨y, H2, I2, ry, e, k, b, n, ex, ey, y2, q2⟩ => pairTrees_nil_walk ?_))
  subst ex ey
  obtain rfl : u = Value.ref b := rx
  have x2 : DN X.prog X.w H2 s.heap.objs.size [] := ⟨e, fun p hp => nomatch hp⟩
  obtain ⟨z, hd, xs, rel, dd⟩ := dn_of I2.hok x2
  unfold storeAll
  rw [List.forIn_cons]
  refine wpAny_bind (wpAny_bind (wpAny_dictSet_heap (hsz := by rw [← Paired.length rel]; exact z) (show (rowsKind X.prog X.w).room X.A by show X.A.units + 3 ≤ cLine; omega) (kat_is I2.hok y2) dd fun h' dd' hs => wpAny_pure ?_))
  have I3 := fun t => n_store (t := t) I2 x2 rfl (by show 0 < sizeLine; rw [sizeLine_eq]; decide) ry rel hd dd' hs
  dsimp only
  rw [List.forIn_nil]
  exact wpAny_pure ⟨.ref s.heap.objs.size, _, I3 _, rfl, q2⟩
end
end NkX

set_option linter.all false
set_option autoImplicit false
set_option maxRecDepth 100000
set_option maxHeartbeats 4000000
/-! ChSq: a simple plan has the effect it was made for. -/
namespace ChM
open Ch
/-! ### ways and their lengths -/
def lenZ : Int → List Int → Int
  | _, [] => 0
  | pv, z :: r => absI (z - pv) + lenZ z r
def lastZ : Int → List Int → Int
  | pv, [] => pv
  | _, z :: r => lastZ z r
theorem absI_def (a : Int) : (absI a = a ∧ 0 ≤ a) ∨ (absI a = -a ∧ a < 0) := by
  unfold absI
  split <;> omega
theorem absI_neg (a : Int) : absI (-a) = absI a := by
  have := absI_def a
  have := absI_def (-a)
  omega
theorem lenZ_par : ∀ (zs : List Int) (b : Int), (lenZ b zs - (lastZ b zs - b)) % 2 = 0
  | [], b => by show (0 - (b - b)) % 2 = 0; omega
  | z :: r, b => by
    have ih := lenZ_par r z
    have := absI_def (z - b)
    show (absI (z - b) + lenZ z r - (lastZ z r - b)) % 2 = 0
    omega
theorem lenZ_ge : ∀ (zs : List Int) (b : Int), absI (lastZ b zs - b) ≤ lenZ b zs
  | [], b => by show absI (b - b) ≤ 0; have := absI_def (b - b); omega
  | z :: r, b => by
    have ih := lenZ_ge r z
    have := absI_def (z - b)
    have := absI_def (lastZ z r - z)
    have := absI_def (lastZ z r - b)
    show absI (lastZ z r - b) ≤ absI (z - b) + lenZ z r
    omega
theorem short_zero : ∀ (zs : List Int) (up : Bool) (pv : Int), Zig up pv zs → shortGo pv zs 0 = zs
  | [], _, _, _ => rfl
  | [_], _, _, _ => rfl
  | z :: nx :: r, up, pv, ⟨h1, h2, h3⟩ => by
    cases up with
    | true =>
      have h1 : pv < z := h1
      have h2 : nx < z := h2
      have e : lessAt true pv z nx 0 = 0 := by
        unfold lessAt
        rw [if_pos rfl]
        have := mx_def pv nx
        have := mn_def 0 (z - mx pv nx - 1)
        omega
      rw [short_up h1 h2, e, Int.sub_zero, Int.sub_zero, short_zero (nx :: r) false z ⟨h2, h3⟩]
    | false =>
      have h1 : z < pv := h1
      have h2 : z < nx := h2
      have e : lessAt false pv z nx 0 = 0 := by
        unfold lessAt
        rw [if_neg (by decide)]
        have := mn_def pv nx
        have := mn_def 0 (mn pv nx - z - 1)
        omega
      rw [short_dn h1 h2, e, Int.add_zero, Int.sub_zero, short_zero (nx :: r) true z ⟨h2, h3⟩]
theorem short_last : ∀ (zs : List Int) (pv sl : Int), lastZ pv (shortGo pv zs sl) = lastZ pv zs
  | [], _, _ => rfl
  | [_], _, _ => rfl
  | z :: nx :: r, pv, sl => by
    show lastZ _ (shortGo _ (nx :: r) _) = lastZ z (nx :: r)
    rw [short_last (nx :: r)]
    rfl
theorem places_last (c g : Int) : ∀ (k : Nat) (up : Bool) (b : Int), lastZ b (placesR c g k up) = g
  | 0, _, _ => rfl
  | k + 1, up, b => places_last c g k (!up) _
/-- the way with k inner places, all shortened -/
def minZ (g : Int) : Nat → Int → Bool → Int
  | 0, b, _ => absI (g - b)
  | 1, b, _ => absI (g - b) + 2
  | k + 2, b, up => 1 + minZ g (k + 1) (if up = true then b + 1 else b - 1) (!up)
theorem minZ_eq (g : Int) : ∀ (k : Nat) (b : Int) (up : Bool), minZ g (k + 1) b up = (k : Int) + 2 + absI (g - (if k % 2 = 0 then b else if up = true then b + 1 else b - 1))
  | 0, b, up => by show absI (g - b) + 2 = _; rw [if_pos rfl]; omega
  | k + 1, b, up => by
    show 1 + minZ g (k + 1) (if up = true then b + 1 else b - 1) (!up) = _
    rw [minZ_eq g k]
    by_cases h : k % 2 = 0
    · rw [if_pos h, if_neg (show ¬ (k + 1) % 2 = 0 by omega)]; omega
    · rw [if_neg h, if_pos (show (k + 1) % 2 = 0 by omega)]
      cases up
      · show 1 + ((k : Int) + 2 + absI (g - (b - 1 + 1))) = ((k + 1 : Nat) : Int) + 2 + absI (g - b)
        rw [show b - 1 + 1 = b by omega]; omega
      · show 1 + ((k : Int) + 2 + absI (g - (b + 1 - 1))) = ((k + 1 : Nat) : Int) + 2 + absI (g - b)
        rw [show b + 1 - 1 = b by omega]; omega
theorem lenR (c g : Int) (c0 : 0 ≤ c) : ∀ (k : Nat) (b : Int) (up : Bool), 0 ≤ b → b ≤ c → Zig up b (placesR c g k up) → lenZ b (placesR c g k up) = longR c g b k up
  | 0, b, up, _, _, ⟨h, _⟩ => by
    show absI (g - b) + 0 = if up = true then g - b else b - g
    have := absI_def (g - b)
    cases up with
    | true => have h : b < g := h; rw [if_pos rfl]; omega
    | false => have h : g < b := h; rw [if_neg (by decide)]; omega
  | k + 1, b, true, b0, b1, ⟨h, t⟩ => by
    show absI (c - b) + lenZ c (placesR c g k false) = _
    have := absI_def (c - b)
    rw [longR_t, lenR c g c0 k c false c0 (Int.le_refl _) t]
    omega
  | k + 1, b, false, b0, b1, ⟨h, t⟩ => by
    show absI (0 - b) + lenZ 0 (placesR c g k true) = _
    have := absI_def (0 - b)
    rw [longR_f, lenR c g c0 k 0 true (Int.le_refl _) c0 t]
    omega
theorem lenZ_cons (b z : Int) (r : List Int) : lenZ b (z :: r) = absI (z - b) + lenZ z r := rfl
theorem short_len (c g : Int) (c0 : 0 ≤ c) : ∀ (k : Nat) (b : Int) (up : Bool) (sl : Int), 0 ≤ sl → 0 ≤ b → b ≤ c → Zig up b (placesR c g k up) →
    lenZ b (shortGo b (placesR c g k up) sl) = lenZ b (placesR c g k up) - 2 * sl ∨ lenZ b (shortGo b (placesR c g k up) sl) = minZ g k b up
  | 0, b, up, sl, s0, b0, b1, h => .inr (by show absI (g - b) + 0 = absI (g - b); omega)
  | 1, b, true, sl, s0, b0, b1, ⟨h1, h2, _⟩ => by
    have h1 : b < c := h1
    have h2 : g < c := h2
    show lenZ b (shortGo b (c :: g :: []) sl) = lenZ b (c :: g :: []) - 2 * sl ∨ lenZ b (shortGo b (c :: g :: []) sl) = absI (g - b) + 2
    rw [short_up h1 h2]
    have hl : lessAt true b c g sl = mn sl (c - mx b g - 1) := rfl
    generalize lessAt true b c g sl = le at *
    show absI (c - le - b) + (absI (g - (c - le)) + 0) = absI (c - b) + (absI (g - c) + 0) - 2 * sl ∨ absI (c - le - b) + (absI (g - (c - le)) + 0) = _
    have := mx_def b g
    have := mn_def sl (c - mx b g - 1)
    have := absI_def (c - le - b)
    have := absI_def (g - (c - le))
    have := absI_def (c - b)
    have := absI_def (g - c)
    have := absI_def (g - b)
    omega
  | 1, b, false, sl, s0, b0, b1, ⟨h1, h2, _⟩ => by
    have h1 : 0 < b := h1
    have h2 : 0 < g := h2
    show lenZ b (shortGo b (0 :: g :: []) sl) = lenZ b (0 :: g :: []) - 2 * sl ∨ lenZ b (shortGo b (0 :: g :: []) sl) = absI (g - b) + 2
    rw [short_dn h1 h2]
    have hl : lessAt false b 0 g sl = mn sl (mn b g - 0 - 1) := rfl
    generalize lessAt false b 0 g sl = le at *
    show absI (0 + le - b) + (absI (g - (0 + le)) + 0) = absI (0 - b) + (absI (g - 0) + 0) - 2 * sl ∨ absI (0 + le - b) + (absI (g - (0 + le)) + 0) = _
    have := mn_def b g
    have := mn_def sl (mn b g - 0 - 1)
    have := absI_def (0 + le - b)
    have := absI_def (g - (0 + le))
    have := absI_def (0 - b)
    have := absI_def (g - 0)
    have := absI_def (g - b)
    omega
  | k + 2, b, true, sl, s0, b0, b1, ⟨h1, h2, h3⟩ => by
    have h1 : b < c := h1
    have h2 : 0 < c := h2
    have ih := short_len c g c0 (k + 1)
    show lenZ b (shortGo b (c :: 0 :: placesR c g k true) sl) = lenZ b (c :: 0 :: placesR c g k true) - 2 * sl ∨ lenZ b (shortGo b (c :: 0 :: placesR c g k true) sl) = 1 + minZ g (k + 1) (b + 1) false
    rw [short_up h1 h2]
    have hl : lessAt true b c 0 sl = mn sl (c - mx b 0 - 1) := rfl
    generalize lessAt true b c 0 sl = le at *
    have := mx_def b 0
    have := mn_def sl (c - mx b 0 - 1)
    have a1 := absI_def (c - le - b)
    have a2 := absI_def (c - b)
    have a3 := absI_def (0 - (c - le))
    have a4 := absI_def (0 - c)
    rw [lenZ_cons, lenZ_cons, lenZ_cons]
    by_cases q : le = sl
    · rw [q, Int.sub_self, short_zero (0 :: placesR c g k true) false (c - sl) ⟨by show 0 < c - sl; omega, h3⟩, lenZ_cons]
      rw [q] at a1 a3
      omega
    · have e : c - le = b + 1 := by omega
      rw [e]
      rcases ih (b + 1) false (sl - le) (by omega) (by omega) (by omega) ⟨by show 0 < b + 1; omega, h3⟩ with z | z
      · left
        have z : lenZ (b + 1) (shortGo (b + 1) (0 :: placesR c g k true) (sl - le)) = lenZ (b + 1) (0 :: placesR c g k true) - 2 * (sl - le) := z
        rw [z, lenZ_cons]
        rw [e] at a1 a3
        omega
      · right
        have z : lenZ (b + 1) (shortGo (b + 1) (0 :: placesR c g k true) (sl - le)) = minZ g (k + 1) (b + 1) false := z
        rw [z]
        rw [e] at a1
        omega
  | k + 2, b, false, sl, s0, b0, b1, ⟨h1, h2, h3⟩ => by
    have h1 : 0 < b := h1
    have h2 : 0 < c := h2
    have ih := short_len c g c0 (k + 1)
    show lenZ b (shortGo b (0 :: c :: placesR c g k false) sl) = lenZ b (0 :: c :: placesR c g k false) - 2 * sl ∨ lenZ b (shortGo b (0 :: c :: placesR c g k false) sl) = 1 + minZ g (k + 1) (b - 1) true
    rw [short_dn h1 h2]
    have hl : lessAt false b 0 c sl = mn sl (mn b c - 0 - 1) := rfl
    generalize lessAt false b 0 c sl = le at *
    have := mn_def b c
    have := mn_def sl (mn b c - 0 - 1)
    have a1 := absI_def (0 + le - b)
    have a2 := absI_def (0 - b)
    have a3 := absI_def (c - (0 + le))
    have a4 := absI_def (c - 0)
    rw [lenZ_cons, lenZ_cons, lenZ_cons]
    by_cases q : le = sl
    · rw [q, Int.sub_self, short_zero (c :: placesR c g k false) true (0 + sl) ⟨by show 0 + sl < c; omega, h3⟩, lenZ_cons]
      rw [q] at a1 a3
      omega
    · have e : 0 + le = b - 1 := by omega
      rw [e]
      rcases ih (b - 1) true (sl - le) (by omega) (by omega) (by omega) ⟨by show b - 1 < c; omega, h3⟩ with z | z
      · left
        have z : lenZ (b - 1) (shortGo (b - 1) (c :: placesR c g k false) (sl - le)) = lenZ (b - 1) (c :: placesR c g k false) - 2 * (sl - le) := z
        rw [z, lenZ_cons]
        rw [e] at a1 a3
        omega
      · right
        have z : lenZ (b - 1) (shortGo (b - 1) (c :: placesR c g k false) (sl - le)) = minZ g (k + 1) (b - 1) true := z
        rw [z]
        rw [e] at a1
        omega
/-- a whole way is no shorter than the shortened one -/
theorem min_le (c g : Int) (c0 : 0 ≤ c) (k : Nat) (b : Int) (up : Bool) (b0 : 0 ≤ b) (b1 : b ≤ c) (h : Zig up b (placesR c g (k + 1) up)) : minZ g (k + 1) b up ≤ longR c g b (k + 1) up := by
  induction k generalizing b up with
  | zero =>
    cases up with
    | true =>
      obtain ⟨h1, h2, _⟩ := h
      have h1 : b < c := h1
      have h2 : g < c := h2
      show absI (g - b) + 2 ≤ c - b + (c - g)
      have := absI_def (g - b)
      omega
    | false =>
      obtain ⟨h1, h2, _⟩ := h
      have h1 : 0 < b := h1
      have h2 : 0 < g := h2
      show absI (g - b) + 2 ≤ b + (g - 0)
      have := absI_def (g - b)
      omega
  | succ k ih =>
    cases up with
    | true =>
      obtain ⟨h1, h2, h3⟩ := h
      have h1 : b < c := h1
      have z := ih (b + 1) false (by omega) (by omega) ⟨by show 0 < b + 1; omega, h3⟩
      show 1 + minZ g (k + 1) (b + 1) false ≤ _
      rw [longR_t, longR_f]
      rw [longR_f] at z
      omega
    | false =>
      obtain ⟨h1, h2, h3⟩ := h
      have h1 : 0 < b := h1
      have z := ih (b - 1) true (by omega) (by omega) ⟨by show b - 1 < c; omega, h3⟩
      show 1 + minZ g (k + 1) (b - 1) true ≤ _
      rw [longR_f, longR_t]
      rw [longR_t] at z
      omega
end ChM

set_option linter.all false
set_option autoImplicit false
set_option maxRecDepth 100000
set_option maxHeartbeats 4000000
/-! ChSr: a way has just the length that was wanted; a simple plan has the effect it was made for. -/
namespace ChM
open Ch
theorem short_ge : ∀ (zs : List Int) (up : Bool) (b sl : Int), 0 ≤ sl → Zig up b zs → lenZ b zs - 2 * sl ≤ lenZ b (shortGo b zs sl)
  | [], _, b, sl, s0, _ => by show 0 - 2 * sl ≤ 0; omega
  | [z], _, b, sl, s0, _ => by show lenZ b [z] - 2 * sl ≤ lenZ b [z]; omega
  | z :: nx :: r, up, b, sl, s0, ⟨h1, h2, h3⟩ => by
    have ih := short_ge (nx :: r)
    cases up with
    | true =>
      have h1 : b < z := h1
      have h2 : nx < z := h2
      rw [short_up h1 h2]
      have hl : lessAt true b z nx sl = mn sl (z - mx b nx - 1) := rfl
      generalize lessAt true b z nx sl = le at *
      have := mx_def b nx
      have := mn_def sl (z - mx b nx - 1)
      have z1 := ih false (z - le) (sl - le) (by omega) ⟨by show nx < z - le; omega, h3⟩
      rw [lenZ_cons] at z1
      rw [lenZ_cons, lenZ_cons, lenZ_cons]
      have := absI_def (z - b)
      have := absI_def (z - le - b)
      have := absI_def (nx - z)
      have := absI_def (nx - (z - le))
      omega
    | false =>
      have h1 : z < b := h1
      have h2 : z < nx := h2
      rw [short_dn h1 h2]
      have hl : lessAt false b z nx sl = mn sl (mn b nx - z - 1) := rfl
      generalize lessAt false b z nx sl = le at *
      have := mn_def b nx
      have := mn_def sl (mn b nx - z - 1)
      have z1 := ih true (z + le) (sl - le) (by omega) ⟨by show z + le < nx; omega, h3⟩
      rw [lenZ_cons] at z1
      rw [lenZ_cons, lenZ_cons, lenZ_cons]
      have := absI_def (z - b)
      have := absI_def (z + le - b)
      have := absI_def (nx - z)
      have := absI_def (nx - (z + le))
      omega
theorem minZ_par (g b : Int) (k : Nat) (up : Bool) : (minZ g (k + 1) b up - (g - b)) % 2 = 0 := by
  rw [minZ_eq]
  by_cases h : k % 2 = 0
  · rw [if_pos h]
    have := absI_def (g - b)
    omega
  · rw [if_neg h]
    cases up
    · show ((k : Int) + 2 + absI (g - (b - 1)) - (g - b)) % 2 = 0
      have := absI_def (g - (b - 1))
      omega
    · show ((k : Int) + 2 + absI (g - (b + 1)) - (g - b)) % 2 = 0
      have := absI_def (g - (b + 1))
      omega
theorem way_len {c b g L : Int} {up : Bool} {zs : List Int} (b0 : 0 ≤ b ∧ b ≤ c) (g0 : 0 ≤ g ∧ g ≤ c) (hp : (L - (g - b)) % 2 = 0) (hL : absI (g - b) ≤ L) (L0 : L ≠ 0) (h : WayOf c b g L up zs) : lenZ b zs = L ∧ lastZ b zs = g := by
  rcases h with ⟨e1, e2, e3⟩ | ⟨ne, m, m2, ⟨hd, hlw⟩, hmin, hup, e3⟩
  · subst e3
    refine ⟨?_, rfl⟩
    show absI (g - b) + 0 = L
    omega
  obtain ⟨k, rfl⟩ : ∃ k, m = k + 2 := ⟨m - 2, by omega⟩
  obtain ⟨p1, p2⟩ := possW_spec.mp hd
  have c0 : 0 ≤ c := by omega
  have cp : 0 < c := by cases up <;> simp at p1 <;> omega
  have hz := places_zig cp p1 p2
  have hlen := lenR c g c0 (k + 1) b up b0.1 b0.2 hz
  have hpar := lenZ_par (placesR c g (k + 1) up) b
  rw [places_last, hlen] at hpar
  rw [longW_eq] at hlw
  rw [show placesL c g (k + 2) up = placesR c g (k + 1) up from places_eq c g (k + 1) up, longW_eq] at e3
  subst e3
  rw [short_last, places_last]
  refine ⟨?_, rfl⟩
  have hge := short_ge _ up b ((longR c g b (k + 1) up - L) / 2) (by omega) hz
  rcases short_len c g c0 (k + 1) b up ((longR c g b (k + 1) up - L) / 2) (by omega) b0.1 b0.2 hz with z | z
  · rw [z, hlen]; omega
  have key : minZ g (k + 1) b up ≤ L := by
    match k with
    | 0 =>
      show absI (g - b) + 2 ≤ L
      have := absI_def (g - b)
      omega
    | 1 =>
      rw [minZ_eq, if_neg (by decide)]
      by_cases q : L < ((1 : Nat) : Int) + 2 + absI (g - (if up = true then b + 1 else b - 1))
      · exfalso
        refine hmin 2 up (Nat.le_refl _) (by omega) ⟨possW_spec.mpr ⟨p1, ?_⟩, ?_⟩
        · cases up with
          | true =>
            have p1 : b < c := p1
            have q : L < ((1 : Nat) : Int) + 2 + absI (g - (b + 1)) := q
            show g < c
            have := absI_def (g - b)
            have := absI_def (g - (b + 1))
            omega
          | false =>
            have p1 : 0 < b := p1
            have q : L < ((1 : Nat) : Int) + 2 + absI (g - (b - 1)) := q
            show 0 < g
            have := absI_def (g - b)
            have := absI_def (g - (b - 1))
            omega
        · rw [longW_eq c b g 0 up]
          cases up with
          | true =>
            have p1 : b < c := p1
            have q : L < ((1 : Nat) : Int) + 2 + absI (g - (b + 1)) := q
            show L ≤ c - b + (c - g)
            have := absI_def (g - b)
            have := absI_def (g - (b + 1))
            omega
          | false =>
            have p1 : 0 < b := p1
            have q : L < ((1 : Nat) : Int) + 2 + absI (g - (b - 1)) := q
            show L ≤ b + (g - 0)
            have := absI_def (g - b)
            have := absI_def (g - (b - 1))
            omega
      · omega
    | k + 2 =>
      have hpo : possW c b g (k + 2) up = true := possW_spec.mpr ⟨p1, by
        have e : lastUp (k + 1) up = lastUp (k + 2 + 1) up := by
          rw [lastUp_par, lastUp_par]
          by_cases y : (k + 1) % 2 = 0
          · rw [if_pos y, if_pos (show (k + 2 + 1) % 2 = 0 by omega)]
          · rw [if_neg y, if_neg (show ¬ (k + 2 + 1) % 2 = 0 by omega)]
        rw [e]
        exact p2⟩
      have hz2 := places_zig (k := k) cp p1 (possW_spec.mp hpo).2
      have h1 : longR c g b (k + 1) up < L := by
        have := hmin (k + 2) up (by omega) (by omega)
        rw [← longW_eq]
        refine Int.not_le.mp fun y => this ⟨hpo, y⟩
      have h2 := min_le c g c0 k b up b0.1 b0.2 hz2
      have h3 := minZ_par g b k up
      have h4 : minZ g (k + 2 + 1) b up = minZ g (k + 1) b up + 2 := by
        rw [minZ_eq, minZ_eq]
        by_cases y : k % 2 = 0
        · rw [if_pos y, if_pos (show (k + 2) % 2 = 0 by omega)]; omega
        · rw [if_neg y, if_neg (show ¬ (k + 2) % 2 = 0 by omega)]; omega
      omega
  rw [hlen] at hge
  omega
/-! ### the effect of a zigzag -/
theorem zig_fold (c lo : Int) : ∀ (zs : List Int) (up : Bool) (pv ex : Int), Zig up pv zs → (sides 1 (zsteps c up zs)).foldl (effStep c) ⟨c, lo, lo, ex, some pv, false⟩ = ⟨c, lo, lo, ex + lenZ pv zs, some (lastZ pv zs), false⟩
  | [], up, pv, ex, _ => by
    show (⟨c, lo, lo, ex, some pv, false⟩ : Eff) = ⟨c, lo, lo, ex + 0, some pv, false⟩
    rw [Int.add_zero]
  | z :: r, true, pv, ex, ⟨h, t⟩ => by
    have h : pv < z := h
    show (sides 1 (zsteps c false r)).foldl (effStep c) ((⟨c, lo, lo, ex, some pv, false⟩ : Eff).atLeast z) = _
    rw [atLeast_some, if_neg (by omega), zig_fold c lo r false z _ t, lenZ_cons]
    have := absI_def (z - pv)
    rw [show ex + z - pv + lenZ z r = ex + (absI (z - pv) + lenZ z r) by omega]
    rfl
  | z :: r, false, pv, ex, ⟨h, t⟩ => by
    have h : z < pv := h
    show (sides 1 (zsteps c true r)).foldl (effStep c) ((⟨c, lo, lo, ex, some pv, false⟩ : Eff).atMost (c - (c - z))) = _
    rw [show c - (c - z) = z by omega, atMost_some, if_neg (by omega), zig_fold c lo r true z _ t, lenZ_cons]
    have := absI_def (z - pv)
    rw [show ex + pv - z + lenZ z r = ex + (absI (z - pv) + lenZ z r) by omega]
    rfl
end ChM

set_option linter.all false
set_option autoImplicit false
set_option maxRecDepth 100000
set_option maxHeartbeats 4000000
/-! ChSs: the simple plan has the effect of the plan; effects that tell the same are the same. -/
namespace ChM
open Ch
def Flat (e : Eff) : Prop := ∀ g, e.goal = some g → e.lo = e.hi ∧ (e.ex - (g - e.lo)) % 2 = 0 ∧ absI (g - e.lo) ≤ e.ex
theorem flat_mkE {c lo hi : Int} {t : Bool} : Flat (mkE c lo hi 0 none t) := fun g hg => by
  by_cases h : lo = hi
  · subst h
    rw [mkE_eq] at hg ⊢
    have hg : some lo = some g := hg
    cases hg
    have := absI_def (lo - lo)
    refine ⟨rfl, ?_, ?_⟩
    · show (0 - (lo - lo)) % 2 = 0; omega
    · show absI (lo - lo) ≤ 0; omega
  · unfold mkE at hg
    rw [if_neg (fun z => h z.2)] at hg
    cases hg
theorem flat_some {c lo ex g : Int} {t : Bool} (h1 : (ex - (g - lo)) % 2 = 0) (h2 : absI (g - lo) ≤ ex) : Flat ⟨c, lo, lo, ex, some g, t⟩ := fun g' hg => by
  have hg : some g = some g' := hg
  cases hg
  exact ⟨rfl, h1, h2⟩
theorem flat_least {e : Eff} (ok : e.Ok) (f : Flat e) (n : Int) : Flat (e.atLeast n) := by
  obtain ⟨c, lo, hi, ex, goal, t⟩ := e
  cases goal with
  | none =>
    rw [atLeast_none]
    by_cases h : n ≤ hi
    · rw [if_pos h]; exact flat_mkE
    · rw [if_neg h]
      have := absI_def (n - hi)
      exact flat_some (by omega) (by omega)
  | some g =>
    obtain ⟨f1, f2, f3⟩ := f g rfl
    have f1 : lo = hi := f1
    have f2 : (ex - (g - lo)) % 2 = 0 := f2
    have f3 : absI (g - lo) ≤ ex := f3
    subst f1
    rw [atLeast_some]
    by_cases h : n ≤ g
    · rw [if_pos h]; exact flat_some f2 f3
    · rw [if_neg h]
      have := absI_def (n - lo)
      have := absI_def (g - lo)
      exact flat_some (by omega) (by omega)
theorem flat_most {e : Eff} (ok : e.Ok) (f : Flat e) (n : Int) : Flat (e.atMost n) := by
  obtain ⟨c, lo, hi, ex, goal, t⟩ := e
  cases goal with
  | none =>
    have hlh : lo < hi := (ok.no rfl).2
    rw [atMost_none _ _ _ _ _ _ hlh]
    by_cases h : lo ≤ n
    · rw [if_pos h]; exact flat_mkE
    · rw [if_neg h]
      have := absI_def (n - lo)
      exact flat_some (by omega) (by omega)
  | some g =>
    obtain ⟨f1, f2, f3⟩ := f g rfl
    have f1 : lo = hi := f1
    have f2 : (ex - (g - lo)) % 2 = 0 := f2
    have f3 : absI (g - lo) ≤ ex := f3
    subst f1
    rw [atMost_some]
    by_cases h : g ≤ n
    · rw [if_pos h]; exact flat_some f2 f3
    · rw [if_neg h]
      have := absI_def (n - lo)
      have := absI_def (g - lo)
      exact flat_some (by omega) (by omega)
theorem flat_fold {c : Int} : ∀ (l : List (Int × Int)) (e : Eff), e.Ok → e.c = c → fits c l → Flat e → Flat (l.foldl (effStep c) e)
  | [], _, _, _, _, f => f
  | p :: r, e, ok, hc, hf, f => by
    obtain ⟨hs, h0, h1⟩ := hf p List.mem_cons_self
    obtain ⟨a, b, _, _⟩ := effStep_ok ok hc hs h0 h1
    refine flat_fold r _ a b (fun q hq => hf q (List.mem_cons_of_mem _ hq)) ?_
    unfold effStep
    split
    · exact flat_least ok f _
    · split
      · exact flat_most ok f _
      · exact f
theorem eff_eq {c : Int} {l : List Stp} (hc : 0 ≤ c) (hl : fitsS c l) : effOf c l = ⟨c, (effFold c (sides 1 l)).lo, (effFold c (sides 1 l)).hi, (effFold c (sides 1 l)).ex, (effFold c (sides 1 l)).goal, turning l⟩ ∧ (effFold c (sides 1 l)).c = c ∧ (effFold c (sides 1 l)).Ok ∧ (effFold c (sides 1 l)).tu = false := by
  obtain ⟨n0, n1⟩ := nothing_ok hc
  obtain ⟨a, b, d, f⟩ := fold_ok (sides 1 l) (nothing c) n0 rfl (sides_fits l 1 (.inl rfl) hc hl)
  refine ⟨?_, b, a, ?_⟩
  · have h := mkE_self (e := effFold c (sides 1 l)) a (turning l)
    have hb : (effFold c (sides 1 l)).c = c := b
    rw [hb] at h
    exact h
  · refine d.trans ?_
    unfold nothing mkE
    rfl
theorem flat_eff {c : Int} {l : List Stp} (hc : 0 ≤ c) (hl : fitsS c l) : Flat (effOf c l) := by
  rw [(eff_eq hc hl).1]
  have := flat_fold (sides 1 l) (nothing c) (nothing_ok hc).1 rfl (sides_fits l 1 (.inl rfl) hc hl) flat_mkE
  exact this
theorem zsteps_turns (c : Int) : ∀ (zs : List Int) (up : Bool), turns (zsteps c up zs) = 0
  | [], _ => rfl
  | z :: r, true => zsteps_turns c r false
  | z :: r, false => zsteps_turns c r true
theorem simple_turns {e : Eff} {l : List Stp} (h : SimpleOf e l) : turns l = 0 := by
  rcases h with ⟨_, e⟩ | ⟨_, g, up, zs, _, _, e⟩
  · subst e
    split <;> split <;> rfl
  · subst e
    have := zsteps_turns e.c zs up
    cases up <;> exact this
theorem fold_two {c lo hi : Int} (h0 : 0 ≤ lo) (h1 : lo ≤ hi) (h2 : hi ≤ c) : effFold c (sides 1 ((if lo > 0 then [stepTo c lo true] else []) ++ (if hi < c then [stepTo c hi false] else []))) = mkE c lo hi 0 none false := by
  have s1 : effFold c (sides 1 (if lo > 0 then [stepTo c lo true] else [])) = mkE c lo c 0 none false := by
    by_cases h : lo > 0
    · rw [if_pos h]
      show (nothing c).atLeast lo = _
      rw [nothing_pos (by omega), atLeast_none, if_pos (by omega)]
      have := mx_def 0 lo
      rw [show mx 0 lo = lo by omega]
    · rw [if_neg h, show lo = 0 by omega]
      rfl
  have s2 : effFold c (sides 1 ((if lo > 0 then [stepTo c lo true] else []) ++ (if hi < c then [stepTo c hi false] else []))) = (sides 1 (if hi < c then [stepTo c hi false] else [])).foldl (effStep c) (effFold c (sides 1 (if lo > 0 then [stepTo c lo true] else []))) := by
    unfold effFold
    rw [← List.foldl_append]
    by_cases h : lo > 0
    · rw [if_pos h]; rfl
    · rw [if_neg h]; rfl
  rw [s2, s1]
  by_cases h : hi < c
  · rw [if_pos h]
    show (mkE c lo c 0 none false).atMost (c - (c - hi)) = _
    rw [mkE_none (by omega), show c - (c - hi) = hi by omega, atMost_none _ _ _ _ _ _ (by omega), if_pos h1]
    have := mn_def c hi
    rw [show mn c hi = hi by omega]
  · rw [if_neg h, show hi = c by omega]
    rfl
theorem simple_fold {c : Int} {l l' : List Stp} (hc : 0 ≤ c) (hl : fitsS c l) (hs : SimpleOf (effOf c l) l') : effFold c (sides 1 l') = effFold c (sides 1 l) := by
  obtain ⟨e1, e2, ok, e3⟩ := eff_eq hc hl
  have fl := flat_fold (sides 1 l) (nothing c) (nothing_ok hc).1 rfl (sides_fits l 1 (.inl rfl) hc hl) flat_mkE
  have fl : Flat (effFold c (sides 1 l)) := fl
  rw [e1] at hs
  generalize effFold c (sides 1 l) = e at *
  obtain ⟨ec, lo, hi, ex, goal, tu⟩ := e
  have e2 : ec = c := e2
  have e3 : tu = false := e3
  subst e2 e3
  have l0 : 0 ≤ lo := ok.lo0
  have lh : lo ≤ hi := ok.lh
  have hcc : hi ≤ ec := ok.hc
  rcases hs with ⟨hex, el⟩ | ⟨ne, g, up, zs, eg, hw, el⟩
  · have hex : ex = 0 := hex
    have el : l' = (if lo > 0 then [stepTo ec lo true] else []) ++ (if hi < ec then [stepTo ec hi false] else []) := el
    rw [el, fold_two l0 lh hcc, hex]
    cases goal with
    | none => exact mkE_none (ok.no rfl).2
    | some g =>
      obtain ⟨f1, f2, f3⟩ := fl g rfl
      have f1 : lo = hi := f1
      have f3 : absI (g - lo) ≤ ex := f3
      have := absI_def (g - lo)
      rw [← f1, mkE_eq, show g = lo by omega]
  · have ne : ex ≠ 0 := ne
    have eg : goal = some g := eg
    have hw : WayOf ec lo g ex up zs := hw
    have el : l' = stepTo ec lo (!up) :: zsteps ec up zs := el
    subst eg
    obtain ⟨f1, f2, f3⟩ := fl g rfl
    have f1 : lo = hi := f1
    have f2 : (ex - (g - lo)) % 2 = 0 := f2
    have f3 : absI (g - lo) ≤ ex := f3
    have gr : 0 ≤ g ∧ g ≤ ec := ok.yes g rfl
    obtain ⟨wl, wg⟩ := way_len ⟨l0, by omega⟩ gr f2 f3 ne hw
    obtain ⟨hz, hr⟩ := way_zig ⟨l0, by omega⟩ gr ne hw
    rw [el, ← f1, ← wl, ← wg]
    cases zs with
    | nil => exact absurd wl.symm ne
    | cons z r =>
      obtain ⟨h1, h2⟩ := hz
      obtain ⟨rz, _⟩ := inR_tail hr
      cases up with
      | true =>
        have h1 : lo < z := h1
        have cp : 0 < ec := by omega
        show (sides 1 (zsteps ec false r)).foldl (effStep ec) (((nothing ec).atMost (ec - (ec - lo))).atLeast z) = _
        have hm := mn_def ec lo
        have key : ((nothing ec).atMost (ec - (ec - lo))).atLeast z = ⟨ec, lo, lo, z - lo, some z, false⟩ := by
          rw [nothing_pos cp, show ec - (ec - lo) = lo by omega, atMost_none _ _ _ _ _ _ cp, if_pos l0, show mn ec lo = lo by omega]
          by_cases q : lo = 0
          · rw [q, mkE_eq, atLeast_some, if_neg (by omega), Int.zero_add]
          · rw [mkE_none (by omega), atLeast_none, if_neg (by omega)]
        rw [key, zig_fold ec lo r false z _ h2, lenZ_cons]
        have := absI_def (z - lo)
        rw [show z - lo + lenZ z r = absI (z - lo) + lenZ z r by omega]
        rfl
      | false =>
        have h1 : z < lo := h1
        have cp : 0 < ec := by omega
        show (sides 1 (zsteps ec true r)).foldl (effStep ec) (((nothing ec).atLeast lo).atMost (ec - (ec - z))) = _
        have hm := mx_def 0 lo
        have key : ((nothing ec).atLeast lo).atMost (ec - (ec - z)) = ⟨ec, lo, lo, lo - z, some z, false⟩ := by
          rw [nothing_pos cp, show ec - (ec - z) = z by omega, atLeast_none, if_pos (by omega), show mx 0 lo = lo by omega]
          by_cases q : lo = ec
          · rw [q, mkE_eq, atMost_some, if_neg (by omega), Int.zero_add]
          · rw [mkE_none (by omega), atMost_none _ _ _ _ _ _ (by omega), if_neg (by omega)]
        rw [key, zig_fold ec lo r true z _ h2, lenZ_cons]
        have := absI_def (z - lo)
        rw [show lo - z + lenZ z r = absI (z - lo) + lenZ z r by omega]
        rfl
/-- the simple plan has the same effect -/
theorem simple_eff {c : Int} {l l' : List Stp} (hc : 0 ≤ c) (hl : fitsS c l) (hs : SimpleOf (effOf c l) l') : effOf c (l' ++ turnL (turning l)) = effOf c l := by
  have h1 := simple_fold hc hl hs
  have h2 := simple_turns hs
  have h3 : effFold c (sides 1 (l' ++ turnL (turning l))) = effFold c (sides 1 l') := by
    cases turning l with
    | false =>
      show effFold c (sides 1 (l' ++ [])) = _
      rw [List.append_nil]
    | true =>
      show effFold c (sides 1 (l' ++ [.turn])) = _
      rw [sides_snoc]
      unfold effFold
      rw [List.foldl_append]
      rfl
  have h4 : turning (l' ++ turnL (turning l)) = turning l := by
    have : turning (l' ++ turnL (turning l)) = (turns (l' ++ turnL (turning l)) % 2 == 1) := rfl
    rw [this, turns_app, h2]
    cases turning l <;> rfl
  show mkE c (effFold c (sides 1 (l' ++ turnL (turning l)))).lo (effFold c (sides 1 (l' ++ turnL (turning l)))).hi (effFold c (sides 1 (l' ++ turnL (turning l)))).ex (effFold c (sides 1 (l' ++ turnL (turning l)))).goal (turning (l' ++ turnL (turning l))) = mkE c (effFold c (sides 1 l)).lo (effFold c (sides 1 l)).hi (effFold c (sides 1 l)).ex (effFold c (sides 1 l)).goal (turning l)
  rw [h3, h4, h1]
/-- effects that tell the same of all starts are the same -/
theorem eff_same {e f : Eff} (he : e.Ok) (hf : f.Ok) (fe : Flat e) (ff : Flat f) (hc : e.c = f.c) (ht : e.tu = f.tu) (h : ∀ x, 0 ≤ x → x ≤ e.c → e.carried x = f.carried x ∧ e.place x = f.place x) : e = f := by
  have a1 := he.lo0
  have a2 := he.lh
  have a3 := he.hc
  have b1 := hf.lo0
  have b2 := hf.lh
  have b3 := hf.hc
  obtain ⟨p1, _⟩ := h e.lo a1 (by omega)
  obtain ⟨p2, _⟩ := h f.lo b1 (by omega)
  obtain ⟨p3, q3⟩ := h 0 (Int.le_refl _) (by omega)
  obtain ⟨p4, _⟩ := h e.c (by omega) (Int.le_refl _)
  unfold Eff.carried at p1 p2 p3 p4
  have m1 := mx_def (e.lo - e.lo) (e.lo - e.hi)
  have m2 := mx_def (mx (e.lo - e.lo) (e.lo - e.hi)) 0
  have m3 := mx_def (f.lo - e.lo) (e.lo - f.hi)
  have m4 := mx_def (mx (f.lo - e.lo) (e.lo - f.hi)) 0
  have m5 := mx_def (e.lo - f.lo) (f.lo - e.hi)
  have m6 := mx_def (mx (e.lo - f.lo) (f.lo - e.hi)) 0
  have m7 := mx_def (f.lo - f.lo) (f.lo - f.hi)
  have m8 := mx_def (mx (f.lo - f.lo) (f.lo - f.hi)) 0
  have hex : e.ex = f.ex := by omega
  clear m1 m2 m3 m4 m5 m6 m7 m8 p1 p2
  have m1 := mx_def (e.lo - 0) (0 - e.hi)
  have m2 := mx_def (mx (e.lo - 0) (0 - e.hi)) 0
  have m3 := mx_def (f.lo - 0) (0 - f.hi)
  have m4 := mx_def (mx (f.lo - 0) (0 - f.hi)) 0
  have hlo : e.lo = f.lo := by omega
  clear m1 m2 m3 m4 p3
  have m1 := mx_def (e.lo - e.c) (e.c - e.hi)
  have m2 := mx_def (mx (e.lo - e.c) (e.c - e.hi)) 0
  have m3 := mx_def (f.lo - e.c) (e.c - f.hi)
  have m4 := mx_def (mx (f.lo - e.c) (e.c - f.hi)) 0
  have hhi : e.hi = f.hi := by omega
  refine eff_ext hc hlo hhi hex ?_ ht
  cases eg : e.goal with
  | none =>
    cases fg : f.goal with
    | none => rfl
    | some g =>
      have := (he.no eg).2
      have := (ff g fg).1
      omega
  | some g =>
    cases fg : f.goal with
    | none =>
      have := (hf.no fg).2
      have := (fe g eg).1
      omega
    | some g' =>
      unfold Eff.place at q3
      rw [eg, fg] at q3
      exact congrArg some q3
end ChM

set_option linter.all false
set_option autoImplicit false
set_option maxRecDepth 100000
set_option maxHeartbeats 4000000
/-! ChSf: what plans tell of all starts; a search through plans by their numbers of steps. -/
namespace ChM
open Ch NkX
def row1 (c : Int) (m : Stp) (p : Int × Int) : Int × Int := (p.1 + (play1 (p.2, c - p.2) m).2, (play1 (p.2, c - p.2) m).1.1)
def isT (m : Stp) : Int := match m with
  | .turn => 1
  | .mt _ _ => 0
def nextK (c : Int) (m : Stp) (k : RK) : RK := (k.1.map (row1 c m), (k.2 + isT m) % 2)
def tell (c : Int) (w : List Stp) : RK := ((List.range (c + 1).toNat).map fun x : Nat => ((playC ((x : Int), c - (x : Int)) w).sum, (playS ((x : Int), c - (x : Int)) w).1), ((turns w % 2 : Nat) : Int))
theorem play1_ge (p : Int × Int) (m : Stp) : 0 ≤ (play1 p m).2 := by
  match m with
  | .turn => exact Int.le_refl _
  | .mt true n => show 0 ≤ mx 0 (n - p.1); have := mx_def 0 (n - p.1); omega
  | .mt false n => show 0 ≤ mx 0 (n - p.2); have := mx_def 0 (n - p.2); omega
theorem turns_one (m : Stp) : (turns [m] : Int) = isT m := by cases m <;> rfl
theorem tell_snoc (c : Int) (w : List Stp) (m : Stp) : tell c (w ++ [m]) = nextK c m (tell c w) := by
  unfold tell nextK
  refine Prod.ext ?_ ?_
  · show List.map _ _ = List.map (row1 c m) (List.map _ _)
    rw [List.map_map]
    refine List.map_congr_left fun x _ => ?_
    have hs := (play_sim (c := c) w 1 ((x : Int), c - (x : Int)) (.inl rfl) (by show (x : Int) + (c - x) = c; omega)).1
    have e : playS ((x : Int), c - (x : Int)) w = ((playS ((x : Int), c - (x : Int)) w).1, c - (playS ((x : Int), c - (x : Int)) w).1) := Prod.ext rfl (by show _ = c - _; omega)
    show ((playC ((x : Int), c - (x : Int)) (w ++ [m])).sum, (playS ((x : Int), c - (x : Int)) (w ++ [m])).1) = ((playC ((x : Int), c - (x : Int)) w).sum + (play1 ((playS ((x : Int), c - (x : Int)) w).1, c - (playS ((x : Int), c - (x : Int)) w).1) m).2, (play1 ((playS ((x : Int), c - (x : Int)) w).1, c - (playS ((x : Int), c - (x : Int)) w).1) m).1.1)
    rw [← e, playC_snoc, playS_snoc, List.sum_append]
    simp
  · show ((turns (w ++ [m]) % 2 : Nat) : Int) = (((turns w % 2 : Nat) : Int) + isT m) % 2
    rw [turns_app, ← turns_one]
    omega
/-- the cost at a start -/
def cst (k : RK) (i : Nat) : Int := ((k.1[i]?).getD (0, 0)).1
def cheap (c : Int) (T k : RK) : Prop := cst k 0 ≤ cst T 0 ∧ cst k c.toNat ≤ cst T c.toNat
theorem cst_next (c : Int) (m : Stp) (k : RK) (i : Nat) : cst k i ≤ cst (nextK c m k) i := by
  unfold cst nextK
  show ((k.1[i]?).getD (0, 0)).1 ≤ (((k.1.map (row1 c m))[i]?).getD (0, 0)).1
  rw [List.getElem?_map]
  cases k.1[i]? with
  | none => exact Int.le_refl _
  | some p =>
    show p.1 ≤ p.1 + (play1 (p.2, c - p.2) m).2
    have := play1_ge (p.2, c - p.2) m
    omega
theorem cheap_back {c : Int} {T k : RK} {m : Stp} (h : cheap c T (nextK c m k)) : cheap c T k := ⟨Int.le_trans (cst_next c m k 0) h.1, Int.le_trans (cst_next c m k _) h.2⟩
/-! ### the search -/
theorem valN_snoc (kvs : KVs) (k : RK) (b : PySem.Addr) (n : Int) (x : RK) : valN (kvs ++ [(k, b, n)]) x = match valN kvs x with
    | some v => some v
    | none => if k = x then some n else none := by
  unfold valN
  rw [List.find?_append]
  cases h : kvs.find? fun y => decide (y.1 = x) with
  | some p => rfl
  | none =>
    show Option.map _ (none.or ([(k, b, n)].find? fun y => decide (y.1 = x))) = _
    rw [Option.none_or, List.find?_cons]
    by_cases e : k = x
    · rw [decide_eq_true (show (k, b, n).1 = x from e), if_pos e]; rfl
    · rw [decide_eq_false (show ¬ (k, b, n).1 = x from e), if_neg e]; rfl
/-- words over the moves -/
def Ovr (ms : List Stp) (w : List Stp) : Prop := ∀ s ∈ w, s ∈ ms
/-- all words of at most L steps are in -/
structure Srch (c : Int) (T : RK) (ms : List Stp) (seen : KVs) (L : Nat) : Prop where
  snd : ∀ k n, valN seen k = some n → ∃ w, Ovr ms w ∧ (w.length : Int) = n ∧ tell c w = k
  vb : ∀ k n, valN seen k = some n → n ≤ (L : Int)
  cmp : ∀ w, Ovr ms w → w.length ≤ L → cheap c T (tell c w) → ∃ n : Int, n ≤ w.length ∧ valN seen (tell c w) = some n
/-- the layer: what was first seen at L steps -/
structure Layer (c : Int) (T : RK) (ms : List Stp) (seen : KVs) (L : Nat) (layer : List RK) : Prop where
  snd : ∀ k ∈ layer, ∃ w, Ovr ms w ∧ w.length = L ∧ tell c w = k
  all : ∀ k, valN seen k = some (L : Int) → k ∈ layer
/-- in the midst of the steps of length L + 1; D: what was tried -/
structure Mid (c : Int) (T : RK) (ms : List Stp) (seen : KVs) (L : Nat) (later : List RK) (D : RK → Stp → Prop) : Prop where
  snd : ∀ k n, valN seen k = some n → ∃ w, Ovr ms w ∧ (w.length : Int) = n ∧ tell c w = k
  vb : ∀ k n, valN seen k = some n → n ≤ ((L + 1 : Nat) : Int)
  cmp : ∀ w, Ovr ms w → w.length ≤ L → cheap c T (tell c w) → ∃ n : Int, n ≤ w.length ∧ valN seen (tell c w) = some n
  lsnd : ∀ k ∈ later, ∃ w, Ovr ms w ∧ w.length = L + 1 ∧ tell c w = k
  lall : ∀ k, valN seen k = some ((L + 1 : Nat) : Int) → k ∈ later
  did : ∀ k m, D k m → cheap c T (nextK c m k) → ∃ n, valN seen (nextK c m k) = some n
section
variable {c : Int} {T : RK} {ms : List Stp} {seen seen0 : KVs} {L : Nat} {layer later : List RK} {D D' : RK → Stp → Prop}
theorem srch_start (b : PySem.Addr) : Srch c T ms ([] ++ [(tell c [], b, 0)]) 0 ∧ Layer c T ms ([] ++ [(tell c [], b, 0)]) 0 [tell c []] := by
  have v : ∀ k n, valN ([] ++ [(tell c [], b, 0)]) k = some n → tell c [] = k ∧ n = 0 := fun k n h => by
    rw [valN_snoc] at h
    have h : (if tell c [] = k then some (0 : Int) else none) = some n := h
    by_cases e : tell c [] = k
    · rw [if_pos e] at h; cases h; exact ⟨e, rfl⟩
    · rw [if_neg e] at h; cases h
  refine ⟨⟨fun k n h => ?_, fun k n h => ?_, fun w hw hl hc => ?_⟩, ⟨fun k hk => ?_, fun k h => ?_⟩⟩
  · obtain ⟨e, rfl⟩ := v k n h
    exact ⟨[], (fun s hs => nomatch hs), rfl, e⟩
  · obtain ⟨_, rfl⟩ := v k n h
    exact Int.le_refl _
  · have : w = [] := List.eq_nil_of_length_eq_zero (by omega)
    subst this
    refine ⟨0, Int.le_refl _, ?_⟩
    rw [valN_snoc]
    show (if tell c [] = tell c [] then some (0 : Int) else none) = some 0
    rw [if_pos rfl]
  · rw [List.mem_singleton.mp hk]
    exact ⟨[], (fun s hs => nomatch hs), rfl, rfl⟩
  · rw [(v k _ h).1]
    exact List.mem_singleton.mpr rfl
theorem mid_start (S : Srch c T ms seen L) : Mid c T ms seen L [] fun _ _ => False :=
  ⟨S.snd, fun k n h => by have := S.vb k n h; omega, S.cmp, (fun k hk => nomatch hk), (fun k h => by have := S.vb k _ h; omega), fun k m h => h.elim⟩
theorem mid_weak (M : Mid c T ms seen L later D) (h : ∀ k m, D' k m → D k m) : Mid c T ms seen L later D' := ⟨M.snd, M.vb, M.cmp, M.lsnd, M.lall, fun k m d => M.did k m (h k m d)⟩
theorem mid_skip (M : Mid c T ms seen L later D) {k0 : RK} {m0 : Stp} (h : (valN seen (nextK c m0 k0)).isSome = true ∨ ¬ cheap c T (nextK c m0 k0)) (hD : ∀ k m, D' k m → D k m ∨ (k = k0 ∧ m = m0)) : Mid c T ms seen L later D' :=
  ⟨M.snd, M.vb, M.cmp, M.lsnd, M.lall, fun k m d hc => by
    rcases hD k m d with z | ⟨rfl, rfl⟩
    · exact M.did k m z hc
    · rcases h with y | y
      · exact Option.isSome_iff_exists.mp y
      · exact absurd hc y⟩
theorem mid_add (M : Mid c T ms seen L later D) {k0 : RK} {m0 : Stp} {b : PySem.Addr} (hm : m0 ∈ ms) (hk : ∃ w, Ovr ms w ∧ w.length = L ∧ tell c w = k0) (hn : valN seen (nextK c m0 k0) = none) (hD : ∀ k m, D' k m → D k m ∨ (k = k0 ∧ m = m0)) :
    Mid c T ms (seen ++ [(nextK c m0 k0, b, ((L + 1 : Nat) : Int))]) L (later ++ [nextK c m0 k0]) D' := by
  have v : ∀ k n, valN (seen ++ [(nextK c m0 k0, b, ((L + 1 : Nat) : Int))]) k = some n → valN seen k = some n ∨ (k = nextK c m0 k0 ∧ n = ((L + 1 : Nat) : Int)) := fun k n h => by
    rw [valN_snoc] at h
    cases q : valN seen k with
    | some v => rw [q] at h; exact .inl h
    | none =>
      rw [q] at h
      have h : (if nextK c m0 k0 = k then some ((L + 1 : Nat) : Int) else none) = some n := h
      by_cases e : nextK c m0 k0 = k
      · rw [if_pos e] at h; cases h; exact .inr ⟨e.symm, rfl⟩
      · rw [if_neg e] at h; cases h
  have u : ∀ k n, valN seen k = some n → valN (seen ++ [(nextK c m0 k0, b, ((L + 1 : Nat) : Int))]) k = some n := fun k n h => by
    rw [valN_snoc, h]
  have new : ∃ w, Ovr ms w ∧ w.length = L + 1 ∧ tell c w = nextK c m0 k0 := by
    obtain ⟨w, h1, h2, h3⟩ := hk
    refine ⟨w ++ [m0], fun s hs => ?_, by rw [List.length_append, h2]; rfl, by rw [tell_snoc, h3]⟩
    rcases List.mem_append.mp hs with z | z
    · exact h1 s z
    · rw [List.mem_singleton.mp z]; exact hm
  refine ⟨fun k n h => ?_, fun k n h => ?_, fun w hw hl hc => ?_, fun k hk => ?_, fun k h => ?_, fun k m d hc => ?_⟩
  · rcases v k n h with z | ⟨rfl, rfl⟩
    · exact M.snd k n z
    · obtain ⟨w, h1, h2, h3⟩ := new
      exact ⟨w, h1, by rw [h2], h3⟩
  · rcases v k n h with z | ⟨_, rfl⟩
    · exact M.vb k n z
    · exact Int.le_refl _
  · obtain ⟨n, h1, h2⟩ := M.cmp w hw hl hc
    exact ⟨n, h1, u _ _ h2⟩
  · rcases List.mem_append.mp hk with z | z
    · exact M.lsnd k z
    · rw [List.mem_singleton.mp z]; exact new
  · rcases v k _ h with z | ⟨z, _⟩
    · exact List.mem_append_left _ (M.lall k z)
    · exact List.mem_append_right _ (List.mem_singleton.mpr z)
  · rcases hD k m d with z | ⟨rfl, rfl⟩
    · obtain ⟨n, h⟩ := M.did k m z hc
      exact ⟨n, u _ _ h⟩
    · refine ⟨((L + 1 : Nat) : Int), ?_⟩
      rw [valN_snoc, hn]
      show (if _ = _ then some _ else none) = _
      rw [if_pos rfl]
/-- a whole length was tried -/
theorem mid_endS (S : Srch c T ms seen0 L) (La : Layer c T ms seen0 L layer) (M : Mid c T ms seen L later D) (hD : ∀ k ∈ layer, ∀ m ∈ ms, D k m) (hs : ∀ k n, valN seen0 k = some n → valN seen k = some n) : Srch c T ms seen (L + 1) ∧ Layer c T ms seen (L + 1) later := by
  refine ⟨⟨M.snd, M.vb, fun w hw hl hc => ?_⟩, ⟨M.lsnd, M.lall⟩⟩
  by_cases h : w.length ≤ L
  · exact M.cmp w hw h hc
  · obtain ⟨w0, m, rfl⟩ : ∃ w0 m, w = w0 ++ [m] := by
      rcases List.eq_nil_or_concat w with z | ⟨w0, m, z⟩
      · rw [z] at h; exact absurd (Nat.zero_le _) h
      · exact ⟨w0, m, by rw [z, List.concat_eq_append]⟩
    rw [List.length_append] at hl h
    have hl : w0.length + 1 ≤ L + 1 := hl
    have h : ¬ w0.length + 1 ≤ L := h
    have e : w0.length = L := by omega
    rw [tell_snoc] at hc ⊢
    have hw0 : Ovr ms w0 := fun s hs => hw s (List.mem_append_left _ hs)
    have hm : m ∈ ms := hw m (List.mem_append_right _ (List.mem_singleton.mpr rfl))
    obtain ⟨n, h1, h2⟩ := S.cmp w0 hw0 (by omega) (cheap_back hc)
    have hlen : ((w0 ++ [m]).length : Int) = (L : Int) + 1 := by rw [List.length_append, e]; rfl
    rw [hlen]
    by_cases q : n = (L : Int)
    · subst q
      obtain ⟨n', h3⟩ := M.did _ m (hD _ (La.all _ h2) m hm) hc
      have := M.vb _ _ h3
      exact ⟨n', by omega, h3⟩
    · obtain ⟨w1, a1, a2, a3⟩ := S.snd _ _ h2
      have hw1 : Ovr ms (w1 ++ [m]) := fun s hs => by
        rcases List.mem_append.mp hs with z | z
        · exact a1 s z
        · rw [List.mem_singleton.mp z]; exact hm
      have hl1 : (w1 ++ [m]).length ≤ L := by rw [List.length_append]; show w1.length + 1 ≤ L; omega
      obtain ⟨n', h3, h4⟩ := M.cmp (w1 ++ [m]) hw1 hl1 (by rw [tell_snoc, a3]; exact hc)
      rw [tell_snoc, a3] at h4
      exact ⟨n', by omega, h4⟩
/-- the least number of steps -/
def Least (c : Int) (T : RK) (ms : List Stp) (n : Int) : Prop := (∃ w, Ovr ms w ∧ (w.length : Int) = n ∧ tell c w = T) ∧ ∀ w, Ovr ms w → tell c w = T → n ≤ (w.length : Int)
theorem cheap_self : cheap c T T := ⟨Int.le_refl _, Int.le_refl _⟩
theorem srch_least (S : Srch c T ms seen L) {n : Int} (h : valN seen T = some n) : Least c T ms n := by
  refine ⟨S.snd T n h, fun w hw ht => ?_⟩
  by_cases q : w.length ≤ L
  · obtain ⟨n', h1, h2⟩ := S.cmp w hw q (by rw [ht]; exact cheap_self)
    rw [ht, h] at h2
    cases h2
    exact h1
  · have := S.vb T n h
    omega
theorem srch_there (S : Srch c T ms seen L) {w : List Stp} (hw : Ovr ms w) (hl : w.length ≤ L) (ht : tell c w = T) : ∃ n, valN seen T = some n := by
  obtain ⟨n, _, h⟩ := S.cmp w hw hl (by rw [ht]; exact cheap_self)
  rw [ht] at h
  exact ⟨n, h⟩
end
end ChM

set_option linter.all false
set_option autoImplicit false
set_option maxRecDepth 100000
set_option maxHeartbeats 4000000
/-! ChSg: the simple plan has just as many steps as the search finds. -/
namespace ChM
open Ch NkX
def movesL (n : Nat) : List Stp := .turn :: (List.range n).flatMap fun j : Nat => [.mt true (1 + (j : Int)), .mt false (1 + (j : Int))]
theorem movesL_succ (n : Nat) : movesL (n + 1) = movesL n ++ [.mt true (1 + (n : Int)), .mt false (1 + (n : Int))] := by
  unfold movesL
  rw [List.range_succ, List.flatMap_append, List.flatMap_cons, List.flatMap_nil, List.append_nil, List.cons_append]
theorem movesL_len (n : Nat) : (movesL n).length = 1 + 2 * n := by
  induction n with
  | zero => rfl
  | succ n ih => rw [movesL_succ, List.length_append, ih]; show 1 + 2 * n + 2 = _; omega
theorem movesL_mem {n : Nat} {b : Bool} {m : Int} : Stp.mt b m ∈ movesL n ↔ 1 ≤ m ∧ m ≤ (n : Int) := by
  unfold movesL
  rw [List.mem_cons, List.mem_flatMap]
  constructor
  · rintro (z | ⟨j, hj, z⟩)
    · cases z
    · have hj := List.mem_range.mp hj
      rcases List.mem_cons.mp z with e | e
      · cases e; omega
      · cases List.mem_singleton.mp e; omega
  · intro h
    refine .inr ⟨(m - 1).toNat, List.mem_range.mpr (by omega), ?_⟩
    have e : (1 : Int) + (((m - 1).toNat : Nat) : Int) = m := by omega
    rw [e]
    cases b
    · exact List.mem_cons_of_mem _ (List.mem_singleton.mpr rfl)
    · exact List.mem_cons_self
theorem movesL_turn (n : Nat) : Stp.turn ∈ movesL n := List.mem_cons_self
theorem ovr_fits {c : Int} {w : List Stp} (h : Ovr (movesL c.toNat) w) (hc : 0 ≤ c) : fitsS c w := fun b n hm => by
  have := movesL_mem.mp (h _ hm)
  omega
/-! steps that need nothing -/
def nz (s : Stp) : Bool := match s with
  | .turn => true
  | .mt _ n => decide (n ≠ 0)
theorem drop0 : ∀ (w : List Stp) (p : Int × Int), 0 ≤ p.1 → 0 ≤ p.2 → fitsS (p.1 + p.2) w → playS p (w.filter nz) = playS p w ∧ (playC p (w.filter nz)).sum = (playC p w).sum ∧ turns (w.filter nz) = turns w
  | [], p, _, _, _ => ⟨rfl, rfl, rfl⟩
  | .turn :: r, p, h1, h2, hf => by
    obtain ⟨a, b, d⟩ := drop0 r (p.2, p.1) h2 h1 (by show fitsS (p.2 + p.1) r; rw [Int.add_comm]; exact fun b n hm => hf b n (List.mem_cons_of_mem _ hm))
    rw [List.filter_cons_of_pos (by rfl)]
    refine ⟨a, ?_, ?_⟩
    · show (0 :: playC (p.2, p.1) (r.filter nz)).sum = (0 :: playC (p.2, p.1) r).sum
      rw [List.sum_cons, List.sum_cons, b]
    · show turns (r.filter nz) + 1 = turns r + 1
      rw [d]
  | .mt true n :: r, p, h1, h2, hf => by
    have hn := hf true n List.mem_cons_self
    have hm := mx_def 0 (n - p.1)
    have hr : ∀ q : Int × Int, q.1 + q.2 = p.1 + p.2 → fitsS (q.1 + q.2) r := fun q e => by rw [e]; exact fun b n hm => hf b n (List.mem_cons_of_mem _ hm)
    obtain ⟨a, b, d⟩ := drop0 r (p.1 + mx 0 (n - p.1), p.2 - mx 0 (n - p.1)) (by show 0 ≤ p.1 + mx 0 (n - p.1); omega) (by show 0 ≤ p.2 - mx 0 (n - p.1); omega) (hr _ (by show p.1 + mx 0 (n - p.1) + (p.2 - mx 0 (n - p.1)) = _; omega))
    by_cases e : n = 0
    · rw [List.filter_cons_of_neg (by rw [e]; decide)]
      have e1 : mx 0 (n - p.1) = 0 := by omega
      rw [e1, Int.add_zero, Int.sub_zero] at a b
      refine ⟨?_, ?_, d⟩
      · show _ = playS (p.1 + mx 0 (n - p.1), p.2 - mx 0 (n - p.1)) r
        rw [e1, Int.add_zero, Int.sub_zero]
        exact a
      · show _ = (mx 0 (n - p.1) :: playC (p.1 + mx 0 (n - p.1), p.2 - mx 0 (n - p.1)) r).sum
        rw [e1, Int.add_zero, Int.sub_zero, List.sum_cons, Int.zero_add]
        exact b
    · rw [List.filter_cons_of_pos (show nz (.mt _ n) = true from decide_eq_true e)]
      refine ⟨a, ?_, d⟩
      show (mx 0 (n - p.1) :: playC (p.1 + mx 0 (n - p.1), p.2 - mx 0 (n - p.1)) (r.filter nz)).sum = (mx 0 (n - p.1) :: playC (p.1 + mx 0 (n - p.1), p.2 - mx 0 (n - p.1)) r).sum
      rw [List.sum_cons, List.sum_cons, b]
  | .mt false n :: r, p, h1, h2, hf => by
    have hn := hf false n List.mem_cons_self
    have hm := mx_def 0 (n - p.2)
    have hr : ∀ q : Int × Int, q.1 + q.2 = p.1 + p.2 → fitsS (q.1 + q.2) r := fun q e => by rw [e]; exact fun b n hm => hf b n (List.mem_cons_of_mem _ hm)
    obtain ⟨a, b, d⟩ := drop0 r (p.1 - mx 0 (n - p.2), p.2 + mx 0 (n - p.2)) (by show 0 ≤ p.1 - mx 0 (n - p.2); omega) (by show 0 ≤ p.2 + mx 0 (n - p.2); omega) (hr _ (by show p.1 - mx 0 (n - p.2) + (p.2 + mx 0 (n - p.2)) = _; omega))
    by_cases e : n = 0
    · rw [List.filter_cons_of_neg (by rw [e]; decide)]
      have e1 : mx 0 (n - p.2) = 0 := by omega
      rw [e1, Int.add_zero, Int.sub_zero] at a b
      refine ⟨?_, ?_, d⟩
      · show _ = playS (p.1 - mx 0 (n - p.2), p.2 + mx 0 (n - p.2)) r
        rw [e1, Int.add_zero, Int.sub_zero]
        exact a
      · show _ = (mx 0 (n - p.2) :: playC (p.1 - mx 0 (n - p.2), p.2 + mx 0 (n - p.2)) r).sum
        rw [e1, Int.add_zero, Int.sub_zero, List.sum_cons, Int.zero_add]
        exact b
    · rw [List.filter_cons_of_pos (show nz (.mt _ n) = true from decide_eq_true e)]
      refine ⟨a, ?_, d⟩
      show (mx 0 (n - p.2) :: playC (p.1 - mx 0 (n - p.2), p.2 + mx 0 (n - p.2)) (r.filter nz)).sum = (mx 0 (n - p.2) :: playC (p.1 - mx 0 (n - p.2), p.2 + mx 0 (n - p.2)) r).sum
      rw [List.sum_cons, List.sum_cons, b]
theorem tell_nz {c : Int} {w : List Stp} (hc : 0 ≤ c) (hf : fitsS c w) : tell c (w.filter nz) = tell c w := by
  unfold tell
  refine Prod.ext ?_ ?_
  · refine List.map_congr_left fun x hx => ?_
    have hx := List.mem_range.mp hx
    obtain ⟨a, b, _⟩ := drop0 w ((x : Int), c - (x : Int)) (by show 0 ≤ (x : Int); omega) (by show 0 ≤ c - (x : Int); omega) (by show fitsS ((x : Int) + (c - x)) w; rw [show (x : Int) + (c - x) = c by omega]; exact hf)
    rw [a, b]
  · obtain ⟨_, _, d⟩ := drop0 w (0, c) (Int.le_refl _) hc (by show fitsS (0 + c) w; rw [Int.zero_add]; exact hf)
    show ((turns (w.filter nz) % 2 : Nat) : Int) = _
    rw [d]
theorem nz_ovr {c : Int} {w : List Stp} (hc : 0 ≤ c) (hf : fitsS c w) : Ovr (movesL c.toNat) (w.filter nz) := fun s hs => by
  obtain ⟨h1, h2⟩ := List.mem_filter.mp hs
  cases s with
  | turn => exact movesL_turn _
  | mt b n =>
    have h2 : n ≠ 0 := of_decide_eq_true h2
    have := hf b n h1
    exact movesL_mem.mpr (by omega)
/-! tellings and effects -/
theorem turning_of {l m : List Stp} (h : ((turns l % 2 : Nat) : Int) = ((turns m % 2 : Nat) : Int)) : turning l = turning m := by
  have e : turns l % 2 = turns m % 2 := by omega
  unfold turning
  rw [e]
theorem turns_of {l m : List Stp} (h : turning l = turning m) : turns l % 2 = turns m % 2 := by
  unfold turning at h
  have a := Nat.mod_two_eq_zero_or_one (turns l)
  have b := Nat.mod_two_eq_zero_or_one (turns m)
  rcases a with a | a <;> rcases b with b | b <;> rw [a, b] at h ⊢
  · cases h
  · cases h
theorem tell_of_eff {c : Int} {l m : List Stp} (hl : fitsS c l) (hm : fitsS c m) (h : effOf c l = effOf c m) (ht : turning l = turning m) : tell c l = tell c m := by
  unfold tell
  refine Prod.ext ?_ ?_
  · refine List.map_congr_left fun x hx => ?_
    have hx := List.mem_range.mp hx
    obtain ⟨a1, a2⟩ := summary_right hl (x := (x : Int)) (by omega) (by omega)
    obtain ⟨b1, b2⟩ := summary_right hm (x := (x : Int)) (by omega) (by omega)
    rw [a1, a2, b1, b2, h]
  · show ((turns l % 2 : Nat) : Int) = ((turns m % 2 : Nat) : Int)
    rw [turns_of ht]
theorem eff_of_tell {c : Int} {l m : List Stp} (hc : 0 ≤ c) (hl : fitsS c l) (hm : fitsS c m) (h : tell c l = tell c m) : effOf c l = effOf c m ∧ turning l = turning m := by
  have ht : turning l = turning m := turning_of (congrArg Prod.snd h)
  refine ⟨?_, ht⟩
  obtain ⟨o1, c1, t1, _⟩ := effOf_ok hc hl
  obtain ⟨o2, c2, t2, _⟩ := effOf_ok hc hm
  refine eff_same o1 o2 (flat_eff hc hl) (flat_eff hc hm) (c1.trans c2.symm) (t1.trans (ht.trans t2.symm)) fun x h0 h1 => ?_
  rw [c1] at h1
  have hr : (List.range (c + 1).toNat)[x.toNat]? = some x.toNat := List.getElem?_range (by omega)
  have e := congrArg (fun k : RK => k.1[x.toNat]?) h
  have e : ((List.range (c + 1).toNat).map fun x : Nat => ((playC ((x : Int), c - (x : Int)) l).sum, (playS ((x : Int), c - (x : Int)) l).1))[x.toNat]? = ((List.range (c + 1).toNat).map fun x : Nat => ((playC ((x : Int), c - (x : Int)) m).sum, (playS ((x : Int), c - (x : Int)) m).1))[x.toNat]? := e
  rw [List.getElem?_map, List.getElem?_map, hr] at e
  have e := Option.some.inj e
  dsimp only at e
  have ex : ((x.toNat : Nat) : Int) = x := by omega
  rw [ex] at e
  have e1 := congrArg Prod.fst e
  have e2 := congrArg Prod.snd e
  obtain ⟨a1, a2⟩ := summary_right hl h0 h1
  obtain ⟨b1, b2⟩ := summary_right hm h0 h1
  have e1 : (playC (x, c - x) l).sum = (playC (x, c - x) m).sum := e1
  have e2 : (playS (x, c - x) l).1 = (playS (x, c - x) m).1 := e2
  rw [a1, b1] at e1
  rw [a2, b2] at e2
  refine ⟨e1, ?_⟩
  unfold Eff.fin at e2
  rw [t1, t2, ht, c1, c2] at e2
  split at e2 <;> omega
theorem fits_app {c : Int} {l m : List Stp} (h : fitsS c l) (k : fitsS c m) : fitsS c (l ++ m) := fun b n hm => by
  rcases List.mem_append.mp hm with z | z
  · exact h b n z
  · exact k b n z
theorem zsteps_fits {c : Int} : ∀ (zs : List Int) (up : Bool), inR c zs → fitsS c (zsteps c up zs)
  | [], _, _ => fun b n hm => nomatch hm
  | z :: r, up, h => fun b n hm => by
    obtain ⟨h1, h2⟩ := inR_tail h
    rcases List.mem_cons.mp hm with e | e
    · unfold stepTo at e
      split at e <;> cases e <;> omega
    · exact zsteps_fits r (!up) h2 b n e
theorem simple_fits {c : Int} {l l' : List Stp} (hc : 0 ≤ c) (hl : fitsS c l) (hs : SimpleOf (effOf c l) l') : fitsS c (l' ++ turnL (turning l)) := by
  obtain ⟨o, oc, _, _⟩ := effOf_ok hc hl
  have a := o.lo0
  have b := o.lh
  have d := o.hc
  rw [oc] at d
  have one : ∀ (z : Int) (up : Bool), 0 ≤ z → z ≤ c → fitsS c [stepTo c z up] := fun z up h1 h2 b n hm => by
    have e := List.mem_singleton.mp hm
    unfold stepTo at e
    split at e <;> cases e <;> omega
  have nil : fitsS c [] := fun b n hm => nomatch hm
  refine fits_app ?_ ?_
  · rcases hs with ⟨_, e⟩ | ⟨ne, g, up, zs, eg, hw, e⟩
    · rw [oc] at e
      subst e
      refine fits_app ?_ ?_
      · split
        · exact one _ _ (by omega) (by omega)
        · exact nil
      · split
        · exact one _ _ (by omega) (by omega)
        · exact nil
    · rw [oc] at e hw
      obtain ⟨_, hr⟩ := way_zig (c := c) ⟨a, by omega⟩ (by have := o.yes g eg; rw [oc] at this; exact this) ne hw
      subst e
      exact fits_app (l := [_]) (one _ _ a (by omega)) (zsteps_fits zs up hr)
  · cases turning l
    · exact nil
    · intro b n hm
      cases List.mem_singleton.mp hm
theorem simple_turning {c : Int} {l l' : List Stp} (hs : SimpleOf (effOf c l) l') : turning (l' ++ turnL (turning l)) = turning l := by
  have : turning (l' ++ turnL (turning l)) = (turns (l' ++ turnL (turning l)) % 2 == 1) := rfl
  rw [this, turns_app, simple_turns hs]
  cases turning l <;> rfl
theorem simple_tell {c : Int} {l l' : List Stp} (hc : 0 ≤ c) (hl : fitsS c l) (hs : SimpleOf (effOf c l) l') : tell c (l' ++ turnL (turning l)) = tell c l :=
  tell_of_eff (simple_fits hc hl hs) hl (simple_eff hc hl hs) (simple_turning hs)
theorem simple_least {c : Int} {l l' : List Stp} (hc : 0 ≤ c) (hl : fitsS c l) (hs : SimpleOf (effOf c l) l') {n : Int} (h : Least c (tell c l) (movesL c.toNat) n) : n = ((l' ++ turnL (turning l)).length : Int) := by
  obtain ⟨⟨w, w1, w2, w3⟩, hmin⟩ := h
  have fs := simple_fits hc hl hs
  have h1 := hmin _ (nz_ovr hc fs) (by rw [tell_nz hc fs]; exact simple_tell hc hl hs)
  have h2 := List.length_filter_le nz (l' ++ turnL (turning l))
  have fw := ovr_fits w1 hc
  obtain ⟨e1, e2⟩ := eff_of_tell hc fw hl w3
  rw [← e1] at hs
  have h3 := simple_le hc fw hs
  rw [e2] at h3
  omega
/-- a word over the moves that tells the same, no longer -/
theorem word_there {c : Int} {l : List Stp} (hc : 0 ≤ c) (hl : fitsS c l) : ∃ w, Ovr (movesL c.toNat) w ∧ w.length ≤ l.length ∧ tell c w = tell c l := ⟨l.filter nz, nz_ovr hc hl, List.length_filter_le _ _, tell_nz hc hl⟩
end ChM

set_option Elab.async false
set_option linter.all false
set_option autoImplicit false
set_option maxRecDepth 100000
set_option pp.maxSteps 500
set_option maxHeartbeats 4000000


namespace K08
open PySem PySem.Spec PyProof.Rows L2 He ChH Ch ChM
local macro_rules | `(tactic| walk_at "x1") => `(tactic| first
  | ((with_reducible apply x_var); exact rfl)
  | with_reducible refine x_c ?_
  | with_reducible refine x_op ?_
  | with_reducible refine x_seq ?_
  | with_reducible refine x_asg ?_
  | with_reducible refine x_gname ?_
  | with_reducible refine x_cons ?_
  | with_reducible refine x_nil ?_
  | with_reducible refine x_fld ?_
  | with_reducible refine x_ret ?_
  | with_reducible refine x_ifS ?_
  | with_reducible refine x_test ?_
  | with_reducible refine x_ex ?_
  | with_reducible refine x_call ?_
  | with_reducible refine x_mk ?_
  | with_reducible refine x_meth ?_
  | with_reducible refine x_prop ?_
  | with_reducible refine x_cb ?_
  | with_reducible refine x_tup ?_
  | with_reducible refine x_lst ?_
  | with_reducible refine x_drop ?_
  | with_reducible refine x_for ?_
  | with_reducible refine x_iL ?_
  | with_reducible refine x_iT ?_
  | with_reducible refine x_iE ?_
  | with_reducible refine x_iU ?_
  | with_reducible refine x_iR1 ?_
  | with_reducible refine x_iR2 ?_
  | with_reducible refine x_gcons ?_
  | with_reducible refine x_gnil ?_
  | with_reducible refine x_par ?_
  | with_reducible refine x_lstRg ?_
  | with_reducible refine x_rg1 ?_
  | with_reducible refine x_rg1At ?_
  | with_reducible refine x_par3 ?_
  | with_reducible refine x_bm ?_
  | with_reducible refine x_bm0 ?_
  | with_reducible refine x_gSub ?_
  | with_reducible refine x_lc ?_
  | with_reducible refine x_yes ?_
  | with_reducible refine x_setf ?_
  | with_reducible refine x_next ?_
  | with_reducible refine x_B ?_
  | with_reducible refine x_and ?_
  | with_reducible refine x_or ?_
  | with_reducible refine x_not ?_
  | with_reducible refine x_andV ?_
  | with_reducible refine x_orV ?_
  | with_reducible refine x_notV ?_
  | with_reducible refine x_ifE ?_
  | with_reducible refine x_chain ?_
  | with_reducible refine x_chain3 ?_
  | with_reducible refine x_un ?_
  | with_reducible refine x_isNe ?_
  | with_reducible refine x_notNe ?_
  | with_reducible refine x_starA ?_
  | with_reducible refine x_plusI ?_
  | with_reducible refine x_minus ?_
  | with_reducible refine x_lt ?_
  | with_reducible refine x_le ?_
  | with_reducible refine x_gt ?_
  | with_reducible refine x_ge ?_
  | with_reducible refine x_eqI ?_
  | with_reducible refine x_neI ?_
  | with_reducible refine x_eqS ?_
  | with_reducible refine x_eqB ?_
  | with_reducible refine x_neB ?_
  | with_reducible refine x_int ?_
  | with_reducible refine x_intB ?_
  | with_reducible refine x_max2 ?_
  | with_reducible refine x_min2 ?_
  | with_reducible refine x_max3 ?_
  | with_reducible refine x_abs ?_
  | with_reducible refine x_neg ?_
  | with_reducible refine x_isi_ii ?_
  | with_reducible refine x_isi_ib ?_
  | with_reducible refine x_T ?_
  | with_reducible refine x_nT ?_
  | with_reducible refine x_nF ?_
  | with_reducible refine x_F ?_)
local macro_rules | `(tactic| walk_at "x") => `(tactic| repeat walk_at "x1")

section
variable {P : Program} {w : World} {K : PySem.W.Frag} {mg : Str → Option Value} {base : Heap}
def spNum : Sp := fun vs H Q _ => ∃ n : Int, vs = [.int n] ∧ Q (.bl (decide (0 ≤ n ∧ n ≤ 1000000000000000000))) H
theorem ok_is_number (W : Wd K mg) : FnR P w K mg base CX0 1 (ga K "is_number") spNum := by
  refine (def_ok W.F_is_number sc_is_number (fun _ _ _ _ _ _ us hl => match us, hl with | [_], _ => rfl) (fun vs H Q E ⟨n, e, _⟩ => by rw [e]; rfl) fun cdv A outer s H vs Q E hr ⟨n, e, k⟩ => ?_).2
  subst e
  refine ⟨_, PSs.nox (pss_one (ps_ret (pe_and (pe_callB (c_isiK K) (by rfl) W.f_isinstance (by decide +kernel) (pa_cons (pv 0) (pa_cons (pe_bltn (v := .ty "int") (by rfl) W.f_int (by decide +kernel) rfl) pa_nil))) (pe_and (pe_not (pe_callB (c_isiK K) (by rfl) W.f_isinstance (by decide +kernel) (pa_cons (pv 0) (pa_cons (pe_bltn (v := .ty "bool") (by rfl) W.f_bool (by decide +kernel) rfl) pa_nil)))) (pe_one (pe_chain op_leI op_leI pe_int (pv 0) (pe_cv W.g_Plan W.r_Plan W.v_Plan_MAX_CHAIRS rfl))))))), ?_⟩
  walk_at "x"
  refine x_ifd (fun h => ?_) fun h => ?_
  · walk_at "x"
    rw [show decide (n ≤ 1000000000000000000) = decide (0 ≤ n ∧ n ≤ 1000000000000000000) by simp [h]]
    exact k
  · rw [show decide (0 ≤ n ∧ n ≤ 1000000000000000000) = false by simp [h]] at k
    exact k
def spStep : Sp := fun vs H Q _ => ∃ (p : Addr) (s : Stp), vs = [.ref p] ∧ H p = some (.tup (stepV s)) ∧ goodS s ∧ ∀ H', Same H H' → Q (.bl true) H'
theorem ok_is_step (W : Wd K mg) : FnR P w K mg base CX0 2 (ga K "is_step") spStep := by
  refine (def_ok W.F_is_step sc_is_step (fun _ _ _ _ _ _ us hl => match us, hl with | [_], _ => rfl) (fun vs H Q E ⟨p, s, e, _⟩ => by rw [e]; rfl) fun cdv A outer s H vs Q E hr ⟨p, st, e, hp, hg, k⟩ => ?_).2
  subst e
  refine ⟨_, PSs.nox (pss_cons (ps_if (pt_cmpR (op_eqK K hr.units) (pv 0) (pe_tup (pa_cons (pe_gs W.t_TURN rfl) pa_nil)) (nomark _)) (pss_one (ps_ret pe_bl)) pss_nil) (pss_one (ps_ret (pe_and (pe_cmpR (op_eqK K hr.units) (pe_callB (c_lenK K) (by rfl) W.f_len (by decide +kernel) (pa_cons (pv 0) pa_nil)) pe_int (nomark _)) (pe_and (pe_cmpR (op_inK K) (pe_ix (ix_K K) (pv 0) pe_int (fun _ _ => rfl)) (pe_tup (pa_cons (pe_gs W.t_RED rfl) (pa_cons (pe_gs W.t_BLUE rfl) pa_nil))) rfl) (pe_one (pe_callR (ok_is_number W) (hr.mono (by decide)) W.g_is_number W.k_is_number pass0 rfl (pa_cons (pe_ix (ix_K K) (pv 0) pe_int (fun _ _ => rfl)) pa_nil)))))))), ?_⟩
  walk_at "x"
  refine ⟨sz rfl, fun t ht => eq_turn (up hp ht) upd_same ?_⟩
  walk_at "x"
  refine x_ifd (fun e => ?_) fun e => ?_
  · walk_at "x"
    exact k _ (Same.new ht)
  · walk_at "x"
    cases st with
    | turn => exact absurd rfl e
    | mt b n =>
      obtain ⟨n0, n1⟩ := hg b n rfl
      refine x_lenT (SqT.of (up hp ht)) ?_
      walk_at "x"
      refine x_T ?_
      walk_at "x"
      refine x_ixT (SqT.of (up hp ht)) (i := 0) rfl ?_
      walk_at "x"
      refine ⟨sz rfl, fun u hu => x_inT (SqT.of upd_same) rfl rfl ?_⟩
      rw [show inV (V.str (roomS b)) [V.str "red", V.str "blue"] = true by cases b <;> decide +kernel]
      walk_at "x"
      refine x_ixT (SqT.of (up (up hp ht) hu)) (i := 1) rfl ?_
      walk_at "x"
      refine ⟨n, rfl, ?_⟩
      rw [decide_eq_true ⟨n0, n1⟩]
      exact k _ ((Same.new ht).trans (Same.new hu))
/-! ### Plan -/
abbrev CP (K : PySem.W.Frag) : Addr := ga K "Plan"
theorem ok_Plan_steps (W : Wd K mg) : FnR P w K mg base CX0 1 (gp "Plan" "steps" K) (fun vs H Q _ => ∃ p dx fs v, vs = [.ref p] ∧ H p = some (.ins (CP K) dx fs) ∧ fs.lookup ("parts" : Str) = some v ∧ Q v H) := by
  refine (def_ok W.F_Plan_steps sc_Plan_steps (fun _ _ _ _ _ _ us hl => match us, hl with | [_], _ => rfl) (fun vs H Q E ⟨p, dx, fs, v, e, _⟩ => by rw [e]; rfl) fun cdv A outer s H vs Q E hr ⟨p, dx, fs, v, e, hp, l, k⟩ => ?_).2
  subst e
  refine ⟨_, PSs.nox (pss_one (ps_ret (pe_fldK K (pv 0)))), ?_⟩
  walk_at "x"
  exact x_fldAt hp W.c_Plan W.n_Plan_parts l k
/-- __init__ on the tuple of the steps -/
def spPI (K : PySem.W.Frag) : Sp := fun vs H Q _ => ∃ (x t dx : Addr) (ps : List V) (l : List Stp), vs = [.ref x, .ref t] ∧ H x = some (.ins (CP K) dx []) ∧ H t = some (.tup ps) ∧ StepsAt H ps l ∧ goodP l ∧
  ∀ H', (∀ b o, b ≠ x → H b = some o → H' b = some o) → H' x = some (.ins (CP K) dx [("parts", .ref t)]) → Q .non H'
theorem ok_Plan_init (W : Wd K mg) : FnR P w K mg base CX0 3 (ma K (ga K "Plan") "__init__") (fun vs H Q E => ∃ ws rest, vs = ws ++ rest ∧ ws.length = ["self"].length ∧ rest.length ≤ sizeLine ∧ ∀ p, H p = none → spPI K (ws ++ [V.ref p]) (upd H p (.tup rest)) Q E) := by
  refine star_ok (ps := ["self"]) (pv := "steps") (sp := spPI K) W.F_Plan_init sc_Plan_init StX.cxUp_none (fun _ _ _ _ _ _ us rest hl => match us, rest, hl with | [_], [], _ => rfl | [_], _ :: _, _ => rfl) fun cdv A outer s H vs Q E hr ⟨x, t, dx, ps, l, e, hx, ht, hs, hg, k⟩ => ?_
  subst e
  have hl : ps.length = l.length := pr_len hs
  have h60 := hg.2
  refine ⟨_, PSs.nox (pss_cons (ps_for PassesOwn.never rfl (pi_enumTK K W.f_enumerate (pa_cons (pv 1) pa_nil)) (pg_tupK (n := 2) K rfl (pgs_cons (pg_name (i := 2) sc_Plan_init.nd rfl (Or.inl rfl)) (pgs_cons (pg_name (i := 3) sc_Plan_init.nd rfl (Or.inl rfl)) pgs_nil))) (pss_one (ps_if (PW.pt (pw_or (pt_cmpR (op_eqK K hr.units) (pv 2) (pe_cv W.g_Plan W.r_Plan W.v_Plan_MAX_STEPS rfl) (nomark _)) (pw_or1 (pt_not (pt_val (pe_callR (ok_is_step W) (hr.mono (by decide)) W.g_is_step W.k_is_step pass0 rfl (pa_cons (pv 3) pa_nil))))))) (pss_one ps_never) pss_nil))) (pss_one (ps_fldK K (pv 0) (pv 1)))), ?_⟩
  walk_at "x"
  refine x_iUAt (SqT.of ht) (x_loop walk_enumT (fun i σ H2 => (∃ a b, σ = [some (.ref x), some (.ref t), a, b]) ∧ Same H H2) ⟨⟨_, _, rfl⟩, Same.refl H⟩ (fun i σ H2 _ ⟨_, s2⟩ => SqT.of (s2 _ _ ht)) ?_ ?_)
  · rintro i y σ H2 H3 hi ⟨⟨a, b, rfl⟩, s2⟩ ⟨T, v1, v2, rfl, hT, rfl, e1, e2⟩
    cases e1
    have hi' : i < 60 := by omega
    obtain ⟨st, hst, p, rfl, hp⟩ := pr_at hs e2
    refine x_gTup upd_same rfl ?_
    walk_at "x"
    refine x_ifd (fun e => ?_) fun e => ?_
    · omega
    walk_at "x"
    have hp2 := up (u := .tup [.int (i : Nat), .ref p]) (s2 _ _ hp) hT
    refine ⟨p, st, rfl, hp2, hg.1 st (List.mem_of_getElem? hst), fun H4 s4 => ?_⟩
    walk_at "x"
    exact ⟨⟨_, _, rfl⟩, (s2.trans (Same.new hT)).trans s4⟩
  · rintro σ H2 ⟨⟨a, b, rfl⟩, s2⟩
    walk_at "x"
    refine x_setAt (s2 _ _ hx) W.c_Plan W.n_Plan_parts (by decide) ?_
    refine k _ (fun b o hb e => by rw [upd_ne hb]; exact s2 _ _ e) ?_
    rw [upd_same]
    rfl
/-- Plan(..) made -/
theorem mk_plan {vs : List V} {l : List Stp} {H : Hp} {kk : Addr → Hp → Prop} {E : XK} (hs : StepsAt H vs l) (hg : goodP l) (k : ∀ x H', H x = none → Same H H' → PlanAt (CP K) H' x l → kk x H') :
    ∀ x dx, H x = none → H dx = none → dx ≠ x → ∃ ws rest, V.ref x :: vs = ws ++ rest ∧ ws.length = ["self"].length ∧ rest.length ≤ sizeLine ∧
      ∀ p, (upd (upd H dx (.own x)) x (.ins (CP K) dx [])) p = none → spPI K (ws ++ [V.ref p]) (upd (upd (upd H dx (.own x)) x (.ins (CP K) dx [])) p (.tup rest)) (fun v H2 => v = .non ∧ kk x H2) E := by
  intro x dx hx hdx hne
  have hl : vs.length = l.length := pr_len hs
  have h60 := hg.2
  refine ⟨[.ref x], vs, rfl, rfl, sz5 (by omega), fun p hp => ?_⟩
  have s1 : Same H (upd (upd H dx (.own x)) x (.ins (CP K) dx [])) := Same.mut (Same.new hdx) hx
  have s2 := s1.trans (Same.new (o := .tup vs) hp)
  refine ⟨x, p, dx, vs, l, rfl, up upd_same hp, upd_same, hs.mono s2, hg, fun H' kp hx' => ⟨rfl, ?_⟩⟩
  have hpx : p ≠ x := by
    intro e
    rw [e, upd_same] at hp
    cases hp
  refine k x H' hx (fun b o e => kp b o (ne_of_none e hx) (s2 b o e)) ⟨dx, p, vs, hx', kp p _ hpx upd_same, ?_⟩
  refine pr_im ?_ (hs.mono s2)
  rintro v st ⟨q, e1, e2⟩
  refine ⟨q, e1, kp q _ ?_ e2⟩
  rintro rfl
  rw [upd_ne hpx.symm, upd_same] at e2
  cases e2
theorem ok_Plan_is_turning (W : Wd K mg) : FnR P w K mg base CX0 2 (gp "Plan" "is_turning" K) (fun vs H Q _ => ∃ p l, vs = [.ref p] ∧ PlanAt (CP K) H p l ∧ l.length ≤ 60 ∧ ∀ H', Same H H' → Q (.bl (turning l)) H') := by
  refine (def_ok W.F_Plan_is_turning sc_Plan_is_turning (fun _ _ _ _ _ _ us hl => match us, hl with | [_], _ => rfl) (fun vs H Q E ⟨p, l, e, _⟩ => by rw [e]; rfl) fun cdv A outer s H vs Q E hr ⟨p, l, e, hp, h60, k⟩ => ?_).2
  subst e
  obtain ⟨dx, t, vs, h1, h2, h3⟩ := hp.ex
  have hl : vs.length = l.length := pr_len h3
  refine ⟨_, PSs.nox (pss_one (ps_ret (pe_cmpR (op_eqK K hr.units) (pe_op op_modP (pe_callTy c_int (by rfl) W.f_int (by decide +kernel) (pa_cons (pe_callB (c_lenK K) (by rfl) W.f_len (by decide +kernel) (pa_cons (pe_lc (own := [("step", 1)]) (g := gName 1) rfl sc_Plan_is_turning.nd (pi_tupK K (pe_fldK K (pv 0))) (blkOk_by (own := [("step", 1)]) (N := N_Plan_is_turning) (sc := defScope s_Plan_is_turning) (by decide +kernel)) (fun _ _ _ _ _ => (pg_name (i := 1) sc_Plan_is_turning.nd rfl (Or.inl rfl))) (fun _ _ _ _ _ => (pts_one (pt_cmpR (op_eqK K hr.units) (pv 1) (pe_tup (pa_cons (pe_gs W.t_TURN rfl) pa_nil)) (nomark _)))) (fun _ _ _ _ _ => (pv 1))) pa_nil)) pa_nil)) pe_int) pe_int (nomark _)))), ?_⟩
  walk_at "x"
  refine x_fldAt h1 W.c_Plan W.n_Plan_parts rfl (x_iTAt (SqT.of h2) ?_)
  refine x_lcA walk_tup (fun i acc _ => acc.length = turns (l.take i)) (fun _ _ _ _ _ _ _ h => h) (fun _ _ => rfl) (by omega) (fun H' s1 => SqT.of (s1 _ _ h2)) ?_ ?_
  · rintro i x acc H1 H' NT NF hT hF hi s1 a1 ⟨rfl, e⟩
    obtain ⟨st, hst, q, rfl, hq⟩ := pr_at h3 e
    walk_at "x"
    refine ⟨rfl, ?_⟩
    walk_at "x"
    refine ⟨sz rfl, fun u hu => eq_turn (up (s1 _ _ hq) hu) upd_same ?_⟩
    walk_at "x"
    refine x_ifd (fun e => ?_) fun e => ?_
    · walk_at "x"
      refine hT _ _ (Same.new hu) ?_
      rw [turns_step hst, if_pos e, List.length_append, a1]
      rfl
    · refine hF _ (Same.new hu) ?_
      rw [turns_step hst, if_neg e, a1]
      rfl
  · rintro D acc H' hD s1 hD' a1 _
    walk_at "x"
    refine x_lenL (SqL.of hD') ?_
    walk_at "x"
    refine x_mod (by decide) ?_
    walk_at "x"
    rw [hl, List.take_length] at a1
    have e : decide ((acc.length : Int) % 2 = 1) = turning l := by
      rw [a1]
      unfold turning
      by_cases z : turns l % 2 = 1
      · rw [z, decide_eq_true (by omega)]
        rfl
      · rw [decide_eq_false (by omega)]
        symm
        exact beq_false_of_ne z
    rw [e]
    exact k _ s1
def spSides (K : PySem.W.Frag) : Sp := fun vs H Q _ => ∃ p l, vs = [.ref p] ∧ PlanAt (CP K) H p l ∧ l.length ≤ 60 ∧ ∀ r ps H', H r = none → Same H H' → H' r = some (.lst ps) → PairsAt H' ps (sides 1 l) → Q (.ref r) H'
theorem ok_sides_of (W : Wd K mg) : FnR P w K mg base CX0 3 (ga K "sides_of") (spSides K) := by
  refine (def_ok W.F_sides_of sc_sides_of (fun _ _ _ _ _ _ us hl => match us, hl with | [_], _ => rfl) (fun vs H Q E ⟨p, l, e, _⟩ => by rw [e]; rfl) fun cdv A outer s H vs Q E hr ⟨p, l, e, hp, h60, k⟩ => ?_).2
  subst e
  obtain ⟨dx, t, vs, h1, h2, h3⟩ := hp.ex
  have hl : vs.length = l.length := pr_len h3
  refine ⟨_, PSs.nox (pss_cons (ps_par (i := 1) (j := 2) (by rfl) sc_sides_of.nd rfl rfl (by decide) rfl rfl (pa_cons (pe_lst pa_nil) (pa_cons pe_int pa_nil)) (by rfl)) (pss_cons (ps_for PassesOwn.never rfl (pi_tupK K (pe_propR W.c_Plan W.p_Plan_steps (ok_Plan_steps W) (hr.mono (by decide)) (pv 0))) (pg_starK (n := 2) (i := 1) K rfl (pgs_cons (pg_name (i := 3) sc_sides_of.nd rfl (Or.inl rfl)) (pgs_star (pg_name (i := 4) sc_sides_of.nd rfl (Or.inl rfl)) pgs_nil))) (pss_one (ps_if (pt_cmpR (op_eqK K hr.units) (pv 3) (pe_gs W.t_TURN rfl) (nomark _)) (pss_cons (ps_set (i := 2) sc_sides_of.nd rfl (Or.inl rfl) (pe_op op_minus pe_int (pv 2))) (pss_one (ps_expr (pe_bmK K PySem.F.plainAttrs_list PySem.F.slot_list_append PySem.F.type_list_append mt_append (pv 1) (pa_cons (pe_tup (pa_cons pe_int (pa_cons pe_int pa_nil))) pa_nil))))) (pss_one (ps_expr (pe_bmK K PySem.F.plainAttrs_list PySem.F.slot_list_append PySem.F.type_list_append mt_append (pv 1) (pa_cons (pe_tup (pa_cons (pe_ifExp (pt_cmpR (op_eqK K hr.units) (pv 3) (pe_gs W.t_RED rfl) (nomark _)) (pv 2) (pe_op op_minus pe_int (pv 2))) (pa_cons (pe_ix (ix_K K) (pv 4) pe_int (fun _ _ => rfl)) pa_nil))) pa_nil))))))) (pss_one (ps_ret (pv 1))))), ?_⟩
  walk_at "x"
  refine ⟨sz rfl, fun r hr0 => ?_⟩
  walk_at "x"
  refine ⟨_, _, rfl, ?_⟩
  walk_at "x"
  refine x_propAt (up h1 hr0) ⟨p, dx, _, _, rfl, up h1 hr0, rfl, ?_⟩
  refine x_iTAt (SqT.of (up h2 hr0)) (x_loop walk_tup (fun i σ H2 => (∃ a b, σ = [some (.ref p), some (.ref r), some (.int (sideAt 1 (l.take i))), a, b]) ∧ Same H H2 ∧ ∃ ps, H2 r = some (.lst ps) ∧ PairsAt H2 ps (sides 1 (l.take i))) ⟨⟨_, _, rfl⟩, Same.new hr0, [], upd_same, .nil⟩ (fun i σ H2 _ ⟨_, s2, _⟩ => SqT.of (s2 _ _ h2)) ?_ ?_)
  · rintro i y σ H2 H3 hi ⟨⟨a, b, rfl⟩, s2, ps, hps, hpp⟩ ⟨rfl, ey⟩
    obtain ⟨st, hst, q, rfl, hq⟩ := pr_at h3 ey
    have hq2 := s2 _ _ hq
    have tk : l.take (i + 1) = l.take i ++ [st] := by rw [List.take_add_one, hst]; rfl
    have lps : ps.length = (sides 1 (l.take i)).length := pr_len hpp
    rw [sides_len, List.length_take] at lps
    cases st with
    | turn =>
      refine x_star1 hq2 fun d hd => ?_
      walk_at "x"
      refine x_T ?_
      walk_at "x"
      refine ⟨ty_lst (up hps hd), ?_⟩
      walk_at "x"
      refine ⟨sz rfl, fun u hu => ?_⟩
      walk_at "x"
      refine x_app (up (up hps hd) hu) (sz5' (by omega)) ?_
      have s3 : Same H3 (upd (upd H3 d (.lst [])) u (.tup (pairV (0, 0)))) := (Same.new hd).trans (Same.new hu)
      walk_at "x"
      refine ⟨?_, ?_, _, upd_same, ?_⟩
      · rw [tk, sideAt_snoc]
        exact ⟨_, _, rfl⟩
      · exact Same.mut (s2.trans s3) hr0
      · rw [tk, sides_snoc]
        refine pr_snoc ?_ ⟨u, rfl, ?_⟩
        · exact hpp.mono2 s3 (s3 _ _ hps)
        · rw [upd_ne (ne_of upd_same (s3 _ _ hps) (by intro z; cases z))]
          exact upd_same
    | mt c n =>
      refine x_star2 hq2 fun d hd => ?_
      walk_at "x"
      rw [show decide (roomS c = ("turn" : Str)) = false by cases c <;> decide +kernel]
      walk_at "x"
      refine ⟨ty_lst (up hps hd), ?_⟩
      walk_at "x"
      rw [show decide (roomS c = ("red" : Str)) = c by cases c <;> decide +kernel]
      have fin : ∀ (z : Int), z = (if c then sideAt 1 (l.take i) else 0 - sideAt 1 (l.take i)) → ∀ u, (upd H3 d (.lst [.int n])) u = none →
          (∃ a b, [some (V.ref p), some (.ref r), some (.int (sideAt 1 (l.take i))), some (.str (roomS c)), some (.ref d)] = [some (.ref p), some (.ref r), some (.int (sideAt 1 (l.take (i + 1)))), a, b]) ∧
          Same H (upd (upd (upd H3 d (.lst [.int n])) u (.tup [.int z, .int n])) r (.lst (ps ++ [.ref u]))) ∧
          ∃ qs, upd (upd (upd H3 d (.lst [.int n])) u (.tup [.int z, .int n])) r (.lst (ps ++ [.ref u])) r = some (.lst qs) ∧
            PairsAt (upd (upd (upd H3 d (.lst [.int n])) u (.tup [.int z, .int n])) r (.lst (ps ++ [.ref u]))) qs (sides 1 (l.take (i + 1))) := by
        intro z ez u hu
        have s3 : Same H3 (upd (upd H3 d (.lst [.int n])) u (.tup [.int z, .int n])) := (Same.new hd).trans (Same.new hu)
        refine ⟨?_, Same.mut (s2.trans s3) hr0, _, upd_same, ?_⟩
        · rw [tk, sideAt_snoc]
          exact ⟨_, _, rfl⟩
        · rw [tk, sides_snoc]
          refine pr_snoc (hpp.mono2 s3 (s3 _ _ hps)) ⟨u, rfl, ?_⟩
          rw [upd_ne (ne_of upd_same (s3 _ _ hps) (by intro z; cases z)), ez]
          exact upd_same
      have ix : ∀ (H4 : Hp), Same (upd H3 d (.lst [.int n])) H4 → SqL K H4 d [.int n] := fun H4 e => SqL.of (e _ _ upd_same)
      cases c with
      | true =>
        walk_at "x"
        refine x_ixL (ix _ (Same.refl _)) (i := 0) rfl ?_
        walk_at "x"
        refine ⟨sz rfl, fun u hu => ?_⟩
        walk_at "x"
        refine x_app (up (up hps hd) hu) (sz5' (by omega)) ?_
        walk_at "x"
        exact fin _ rfl u hu
      | false =>
        walk_at "x"
        refine x_ixL (ix _ (Same.refl _)) (i := 0) rfl ?_
        walk_at "x"
        refine ⟨sz rfl, fun u hu => ?_⟩
        walk_at "x"
        refine x_app (up (up hps hd) hu) (sz5' (by omega)) ?_
        walk_at "x"
        exact fin _ rfl u hu
  · rintro σ H2 ⟨⟨a, b, rfl⟩, s2, ps, hps, hpp⟩
    walk_at "x"
    rw [hl, List.take_length] at hpp
    exact k r ps _ hr0 s2 hps hpp
def spVH (K : PySem.W.Frag) : Sp := fun vs H Q _ => ∃ (p : Addr) (c : Int) (l : List Stp), vs = [.ref p, .int c] ∧ PlanAt (CP K) H p l ∧ l.length ≤ 60 ∧ 0 ≤ c ∧ c ≤ 1000000000000000000 ∧ fitsS c l ∧ ∀ H', Same H H' → Q .non H'
theorem ok_validate_house (W : Wd K mg) : FnR P w K mg base CX0 4 (ga K "validate_house") (spVH K) := by
  refine (def_ok W.F_validate_house sc_validate_house (fun _ _ _ _ _ _ us hl => match us, hl with | [_, _], _ => rfl) (fun vs H Q E ⟨p, c, l, e, _⟩ => by rw [e]; rfl) fun cdv A outer s H vs Q E hr ⟨p, c, l, e, hp, h60, c0, c1, hf, k⟩ => ?_).2
  subst e
  refine ⟨_, PSs.nox (pss_cons (ps_if (pt_not (pt_chain op_leI op_leI pe_int (pv 1) (pe_cv W.g_Plan W.r_Plan W.v_Plan_MAX_CHAIRS rfl))) (pss_one ps_never) pss_nil) (pss_one (ps_for PassesOwn.never rfl (pi_enumK K W.f_enumerate (pa_cons (pe_callR (ok_sides_of W) (hr.mono (by decide)) W.g_sides_of W.k_sides_of pass0 rfl (pa_cons (pv 0) pa_nil)) pa_nil)) (pg_tupK (n := 2) K rfl (pgs_cons (pg_name (i := 2) sc_validate_house.nd rfl (Or.inl rfl)) (pgs_cons (pg_tupK (n := 2) K rfl (pgs_cons (pg_name (i := 3) sc_validate_house.nd rfl (Or.inl rfl)) (pgs_cons (pg_name (i := 4) sc_validate_house.nd rfl (Or.inl rfl)) pgs_nil))) pgs_nil))) (pss_one (ps_if (pt_cmpR op_gtI (pv 4) (pv 1) (nomark _)) (pss_one ps_never) pss_nil))))), ?_⟩
  walk_at "x"
  rw [decide_eq_true c0]
  walk_at "x"
  rw [decide_eq_true c1]
  walk_at "x"
  refine ⟨p, l, rfl, hp, h60, fun r ps H1 hr0 s1 hps hpp => ?_⟩
  walk_at "x"
  have fp : fits c (sides 1 l) := sides_fits l 1 (.inl rfl) c0 hf
  refine x_iEAt (SqL.of hps) (x_loop walk_enum (fun i σ H2 => (∃ a b d, σ = [some (.ref p), some (.int c), a, b, d]) ∧ Same H1 H2) ⟨⟨_, _, _, rfl⟩, Same.refl _⟩ (fun i σ H2 _ ⟨_, s2⟩ => SqL.of (s2 _ _ hps)) ?_ ?_)
  · rintro i y σ H2 H3 hi ⟨⟨a, b, d, rfl⟩, s2⟩ ⟨T, v1, v2, rfl, hT, rfl, e1, e2⟩
    cases e1
    obtain ⟨⟨sd, n⟩, hst, q, rfl, hq⟩ := pr_at hpp e2
    have hf2 := (fp _ (List.mem_of_getElem? hst)).2.2
    refine x_gTup upd_same rfl ?_
    walk_at "x"
    refine x_gTup (up (s2 _ _ hq) hT) rfl ?_
    unfold pairV
    walk_at "x"
    refine x_ifd (fun e => ?_) fun e => ?_
    · exact absurd hf2 (by show ¬ n ≤ c; omega)
    walk_at "x"
    exact ⟨⟨_, _, _, rfl⟩, s2.trans (Same.new hT)⟩
  · rintro σ H2 ⟨⟨a, b, d, rfl⟩, s2⟩
    exact k _ (s1.trans s2)
/-- joined with other plans -/
def PlansAt (C : Addr) (H : Hp) : List V → List (List Stp) → Prop := Paired fun v m => ∃ p, v = .ref p ∧ PlanAt C H p m
theorem PlansAt.mono {C : Addr} {H H' : Hp} {vs : List V} {ms : List (List Stp)} (e : Same H H') (h : PlansAt C H vs ms) : PlansAt C H' vs ms := pr_im (fun _ _ ⟨p, e1, e2⟩ => ⟨p, e1, e2.mono e⟩) h
def spJ (K : PySem.W.Frag) : Sp := fun vs H Q _ => ∃ (p t : Addr) (l : List Stp) (qs : List V) (ms : List (List Stp)), vs = [.ref p, .ref t] ∧ PlanAt (CP K) H p l ∧ H t = some (.tup qs) ∧ PlansAt (CP K) H qs ms ∧ goodP (l ++ ms.flatten) ∧ ∀ x H', H x = none → Same H H' → PlanAt (CP K) H' x (l ++ ms.flatten) → Q (.ref x) H'
theorem flat_take {ms : List (List Stp)} (i : Nat) : ((ms.take i).flatten).length ≤ ms.flatten.length := by
  have e : ms = ms.take i ++ ms.drop i := (List.take_append_drop i ms).symm
  have : ms.flatten = (ms.take i).flatten ++ (ms.drop i).flatten := by rw [← List.flatten_append, ← e]
  rw [this, List.length_append]
  omega
theorem ok_Plan_joined (W : Wd K mg) : FnR P w K mg base CX0 5 (ma K (ga K "Plan") "joined") (fun vs H Q E => ∃ ws rest, vs = ws ++ rest ∧ ws.length = ["self"].length ∧ rest.length ≤ sizeLine ∧ ∀ p, H p = none → spJ K (ws ++ [V.ref p]) (upd H p (.tup rest)) Q E) := by
  refine star_ok (ps := ["self"]) (pv := "others") (sp := spJ K) W.F_Plan_joined sc_Plan_joined StX.cxUp_none (fun _ _ _ _ _ _ us rest hl => match us, rest, hl with | [_], [], _ => rfl | [_], _ :: _, _ => rfl) fun cdv A outer s H vs Q E hr ⟨p, t, l, qs, ms, e, hp, ht, hq, hg, k⟩ => ?_
  subst e
  obtain ⟨dx, tp, ps, h1, h2, h3⟩ := hp.ex
  have l1 : ps.length = l.length := pr_len h3
  have h60 := hg.2
  rw [List.length_append] at h60
  refine ⟨_, PSs.nox (pss_cons (ps_set (i := 2) sc_Plan_joined.nd rfl (Or.inl rfl) (pe_callTy (c_listK K) (by rfl) W.f_list (by decide +kernel) (pa_cons (pe_fldK K (pv 0)) pa_nil))) (pss_cons (ps_for PassesOwn.never rfl (pi_tupK K (pv 1)) (pg_name (i := 3) sc_Plan_joined.nd rfl (Or.inl rfl)) (pss_one (ps_expr (pe_bmK K PySem.F.plainAttrs_list PySem.F.slot_list_extend PySem.F.type_list_extend mt_extend (pv 2) (pa_cons (pe_callTy (c_listK K) (by rfl) W.f_list (by decide +kernel) (pa_cons (pe_propR W.c_Plan W.p_Plan_steps (ok_Plan_steps W) (hr.mono (by decide)) (pv 3)) pa_nil)) pa_nil))))) (pss_one (ps_ret (pe_mkS W.mk_Plan (ok_Plan_init W) (hr.mono (by decide)) W.g_Plan pass0 rfl (pv 2)))))), ?_⟩
  walk_at "x"
  refine x_fldAt h1 W.c_Plan W.n_Plan_parts rfl ?_
  walk_at "x"
  refine x_listT (SqT.of h2) fun r hr0 => ?_
  walk_at "x"
  refine x_iTAt (SqT.of (up ht hr0)) (x_loop walk_tup (fun i σ H2 => (∃ a, σ = [some (.ref p), some (.ref t), some (.ref r), a]) ∧ Same H H2 ∧ ∃ zs, H2 r = some (.lst zs) ∧ StepsAt H2 zs (l ++ (ms.take i).flatten)) ⟨⟨_, rfl⟩, Same.new hr0, ps, upd_same, by rw [List.take_zero]; show StepsAt _ ps (l ++ []); rw [List.append_nil]; exact h3.mono (Same.new hr0)⟩ (fun i σ H2 _ ⟨_, s2, _⟩ => SqT.of (s2 _ _ ht)) ?_ ?_)
  · rintro i y σ H2 H3 hi ⟨⟨a, rfl⟩, s2, zs, hrr, hz⟩ ⟨rfl, ey⟩
    obtain ⟨m, hm, q, rfl, hqm⟩ := pr_at hq ey
    obtain ⟨dy, tq, rs, g1, g2, g3⟩ := (hqm.mono s2).ex
    have tk : ms.take (i + 1) = ms.take i ++ [m] := by rw [List.take_add_one, hm]; rfl
    have lz : zs.length = (l ++ (ms.take i).flatten).length := pr_len hz
    have lr : rs.length = m.length := pr_len g3
    have f1 := flat_take (ms := ms) (i + 1)
    rw [tk, List.flatten_append, List.length_append] at f1
    have f2 : [m].flatten = m := by simp
    rw [f2] at f1
    rw [List.length_append] at lz
    walk_at "x"
    refine ⟨ty_lst hrr, ?_⟩
    walk_at "x"
    refine x_propAt g1 ⟨q, dy, _, _, rfl, g1, rfl, ?_⟩
    walk_at "x"
    refine x_listT (SqT.of g2) fun u hu => ?_
    walk_at "x"
    refine ⟨r, u, zs, rs, rfl, rfl, up hrr hu, upd_same, sz5 (by omega), ?_⟩
    walk_at "x"
    have hu2 : u ≠ r := (ne_of_none hrr hu).symm
    have kp : ∀ b o, b ≠ r → H3 b = some o → (upd (upd H3 u (.lst rs)) r (.lst (zs ++ rs))) b = some o := fun b o n e => by
      rw [upd_ne n, upd_ne (ne_of_none e hu)]
      exact e
    refine ⟨⟨_, rfl⟩, fun b o e => ?_, zs ++ rs, upd_same, ?_⟩
    · exact kp b o (ne_of_none e hr0) (s2 _ _ e)
    · rw [tk, List.flatten_append, f2, ← List.append_assoc]
      exact pr_im (fun _ _ ⟨p, e1, e2⟩ => ⟨p, e1, kp p _ (ne_of e2 hrr (fun z => nomatch z)) e2⟩) (pr_app hz g3)
  · rintro σ H2 ⟨⟨a, rfl⟩, s2, zs, hrr, hz⟩
    rw [pr_len hq, List.take_length] at hz
    walk_at "x"
    refine ⟨r, _, rfl, .inr (SqL.of hrr), ?_⟩
    refine mk_plan (l := l ++ ms.flatten) hz hg fun x H' hx s3 hP => ?_
    exact k x H' (s2.free hx) (s2.trans s3) hP
end
end K08

set_option Elab.async false
set_option linter.all false
set_option autoImplicit false
set_option maxRecDepth 100000
set_option pp.maxSteps 500
set_option maxHeartbeats 4000000
namespace K08
open PySem PySem.Spec PyProof.Rows L2 He ChH Ch ChM
local macro_rules | `(tactic| walk_at "x1") => `(tactic| first
  | ((with_reducible apply x_var); exact rfl)
  | with_reducible refine x_c ?_
  | with_reducible refine x_op ?_
  | with_reducible refine x_seq ?_
  | with_reducible refine x_asg ?_
  | with_reducible refine x_gname ?_
  | with_reducible refine x_cons ?_
  | with_reducible refine x_nil ?_
  | with_reducible refine x_fld ?_
  | with_reducible refine x_ret ?_
  | with_reducible refine x_ifS ?_
  | with_reducible refine x_test ?_
  | with_reducible refine x_ex ?_
  | with_reducible refine x_call ?_
  | with_reducible refine x_mk ?_
  | with_reducible refine x_meth ?_
  | with_reducible refine x_prop ?_
  | with_reducible refine x_cb ?_
  | with_reducible refine x_tup ?_
  | with_reducible refine x_lst ?_
  | with_reducible refine x_drop ?_
  | with_reducible refine x_for ?_
  | with_reducible refine x_iL ?_
  | with_reducible refine x_iT ?_
  | with_reducible refine x_iE ?_
  | with_reducible refine x_iU ?_
  | with_reducible refine x_iR1 ?_
  | with_reducible refine x_iR2 ?_
  | with_reducible refine x_gcons ?_
  | with_reducible refine x_gnil ?_
  | with_reducible refine x_par ?_
  | with_reducible refine x_lstRg ?_
  | with_reducible refine x_rg1 ?_
  | with_reducible refine x_rg1At ?_
  | with_reducible refine x_par3 ?_
  | with_reducible refine x_bm ?_
  | with_reducible refine x_bm0 ?_
  | with_reducible refine x_gSub ?_
  | with_reducible refine x_lc ?_
  | with_reducible refine x_yes ?_
  | with_reducible refine x_setf ?_
  | with_reducible refine x_next ?_
  | with_reducible refine x_B ?_
  | with_reducible refine x_and ?_
  | with_reducible refine x_or ?_
  | with_reducible refine x_not ?_
  | with_reducible refine x_andV ?_
  | with_reducible refine x_orV ?_
  | with_reducible refine x_notV ?_
  | with_reducible refine x_ifE ?_
  | with_reducible refine x_chain ?_
  | with_reducible refine x_chain3 ?_
  | with_reducible refine x_un ?_
  | with_reducible refine x_isNe ?_
  | with_reducible refine x_notNe ?_
  | with_reducible refine x_starA ?_
  | with_reducible refine x_plusI ?_
  | with_reducible refine x_minus ?_
  | with_reducible refine x_lt ?_
  | with_reducible refine x_le ?_
  | with_reducible refine x_gt ?_
  | with_reducible refine x_ge ?_
  | with_reducible refine x_eqI ?_
  | with_reducible refine x_neI ?_
  | with_reducible refine x_eqS ?_
  | with_reducible refine x_eqB ?_
  | with_reducible refine x_neB ?_
  | with_reducible refine x_int ?_
  | with_reducible refine x_intB ?_
  | with_reducible refine x_max2 ?_
  | with_reducible refine x_min2 ?_
  | with_reducible refine x_max3 ?_
  | with_reducible refine x_abs ?_
  | with_reducible refine x_neg ?_
  | with_reducible refine x_isi_ii ?_
  | with_reducible refine x_isi_ib ?_
  | with_reducible refine x_T ?_
  | with_reducible refine x_nT ?_
  | with_reducible refine x_nF ?_
  | with_reducible refine x_F ?_)
local macro_rules | `(tactic| walk_at "x") => `(tactic| repeat walk_at "x1")

local macro_rules | `(tactic| walk_at "eff") => `(tactic| first
  | refine x_eff (by assumption) (Wd.c_Effect (by assumption)) (Wd.n_Effect_chairs (by assumption)) eff_chairs ?_
  | refine x_eff (by assumption) (Wd.c_Effect (by assumption)) (Wd.n_Effect_low (by assumption)) eff_low ?_
  | refine x_eff (by assumption) (Wd.c_Effect (by assumption)) (Wd.n_Effect_high (by assumption)) eff_high ?_
  | refine x_eff (by assumption) (Wd.c_Effect (by assumption)) (Wd.n_Effect_extra (by assumption)) eff_extra ?_
  | refine x_eff (by assumption) (Wd.c_Effect (by assumption)) (Wd.n_Effect_goal (by assumption)) eff_goal ?_
  | refine x_eff (by assumption) (Wd.c_Effect (by assumption)) (Wd.n_Effect_turned (by assumption)) eff_turned ?_)
local macro_rules | `(tactic| walk_at "y") => `(tactic| repeat (first | walk_at "x1" | walk_at "eff"))

section
variable {P : Program} {w : World} {K : PySem.W.Frag} {mg : Str → Option Value} {base : Heap}
abbrev CE (K : PySem.W.Frag) : Addr := ga K "Effect"
theorem x_effM {C : Addr} {H : Hp} {p : Addr} {e : Eff} {m : Str} {kk : Addr → Hp → Prop} (h : EffAt C H p e) (l : (effF e).lookup m = none) (k : kk p H) : rMeth C m kk (.ref p) H := let ⟨_, q⟩ := h; x_methAt q l k
def spEI (K : PySem.W.Frag) : Sp := fun vs H Q _ => ∃ (x dx : Addr) (c lo hi ex : Int) (g : Option Int) (t : Bool), vs = [.ref x, .int c, .int lo, .int hi, .int ex, goalV g, .bl t] ∧ H x = some (.ins (CE K) dx []) ∧
  Q .non (upd H x (.ins (CE K) dx (effF (mkE c lo hi ex g t))))
theorem goal_non {g : Option Int} : decide (goalV g = V.non) = decide (g = none) := by
  cases g <;> rfl
theorem ok_Effect_init (W : Wd K mg) : FnR P w K mg base CX0 1 (ma K (ga K "Effect") "__init__") (spEI K) := by
  refine (def_ok W.F_Effect_init sc_Effect_init (fun _ _ _ _ _ _ us hl => match us, hl with | [_, _, _, _, _, _, _], _ => rfl) (fun vs H Q E ⟨x, dx, c, lo, hi, ex, g, t, e, _⟩ => by rw [e]; rfl) fun cdv A outer s H vs Q E hr ⟨x, dx, c, lo, hi, ex, g, t, e, hx, k⟩ => ?_).2
  subst e
  refine ⟨_, PSs.nox (pss_cons (ps_fldK K (pv 0) (pv 1)) (pss_cons (ps_fldK K (pv 0) (pv 2)) (pss_cons (ps_fldK K (pv 0) (pv 3)) (pss_cons (ps_fldK K (pv 0) (pv 4)) (pss_cons (ps_fldK K (pv 0) (pe_ifExp (PW.pt (pw_and (pt_cmp (pc_isN (pv 5))) (pw_and1 (pt_cmpR (op_eqK K hr.units) (pv 2) (pv 3) (nomark _))))) (pv 2) (pv 5))) (pss_one (ps_fldK K (pv 0) (pv 6)))))))), ?_⟩
  walk_at "x"
  refine x_setAt hx W.c_Effect W.n_Effect_chairs (by decide) ?_
  walk_at "x"
  refine x_setAt upd_same W.c_Effect W.n_Effect_low (of_decide_eq_true (by kernel_rfl)) ?_
  rw [upd_upd]
  walk_at "x"
  refine x_setAt upd_same W.c_Effect W.n_Effect_high (of_decide_eq_true (by kernel_rfl)) ?_
  rw [upd_upd]
  walk_at "x"
  refine x_setAt upd_same W.c_Effect W.n_Effect_extra (of_decide_eq_true (by kernel_rfl)) ?_
  rw [upd_upd]
  walk_at "x"
  rw [goal_non]
  have fin : ∀ g2 : Option Int, g2 = (if g = none ∧ lo = hi then some lo else g) → sFld K (tVar 0) (tVar 6) "turned" { nx := fun _ H' => Q .non H', rt := Q } [some (.ref x), some (.int c), some (.int lo), some (.int hi), some (.int ex), some (goalV g), some (.bl t)]
      (upd H x (.ins (CE K) dx (putF "goal" (goalV g2) (putF "extra" (.int ex) (putF "high" (.int hi) (putF "low" (.int lo) (putF "chairs" (.int c) []))))))) := by
    intro g2 e
    walk_at "x"
    refine x_setAt upd_same W.c_Effect W.n_Effect_turned (of_decide_eq_true (by kernel_rfl)) ?_
    rw [upd_upd]
    have ee : putF "turned" (.bl t) (putF "goal" (goalV g2) (putF "extra" (.int ex) (putF "high" (.int hi) (putF "low" (.int lo) (putF "chairs" (.int c) []))))) = effF (mkE c lo hi ex g t) := by
      unfold mkE
      rw [← e]
      kernel_rfl
    rw [ee]
    exact k
  refine x_ifd (fun e1 => ?_) fun e1 => ?_
  · walk_at "x"
    refine x_ifd (fun e2 => ?_) fun e2 => ?_
    · walk_at "x"
      refine x_setAt upd_same W.c_Effect W.n_Effect_goal (of_decide_eq_true (by kernel_rfl)) ?_
      rw [upd_upd]
      exact fin (some lo) (by rw [if_pos ⟨e1, e2⟩])
    · walk_at "x"
      refine x_setAt upd_same W.c_Effect W.n_Effect_goal (of_decide_eq_true (by kernel_rfl)) ?_
      rw [upd_upd]
      exact fin g (by rw [if_neg (fun z => e2 z.2)])
  · walk_at "x"
    refine x_setAt upd_same W.c_Effect W.n_Effect_goal (of_decide_eq_true (by kernel_rfl)) ?_
    rw [upd_upd]
    exact fin g (by rw [if_neg (fun z => e1 z.1)])
theorem mk_eff {c lo hi ex : Int} {g : Option Int} {gv : V} {t : Bool} {H : Hp} {kk : Addr → Hp → Prop} {E : XK} (eg : gv = goalV g) (k : ∀ x H', H x = none → Same H H' → EffAt (CE K) H' x (mkE c lo hi ex g t) → kk x H') :
    ∀ x dx, H x = none → H dx = none → dx ≠ x → spEI K [.ref x, .int c, .int lo, .int hi, .int ex, gv, .bl t] (upd (upd H dx (.own x)) x (.ins (CE K) dx [])) (fun v H2 => v = .non ∧ kk x H2) E := by
  intro x dx hx hdx hne
  refine ⟨x, dx, c, lo, hi, ex, g, t, by rw [eg], upd_same, rfl, ?_⟩
  rw [upd_upd]
  exact k x _ hx (Same.mut (Same.new hdx) hx) ⟨dx, upd_same⟩
def spE1 (K : PySem.W.Frag) (f : Eff → Int → Eff) : Sp := fun vs H Q _ => ∃ (p : Addr) (e : Eff) (n : Int), vs = [.ref p, .int n] ∧ EffAt (CE K) H p e ∧ ∀ x H', Same H H' → EffAt (CE K) H' x (f e n) → Q (.ref x) H'
theorem ok_Effect_at_least (W : Wd K mg) : FnR P w K mg base CX0 3 (ma K (ga K "Effect") "at_least") (spE1 K Eff.atLeast) := by
  refine (def_ok W.F_Effect_at_least sc_Effect_at_least (fun _ _ _ _ _ _ us hl => match us, hl with | [_, _], _ => rfl) (fun vs H Q E ⟨p, e, n, ev, _⟩ => by rw [ev]; rfl) fun cdv A outer s H vs Q E hr ⟨p, e, n, ev, hp, k⟩ => ?_).2
  subst ev
  refine ⟨_, PSs.nox (pss_cons (ps_if (pt_cmp (pc_isN (pe_fldK K (pv 0)))) (pss_cons (ps_if (pt_cmpR op_leI (pv 1) (pe_fldK K (pv 0)) (nomark _)) (pss_one (ps_ret (pe_mk W.mk_Effect (ok_Effect_init W) (hr.mono (by decide)) W.g_Effect pass0 rfl (pa_cons (pe_fldK K (pv 0)) (pa_cons (pe_callB (c_max2 rfl) (by rfl) W.f_max (by decide +kernel) (pa_cons (pe_fldK K (pv 0)) (pa_cons (pv 1) pa_nil))) (pa_cons (pe_fldK K (pv 0)) (pa_cons pe_int (pa_cons pe_non (pa_cons (pe_fldK K (pv 0)) pa_nil))))))))) pss_nil) (pss_one (ps_ret (pe_mk W.mk_Effect (ok_Effect_init W) (hr.mono (by decide)) W.g_Effect pass0 rfl (pa_cons (pe_fldK K (pv 0)) (pa_cons (pe_fldK K (pv 0)) (pa_cons (pe_fldK K (pv 0)) (pa_cons (pe_op op_minus (pv 1) (pe_fldK K (pv 0))) (pa_cons (pv 1) (pa_cons (pe_fldK K (pv 0)) pa_nil)))))))))) pss_nil) (pss_cons (ps_if (pt_cmpR op_leI (pv 1) (pe_fldK K (pv 0)) (nomark _)) (pss_one (ps_ret (pv 0))) pss_nil) (pss_one (ps_ret (pe_mk W.mk_Effect (ok_Effect_init W) (hr.mono (by decide)) W.g_Effect pass0 rfl (pa_cons (pe_fldK K (pv 0)) (pa_cons (pe_fldK K (pv 0)) (pa_cons (pe_fldK K (pv 0)) (pa_cons (pe_op op_minus (pe_op op_plus (pe_fldK K (pv 0)) (pv 1)) (pe_fldK K (pv 0))) (pa_cons (pv 1) (pa_cons (pe_fldK K (pv 0)) pa_nil))))))))))), ?_⟩
  unfold Eff.atLeast at k
  walk_at "y"
  rw [goal_non]
  cases g : e.goal with
  | none =>
    rw [g] at k
    dsimp only at k
    refine x_T ?_
    walk_at "y"
    refine x_ifd (fun h => ?_) fun h => ?_
    · rw [if_pos h] at k
      walk_at "y"
      exact mk_eff (g := none) rfl fun x H' _ s1 he => k x H' s1 he
    · rw [if_neg h] at k
      walk_at "y"
      exact mk_eff (g := some n) rfl fun x H' _ s1 he => k x H' s1 he
  | some y =>
    rw [g] at k
    dsimp only at k
    refine x_F ?_
    walk_at "y"
    rw [g]
    refine x_le ?_
    walk_at "y"
    refine x_ifd (fun h => ?_) fun h => ?_
    · rw [if_pos h] at k
      walk_at "y"
      exact k p H (Same.refl H) hp
    · rw [if_neg h] at k
      walk_at "y"
      rw [g]
      refine x_minus ?_
      walk_at "y"
      exact mk_eff (g := some n) rfl fun x H' _ s1 he => k x H' s1 he
theorem ok_Effect_mirrored (W : Wd K mg) : FnR P w K mg base CX0 3 (ma K (ga K "Effect") "mirrored") (fun vs H Q _ => ∃ (p : Addr) (e : Eff), vs = [.ref p] ∧ EffAt (CE K) H p e ∧ ∀ x H', Same H H' → EffAt (CE K) H' x e.mir → Q (.ref x) H') := by
  refine (def_ok W.F_Effect_mirrored sc_Effect_mirrored (fun _ _ _ _ _ _ us hl => match us, hl with | [_], _ => rfl) (fun vs H Q E ⟨p, e, ev, _⟩ => by rw [ev]; rfl) fun cdv A outer s H vs Q E hr ⟨p, e, ev, hp, k⟩ => ?_).2
  subst ev
  refine ⟨_, PSs.nox (pss_cons (ps_set (i := 1) sc_Effect_mirrored.nd rfl (Or.inl rfl) (pe_ifExp (pt_cmp (pc_isN (pe_fldK K (pv 0)))) pe_non (pe_op op_minus (pe_fldK K (pv 0)) (pe_fldK K (pv 0))))) (pss_one (ps_ret (pe_mk W.mk_Effect (ok_Effect_init W) (hr.mono (by decide)) W.g_Effect pass0 rfl (pa_cons (pe_fldK K (pv 0)) (pa_cons (pe_op op_minus (pe_fldK K (pv 0)) (pe_fldK K (pv 0))) (pa_cons (pe_op op_minus (pe_fldK K (pv 0)) (pe_fldK K (pv 0))) (pa_cons (pe_fldK K (pv 0)) (pa_cons (pv 1) (pa_cons (pe_fldK K (pv 0)) pa_nil)))))))))), ?_⟩
  unfold Eff.mir at k
  walk_at "y"
  rw [goal_non]
  cases g : e.goal with
  | none =>
    rw [g] at k
    refine x_T ?_
    walk_at "y"
    exact mk_eff (g := none) rfl fun x H' _ s1 he => k x H' s1 he
  | some y =>
    rw [g] at k
    refine x_F ?_
    walk_at "y"
    rw [g]
    refine x_minus ?_
    walk_at "y"
    exact mk_eff (g := some (e.c - y)) rfl fun x H' _ s1 he => k x H' s1 he
theorem ok_Effect_at_most (W : Wd K mg) : FnR P w K mg base CX0 4 (ma K (ga K "Effect") "at_most") (spE1 K Eff.atMost) := by
  refine (def_ok W.F_Effect_at_most sc_Effect_at_most (fun _ _ _ _ _ _ us hl => match us, hl with | [_, _], _ => rfl) (fun vs H Q E ⟨p, e, n, ev, _⟩ => by rw [ev]; rfl) fun cdv A outer s H vs Q E hr ⟨p, e, n, ev, hp, k⟩ => ?_).2
  subst ev
  refine ⟨_, PSs.nox (pss_one (ps_ret (pe_methR0 W.c_Effect W.m_Effect_mirrored (ok_Effect_mirrored W) (hr.mono (by decide)) pass0 (pe_methR W.c_Effect W.m_Effect_at_least (ok_Effect_at_least W) (hr.mono (by decide)) pass0 (pe_methR0 W.c_Effect W.m_Effect_mirrored (ok_Effect_mirrored W) (hr.mono (by decide)) pass0 (pv 0)) (pa_cons (pe_op op_minus (pe_fldK K (pv 0)) (pv 1)) pa_nil))))), ?_⟩
  walk_at "y"
  refine x_effM hp (by kernel_rfl) ?_
  walk_at "y"
  refine ⟨p, e, rfl, hp, fun x1 H1 s1 h1 => ?_⟩
  refine x_effM h1 (by kernel_rfl) ?_
  have hp1 := hp.mono s1
  walk_at "y"
  refine ⟨x1, e.mir, e.c - n, rfl, h1, fun x2 H2 s2 h2 => ?_⟩
  refine x_effM h2 (by kernel_rfl) ?_
  walk_at "y"
  exact ⟨x2, _, rfl, h2, fun x3 H3 s3 h3 => k x3 H3 ((s1.trans s2).trans s3) h3⟩
theorem ok_nothing (W : Wd K mg) : FnR P w K mg base CX0 3 (ga K "nothing") (fun vs H Q _ => ∃ c : Int, vs = [.int c] ∧ ∀ x H', Same H H' → EffAt (CE K) H' x (nothing c) → Q (.ref x) H') := by
  refine (def_ok W.F_nothing sc_nothing (fun _ _ _ _ _ _ us hl => match us, hl with | [_], _ => rfl) (fun vs H Q E ⟨c, ev, _⟩ => by rw [ev]; rfl) fun cdv A outer s H vs Q E hr ⟨c, ev, k⟩ => ?_).2
  subst ev
  refine ⟨_, PSs.nox (pss_one (ps_ret (pe_mk W.mk_Effect (ok_Effect_init W) (hr.mono (by decide)) W.g_Effect pass0 rfl (pa_cons (pv 0) (pa_cons pe_int (pa_cons (pv 0) (pa_cons pe_int (pa_cons pe_non (pa_cons pe_bl pa_nil))))))))), ?_⟩
  walk_at "y"
  exact mk_eff (g := none) rfl fun x H' _ s1 he => k x H' s1 he
def spEO (K : PySem.W.Frag) : Sp := fun vs H Q _ => ∃ (p : Addr) (c : Int) (l : List Stp), vs = [.ref p, .int c] ∧ PlanAt (CP K) H p l ∧ l.length ≤ 60 ∧ ∀ x H', Same H H' → EffAt (CE K) H' x (effOf c l) → Q (.ref x) H'
theorem ok_effect_of (W : Wd K mg) : FnR P w K mg base CX0 5 (ga K "effect_of") (spEO K) := by
  refine (def_ok W.F_effect_of sc_effect_of (fun _ _ _ _ _ _ us hl => match us, hl with | [_, _], _ => rfl) (fun vs H Q E ⟨p, c, l, ev, _⟩ => by rw [ev]; rfl) fun cdv A outer s H vs Q E hr ⟨p, c, l, ev, hp, h60, k⟩ => ?_).2
  subst ev
  refine ⟨_, PSs.nox (pss_cons (ps_set (i := 2) sc_effect_of.nd rfl (Or.inl rfl) (pe_callR (ok_nothing W) (hr.mono (by decide)) W.g_nothing W.k_nothing pass0 rfl (pa_cons (pv 1) pa_nil))) (pss_cons (ps_for PassesOwn.never rfl (pi_listK K (pe_callR (ok_sides_of W) (hr.mono (by decide)) W.g_sides_of W.k_sides_of pass0 rfl (pa_cons (pv 0) pa_nil))) (pg_tupK (n := 2) K rfl (pgs_cons (pg_name (i := 3) sc_effect_of.nd rfl (Or.inl rfl)) (pgs_cons (pg_name (i := 4) sc_effect_of.nd rfl (Or.inl rfl)) pgs_nil))) (pss_one (ps_if (pt_cmpR (op_eqK K hr.units) (pv 3) pe_int (nomark _)) (pss_one (ps_set (i := 2) sc_effect_of.nd rfl (Or.inl rfl) (pe_methR W.c_Effect W.m_Effect_at_least (ok_Effect_at_least W) (hr.mono (by decide)) pass0 (pv 2) (pa_cons (pv 4) pa_nil)))) (pss_one (ps_if (pt_cmpR (op_eqK K hr.units) (pv 3) (pe_un un_neg pe_int) (nomark _)) (pss_one (ps_set (i := 2) sc_effect_of.nd rfl (Or.inl rfl) (pe_methR W.c_Effect W.m_Effect_at_most (ok_Effect_at_most W) (hr.mono (by decide)) pass0 (pv 2) (pa_cons (pe_op op_minus (pv 1) (pv 4)) pa_nil)))) pss_nil))))) (pss_one (ps_ret (pe_mk W.mk_Effect (ok_Effect_init W) (hr.mono (by decide)) W.g_Effect pass0 rfl (pa_cons (pv 1) (pa_cons (pe_fldK K (pv 2)) (pa_cons (pe_fldK K (pv 2)) (pa_cons (pe_fldK K (pv 2)) (pa_cons (pe_fldK K (pv 2)) (pa_cons (pe_propR W.c_Plan W.p_Plan_is_turning (ok_Plan_is_turning W) (hr.mono (by decide)) (pv 0)) pa_nil))))))))))), ?_⟩
  walk_at "y"
  refine ⟨c, rfl, fun x0 H0 s0 h0 => ?_⟩
  walk_at "y"
  refine ⟨p, l, rfl, hp.mono s0, h60, fun r ps H1 hr0 s1 hps hpp => ?_⟩
  refine x_iLAt (SqL.of hps) (x_loop walk_list (fun i σ H2 => Same H1 H2 ∧ ∃ x a b, σ = [some (.ref p), some (.int c), some (.ref x), a, b] ∧ EffAt (CE K) H2 x (((sides 1 l).take i).foldl (effStep c) (nothing c))) ⟨Same.refl _, x0, _, _, rfl, h0.mono s1⟩ (fun i σ H2 _ ⟨s2, _⟩ => SqL.of (s2 _ _ hps)) ?_ ?_)
  · rintro i y σ H2 H3 hi ⟨s2, x, a, b, rfl, hx⟩ ⟨rfl, ey⟩
    obtain ⟨⟨sd, n⟩, hst, q, rfl, hq⟩ := pr_at hpp ey
    have tk : ((sides 1 l).take (i + 1)).foldl (effStep c) (nothing c) = effStep c (((sides 1 l).take i).foldl (effStep c) (nothing c)) (sd, n) := by
      rw [List.take_add_one, hst, List.foldl_append]
      rfl
    rw [tk]
    unfold effStep
    refine x_gTup (s2 _ _ hq) rfl ?_
    unfold pairV
    walk_at "y"
    refine x_ifd (fun e => ?_) fun e => ?_
    · rw [if_pos e]
      walk_at "y"
      refine x_effM hx (by kernel_rfl) ?_
      walk_at "y"
      refine ⟨x, _, n, rfl, hx, fun x2 H4 s4 h4 => ?_⟩
      walk_at "y"
      exact ⟨s2.trans s4, x2, _, _, rfl, h4⟩
    · rw [if_neg e]
      walk_at "y"
      refine x_ifd (fun e2 => ?_) fun e2 => ?_
      · rw [if_pos e2]
        walk_at "y"
        refine x_effM hx (by kernel_rfl) ?_
        walk_at "y"
        refine ⟨x, _, c - n, rfl, hx, fun x2 H4 s4 h4 => ?_⟩
        walk_at "y"
        exact ⟨s2.trans s4, x2, _, _, rfl, h4⟩
      · rw [if_neg e2]
        walk_at "y"
        exact ⟨s2, x, _, _, rfl, hx⟩
  · rintro σ H2 ⟨s2, x, a, b, rfl, hx⟩
    have hl : ps.length = (sides 1 l).length := pr_len hpp
    rw [hl, List.take_length] at hx
    have hp2 := ((hp.mono s0).mono s1).mono s2
    walk_at "y"
    obtain ⟨dx, t, vs, g1, g2, g3⟩ := hp2.ex
    refine x_propAt g1 ⟨p, l, rfl, hp2, h60, fun H3 s3 => ?_⟩
    walk_at "y"
    exact mk_eff rfl fun x3 H4 _ s4 he => k x3 H4 ((s0.trans s1).trans ((s2.trans s3).trans s4)) he
end
end K08

set_option Elab.async false
set_option linter.all false
set_option autoImplicit false
set_option maxRecDepth 100000
set_option pp.maxSteps 500
set_option maxHeartbeats 4000000
namespace K08
open PySem PySem.Spec PyProof.Rows L2 He ChH Ch ChM
local macro_rules | `(tactic| walk_at "x1") => `(tactic| first
  | ((with_reducible apply x_var); exact rfl)
  | with_reducible refine x_c ?_
  | with_reducible refine x_op ?_
  | with_reducible refine x_seq ?_
  | with_reducible refine x_asg ?_
  | with_reducible refine x_gname ?_
  | with_reducible refine x_cons ?_
  | with_reducible refine x_nil ?_
  | with_reducible refine x_fld ?_
  | with_reducible refine x_ret ?_
  | with_reducible refine x_ifS ?_
  | with_reducible refine x_test ?_
  | with_reducible refine x_ex ?_
  | with_reducible refine x_call ?_
  | with_reducible refine x_mk ?_
  | with_reducible refine x_meth ?_
  | with_reducible refine x_prop ?_
  | with_reducible refine x_cb ?_
  | with_reducible refine x_tup ?_
  | with_reducible refine x_lst ?_
  | with_reducible refine x_drop ?_
  | with_reducible refine x_for ?_
  | with_reducible refine x_iL ?_
  | with_reducible refine x_iT ?_
  | with_reducible refine x_iE ?_
  | with_reducible refine x_iU ?_
  | with_reducible refine x_iR1 ?_
  | with_reducible refine x_iR2 ?_
  | with_reducible refine x_gcons ?_
  | with_reducible refine x_gnil ?_
  | with_reducible refine x_par ?_
  | with_reducible refine x_lstRg ?_
  | with_reducible refine x_rg1 ?_
  | with_reducible refine x_rg1At ?_
  | with_reducible refine x_par3 ?_
  | with_reducible refine x_bm ?_
  | with_reducible refine x_bm0 ?_
  | with_reducible refine x_gSub ?_
  | with_reducible refine x_lc ?_
  | with_reducible refine x_yes ?_
  | with_reducible refine x_setf ?_
  | with_reducible refine x_next ?_
  | with_reducible refine x_B ?_
  | with_reducible refine x_and ?_
  | with_reducible refine x_or ?_
  | with_reducible refine x_not ?_
  | with_reducible refine x_andV ?_
  | with_reducible refine x_orV ?_
  | with_reducible refine x_notV ?_
  | with_reducible refine x_ifE ?_
  | with_reducible refine x_chain ?_
  | with_reducible refine x_chain3 ?_
  | with_reducible refine x_un ?_
  | with_reducible refine x_isNe ?_
  | with_reducible refine x_notNe ?_
  | with_reducible refine x_starA ?_
  | with_reducible refine x_plusI ?_
  | with_reducible refine x_minus ?_
  | with_reducible refine x_lt ?_
  | with_reducible refine x_le ?_
  | with_reducible refine x_gt ?_
  | with_reducible refine x_ge ?_
  | with_reducible refine x_eqI ?_
  | with_reducible refine x_neI ?_
  | with_reducible refine x_eqS ?_
  | with_reducible refine x_eqB ?_
  | with_reducible refine x_neB ?_
  | with_reducible refine x_int ?_
  | with_reducible refine x_intB ?_
  | with_reducible refine x_max2 ?_
  | with_reducible refine x_min2 ?_
  | with_reducible refine x_max3 ?_
  | with_reducible refine x_abs ?_
  | with_reducible refine x_neg ?_
  | with_reducible refine x_isi_ii ?_
  | with_reducible refine x_isi_ib ?_
  | with_reducible refine x_T ?_
  | with_reducible refine x_nT ?_
  | with_reducible refine x_nF ?_
  | with_reducible refine x_F ?_)
local macro_rules | `(tactic| walk_at "x") => `(tactic| repeat walk_at "x1")

local macro_rules | `(tactic| walk_at "eff") => `(tactic| first
  | refine x_eff (by assumption) (Wd.c_Effect (by assumption)) (Wd.n_Effect_chairs (by assumption)) eff_chairs ?_
  | refine x_eff (by assumption) (Wd.c_Effect (by assumption)) (Wd.n_Effect_low (by assumption)) eff_low ?_
  | refine x_eff (by assumption) (Wd.c_Effect (by assumption)) (Wd.n_Effect_high (by assumption)) eff_high ?_
  | refine x_eff (by assumption) (Wd.c_Effect (by assumption)) (Wd.n_Effect_extra (by assumption)) eff_extra ?_
  | refine x_eff (by assumption) (Wd.c_Effect (by assumption)) (Wd.n_Effect_goal (by assumption)) eff_goal ?_
  | refine x_eff (by assumption) (Wd.c_Effect (by assumption)) (Wd.n_Effect_turned (by assumption)) eff_turned ?_)
local macro_rules | `(tactic| walk_at "y") => `(tactic| repeat (first | walk_at "x1" | walk_at "eff"))

section
variable {P : Program} {w : World} {K : PySem.W.Frag} {mg : Str → Option Value} {base : Heap}
theorem divF {i j : Int} (h : 0 < j) (h2 : j ≤ 2000000000000000000) : CDivW i j := wide_div (b := 62) h (by omega) (by decide) (by decide)
theorem ok_Effect_carried (W : Wd K mg) : FnR P w K mg base CX0 1 (ma K (ga K "Effect") "carried") (fun vs H Q _ => ∃ (p : Addr) (e : Eff) (x : Int), vs = [.ref p, .int x] ∧ EffAt (CE K) H p e ∧ Q (.int (e.carried x)) H) := by
  refine (def_ok W.F_Effect_carried sc_Effect_carried (fun _ _ _ _ _ _ us hl => match us, hl with | [_, _], _ => rfl) (fun vs H Q E ⟨p, e, x, ev, _⟩ => by rw [ev]; rfl) fun cdv A outer s H vs Q E hr ⟨p, e, x, ev, hp, k⟩ => ?_).2
  subst ev
  refine ⟨_, PSs.nox (pss_one (ps_ret (pe_op op_plus (pe_callB (c_max3 rfl) (by rfl) W.f_max (by decide +kernel) (pa_cons (pe_op op_minus (pe_fldK K (pv 0)) (pv 1)) (pa_cons (pe_op op_minus (pv 1) (pe_fldK K (pv 0))) (pa_cons pe_int pa_nil)))) (pe_fldK K (pv 0))))), ?_⟩
  walk_at "y"
  exact k
theorem ok_Effect_place (W : Wd K mg) : FnR P w K mg base CX0 1 (ma K (ga K "Effect") "place") (fun vs H Q _ => ∃ (p : Addr) (e : Eff) (x : Int), vs = [.ref p, .int x] ∧ EffAt (CE K) H p e ∧ Q (.int (e.place x)) H) := by
  refine (def_ok W.F_Effect_place sc_Effect_place (fun _ _ _ _ _ _ us hl => match us, hl with | [_, _], _ => rfl) (fun vs H Q E ⟨p, e, x, ev, _⟩ => by rw [ev]; rfl) fun cdv A outer s H vs Q E hr ⟨p, e, x, ev, hp, k⟩ => ?_).2
  subst ev
  refine ⟨_, PSs.nox (pss_one (ps_ret (pe_ifExp (pt_cmp (pc_isN (pe_fldK K (pv 0)))) (pe_callB (c_min2 rfl) (by rfl) W.f_min (by decide +kernel) (pa_cons (pe_callB (c_max2 rfl) (by rfl) W.f_max (by decide +kernel) (pa_cons (pv 1) (pa_cons (pe_fldK K (pv 0)) pa_nil))) (pa_cons (pe_fldK K (pv 0)) pa_nil))) (pe_fldK K (pv 0))))), ?_⟩
  unfold Eff.place at k
  walk_at "y"
  rw [goal_non]
  cases g : e.goal with
  | none =>
    rw [g] at k
    refine x_T ?_
    walk_at "y"
    exact k
  | some y =>
    rw [g] at k
    refine x_F ?_
    walk_at "y"
    rw [g]
    exact k
theorem ok_Effect_end (W : Wd K mg) : FnR P w K mg base CX0 2 (ma K (ga K "Effect") "end") (fun vs H Q _ => ∃ (p : Addr) (e : Eff) (x : Int), vs = [.ref p, .int x] ∧ EffAt (CE K) H p e ∧ Q (.int (e.fin x)) H) := by
  refine (def_ok W.F_Effect_end sc_Effect_end (fun _ _ _ _ _ _ us hl => match us, hl with | [_, _], _ => rfl) (fun vs H Q E ⟨p, e, x, ev, _⟩ => by rw [ev]; rfl) fun cdv A outer s H vs Q E hr ⟨p, e, x, ev, hp, k⟩ => ?_).2
  subst ev
  refine ⟨_, PSs.nox (pss_cons (ps_set (i := 2) sc_Effect_end.nd rfl (Or.inl rfl) (pe_methR W.c_Effect W.m_Effect_place (ok_Effect_place W) (hr.mono (by decide)) pass0 (pv 0) (pa_cons (pv 1) pa_nil))) (pss_one (ps_ret (pe_ifExp (pt_val (pe_fldK K (pv 0))) (pe_op op_minus (pe_fldK K (pv 0)) (pv 2)) (pv 2))))), ?_⟩
  walk_at "y"
  refine x_effM hp (by kernel_rfl) ?_
  walk_at "y"
  refine ⟨p, e, x, rfl, hp, ?_⟩
  walk_at "y"
  unfold Eff.fin at k
  refine x_if (fun ht => ?_) fun ht => ?_
  · rw [if_pos ht] at k
    walk_at "y"
    exact k
  · rw [if_neg (by rw [ht]; decide)] at k
    walk_at "y"
    exact k
end
end K08

set_option Elab.async false
set_option linter.all false
set_option autoImplicit false
set_option maxRecDepth 100000
set_option pp.maxSteps 500
set_option maxHeartbeats 4000000
namespace K08
open PySem PySem.Spec PyProof.Rows L2 He ChH Ch ChM
local macro_rules | `(tactic| walk_at "x1") => `(tactic| first
  | ((with_reducible apply x_var); exact rfl)
  | with_reducible refine x_c ?_
  | with_reducible refine x_op ?_
  | with_reducible refine x_seq ?_
  | with_reducible refine x_asg ?_
  | with_reducible refine x_gname ?_
  | with_reducible refine x_cons ?_
  | with_reducible refine x_nil ?_
  | with_reducible refine x_fld ?_
  | with_reducible refine x_ret ?_
  | with_reducible refine x_ifS ?_
  | with_reducible refine x_test ?_
  | with_reducible refine x_ex ?_
  | with_reducible refine x_call ?_
  | with_reducible refine x_mk ?_
  | with_reducible refine x_meth ?_
  | with_reducible refine x_prop ?_
  | with_reducible refine x_cb ?_
  | with_reducible refine x_tup ?_
  | with_reducible refine x_lst ?_
  | with_reducible refine x_drop ?_
  | with_reducible refine x_for ?_
  | with_reducible refine x_iL ?_
  | with_reducible refine x_iT ?_
  | with_reducible refine x_iE ?_
  | with_reducible refine x_iU ?_
  | with_reducible refine x_iR1 ?_
  | with_reducible refine x_iR2 ?_
  | with_reducible refine x_gcons ?_
  | with_reducible refine x_gnil ?_
  | with_reducible refine x_par ?_
  | with_reducible refine x_lstRg ?_
  | with_reducible refine x_rg1 ?_
  | with_reducible refine x_rg1At ?_
  | with_reducible refine x_par3 ?_
  | with_reducible refine x_bm ?_
  | with_reducible refine x_bm0 ?_
  | with_reducible refine x_gSub ?_
  | with_reducible refine x_lc ?_
  | with_reducible refine x_yes ?_
  | with_reducible refine x_setf ?_
  | with_reducible refine x_next ?_
  | with_reducible refine x_B ?_
  | with_reducible refine x_and ?_
  | with_reducible refine x_or ?_
  | with_reducible refine x_not ?_
  | with_reducible refine x_andV ?_
  | with_reducible refine x_orV ?_
  | with_reducible refine x_notV ?_
  | with_reducible refine x_ifE ?_
  | with_reducible refine x_chain ?_
  | with_reducible refine x_chain3 ?_
  | with_reducible refine x_un ?_
  | with_reducible refine x_isNe ?_
  | with_reducible refine x_notNe ?_
  | with_reducible refine x_starA ?_
  | with_reducible refine x_plusI ?_
  | with_reducible refine x_minus ?_
  | with_reducible refine x_lt ?_
  | with_reducible refine x_le ?_
  | with_reducible refine x_gt ?_
  | with_reducible refine x_ge ?_
  | with_reducible refine x_eqI ?_
  | with_reducible refine x_neI ?_
  | with_reducible refine x_eqS ?_
  | with_reducible refine x_eqB ?_
  | with_reducible refine x_neB ?_
  | with_reducible refine x_int ?_
  | with_reducible refine x_intB ?_
  | with_reducible refine x_max2 ?_
  | with_reducible refine x_min2 ?_
  | with_reducible refine x_max3 ?_
  | with_reducible refine x_abs ?_
  | with_reducible refine x_neg ?_
  | with_reducible refine x_isi_ii ?_
  | with_reducible refine x_isi_ib ?_
  | with_reducible refine x_T ?_
  | with_reducible refine x_nT ?_
  | with_reducible refine x_nF ?_
  | with_reducible refine x_F ?_)
local macro_rules | `(tactic| walk_at "x") => `(tactic| repeat walk_at "x1")

section
variable {P : Program} {w : World} {K : PySem.W.Frag} {mg : Str → Option Value} {base : Heap}
def spLS (K : PySem.W.Frag) : Sp := fun vs H Q _ => ∃ (a : Addr) (ns : List Int), vs = [.ref a] ∧ SqL K H a (ns.map V.int) ∧ ∀ st H', H st = none → Same H H' → StAt K H' st a ns → Q (.ref st) H'
theorem ok__law_start (W : Wd K mg) : FnR P w K mg base CX0 1 (ga K "_law_start") (spLS K) := by
  refine (def_ok W.F__law_start sc__law_start (fun _ _ _ _ _ _ us hl => match us, hl with | [_], _ => rfl) (fun vs H Q E ⟨a, ns, ev, _⟩ => by rw [ev]; rfl) fun cdv A outer s H vs Q E hr ⟨a, ns, ev, hs, k⟩ => ?_).2
  subst ev
  refine ⟨_, PSs.nox (pss_cons (ps_set (i := 1) sc__law_start.nd rfl (Or.inl rfl) pe_int) (pss_cons (ps_for PassesOwn.never rfl (pi_listK K (pv 0)) (pg_name (i := 2) sc__law_start.nd rfl (Or.inl rfl)) (pss_one (ps_set (i := 1) sc__law_start.nd rfl (Or.inl rfl) (pe_op op_modP (pe_op op_plus (pe_op op_plus (pe_op op_times (pv 1) pe_int) (pv 2)) pe_int) pe_int)))) (pss_one (ps_ret (pe_lst (pa_cons (pv 0) (pa_cons pe_int (pa_cons (pv 1) (pa_cons pe_int pa_nil))))))))), ?_⟩
  walk_at "x"
  refine x_iLAt hs (x_loop walk_list (fun i σ H2 => H2 = H ∧ ∃ z b, σ = [some (.ref a), some (.int z), b]) ⟨rfl, _, _, rfl⟩ (fun i σ H2 _ ⟨e, _⟩ => by rw [e]; exact hs) ?_ ?_)
  · rintro i y σ H2 H3 hi ⟨rfl, z, b, rfl⟩ ⟨rfl, ey⟩
    rw [List.getElem?_map] at ey
    obtain ⟨n, _, rfl⟩ := Option.map_eq_some_iff.mp ey
    walk_at "x"
    refine x_timesI (.inr ⟨by decide, by decide⟩) ?_
    walk_at "x"
    refine x_mod (by decide) ?_
    walk_at "x"
    exact ⟨rfl, _, _, rfl⟩
  · rintro σ H2 ⟨rfl, z, b, rfl⟩
    walk_at "x"
    exact ⟨sz rfl, fun st hst => k st _ hst (Same.new hst) (StAt.new hs hst (Int.le_refl 0))⟩
theorem pick2 {u v : V} {z : Int} (h0 : 0 ≤ z) (h1 : z < 2) : ∃ y, atI [u, v] z = some y ∧ ((z = 0 ∧ y = u) ∨ (z = 1 ∧ y = v)) := by
  have : z = 0 ∨ z = 1 := by omega
  rcases this with rfl | rfl
  · exact ⟨u, rfl, .inl ⟨rfl, rfl⟩⟩
  · exact ⟨v, rfl, .inr ⟨rfl, rfl⟩⟩
def spLD (K : PySem.W.Frag) : Sp := fun vs H Q _ => ∃ (st a : Addr) (ns : List Int) (c : Int), vs = [.ref st, .int c] ∧ StAt K H st a ns ∧ 0 < c ∧ c ≤ 2000000000000000000 ∧ ∀ z H', 0 ≤ z → z < c → SameB st H H' → StAt K H' st a ns → Q (.int z) H'
theorem divW {i j : Int} (h : 0 < j) (h2 : j ≤ 2000000000000000000) : CDivW i j := wide_div (b := 62) h (by omega) (by decide) (by decide)
theorem ok__law_drawn (W : Wd K mg) : FnR P w K mg base CX0 1 (ga K "_law_drawn") (spLD K) := by
  refine (def_ok W.F__law_drawn sc__law_drawn (fun _ _ _ _ _ _ us hl => match us, hl with | [_, _], _ => rfl) (fun vs H Q E ⟨st, a, ns, c, ev, _⟩ => by rw [ev]; rfl) fun cdv A outer s H vs Q E hr ⟨st, a, ns, c, ev, hS, c0, c1, k⟩ => ?_).2
  subst ev
  obtain ⟨pos, m, r, hst, p0⟩ := hS.lst
  refine ⟨_, PSs.nox (pss_cons (ps_if (pt_cmpR op_gtI (pe_ix (ix_K K) (pv 0) pe_int (fun _ _ => rfl)) pe_int (nomark _)) (pss_cons (ps_set (i := 2) sc__law_drawn.nd rfl (Or.inl rfl) (pe_op op_modP (pe_ix (ix_K K) (pv 0) pe_int (fun _ _ => rfl)) (pv 1))) (pss_cons (ps_asg (pe_op op_divP (pe_ix (ix_K K) (pv 0) pe_int (fun _ _ => rfl)) (pv 1)) (pg_sub (pv 0) pe_int set_list)) (pss_one (ps_ret (pv 2))))) pss_nil) (pss_cons (ps_asg (pe_op op_plus (pe_ix (ix_K K) (pv 0) pe_int (fun _ _ => rfl)) pe_int) (pg_sub (pv 0) pe_int set_list)) (pss_cons (ps_if (pt_cmpR op_leI (pe_ix (ix_K K) (pv 0) pe_int (fun _ _ => rfl)) (pe_callB (c_lenK K) (by rfl) W.f_len (by decide +kernel) (pa_cons (pe_ix (ix_K K) (pv 0) pe_int (fun _ _ => rfl)) pa_nil)) (nomark _)) (pss_cons (ps_set (i := 3) sc__law_drawn.nd rfl (Or.inl rfl) (pe_ix (ix_K K) (pe_ix (ix_K K) (pv 0) pe_int (fun _ _ => rfl)) (pe_op op_minus (pe_ix (ix_K K) (pv 0) pe_int (fun _ _ => rfl)) pe_int) (fun _ _ => rfl))) (pss_cons (ps_asg (pe_ifExp (pt_cmpR op_geI (pv 3) (pe_op op_powP pe_int pe_int) (nomark _)) (pe_op op_divP (pv 3) (pv 1)) pe_int) (pg_sub (pv 0) pe_int set_list)) (pss_one (ps_ret (pe_op op_modP (pv 3) (pv 1)))))) pss_nil) (pss_cons (ps_asg (pe_op op_modP (pe_op op_plus (pe_op op_times (pe_ix (ix_K K) (pv 0) pe_int (fun _ _ => rfl)) pe_int) pe_int) pe_int) (pg_sub (pv 0) pe_int set_list)) (pss_one (ps_ret (pe_op op_modP (pe_op op_divP (pe_ix (ix_K K) (pv 0) pe_int (fun _ _ => rfl)) pe_int) (pv 1)))))))), ?_⟩
  walk_at "x"
  refine x_ixL (SqL.of hst) (i := 3) rfl ?_
  walk_at "x"
  refine x_ifd (fun hr => ?_) fun hr => ?_
  · walk_at "x"
    refine x_ixL (SqL.of hst) (i := 3) rfl ?_
    walk_at "x"
    refine x_mod c0 ?_
    walk_at "x"
    refine x_ixL (SqL.of hst) (i := 3) rfl ?_
    walk_at "x"
    refine x_div (divW c0 c1) ?_
    walk_at "x"
    refine x_setL hst rfl ?_
    walk_at "x"
    exact k _ _ (Int.emod_nonneg _ (by omega)) (Int.emod_lt_of_pos _ c0) SameB.upd (hS.put p0)
  · walk_at "x"
    refine x_ixL (SqL.of hst) (i := 1) rfl ?_
    walk_at "x"
    refine x_setL hst rfl ?_
    have hS1 : StAt K (upd H st (.lst [.ref a, .int (pos + 1), .int m, .int r])) st a ns := hS.put (by omega)
    have e1 : (upd H st (.lst [.ref a, .int (pos + 1), .int m, .int r])) st = some (.lst [.ref a, .int (pos + 1), .int m, .int r]) := upd_same
    have s1 : SameB st H (upd H st (.lst [.ref a, .int (pos + 1), .int m, .int r])) := SameB.upd
    show (tSeq _ _) _ _ (upd H st (.lst [.ref a, .int (pos + 1), .int m, .int r]))
    generalize upd H st (.lst [.ref a, .int (pos + 1), .int m, .int r]) = H1 at hS1 e1 s1
    walk_at "x"
    refine x_ixL (SqL.of e1) (i := 1) rfl ?_
    walk_at "x"
    refine x_ixL (SqL.of e1) (i := 0) rfl ?_
    walk_at "x"
    refine x_lenL hS1.scr0 ?_
    walk_at "x"
    refine x_ifd (fun hl => ?_) fun hl => ?_
    · walk_at "x"
      refine x_ixL (SqL.of e1) (i := 0) rfl ?_
      walk_at "x"
      refine x_ixL (SqL.of e1) (i := 1) rfl ?_
      walk_at "x"
      rw [List.length_map] at hl
      have hlt : pos.toNat < ns.length := by omega
      refine x_ixL (v := .int (ns[pos.toNat])) hS1.scr0 (at_of (j := pos.toNat) (by omega) (by rw [List.getElem?_map, List.getElem?_eq_getElem hlt]; rfl)) ?_
      walk_at "x"
      refine x_pow ⟨by decide, by decide, by decide⟩ ?_
      walk_at "x"
      have fin : ∀ r2 : Int, gSub (tVar 0) (tC (.int 3)) rSetL (.int r2) [some (.ref st), some (.int c), none, some (.int (ns[pos.toNat]))] H1 (fun σ H' => tRet (tOp rModP (tVar 3) (tVar 1)) { nx := fun _ H' => Q .non H', rt := Q } σ H') := by
        intro r2
        walk_at "x"
        refine x_setL e1 rfl ?_
        walk_at "x"
        refine x_mod c0 ?_
        exact k _ _ (Int.emod_nonneg _ (by omega)) (Int.emod_lt_of_pos _ c0) (s1.trans SameB.upd) (hS1.put (by omega))
      refine x_ifd (fun hb => ?_) fun hb => ?_
      · walk_at "x"
        refine x_div (divW c0 c1) ?_
        exact fin _
      · refine x_c ?_
        exact fin _
    · walk_at "x"
      refine x_ixL (SqL.of e1) (i := 2) rfl ?_
      walk_at "x"
      refine x_timesI (.inr ⟨by decide, by decide⟩) ?_
      walk_at "x"
      refine x_mod (by decide) ?_
      walk_at "x"
      refine x_setL e1 rfl ?_
      walk_at "x"
      refine x_ixL (SqL.of upd_same) (i := 2) rfl ?_
      walk_at "x"
      refine x_div (divW (by decide) (by decide)) ?_
      walk_at "x"
      refine x_mod c0 ?_
      exact k _ _ (Int.emod_nonneg _ (by omega)) (Int.emod_lt_of_pos _ c0) (s1.trans SameB.upd) (hS1.put (by omega))
def spRS (K : PySem.W.Frag) : Sp := fun vs H Q _ => ∃ (st a : Addr) (ns : List Int) (m h : Int), vs = [.ref st, .int m, .int h] ∧ StAt K H st a ns ∧ 0 ≤ m ∧ m ≤ 100 ∧ 0 ≤ h ∧ h ≤ 1000000000000000000 ∧
  ∀ r H' ps l, H r = none → SameB st H H' → StAt K H' st a ns → r ≠ st → H' r = some (.lst ps) → StepsAt H' ps l → (l.length : Int) ≤ m → fitsS h l → Q (.ref r) H'
theorem ok__law_random_steps (W : Wd K mg) : FnR P w K mg base CX0 2 (ga K "_law_random_steps") (spRS K) := by
  refine (def_ok W.F__law_random_steps sc__law_random_steps (fun _ _ _ _ _ _ us hl => match us, hl with | [_, _, _], _ => rfl) (fun vs H Q E ⟨st, a, ns, m, h, ev, _⟩ => by rw [ev]; rfl) fun cdv A outer s H vs Q E hr ⟨st, a, ns, m, h, ev, hS, m0, m1, h0, h1, k⟩ => ?_).2
  subst ev
  refine ⟨_, PSs.nox (pss_cons (ps_par (i := 3) (j := 4) (by rfl) sc__law_random_steps.nd rfl rfl (by decide) rfl rfl (pa_cons (pe_lst pa_nil) (pa_cons (pe_callR (ok__law_drawn W) (hr.mono (by decide)) W.g__law_drawn W.k__law_drawn pass0 rfl (pa_cons (pv 0) (pa_cons pe_int pa_nil))) pa_nil)) (by rfl)) (pss_cons (ps_for PassesOwn.never rfl (pi_range1 (by rfl) W.f_range (pa_cons (pe_callR (ok__law_drawn W) (hr.mono (by decide)) W.g__law_drawn W.k__law_drawn pass0 rfl (pa_cons (pv 0) (pa_cons (pe_op op_plus (pv 1) pe_int) pa_nil))) pa_nil)) (pg_name (i := 5) sc__law_random_steps.nd rfl (Or.inl rfl)) (pss_one (ps_if (PW.pt (pw_and (pt_cmpR (op_eqK K hr.units) (pv 4) pe_int (nomark _)) (pw_and1 (pt_cmpR (op_eqK K hr.units) (pe_callR (ok__law_drawn W) (hr.mono (by decide)) W.g__law_drawn W.k__law_drawn pass0 rfl (pa_cons (pv 0) (pa_cons pe_int pa_nil))) pe_int (nomark _))))) (pss_one (ps_expr (pe_bmK K PySem.F.plainAttrs_list PySem.F.slot_list_append PySem.F.type_list_append mt_append (pv 3) (pa_cons (pe_tup (pa_cons pe_str pa_nil)) pa_nil)))) (pss_cons (ps_set (i := 6) sc__law_random_steps.nd rfl (Or.inl rfl) (pe_ix (ix_K K) (pe_lst (pa_cons (pe_callR (ok__law_drawn W) (hr.mono (by decide)) W.g__law_drawn W.k__law_drawn pass0 rfl (pa_cons (pv 0) (pa_cons (pe_op op_plus (pv 2) pe_int) pa_nil))) (pa_cons (pe_op op_minus (pv 2) (pe_callR (ok__law_drawn W) (hr.mono (by decide)) W.g__law_drawn W.k__law_drawn pass0 rfl (pa_cons (pv 0) (pa_cons (pe_op op_plus (pe_op op_divP (pv 2) pe_int) pe_int) pa_nil)))) pa_nil))) (pe_callR (ok__law_drawn W) (hr.mono (by decide)) W.g__law_drawn W.k__law_drawn pass0 rfl (pa_cons (pv 0) (pa_cons pe_int pa_nil))) (fun _ _ => rfl))) (pss_one (ps_expr (pe_bmK K PySem.F.plainAttrs_list PySem.F.slot_list_append PySem.F.type_list_append mt_append (pv 3) (pa_cons (pe_tup (pa_cons (pe_ix (ix_K K) (pe_lst (pa_cons pe_str (pa_cons pe_str pa_nil))) (pe_callR (ok__law_drawn W) (hr.mono (by decide)) W.g__law_drawn W.k__law_drawn pass0 rfl (pa_cons (pv 0) (pa_cons pe_int pa_nil))) (fun _ _ => rfl)) (pa_cons (pv 6) pa_nil))) pa_nil)))))))) (pss_one (ps_ret (pv 3))))), ?_⟩
  walk_at "x"
  refine ⟨sz rfl, fun r hr0 => ?_⟩
  walk_at "x"
  refine ⟨st, a, ns, 3, rfl, hS.mono (Same.new hr0), by decide, by decide, fun z1 H1 z10 z11 s1 S1 => ?_⟩
  walk_at "x"
  refine ⟨_, _, rfl, ?_⟩
  walk_at "x"
  refine ⟨st, a, ns, m + 1, rfl, S1, by omega, by omega, fun z2 H2 z20 z21 s2 S2 => ?_⟩
  walk_at "x"
  refine x_iR1At (by omega) (by omega) ?_
  have hne : r ≠ st := hS.neN hr0
  have sA : SameB st H H2 := (SameB.of (Same.new hr0)).trans (s1.trans s2)
  have hrr : H2 r = some (.lst []) := s2 _ _ hne (s1 _ _ hne upd_same)
  refine x_loop walk_range (fun i σ H3 => SameB st H H3 ∧ StAt K H3 st a ns ∧ (∃ u v, σ = [some (.ref st), some (.int m), some (.int h), some (.ref r), some (.int z1), u, v]) ∧ ∃ ps l, H3 r = some (.lst ps) ∧ StepsAt H3 ps l ∧ l.length = i ∧ fitsS h l) ⟨sA, S2, ⟨_, _, rfl⟩, [], [], hrr, .nil, rfl, fun b n hm => nomatch hm⟩ (fun _ _ _ _ _ => trivial) ?_ ?_
  · rintro i y σ H4 H3 hi ⟨s3, S3, ⟨u, v, rfl⟩, ps, l, hps, hpl, hll, hfl⟩ ⟨rfl, rfl⟩
    have lps : ps.length = l.length := pr_len hpl
    walk_at "x"
    -- what a new step leads to
    have put : ∀ (H5 : Hp) (t : Addr) (sp : Stp) (b : Option V), SameB st H3 H5 → StAt K H5 st a ns → H5 t = none → (∀ b n, sp = .mt b n → 0 ≤ n ∧ n ≤ h) →
        SameB st H (upd (upd H5 t (.tup (stepV sp))) r (.lst (ps ++ [.ref t]))) ∧ StAt K (upd (upd H5 t (.tup (stepV sp))) r (.lst (ps ++ [.ref t]))) st a ns ∧
        (∃ u v, [some (V.ref st), some (.int m), some (.int h), some (.ref r), some (.int z1), some (.int (0 + (i : Int))), b] = [some (V.ref st), some (.int m), some (.int h), some (.ref r), some (.int z1), u, v]) ∧
        ∃ ps' l', (upd (upd H5 t (.tup (stepV sp))) r (.lst (ps ++ [.ref t]))) r = some (.lst ps') ∧ StepsAt (upd (upd H5 t (.tup (stepV sp))) r (.lst (ps ++ [.ref t]))) ps' l' ∧ l'.length = i + 1 ∧ fitsS h l' := by
      intro H5 t sp b s5 S5 ht hsp
      have hr5 : H5 r = some (.lst ps) := s5 _ _ hne hps
      have e5 : Same H5 (upd H5 t (.tup (stepV sp))) := Same.new ht
      have hr6 := e5 _ _ hr5
      have S6 := S5.mono e5
      have sN : SameB st H (upd (upd H5 t (.tup (stepV sp))) r (.lst (ps ++ [.ref t]))) := by
        intro b o hb e
        rw [upd_ne (ne_of_none e hr0)]
        exact e5 _ _ (s5 _ _ hb (s3 _ _ hb e))
      refine ⟨sN, ?_, ⟨_, _, rfl⟩, _, l ++ [sp], upd_same, ?_, ?_, ?_⟩
      · obtain ⟨p1, p2, p3, p4, p5⟩ := S6.lst
        exact ⟨⟨p1, p2, p3, by rw [upd_ne hne.symm]; exact p4, p5⟩, fun H' s' => hS.scr H' (sN.trans s')⟩
      · refine pr_snoc ((StepsAt.monoB S3 s5 hpl).mono2 e5 hr6) ⟨t, rfl, ?_⟩
        rw [upd_ne (ne_of upd_same hr6 (by intro z; cases z))]
        exact upd_same
      · rw [List.length_append, hll]
        rfl
      · intro b n hm
        rcases List.mem_append.mp hm with hm | hm
        · exact hfl b n hm
        · exact hsp b n (List.mem_singleton.mp hm).symm
    refine x_meet (fun H5 => SameB st H3 H5 ∧ StAt K H5 st a ns) ?meet (fun meet => x_ifd (fun hz => ?turn) fun hz => x_F (meet H3 ⟨SameB.refl _ _, S3⟩))
    case turn =>
      walk_at "x"
      refine ⟨st, a, ns, 4, rfl, S3, by decide, by decide, fun z4 H5 z40 z41 s5 S5 => ?_⟩
      walk_at "x"
      refine x_ifd (fun hz4 => ?_) fun hz4 => ?_
      · walk_at "x"
        refine ⟨ty_lst (s5 _ _ hne hps), ?_⟩
        walk_at "x"
        refine ⟨sz rfl, fun t ht => ?_⟩
        walk_at "x"
        refine x_app (up (s5 _ _ hne hps) ht) (sz5' (by omega)) ?_
        exact put H5 t .turn _ s5 S5 ht (fun b n e => nomatch e)
      · exact meet H5 ⟨s5, S5⟩
    case meet =>
      rintro H5 ⟨s5, S5⟩
      walk_at "x"
      refine ⟨st, a, ns, h + 1, rfl, S5, by omega, by omega, fun y1 H6 y10 y11 s6 S6 => ?_⟩
      walk_at "x"
      refine x_div (divW (by decide) (by decide)) ?_
      walk_at "x"
      refine ⟨st, a, ns, h / 3 + 1, rfl, S6, by omega, by omega, fun y2 H7 y20 y21 s7 S7 => ?_⟩
      walk_at "x"
      refine ⟨sz rfl, fun q hq => ?_⟩
      walk_at "x"
      refine ⟨st, a, ns, 2, rfl, S7.mono (Same.new hq), by decide, by decide, fun y3 H8 y30 y31 s8 S8 => ?_⟩
      have hq8 : H8 q = some (.lst [.int y1, .int (h - y2)]) := s8 _ _ (S7.neN hq) upd_same
      obtain ⟨y, hy, hyy⟩ := pick2 (u := .int y1) (v := .int (h - y2)) y30 y31
      refine x_ixL (SqL.of hq8) hy ?_
      have ey : ∃ n : Int, y = .int n ∧ 0 ≤ n ∧ n ≤ h := by
        rcases hyy with ⟨_, e⟩ | ⟨_, e⟩
        · exact ⟨y1, e, y10, by omega⟩
        · exact ⟨h - y2, e, by omega, by omega⟩
      obtain ⟨n, rfl, n0, n1⟩ := ey
      have s38 : SameB st H3 H8 := s5.trans (s6.trans (s7.trans ((SameB.of (Same.new hq)).trans s8)))
      walk_at "x"
      refine ⟨ty_lst (s38 _ _ hne hps), ?_⟩
      walk_at "x"
      refine ⟨sz rfl, fun q2 hq2 => ?_⟩
      walk_at "x"
      refine ⟨st, a, ns, 2, rfl, S8.mono (Same.new hq2), by decide, by decide, fun y4 H9 y40 y41 s9 S9 => ?_⟩
      have hq9 : H9 q2 = some (.lst [.str "red", .str "blue"]) := s9 _ _ (S8.neN hq2) upd_same
      obtain ⟨y', hy', hyy'⟩ := pick2 (u := .str "red") (v := .str "blue") y40 y41
      refine x_ixL (SqL.of hq9) hy' ?_
      have eb : ∃ b : Bool, y' = .str (roomS b) := by
        rcases hyy' with ⟨_, e⟩ | ⟨_, e⟩
        · exact ⟨true, e⟩
        · exact ⟨false, e⟩
      obtain ⟨b, rfl⟩ := eb
      have s39 : SameB st H3 H9 := s38.trans ((SameB.of (Same.new hq2)).trans s9)
      walk_at "x"
      refine ⟨sz rfl, fun t ht => ?_⟩
      walk_at "x"
      refine x_app (up (s39 _ _ hne hps) ht) (sz5' (by omega)) ?_
      exact put H9 t (.mt b n) _ s39 S9 ht (fun b' n' e => by cases e; exact ⟨n0, n1⟩)
  · rintro σ H3 ⟨s3, S3, ⟨u, v, rfl⟩, ps, l, hps, hpl, hll, hfl⟩
    walk_at "x"
    exact k r H3 ps l hr0 s3 S3 hne hps hpl (by omega) hfl
def spLP (K : PySem.W.Frag) : Sp := fun vs H Q _ => ∃ (r : Addr) (ps : List V) (l : List Stp), vs = [.ref r] ∧ H r = some (.lst ps) ∧ StepsAt H ps l ∧ goodP l ∧ ∀ x H', H x = none → Same H H' → PlanAt (CP K) H' x l → Q (.ref x) H'
theorem good_take {l : List Stp} (h : goodP l) (n : Nat) : goodP (l.take n) := ⟨fun s hs => h.1 s (List.mem_of_mem_take hs), Nat.le_trans (List.length_take_le' _ _) h.2⟩
theorem ok__law_plan (W : Wd K mg) : FnR P w K mg base CX0 6 (ga K "_law_plan") (spLP K) := by
  refine (def_ok W.F__law_plan sc__law_plan (fun _ _ _ _ _ _ us hl => match us, hl with | [_], _ => rfl) (fun vs H Q E ⟨r, ps, l, ev, _⟩ => by rw [ev]; rfl) fun cdv A outer s H vs Q E hr ⟨r, ps, l, ev, hps, hpl, hg, k⟩ => ?_).2
  subst ev
  have lps : ps.length = l.length := pr_len hpl
  refine ⟨_, PSs.nox (pss_cons (ps_set (i := 1) sc__law_plan.nd rfl (Or.inl rfl) (pe_mk0 W.mk_Plan (ok_Plan_init W) (hr.mono (by decide)) W.g_Plan pass0 rfl)) (pss_cons (ps_for PassesOwn.never rfl (pi_listK K (pv 0)) (pg_name (i := 2) sc__law_plan.nd rfl (Or.inl rfl)) (pss_one (ps_set (i := 1) sc__law_plan.nd rfl (Or.inl rfl) (pe_methR W.c_Plan W.m_Plan_joined (ok_Plan_joined W) (hr.mono (by decide)) pass0 (pv 1) (pa_cons (pe_mk W.mk_Plan (ok_Plan_init W) (hr.mono (by decide)) W.g_Plan pass0 rfl (pa_cons (pv 2) pa_nil)) pa_nil))))) (pss_one (ps_ret (pv 1))))), ?_⟩
  walk_at "x"
  refine mk_plan (l := []) .nil ⟨(fun s hs => nomatch hs), Nat.zero_le _⟩ fun x0 H0 hx0 s0 p0 => ?_
  walk_at "x"
  refine x_iLAt (SqL.of (s0 _ _ hps)) (x_loop walk_list (fun i σ H2 => Same H H2 ∧ ∃ x b, σ = [some (.ref r), some (.ref x), b] ∧ H x = none ∧ PlanAt (CP K) H2 x (l.take i)) ⟨s0, x0, _, rfl, hx0, p0⟩ (fun i σ H2 _ ⟨s2, _⟩ => SqL.of (s2 _ _ hps)) ?_ ?_)
  · rintro i y σ H2 H3 hi ⟨s2, x, b, rfl, hx, hP⟩ ⟨rfl, ey⟩
    obtain ⟨st, hst, q, rfl, hq⟩ := pr_at hpl ey
    have tk : l.take (i + 1) = l.take i ++ [st] := by rw [List.take_add_one, hst]; rfl
    obtain ⟨dx, t, vs, g1, g2, g3⟩ := id hP.ex
    walk_at "x"
    refine x_methAt g1 rfl ?_
    walk_at "x"
    have g60 := good_take hg (i + 1)
    rw [tk] at g60 ⊢
    refine mk_plan (l := [st]) (.cons ⟨q, rfl, s2 _ _ hq⟩ .nil) ⟨fun s hs => g60.1 s (List.mem_append_right _ hs), by show 1 ≤ 60; decide⟩ fun x1 H4 hx1 s4 p4 => ?_
    walk_at "x"
    refine ⟨[.ref x], [.ref x1], rfl, rfl, sz rfl, fun u hu => ?_⟩
    refine ⟨x, u, l.take i, [.ref x1], [[st]], rfl, (hP.mono s4).mono (Same.new hu), upd_same, .cons ⟨x1, rfl, p4.mono (Same.new hu)⟩ .nil, g60, fun x5 H5 hx5 s5 p5 => ?_⟩
    walk_at "x"
    have sA := (s2.trans s4).trans ((Same.new hu).trans s5)
    exact ⟨sA, x5, _, rfl, ((s2.trans s4).trans (Same.new hu)).free hx5, p5⟩
  · rintro σ H2 ⟨s2, x, b, rfl, hx, hP⟩
    rw [lps, List.take_length] at hP
    walk_at "x"
    exact k x H2 hx s2 hP
end
end K08

set_option Elab.async false
set_option linter.all false
set_option autoImplicit false
set_option maxRecDepth 100000
set_option pp.maxSteps 500
set_option maxHeartbeats 4000000
namespace K08
open PySem PySem.Spec PyProof.Rows L2 He ChH Ch ChM
local macro_rules | `(tactic| walk_at "x1") => `(tactic| first
  | ((with_reducible apply x_var); exact rfl)
  | with_reducible refine x_c ?_
  | with_reducible refine x_op ?_
  | with_reducible refine x_seq ?_
  | with_reducible refine x_asg ?_
  | with_reducible refine x_gname ?_
  | with_reducible refine x_cons ?_
  | with_reducible refine x_nil ?_
  | with_reducible refine x_fld ?_
  | with_reducible refine x_ret ?_
  | with_reducible refine x_ifS ?_
  | with_reducible refine x_test ?_
  | with_reducible refine x_ex ?_
  | with_reducible refine x_call ?_
  | with_reducible refine x_mk ?_
  | with_reducible refine x_meth ?_
  | with_reducible refine x_prop ?_
  | with_reducible refine x_cb ?_
  | with_reducible refine x_tup ?_
  | with_reducible refine x_lst ?_
  | with_reducible refine x_drop ?_
  | with_reducible refine x_for ?_
  | with_reducible refine x_iL ?_
  | with_reducible refine x_iT ?_
  | with_reducible refine x_iE ?_
  | with_reducible refine x_iU ?_
  | with_reducible refine x_iR1 ?_
  | with_reducible refine x_iR2 ?_
  | with_reducible refine x_gcons ?_
  | with_reducible refine x_gnil ?_
  | with_reducible refine x_par ?_
  | with_reducible refine x_lstRg ?_
  | with_reducible refine x_rg1 ?_
  | with_reducible refine x_rg1At ?_
  | with_reducible refine x_par3 ?_
  | with_reducible refine x_bm ?_
  | with_reducible refine x_bm0 ?_
  | with_reducible refine x_gSub ?_
  | with_reducible refine x_lc ?_
  | with_reducible refine x_yes ?_
  | with_reducible refine x_setf ?_
  | with_reducible refine x_next ?_
  | with_reducible refine x_B ?_
  | with_reducible refine x_and ?_
  | with_reducible refine x_or ?_
  | with_reducible refine x_not ?_
  | with_reducible refine x_andV ?_
  | with_reducible refine x_orV ?_
  | with_reducible refine x_notV ?_
  | with_reducible refine x_ifE ?_
  | with_reducible refine x_chain ?_
  | with_reducible refine x_chain3 ?_
  | with_reducible refine x_un ?_
  | with_reducible refine x_isNe ?_
  | with_reducible refine x_notNe ?_
  | with_reducible refine x_starA ?_
  | with_reducible refine x_plusI ?_
  | with_reducible refine x_minus ?_
  | with_reducible refine x_lt ?_
  | with_reducible refine x_le ?_
  | with_reducible refine x_gt ?_
  | with_reducible refine x_ge ?_
  | with_reducible refine x_eqI ?_
  | with_reducible refine x_neI ?_
  | with_reducible refine x_eqS ?_
  | with_reducible refine x_eqB ?_
  | with_reducible refine x_neB ?_
  | with_reducible refine x_int ?_
  | with_reducible refine x_intB ?_
  | with_reducible refine x_max2 ?_
  | with_reducible refine x_min2 ?_
  | with_reducible refine x_max3 ?_
  | with_reducible refine x_abs ?_
  | with_reducible refine x_neg ?_
  | with_reducible refine x_isi_ii ?_
  | with_reducible refine x_isi_ib ?_
  | with_reducible refine x_T ?_
  | with_reducible refine x_nT ?_
  | with_reducible refine x_nF ?_
  | with_reducible refine x_F ?_)
local macro_rules | `(tactic| walk_at "x") => `(tactic| repeat walk_at "x1")

section
variable {P : Program} {w : World} {K : PySem.W.Frag} {mg : Str → Option Value} {base : Heap}
def spPl (K : PySem.W.Frag) : Sp := fun vs H Q _ => ∃ (r : Addr) (ps : List V) (l : List Stp) (c x : Int), vs = [.ref r, .int c, .int x] ∧ H r = some (.lst ps) ∧ StepsAt H ps l ∧ l.length ≤ 10000 ∧
  ∀ t q H', H q = none → H t = none → Same H H' → H' t = some (.tup [.ref q, .int (playS (x, c - x) l).1]) → H' q = some (.lst ((playC (x, c - x) l).map V.int)) → Q (.ref t) H'
theorem ok__law_played (W : Wd K mg) : FnR P w K mg base CX0 1 (ga K "_law_played") (spPl K) := by
  refine (def_ok W.F__law_played sc__law_played (fun _ _ _ _ _ _ us hl => match us, hl with | [_, _, _], _ => rfl) (fun vs H Q E ⟨r, ps, l, c, x, ev, _⟩ => by rw [ev]; rfl) fun cdv A outer s H vs Q E hr ⟨r, ps, l, c, x, ev, hps, hpl, hll, k⟩ => ?_).2
  subst ev
  have lps : ps.length = l.length := pr_len hpl
  refine ⟨_, PSs.nox (pss_cons (ps_par3 (i := 3) (j := 4) (l := 5) (by rfl) sc__law_played.nd rfl rfl rfl (by decide) (by decide) (by decide) rfl rfl rfl (pa_cons (pv 2) (pa_cons (pe_op op_minus (pv 1) (pv 2)) (pa_cons (pe_lst pa_nil) pa_nil))) (by rfl)) (pss_cons (ps_for PassesOwn.never rfl (pi_listK K (pv 0)) (pg_name (i := 6) sc__law_played.nd rfl (Or.inl rfl)) (pss_cons (ps_set (i := 7) sc__law_played.nd rfl (Or.inl rfl) pe_int) (pss_cons (ps_if (pt_cmpR (op_eqK K hr.units) (pe_ix (ix_K K) (pv 6) pe_int (fun _ _ => rfl)) pe_str (nomark _)) (pss_one (ps_par (i := 3) (j := 4) (by rfl) sc__law_played.nd rfl rfl (by decide) rfl rfl (pa_cons (pv 4) (pa_cons (pv 3) pa_nil)) (by rfl))) (pss_one (ps_if (pt_cmpR (op_eqK K hr.units) (pe_ix (ix_K K) (pv 6) pe_int (fun _ _ => rfl)) pe_str (nomark _)) (pss_cons (ps_set (i := 7) sc__law_played.nd rfl (Or.inl rfl) (pe_callB (c_max2 rfl) (by rfl) W.f_max (by decide +kernel) (pa_cons pe_int (pa_cons (pe_op op_minus (pe_ix (ix_K K) (pv 6) pe_int (fun _ _ => rfl)) (pv 3)) pa_nil)))) (pss_one (ps_par (i := 3) (j := 4) (by rfl) sc__law_played.nd rfl rfl (by decide) rfl rfl (pa_cons (pe_op op_plus (pv 3) (pv 7)) (pa_cons (pe_op op_minus (pv 4) (pv 7)) pa_nil)) (by rfl)))) (pss_cons (ps_set (i := 7) sc__law_played.nd rfl (Or.inl rfl) (pe_callB (c_max2 rfl) (by rfl) W.f_max (by decide +kernel) (pa_cons pe_int (pa_cons (pe_op op_minus (pe_ix (ix_K K) (pv 6) pe_int (fun _ _ => rfl)) (pv 4)) pa_nil)))) (pss_one (ps_par (i := 3) (j := 4) (by rfl) sc__law_played.nd rfl rfl (by decide) rfl rfl (pa_cons (pe_op op_minus (pv 3) (pv 7)) (pa_cons (pe_op op_plus (pv 4) (pv 7)) pa_nil)) (by rfl))))))) (pss_one (ps_expr (pe_bmK K PySem.F.plainAttrs_list PySem.F.slot_list_append PySem.F.type_list_append mt_append (pv 5) (pa_cons (pv 7) pa_nil))))))) (pss_one (ps_ret (pe_tup (pa_cons (pv 5) (pa_cons (pv 3) pa_nil))))))), ?_⟩
  walk_at "x"
  refine ⟨sz rfl, fun q hq => ?_⟩
  walk_at "x"
  refine ⟨_, _, _, rfl, ?_⟩
  walk_at "x"
  have hrq : r ≠ q := ne_of_none hps hq
  refine x_iLAt (SqL.of (up hps hq)) (x_loop walk_list (fun i σ H2 => Same H H2 ∧ (∃ a b, σ = [some (.ref r), some (.int c), some (.int x), some (.int (playS (x, c - x) (l.take i)).1), some (.int (playS (x, c - x) (l.take i)).2), some (.ref q), a, b]) ∧ H2 q = some (.lst ((playC (x, c - x) (l.take i)).map V.int))) ⟨Same.new hq, ⟨_, _, rfl⟩, upd_same⟩ (fun i σ H2 _ ⟨s2, _⟩ => SqL.of (s2 _ _ hps)) ?_ ?_)
  · rintro i y σ H2 H3 hi ⟨s2, ⟨a, b, rfl⟩, hq2⟩ ⟨rfl, ey⟩
    obtain ⟨st, hst, p, rfl, hp⟩ := pr_at hpl ey
    have tk : l.take (i + 1) = l.take i ++ [st] := by rw [List.take_add_one, hst]; rfl
    rw [tk, playS_snoc, playC_snoc]
    have len : (playC (x, c - x) (l.take i)).length ≤ 10000 := by
      rw [playC_len]
      exact Nat.le_trans (List.length_take_le' _ _) hll
    generalize playS (x, c - x) (l.take i) = pp
    generalize playC (x, c - x) (l.take i) = cc at hq2 len ⊢
    have hp3 := s2 _ _ hp
    have fin : ∀ (z : Int) (σ : L2.St), Same H (upd H3 q (.lst (cc.map V.int ++ [.int z]))) ∧ (upd H3 q (.lst (cc.map V.int ++ [.int z]))) q = some (.lst ((cc ++ [z]).map V.int)) := by
      intro z σ
      refine ⟨Same.mut s2 hq, ?_⟩
      rw [upd_same, List.map_append]
      rfl
    cases st with
    | turn =>
      walk_at "x"
      refine x_ixT (SqT.of hp3) (i := 0) rfl ?_
      walk_at "x"
      refine x_T ?_
      walk_at "x"
      refine ⟨_, _, rfl, ?_⟩
      walk_at "x"
      refine ⟨ty_lst hq2, ?_⟩
      walk_at "x"
      refine x_app hq2 (sz5' (by rw [List.length_map]; omega)) ?_
      walk_at "x"
      exact ⟨(fin 0 []).1, ⟨_, _, rfl⟩, (fin 0 []).2⟩
    | mt bb n =>
      walk_at "x"
      refine x_ixT (SqT.of hp3) (i := 0) rfl ?_
      walk_at "x"
      rw [show decide (roomS bb = ("turn" : Str)) = false by cases bb <;> decide +kernel]
      walk_at "x"
      refine x_ixT (SqT.of hp3) (i := 0) rfl ?_
      walk_at "x"
      rw [show decide (roomS bb = ("red" : Str)) = bb by cases bb <;> decide +kernel]
      cases bb with
      | true =>
        walk_at "x"
        refine x_ixT (SqT.of hp3) (i := 1) rfl ?_
        walk_at "x"
        refine ⟨_, _, rfl, ?_⟩
        walk_at "x"
        refine ⟨ty_lst hq2, ?_⟩
        walk_at "x"
        refine x_app hq2 (sz5' (by rw [List.length_map]; omega)) ?_
        walk_at "x"
        exact ⟨(fin _ []).1, ⟨_, _, rfl⟩, (fin _ []).2⟩
      | false =>
        walk_at "x"
        refine x_ixT (SqT.of hp3) (i := 1) rfl ?_
        walk_at "x"
        refine ⟨_, _, rfl, ?_⟩
        walk_at "x"
        refine ⟨ty_lst hq2, ?_⟩
        walk_at "x"
        refine x_app hq2 (sz5' (by rw [List.length_map]; omega)) ?_
        walk_at "x"
        exact ⟨(fin _ []).1, ⟨_, _, rfl⟩, (fin _ []).2⟩
  · rintro σ H2 ⟨s2, ⟨a, b, rfl⟩, hq2⟩
    rw [lps, List.take_length] at hq2 ⊢
    walk_at "x"
    exact ⟨sz rfl, fun t ht => k t q _ hq (s2.free ht) (s2.trans (Same.new ht)) upd_same (up hq2 ht)⟩
end
end K08

set_option Elab.async false
set_option linter.all false
set_option autoImplicit false
set_option maxRecDepth 100000
set_option pp.maxSteps 500
set_option maxHeartbeats 4000000
namespace K08
open PySem PySem.Spec PyProof.Rows L2 He ChH Ch ChM
/-! ### the plain law: where two effects differ first -/
def difE (e f : Eff) (x : Int) : Prop := ¬ (e.carried x = f.carried x ∧ e.fin x = f.fin x)
instance (e f : Eff) (x : Int) : Decidable (difE e f x) := by unfold difE; infer_instance
def cands (e f : Eff) : List Int := [0, 1, e.lo, e.lo + 1, e.hi, e.hi + 1, f.lo, f.lo + 1, f.hi, f.hi + 1]
theorem eff_line {e : Eff} (h : e.lo ≤ e.hi) {x : Int} (h1 : x ≠ e.lo + 1) (h2 : x ≠ e.hi + 1) : e.carried x = 2 * e.carried (x - 1) - e.carried (x - 2) ∧ e.fin x = 2 * e.fin (x - 1) - e.fin (x - 2) := by
  have hp : e.place x = 2 * e.place (x - 1) - e.place (x - 2) := by
    unfold Eff.place
    cases e.goal with
    | some g => dsimp only; omega
    | none =>
      dsimp only
      have := mx_def x e.lo
      have := mn_def (mx x e.lo) e.hi
      have := mx_def (x - 1) e.lo
      have := mn_def (mx (x - 1) e.lo) e.hi
      have := mx_def (x - 2) e.lo
      have := mn_def (mx (x - 2) e.lo) e.hi
      omega
  constructor
  · unfold Eff.carried
    have := mx_def (e.lo - x) (x - e.hi)
    have := mx_def (mx (e.lo - x) (x - e.hi)) 0
    have := mx_def (e.lo - (x - 1)) ((x - 1) - e.hi)
    have := mx_def (mx (e.lo - (x - 1)) ((x - 1) - e.hi)) 0
    have := mx_def (e.lo - (x - 2)) ((x - 2) - e.hi)
    have := mx_def (mx (e.lo - (x - 2)) ((x - 2) - e.hi)) 0
    omega
  · unfold Eff.fin
    rw [hp]
    split <;> omega
/-- a first difference is among the candidates -/
theorem first_cand {e f : Eff} (he : e.lo ≤ e.hi) (hf : f.lo ≤ f.hi) {x : Int} (h0 : 0 ≤ x) (hd : difE e f x) (hm : ∀ y, 0 ≤ y → y < x → ¬ difE e f y) : x ∈ cands e f := by
  by_cases m : x ∈ cands e f
  · exact m
  · exfalso
    unfold cands at m
    simp only [List.mem_cons, List.not_mem_nil, or_false, not_or] at m
    obtain ⟨m0, m1, m2, m3, m4, m5, m6, m7, m8, m9⟩ := m
    have a1 := hm (x - 1) (by omega) (by omega)
    have a2 := hm (x - 2) (by omega) (by omega)
    obtain ⟨e1, e2⟩ := eff_line he m3 m5
    obtain ⟨f1, f2⟩ := eff_line hf m7 m9
    unfold difE at a1 a2 hd
    rw [Classical.not_not] at a1 a2
    exact hd ⟨by omega, by omega⟩
/-- o is the first start in a house of c chairs at which e and f differ -/
def FirstD (c : Int) (e f : Eff) : Option Int → Prop
  | some x => 0 ≤ x ∧ x ≤ c ∧ difE e f x ∧ ∀ y, 0 ≤ y → y < x → ¬ difE e f y
  | none => ∀ y, 0 ≤ y → y ≤ c → ¬ difE e f y
theorem difE_comm {e f : Eff} {x : Int} : difE e f x ↔ difE f e x := by
  unfold difE
  constructor
  · exact fun h z => h ⟨z.1.symm, z.2.symm⟩
  · exact fun h z => h ⟨z.1.symm, z.2.symm⟩
theorem firstD_one {c : Int} {e f : Eff} {o o' : Option Int} (h : FirstD c e f o) (h' : FirstD c f e o') : o' = o := by
  cases o with
  | none =>
    cases o' with
    | none => rfl
    | some y =>
      obtain ⟨y0, y1, yd, _⟩ := h'
      exact absurd (difE_comm.mp yd) (h y y0 y1)
  | some x =>
    obtain ⟨x0, x1, xd, xm⟩ := h
    cases o' with
    | none => exact absurd (difE_comm.mp xd) (h' x x0 x1)
    | some y =>
      obtain ⟨y0, y1, yd, ym⟩ := h'
      have a : ¬ y < x := fun z => xm y y0 z (difE_comm.mp yd)
      have b : ¬ x < y := fun z => ym x x0 z (difE_comm.mp xd)
      rw [show y = x by omega]
/-- a smallest one -/
theorem least_ex {p : Int → Prop} : ∀ (n : Nat), (∃ y : Int, 0 ≤ y ∧ y ≤ (n : Int) ∧ p y) → ∃ x : Int, 0 ≤ x ∧ x ≤ (n : Int) ∧ p x ∧ ∀ y : Int, 0 ≤ y → y < x → ¬ p y
  | 0, ⟨y, y0, y1, h⟩ => ⟨y, y0, y1, h, fun z z0 z1 => by omega⟩
  | n + 1, ⟨y, y0, y1, h⟩ => by
    by_cases q : ∃ z, 0 ≤ z ∧ z ≤ (n : Int) ∧ p z
    · obtain ⟨x, x0, x1, hx, hm⟩ := least_ex n q
      exact ⟨x, x0, by omega, hx, hm⟩
    · refine ⟨y, y0, y1, h, fun z z0 z1 hz => q ⟨z, z0, by omega, hz⟩⟩
/-- what the loop over the sorted candidates finds -/
theorem find_some {c : Int} {e f : Eff} (he : e.lo ≤ e.hi) (hf : f.lo ≤ f.hi) {ms : List Int} (hp : ms.Perm (cands e f)) (hs : ms.Pairwise (· ≤ ·)) {i : Nat} {x : Int} (hi : ms[i]? = some x) (h0 : 0 ≤ x) (h1 : x ≤ c) (hd : difE e f x)
    (hb : ∀ j y, j < i → ms[j]? = some y → y ≤ c → ¬ difE e f y) : FirstD c e f (some x) := by
  refine ⟨h0, h1, hd, fun y y0 y1 hy => ?_⟩
  obtain ⟨z, z0, z1, hz, hm⟩ := least_ex (p := difE e f) y.toNat ⟨y, y0, by omega, hy⟩
  have zm := hp.mem_iff.mpr (first_cand he hf z0 hz hm)
  obtain ⟨j, hj, ej⟩ := List.getElem_of_mem zm
  obtain ⟨hi2, ei⟩ := List.getElem?_eq_some_iff.mp hi
  rcases Nat.lt_trichotomy j i with h | h | h
  · exact hb j z h (by rw [List.getElem?_eq_getElem hj, ej]) (by omega) hz
  · subst h
    rw [ei] at ej
    omega
  · have := List.pairwise_iff_getElem.mp hs i j hi2 hj h
    rw [ei, ej] at this
    omega
theorem find_none {c : Int} {e f : Eff} (he : e.lo ≤ e.hi) (hf : f.lo ≤ f.hi) {ms : List Int} (hp : ms.Perm (cands e f)) (hb : ∀ j y, j < ms.length → ms[j]? = some y → y ≤ c → ¬ difE e f y) : FirstD c e f none := by
  intro y y0 y1 hy
  obtain ⟨z, z0, z1, hz, hm⟩ := least_ex (p := difE e f) y.toNat ⟨y, y0, by omega, hy⟩
  have zm := hp.mem_iff.mpr (first_cand he hf z0 hz hm)
  obtain ⟨j, hj, ej⟩ := List.getElem_of_mem zm
  exact hb j z hj (by rw [List.getElem?_eq_getElem hj, ej]) (by omega) hz
local macro_rules | `(tactic| walk_at "x1") => `(tactic| first
  | ((with_reducible apply x_var); exact rfl)
  | with_reducible refine x_c ?_
  | with_reducible refine x_op ?_
  | with_reducible refine x_seq ?_
  | with_reducible refine x_asg ?_
  | with_reducible refine x_gname ?_
  | with_reducible refine x_cons ?_
  | with_reducible refine x_nil ?_
  | with_reducible refine x_fld ?_
  | with_reducible refine x_ret ?_
  | with_reducible refine x_ifS ?_
  | with_reducible refine x_test ?_
  | with_reducible refine x_ex ?_
  | with_reducible refine x_call ?_
  | with_reducible refine x_mk ?_
  | with_reducible refine x_meth ?_
  | with_reducible refine x_prop ?_
  | with_reducible refine x_cb ?_
  | with_reducible refine x_tup ?_
  | with_reducible refine x_lst ?_
  | with_reducible refine x_drop ?_
  | with_reducible refine x_for ?_
  | with_reducible refine x_iL ?_
  | with_reducible refine x_iT ?_
  | with_reducible refine x_iE ?_
  | with_reducible refine x_iU ?_
  | with_reducible refine x_iR1 ?_
  | with_reducible refine x_iR2 ?_
  | with_reducible refine x_gcons ?_
  | with_reducible refine x_gnil ?_
  | with_reducible refine x_par ?_
  | with_reducible refine x_lstRg ?_
  | with_reducible refine x_rg1 ?_
  | with_reducible refine x_rg1At ?_
  | with_reducible refine x_par3 ?_
  | with_reducible refine x_bm ?_
  | with_reducible refine x_bm0 ?_
  | with_reducible refine x_gSub ?_
  | with_reducible refine x_lc ?_
  | with_reducible refine x_yes ?_
  | with_reducible refine x_setf ?_
  | with_reducible refine x_next ?_
  | with_reducible refine x_B ?_
  | with_reducible refine x_and ?_
  | with_reducible refine x_or ?_
  | with_reducible refine x_not ?_
  | with_reducible refine x_andV ?_
  | with_reducible refine x_orV ?_
  | with_reducible refine x_notV ?_
  | with_reducible refine x_ifE ?_
  | with_reducible refine x_chain ?_
  | with_reducible refine x_chain3 ?_
  | with_reducible refine x_un ?_
  | with_reducible refine x_isNe ?_
  | with_reducible refine x_notNe ?_
  | with_reducible refine x_starA ?_
  | with_reducible refine x_plusI ?_
  | with_reducible refine x_minus ?_
  | with_reducible refine x_lt ?_
  | with_reducible refine x_le ?_
  | with_reducible refine x_gt ?_
  | with_reducible refine x_ge ?_
  | with_reducible refine x_eqI ?_
  | with_reducible refine x_neI ?_
  | with_reducible refine x_eqS ?_
  | with_reducible refine x_eqB ?_
  | with_reducible refine x_neB ?_
  | with_reducible refine x_int ?_
  | with_reducible refine x_intB ?_
  | with_reducible refine x_max2 ?_
  | with_reducible refine x_min2 ?_
  | with_reducible refine x_max3 ?_
  | with_reducible refine x_abs ?_
  | with_reducible refine x_neg ?_
  | with_reducible refine x_isi_ii ?_
  | with_reducible refine x_isi_ib ?_
  | with_reducible refine x_T ?_
  | with_reducible refine x_nT ?_
  | with_reducible refine x_nF ?_
  | with_reducible refine x_F ?_)
local macro_rules | `(tactic| walk_at "x") => `(tactic| repeat walk_at "x1")

local macro_rules | `(tactic| walk_at "eff") => `(tactic| first
  | refine x_eff (by assumption) (Wd.c_Effect (by assumption)) (Wd.n_Effect_chairs (by assumption)) eff_chairs ?_
  | refine x_eff (by assumption) (Wd.c_Effect (by assumption)) (Wd.n_Effect_low (by assumption)) eff_low ?_
  | refine x_eff (by assumption) (Wd.c_Effect (by assumption)) (Wd.n_Effect_high (by assumption)) eff_high ?_
  | refine x_eff (by assumption) (Wd.c_Effect (by assumption)) (Wd.n_Effect_extra (by assumption)) eff_extra ?_
  | refine x_eff (by assumption) (Wd.c_Effect (by assumption)) (Wd.n_Effect_goal (by assumption)) eff_goal ?_
  | refine x_eff (by assumption) (Wd.c_Effect (by assumption)) (Wd.n_Effect_turned (by assumption)) eff_turned ?_)
local macro_rules | `(tactic| walk_at "y") => `(tactic| repeat (first | walk_at "x1" | walk_at "eff"))

local macro_rules | `(tactic| walk_at "q1") => `(tactic| first
  | walk_at "x1"
  | with_reducible refine x_sl ?_
  | with_reducible refine x_cmeth ?_
  | with_reducible refine x_noPart ?_
  | with_reducible refine x_part ?_
  | with_reducible refine x_partI ?_)
local macro_rules | `(tactic| walk_at "q") => `(tactic| repeat walk_at "q1")

section
variable {P : Program} {w : World} {K : PySem.W.Frag} {mg : Str → Option Value} {base : Heap}
def spFD (K : PySem.W.Frag) : Sp := fun vs H Q _ => ∃ (p q : Addr) (c : Int) (l m : List Stp), vs = [.ref p, .ref q, .int c] ∧ PlanAt (CP K) H p l ∧ PlanAt (CP K) H q m ∧ l.length ≤ 60 ∧ m.length ≤ 60 ∧ 0 ≤ c ∧ c ≤ 1000000000000000000 ∧ fitsS c l ∧ fitsS c m ∧
  ∀ o H', Same H H' → FirstD c (effOf c l) (effOf c m) o → Q (goalV o) H'
theorem ok_first_difference (W : Wd K mg) : FnR P w K mg base CX0 6 (ga K "first_difference") (spFD K) := by
  refine (def_ok W.F_first_difference sc_first_difference (fun _ _ _ _ _ _ us hl => match us, hl with | [_, _, _], _ => rfl) (fun vs H Q E ⟨p, q, c, l, m, ev, _⟩ => by rw [ev]; rfl) fun cdv A outer s H vs Q E hr ⟨p, q, c, l, m, ev, hp, hq, l60, m60, c0, c1, hfl, hfm, k⟩ => ?_).2
  subst ev
  obtain ⟨eo, ec, _, _⟩ := effOf_ok c0 hfl
  obtain ⟨fo, fc, _, _⟩ := effOf_ok c0 hfm
  refine ⟨_, PSs.nox (pss_cons (ps_expr (pe_callR (ok_validate_house W) (hr.mono (by decide)) W.g_validate_house W.k_validate_house pass0 rfl (pa_cons (pv 0) (pa_cons (pv 2) pa_nil)))) (pss_cons (ps_expr (pe_callR (ok_validate_house W) (hr.mono (by decide)) W.g_validate_house W.k_validate_house pass0 rfl (pa_cons (pv 1) (pa_cons (pv 2) pa_nil)))) (pss_cons (ps_par (i := 3) (j := 4) (by rfl) sc_first_difference.nd rfl rfl (by decide) rfl rfl (pa_cons (pe_callR (ok_effect_of W) (hr.mono (by decide)) W.g_effect_of W.k_effect_of pass0 rfl (pa_cons (pv 0) (pa_cons (pv 2) pa_nil))) (pa_cons (pe_callR (ok_effect_of W) (hr.mono (by decide)) W.g_effect_of W.k_effect_of pass0 rfl (pa_cons (pv 1) (pa_cons (pv 2) pa_nil))) pa_nil)) (by rfl)) (pss_cons (ps_set (i := 5) sc_first_difference.nd rfl (Or.inl rfl) (pe_lst (pa_cons pe_int (pa_cons pe_int pa_nil)))) (pss_cons (ps_for PassesOwn.never rfl (pi_tupK K (pe_tup (pa_cons (pe_fldK K (pv 3)) (pa_cons (pe_fldK K (pv 3)) (pa_cons (pe_fldK K (pv 4)) (pa_cons (pe_fldK K (pv 4)) pa_nil)))))) (pg_name (i := 6) sc_first_difference.nd rfl (Or.inl rfl)) (pss_one (ps_expr (pe_bmK K PySem.F.plainAttrs_list PySem.F.slot_list_extend PySem.F.type_list_extend mt_extend (pv 5) (pa_cons (pe_lst (pa_cons (pv 6) (pa_cons (pe_op op_plus (pv 6) pe_int) pa_nil))) pa_nil))))) (pss_cons (ps_for PassesOwn.never rfl (pi_listK K (pe_callB (c_sortedK K) (by rfl) W.f_sorted (by decide +kernel) (pa_cons (pv 5) pa_nil))) (pg_name (i := 7) sc_first_difference.nd rfl (Or.inl rfl)) (pss_one (ps_if (PW.pt (pw_and (pt_cmpR op_leI (pv 7) (pv 2) (nomark _)) (pw_and1 (pt_cmpR (op_neK K hr.units) (pe_tup (pa_cons (pe_methR W.c_Effect W.m_Effect_carried (ok_Effect_carried W) (hr.mono (by decide)) pass0 (pv 3) (pa_cons (pv 7) pa_nil)) (pa_cons (pe_methR W.c_Effect W.m_Effect_end (ok_Effect_end W) (hr.mono (by decide)) pass0 (pv 3) (pa_cons (pv 7) pa_nil)) pa_nil))) (pe_tup (pa_cons (pe_methR W.c_Effect W.m_Effect_carried (ok_Effect_carried W) (hr.mono (by decide)) pass0 (pv 4) (pa_cons (pv 7) pa_nil)) (pa_cons (pe_methR W.c_Effect W.m_Effect_end (ok_Effect_end W) (hr.mono (by decide)) pass0 (pv 4) (pa_cons (pv 7) pa_nil)) pa_nil))) (nomark _))))) (pss_one (ps_ret (pv 7))) pss_nil))) (pss_one (ps_ret pe_non)))))))), ?_⟩
  walk_at "y"
  refine ⟨p, c, l, rfl, hp, l60, c0, c1, hfl, fun H1 s1 => ?_⟩
  walk_at "y"
  refine ⟨q, c, m, rfl, hq.mono s1, m60, c0, c1, hfm, fun H2 s2 => ?_⟩
  walk_at "y"
  refine ⟨p, c, l, rfl, (hp.mono s1).mono s2, l60, fun x1 H3 s3 e3 => ?_⟩
  walk_at "y"
  refine ⟨q, c, m, rfl, ((hq.mono s1).mono s2).mono s3, m60, fun x2 H4 s4 f4 => ?_⟩
  walk_at "y"
  refine ⟨_, _, rfl, ?_⟩
  have e4 := e3.mono s4
  have s04 := s1.trans (s2.trans (s3.trans s4))
  generalize effOf c l = e at *
  generalize effOf c m = f at *
  walk_at "y"
  refine ⟨sz rfl, fun r hr4 => ?_⟩
  have e5 := e4.mono (Same.new (o := .lst [.int 0, .int 1]) hr4)
  have f5 := f4.mono (Same.new (o := .lst [.int 0, .int 1]) hr4)
  walk_at "y"
  refine ⟨sz rfl, fun t ht => ?_⟩
  walk_at "y"
  refine x_iTAt (SqT.of upd_same) ?_
  have hr5 : (upd (upd H4 r (.lst [.int 0, .int 1])) t (.tup [.int e.lo, .int e.hi, .int f.lo, .int f.hi])) r = some (.lst [.int 0, .int 1]) := up upd_same ht
  have s5 : Same H4 (upd (upd H4 r (.lst [.int 0, .int 1])) t (.tup [.int e.lo, .int e.hi, .int f.lo, .int f.hi])) := (Same.new hr4).trans (Same.new ht)
  have t5 : (upd (upd H4 r (.lst [.int 0, .int 1])) t (.tup [.int e.lo, .int e.hi, .int f.lo, .int f.hi])) t = some (.tup [.int e.lo, .int e.hi, .int f.lo, .int f.hi]) := upd_same
  generalize upd (upd H4 r (.lst [.int 0, .int 1])) t (.tup [.int e.lo, .int e.hi, .int f.lo, .int f.hi]) = H5 at hr5 s5 t5 ⊢
  refine x_loop walk_tup (fun i σ H6 => (∃ b d, σ = [some (.ref p), some (.ref q), some (.int c), some (.ref x1), some (.ref x2), some (.ref r), b, d]) ∧ Same H4 H6 ∧ H6 t = some (.tup [.int e.lo, .int e.hi, .int f.lo, .int f.hi]) ∧ H6 r = some (.lst (((cands e f).take (2 + 2 * i)).map V.int))) ⟨⟨_, _, rfl⟩, s5, t5, hr5⟩ (fun i σ H6 _ ⟨_, _, ht6, _⟩ => SqT.of ht6) ?_ ?_
  · rintro i y σ H6 H7 hi ⟨⟨b, d, rfl⟩, s6, ht6, hr6⟩ ⟨rfl, ey⟩
    have hi4 : i < 4 := hi
    obtain ⟨z, rfl, hz⟩ : ∃ z : Int, y = .int z ∧ (((cands e f).take (2 + 2 * i)).map V.int ++ [.int z, .int (z + 1)]) = ((cands e f).take (2 + 2 * (i + 1))).map V.int := by
      have : i = 0 ∨ i = 1 ∨ i = 2 ∨ i = 3 := by omega
      rcases this with rfl | rfl | rfl | rfl
      · cases ey; exact ⟨_, rfl, rfl⟩
      · cases ey; exact ⟨_, rfl, rfl⟩
      · cases ey; exact ⟨_, rfl, rfl⟩
      · cases ey; exact ⟨_, rfl, rfl⟩
    walk_at "y"
    refine ⟨ty_lst hr6, ?_⟩
    walk_at "y"
    refine ⟨sz rfl, fun u hu => ?_⟩
    walk_at "y"
    refine ⟨r, u, _, _, rfl, rfl, up hr6 hu, upd_same, sz5 ?_, ?_⟩
    · rw [List.length_map, List.length_take]
      show min _ 10 + 2 ≤ _
      omega
    walk_at "y"
    refine ⟨⟨_, _, rfl⟩, ?_, ?_, ?_⟩
    · exact Same.mut (s6.trans (Same.new hu)) hr4
    · rw [upd_ne (ne_of ht6 hr6 (by intro z; cases z))]
      exact up ht6 hu
    · rw [upd_same, hz]
  · rintro σ H6 ⟨⟨b, d, rfl⟩, s6, _, hr6⟩
    have hr6' : H6 r = some (.lst ((cands e f).map V.int)) := hr6
    have e6 := e4.mono s6
    have f6 := f4.mono s6
    walk_at "y"
    refine x_sorted (SqL.of hr6') (by show 10 < 64; decide) fun ms u hperm hsort hu => ?_
    have s7 : Same H6 (upd H6 u (.lst (ms.map V.int))) := Same.new hu
    have hu7 : (upd H6 u (.lst (ms.map V.int))) u = some (.lst (ms.map V.int)) := upd_same
    generalize upd H6 u (.lst (ms.map V.int)) = H7 at s7 hu7 ⊢
    have e7 := e6.mono s7
    have f7 := f6.mono s7
    refine x_iLAt (SqL.of hu7) (x_loop walk_list (fun i σ H8 => (∃ b d, σ = [some (.ref p), some (.ref q), some (.int c), some (.ref x1), some (.ref x2), some (.ref r), b, d]) ∧ Same H7 H8 ∧ ∀ j y, j < i → ms[j]? = some y → y ≤ c → ¬ difE e f y) ⟨⟨_, _, rfl⟩, Same.refl _, fun j y hj => by omega⟩ (fun i σ H8 _ ⟨_, s8, _⟩ => SqL.of (s8 _ _ hu7)) ?_ ?_)
    · rintro i y σ H8 H9 hi ⟨⟨b, d, rfl⟩, s8, hb⟩ ⟨rfl, ey⟩
      rw [List.getElem?_map] at ey
      obtain ⟨x, hx, rfl⟩ := Option.map_eq_some_iff.mp ey
      have e8 := e7.mono s8
      have f8 := f7.mono s8
      have x0 : 0 ≤ x := by
        have := hperm.mem_iff.mp (List.mem_of_getElem? hx)
        unfold cands at this
        simp only [List.mem_cons, List.not_mem_nil, or_false] at this
        have := eo.lo0
        have := eo.lh
        have := fo.lo0
        have := fo.lh
        omega
      walk_at "y"
      refine x_ifd (fun hxc => ?_) fun hxc => ?_
      · walk_at "y"
        refine x_effM e8 (by kernel_rfl) ?_
        walk_at "y"
        refine ⟨x1, e, x, rfl, e8, ?_⟩
        walk_at "y"
        refine x_effM e8 (by kernel_rfl) ?_
        walk_at "y"
        refine ⟨x1, e, x, rfl, e8, ?_⟩
        walk_at "y"
        refine ⟨sz rfl, fun ta hta => ?_⟩
        have f9 := f8.mono (Same.new (o := .tup [.int (e.carried x), .int (e.fin x)]) hta)
        walk_at "y"
        refine x_effM f9 (by kernel_rfl) ?_
        walk_at "y"
        refine ⟨x2, f, x, rfl, f9, ?_⟩
        walk_at "y"
        refine x_effM f9 (by kernel_rfl) ?_
        walk_at "y"
        refine ⟨x2, f, x, rfl, f9, ?_⟩
        walk_at "y"
        refine ⟨sz rfl, fun tb htb => ?_⟩
        have s9 := (Same.new (o := .tup [.int (e.carried x), .int (e.fin x)]) hta).trans (Same.new (o := .tup [.int (f.carried x), .int (f.fin x)]) htb)
        refine x_neP (up upd_same htb) upd_same ?_
        walk_at "y"
        refine x_ifnd (fun hd => ?_) fun hd => ?_
        · walk_at "y"
          exact k (some x) _ (s04.trans (s6.trans (s7.trans (s8.trans s9)))) (find_some eo.lh fo.lh hperm hsort hx x0 hxc hd hb)
        · walk_at "y"
          refine ⟨⟨_, _, rfl⟩, s8.trans s9, fun j y hj hy yc => ?_⟩
          by_cases hji : j < i
          · exact hb j y hji hy yc
          · have : j = i := by omega
            subst this
            rw [hx] at hy
            cases hy
            exact fun z => z hd
      · walk_at "y"
        refine ⟨⟨_, _, rfl⟩, s8, fun j y hj hy yc => ?_⟩
        by_cases hji : j < i
        · exact hb j y hji hy yc
        · have : j = i := by omega
          subst this
          rw [hx] at hy
          cases hy
          exact absurd yc hxc
    · rintro σ H8 ⟨⟨b, d, rfl⟩, s8, hb⟩
      rw [List.length_map] at hb
      walk_at "y"
      exact k none _ (s04.trans (s6.trans (s7.trans s8))) (find_none eo.lh fo.lh hperm hb)
end
end K08

set_option Elab.async false
set_option linter.all false
set_option autoImplicit false
set_option maxRecDepth 100000
set_option pp.maxSteps 500
set_option maxHeartbeats 4000000
namespace K08
open PySem PySem.Spec PyProof.Rows L2 He ChH Ch ChM
local macro_rules | `(tactic| walk_at "x1") => `(tactic| first
  | ((with_reducible apply x_var); exact rfl)
  | with_reducible refine x_c ?_
  | with_reducible refine x_op ?_
  | with_reducible refine x_seq ?_
  | with_reducible refine x_asg ?_
  | with_reducible refine x_gname ?_
  | with_reducible refine x_cons ?_
  | with_reducible refine x_nil ?_
  | with_reducible refine x_fld ?_
  | with_reducible refine x_ret ?_
  | with_reducible refine x_ifS ?_
  | with_reducible refine x_test ?_
  | with_reducible refine x_ex ?_
  | with_reducible refine x_call ?_
  | with_reducible refine x_mk ?_
  | with_reducible refine x_meth ?_
  | with_reducible refine x_prop ?_
  | with_reducible refine x_cb ?_
  | with_reducible refine x_tup ?_
  | with_reducible refine x_lst ?_
  | with_reducible refine x_drop ?_
  | with_reducible refine x_for ?_
  | with_reducible refine x_iL ?_
  | with_reducible refine x_iT ?_
  | with_reducible refine x_iE ?_
  | with_reducible refine x_iU ?_
  | with_reducible refine x_iR1 ?_
  | with_reducible refine x_iR2 ?_
  | with_reducible refine x_gcons ?_
  | with_reducible refine x_gnil ?_
  | with_reducible refine x_par ?_
  | with_reducible refine x_lstRg ?_
  | with_reducible refine x_rg1 ?_
  | with_reducible refine x_rg1At ?_
  | with_reducible refine x_par3 ?_
  | with_reducible refine x_bm ?_
  | with_reducible refine x_bm0 ?_
  | with_reducible refine x_gSub ?_
  | with_reducible refine x_lc ?_
  | with_reducible refine x_yes ?_
  | with_reducible refine x_setf ?_
  | with_reducible refine x_next ?_
  | with_reducible refine x_B ?_
  | with_reducible refine x_and ?_
  | with_reducible refine x_or ?_
  | with_reducible refine x_not ?_
  | with_reducible refine x_andV ?_
  | with_reducible refine x_orV ?_
  | with_reducible refine x_notV ?_
  | with_reducible refine x_ifE ?_
  | with_reducible refine x_chain ?_
  | with_reducible refine x_chain3 ?_
  | with_reducible refine x_un ?_
  | with_reducible refine x_isNe ?_
  | with_reducible refine x_notNe ?_
  | with_reducible refine x_starA ?_
  | with_reducible refine x_plusI ?_
  | with_reducible refine x_minus ?_
  | with_reducible refine x_lt ?_
  | with_reducible refine x_le ?_
  | with_reducible refine x_gt ?_
  | with_reducible refine x_ge ?_
  | with_reducible refine x_eqI ?_
  | with_reducible refine x_neI ?_
  | with_reducible refine x_eqS ?_
  | with_reducible refine x_eqB ?_
  | with_reducible refine x_neB ?_
  | with_reducible refine x_int ?_
  | with_reducible refine x_intB ?_
  | with_reducible refine x_max2 ?_
  | with_reducible refine x_min2 ?_
  | with_reducible refine x_max3 ?_
  | with_reducible refine x_abs ?_
  | with_reducible refine x_neg ?_
  | with_reducible refine x_isi_ii ?_
  | with_reducible refine x_isi_ib ?_
  | with_reducible refine x_T ?_
  | with_reducible refine x_nT ?_
  | with_reducible refine x_nF ?_
  | with_reducible refine x_F ?_)
local macro_rules | `(tactic| walk_at "x") => `(tactic| repeat walk_at "x1")

local macro_rules | `(tactic| walk_at "eff") => `(tactic| first
  | refine x_eff (by assumption) (Wd.c_Effect (by assumption)) (Wd.n_Effect_chairs (by assumption)) eff_chairs ?_
  | refine x_eff (by assumption) (Wd.c_Effect (by assumption)) (Wd.n_Effect_low (by assumption)) eff_low ?_
  | refine x_eff (by assumption) (Wd.c_Effect (by assumption)) (Wd.n_Effect_high (by assumption)) eff_high ?_
  | refine x_eff (by assumption) (Wd.c_Effect (by assumption)) (Wd.n_Effect_extra (by assumption)) eff_extra ?_
  | refine x_eff (by assumption) (Wd.c_Effect (by assumption)) (Wd.n_Effect_goal (by assumption)) eff_goal ?_
  | refine x_eff (by assumption) (Wd.c_Effect (by assumption)) (Wd.n_Effect_turned (by assumption)) eff_turned ?_)
local macro_rules | `(tactic| walk_at "y") => `(tactic| repeat (first | walk_at "x1" | walk_at "eff"))

local macro_rules | `(tactic| walk_at "q1") => `(tactic| first
  | walk_at "x1"
  | with_reducible refine x_sl ?_
  | with_reducible refine x_cmeth ?_
  | with_reducible refine x_noPart ?_
  | with_reducible refine x_part ?_
  | with_reducible refine x_partI ?_)
local macro_rules | `(tactic| walk_at "q") => `(tactic| repeat walk_at "q1")

section
variable {P : Program} {w : World} {K : PySem.W.Frag} {mg : Str → Option Value} {base : Heap}
theorem ok_longest_way (W : Wd K mg) : FnR P w K mg base CX0 1 (ga K "longest_way") (fun vs H Q _ => ∃ (c b g : Int) (m : Nat) (up : Bool), vs = [.int c, .int b, .int g, .int m, .bl up] ∧ (m : Int) ≤ 1000000000000000000 ∧ Q (.int (longW c b g m up)) H) := by
  refine (def_ok W.F_longest_way sc_longest_way (fun _ _ _ _ _ _ us hl => match us, hl with | [_, _, _, _, _], _ => rfl) (fun vs H Q E ⟨c, b, g, m, up, e, _⟩ => by rw [e]; rfl) fun cdv A outer s' H vs Q E hr ⟨c, b, g, m, up, e, hm, k⟩ => ?_).2
  subst e
  refine ⟨_, PSs.nox (pss_cons (ps_if (pt_not (pt_val (pv 4))) (pss_one (ps_par (i := 1) (j := 2) (by rfl) sc_longest_way.nd rfl rfl (by decide) rfl rfl (pa_cons (pe_op op_minus (pv 0) (pv 1)) (pa_cons (pe_op op_minus (pv 0) (pv 2)) pa_nil)) (by rfl))) pss_nil) (pss_cons (ps_set (i := 5) sc_longest_way.nd rfl (Or.inl rfl) (pe_ifExp (pt_cmpR (op_eqK K hr.units) (pe_op op_modP (pe_callTy c_int (by rfl) W.f_int (by decide +kernel) (pa_cons (pv 3) pa_nil)) pe_int) pe_int (nomark _)) (pe_op op_minus (pv 0) (pv 2)) (pv 2))) (pss_one (ps_ret (pe_op op_plus (pe_op op_plus (pe_op op_minus (pv 0) (pv 1)) (pe_op op_times (pv 0) (pe_op op_minus (pv 3) pe_int))) (pv 5)))))), ?_⟩
  unfold longW lastW at k
  have e2 : ((m : Int) % 2 = 0) ↔ (m % 2 = 0) := by omega
  cases up with
  | true =>
    rw [if_pos rfl] at k
    walk_at "q"
    refine x_mod (by decide) ?_
    walk_at "q"
    refine x_ifd (fun h => ?_) fun h => ?_
    · rw [if_pos (e2.mp h)] at k
      walk_at "q"
      refine x_timesI (.inr ⟨by omega, by omega⟩) ?_
      walk_at "q"
      exact k
    · rw [if_neg (fun z => h (e2.mpr z))] at k
      walk_at "q"
      refine x_timesI (.inr ⟨by omega, by omega⟩) ?_
      walk_at "q"
      exact k
  | false =>
    rw [if_neg (by decide)] at k
    walk_at "q"
    refine ⟨_, _, rfl, ?_⟩
    walk_at "q"
    refine x_mod (by decide) ?_
    walk_at "q"
    refine x_ifd (fun h => ?_) fun h => ?_
    · rw [if_pos (e2.mp h)] at k
      walk_at "q"
      refine x_timesI (.inr ⟨by omega, by omega⟩) ?_
      walk_at "q"
      exact k
    · rw [if_neg (fun z => h (e2.mpr z))] at k
      walk_at "q"
      refine x_timesI (.inr ⟨by omega, by omega⟩) ?_
      walk_at "q"
      exact k
theorem ok_is_possible (W : Wd K mg) : FnR P w K mg base CX0 1 (ga K "is_possible") (fun vs H Q _ => ∃ (c b g : Int) (m : Nat) (up : Bool), vs = [.int c, .int b, .int g, .int m, .bl up] ∧ Q (.bl (possW c b g m up)) H) := by
  refine (def_ok W.F_is_possible sc_is_possible (fun _ _ _ _ _ _ us hl => match us, hl with | [_, _, _, _, _], _ => rfl) (fun vs H Q E ⟨c, b, g, m, up, e, _⟩ => by rw [e]; rfl) fun cdv A outer s' H vs Q E hr ⟨c, b, g, m, up, e, k⟩ => ?_).2
  subst e
  refine ⟨_, PSs.nox (pss_cons (ps_if (pt_val (pv 4)) (pss_cons (ps_set (i := 5) sc_is_possible.nd rfl (Or.inl rfl) (pe_ifExp (pt_cmpR (op_eqK K hr.units) (pe_op op_modP (pe_callTy c_int (by rfl) W.f_int (by decide +kernel) (pa_cons (pv 3) pa_nil)) pe_int) pe_int (nomark _)) (pe_cmpR op_ltI (pv 2) (pv 0) (nomark _)) (pe_cmpR op_gtI (pv 2) pe_int (nomark _)))) (pss_one (ps_ret (pe_and (pe_cmpR op_ltI (pv 1) (pv 0) (nomark _)) (pe_one (pv 5)))))) pss_nil) (pss_cons (ps_set (i := 5) sc_is_possible.nd rfl (Or.inl rfl) (pe_ifExp (pt_cmpR (op_eqK K hr.units) (pe_op op_modP (pe_callTy c_int (by rfl) W.f_int (by decide +kernel) (pa_cons (pv 3) pa_nil)) pe_int) pe_int (nomark _)) (pe_cmpR op_gtI (pv 2) pe_int (nomark _)) (pe_cmpR op_ltI (pv 2) (pv 0) (nomark _)))) (pss_one (ps_ret (pe_and (pe_cmpR op_gtI (pv 1) pe_int (nomark _)) (pe_one (pv 5))))))), ?_⟩
  unfold possW at k
  have e2 : ((m : Int) % 2 = 0) ↔ (m % 2 = 0) := by omega
  have an : ∀ (a : Prop) [Decidable a] (b : Bool), (if decide a = true then Q (.bl b) H else Q (.bl false) H) ↔ Q (.bl (decide a && b)) H := by
    intro a _ b
    by_cases h : a
    · rw [decide_eq_true h, Bool.true_and, if_pos rfl]
    · rw [decide_eq_false h, Bool.false_and, if_neg (by decide)]
  cases up with
  | true =>
    rw [if_pos rfl] at k
    walk_at "q"
    refine x_mod (by decide) ?_
    walk_at "q"
    refine x_ifd (fun h => ?_) fun h => ?_
    · rw [if_pos (e2.mp h)] at k
      walk_at "q"
      refine x_ifd (fun h => ?_) fun h => ?_
      · walk_at "q"
        rw [decide_eq_true h, Bool.true_and] at k
        exact k
      · rw [decide_eq_false h, Bool.false_and] at k
        exact k
    · rw [if_neg (fun z => h (e2.mpr z))] at k
      walk_at "q"
      refine x_ifd (fun h => ?_) fun h => ?_
      · walk_at "q"
        rw [decide_eq_true h, Bool.true_and] at k
        exact k
      · rw [decide_eq_false h, Bool.false_and] at k
        exact k
  | false =>
    rw [if_neg (by decide)] at k
    walk_at "q"
    refine x_mod (by decide) ?_
    walk_at "q"
    refine x_ifd (fun h => ?_) fun h => ?_
    · rw [if_pos (e2.mp h)] at k
      walk_at "q"
      refine x_ifd (fun h => ?_) fun h => ?_
      · walk_at "q"
        rw [decide_eq_true h, Bool.true_and] at k
        exact k
      · rw [decide_eq_false h, Bool.false_and] at k
        exact k
    · rw [if_neg (fun z => h (e2.mpr z))] at k
      walk_at "q"
      refine x_ifd (fun h => ?_) fun h => ?_
      · walk_at "q"
        rw [decide_eq_true h, Bool.true_and] at k
        exact k
      · rw [decide_eq_false h, Bool.false_and] at k
        exact k
theorem ok_step_to (W : Wd K mg) : FnR P w K mg base CX0 1 (ga K "step_to") (fun vs H Q _ => ∃ (c z : Int) (up : Bool), vs = [.int c, .int z, .bl up] ∧ ∀ t H', H t = none → Same H H' → H' t = some (.tup (stepV (stepTo c z up))) → Q (.ref t) H') := by
  refine (def_ok W.F_step_to sc_step_to (fun _ _ _ _ _ _ us hl => match us, hl with | [_, _, _], _ => rfl) (fun vs H Q E ⟨c, z, up, e, _⟩ => by rw [e]; rfl) fun cdv A outer s' H vs Q E hr ⟨c, z, up, e, k⟩ => ?_).2
  subst e
  refine ⟨_, PSs.nox (pss_one (ps_ret (pe_ifExp (pt_val (pv 2)) (pe_tup (pa_cons (pe_gs W.t_RED rfl) (pa_cons (pv 1) pa_nil))) (pe_tup (pa_cons (pe_gs W.t_BLUE rfl) (pa_cons (pe_op op_minus (pv 0) (pv 1)) pa_nil)))))), ?_⟩
  cases up with
  | true =>
    walk_at "q"
    exact ⟨sz rfl, fun t ht => k t _ ht (Same.new ht) upd_same⟩
  | false =>
    walk_at "q"
    exact ⟨sz rfl, fun t ht => k t _ ht (Same.new ht) upd_same⟩
theorem ok_places_of (W : Wd K mg) : FnR P w K mg base CX0 1 (ga K "places_of") (fun vs H Q _ => ∃ (c b g : Int) (m : Nat) (up : Bool), vs = [.int c, .int b, .int g, .int m, .bl up] ∧ 1 ≤ m ∧ m ≤ 10000 ∧ ∀ r H', H r = none → Same H H' → H' r = some (.lst ((placesL c g m up).map V.int)) → Q (.ref r) H') := by
  refine (def_ok W.F_places_of sc_places_of (fun _ _ _ _ _ _ us hl => match us, hl with | [_, _, _, _, _], _ => rfl) (fun vs H Q E ⟨c, b, g, m, up, e, _⟩ => by rw [e]; rfl) fun cdv A outer s' H vs Q E hr ⟨c, b, g, m, up, e, m1, m2, k⟩ => ?_).2
  subst e
  refine ⟨_, PSs.nox (pss_cons (ps_set (i := 5) sc_places_of.nd rfl (Or.inl rfl) (pe_lst pa_nil)) (pss_cons (ps_for PassesOwn.never rfl (pi_range1 (by rfl) W.f_range (pa_cons (pe_op op_minus (pv 3) pe_int) pa_nil)) (pg_name (i := 6) sc_places_of.nd rfl (Or.inl rfl)) (pss_one (ps_expr (pe_bmK K PySem.F.plainAttrs_list PySem.F.slot_list_append PySem.F.type_list_append mt_append (pv 5) (pa_cons (pe_ifExp (pt_cmpR (op_eqK K hr.units) (pe_cmpR (op_eqK K hr.units) (pe_op op_modP (pe_callTy c_int (by rfl) W.f_int (by decide +kernel) (pa_cons (pv 6) pa_nil)) pe_int) pe_int (nomark _)) (pv 4) (nomark _)) (pv 0) pe_int) pa_nil))))) (pss_one (ps_ret (pe_op op_plus (pv 5) (pe_lst (pa_cons (pv 2) pa_nil))))))), ?_⟩
  walk_at "q"
  refine ⟨sz rfl, fun r hr0 => ?_⟩; generalize hNr : upd _ r _ = H1; obtain ⟨s1, e1⟩ := nws hNr hr0
  walk_at "q"
  refine x_iR1At (by omega) (by omega) ?_
  refine x_loop walk_range (fun i σ H2 => (∃ a, σ = [some (.int c), some (.int b), some (.int g), some (.int m), some (.bl up), some (.ref r), a]) ∧ Same H H2 ∧ H2 r = some (.lst ((rgI (fun j => if decide (decide (j % 2 = 0) = up) then c else 0) i).map V.int))) ⟨⟨_, rfl⟩, s1, e1⟩ (fun _ _ _ _ _ => trivial) ?_ ?_
  · rintro i y σ H3 H2 hi ⟨⟨a, rfl⟩, s2, hr2⟩ ⟨rfl, rfl⟩
    walk_at "q"
    refine ⟨ty_lst hr2, ?_⟩
    walk_at "q"
    refine x_mod (by decide) ?_
    walk_at "q"
    have fin : ∀ v : Int, v = (if decide (decide ((i : Int) % 2 = 0) = up) then c else 0) → Same H (upd H2 r (.lst ((rgI (fun j => if decide (decide (j % 2 = 0) = up) then c else 0) i).map V.int ++ [.int v]))) ∧
        (upd H2 r (.lst ((rgI (fun j => if decide (decide (j % 2 = 0) = up) then c else 0) i).map V.int ++ [.int v]))) r = some (.lst ((rgI (fun j => if decide (decide (j % 2 = 0) = up) then c else 0) (i + 1)).map V.int)) := by
      intro v ev
      refine ⟨Same.mut s2 hr0, ?_⟩
      rw [upd_same, rgI_snoc, List.map_append, ev]
      rfl
    refine x_ifd (fun h => ?_) fun h => ?_
    · walk_at "q"
      refine x_app hr2 (sz5' (by rw [List.length_map, rgI_len]; omega)) ?_
      walk_at "q"
      exact ⟨⟨_, rfl⟩, fin c (by rw [Int.zero_add] at h; rw [decide_eq_true h]; rfl)⟩
    · walk_at "q"
      refine x_app hr2 (sz5' (by rw [List.length_map, rgI_len]; omega)) ?_
      walk_at "q"
      exact ⟨⟨_, rfl⟩, fin 0 (by rw [Int.zero_add] at h; rw [decide_eq_false h]; rfl)⟩
  · rintro σ H2 ⟨⟨a, rfl⟩, s2, hr2⟩
    walk_at "q"
    refine ⟨sz rfl, fun q hq => ?_⟩; generalize hNq : upd _ q _ = H3; obtain ⟨s3, e3⟩ := nws hNq hq
    refine n_plusL (s3 _ _ hr2) e3 (sz5 (by rw [List.length_map, rgI_len]; show _ + 1 ≤ _; omega)) fun t H4 ht s4 e4 => ?_
    refine k t H4 ((s2.trans s3).free ht) (s2.trans (s3.trans s4)) ?_
    rw [e4]
    have em : ((m : Int) - 1).toNat = m - 1 := by omega
    unfold placesL
    rw [List.map_append, em]
    rfl
theorem at_i {xs : List Int} {k : Nat} {j v : Int} (h : xs[k]? = some v) (e : j = (k : Int)) : atI (xs.map V.int) j = some (.int v) := by
  subst e
  exact atI_nat (by rw [List.getElem?_map, h]; rfl)
theorem cut_tail (xs : List V) (h : 1 ≤ xs.length) : cutV xs (some 1) none = xs.tail := by
  cases xs with
  | nil => cases h
  | cons x r =>
    unfold cutV
    simp [HT.sIx]
def spSh (K : PySem.W.Frag) : Sp := fun vs H Q _ => ∃ (q : Addr) (b sl : Int) (zs : List Int), vs = [.int b, .ref q, .int sl] ∧ H q = some (.lst (zs.map V.int)) ∧ 1 ≤ zs.length ∧ zs.length ≤ 10000 ∧ ∀ r H', H r = none → Same H H' → H' r = some (.lst ((shortGo b zs sl).map V.int)) → Q (.ref r) H'
theorem ok_shortened (W : Wd K mg) : FnR P w K mg base CX0 1 (ga K "shortened") (spSh K) := by
  refine (def_ok W.F_shortened sc_shortened (fun _ _ _ _ _ _ us hl => match us, hl with | [_, _, _], _ => rfl) (fun vs H Q E ⟨q, b, sl, zs, e, _⟩ => by rw [e]; rfl) fun cdv A outer s' H vs Q E hr ⟨q, b, sl0, zs, e, hq, z1, z2, k⟩ => ?_).2
  subst e
  refine ⟨_, PSs.nox (pss_cons (ps_set (i := 3) sc_shortened.nd rfl (Or.inl rfl) (pe_op op_plus (pe_lst (pa_cons (pv 0) pa_nil)) (pv 1))) (pss_cons (ps_for PassesOwn.never rfl (pi_range2 (by rfl) W.f_range (pa_cons pe_int (pa_cons (pe_op op_minus (pe_callB (c_lenK K) (by rfl) W.f_len (by decide +kernel) (pa_cons (pv 3) pa_nil)) pe_int) pa_nil))) (pg_name (i := 4) sc_shortened.nd rfl (Or.inl rfl)) (pss_cons (ps_set (i := 5) sc_shortened.nd rfl (Or.inl rfl) (pe_ifExp (pt_cmpR op_gtI (pe_ix (ix_K K) (pv 3) (pv 4) (fun _ _ => rfl)) (pe_ix (ix_K K) (pv 3) (pe_op op_minus (pv 4) pe_int) (fun _ _ => rfl)) (nomark _)) pe_int (pe_un un_neg pe_int))) (pss_cons (ps_set (i := 6) sc_shortened.nd rfl (Or.inl rfl) (pe_op op_times (pe_callB (c_max2 rfl) (by rfl) W.f_max (by decide +kernel) (pa_cons (pe_op op_times (pe_ix (ix_K K) (pv 3) (pe_op op_minus (pv 4) pe_int) (fun _ _ => rfl)) (pv 5)) (pa_cons (pe_op op_times (pe_ix (ix_K K) (pv 3) (pe_op op_plus (pv 4) pe_int) (fun _ _ => rfl)) (pv 5)) pa_nil))) (pv 5))) (pss_cons (ps_set (i := 7) sc_shortened.nd rfl (Or.inl rfl) (pe_callB (c_min2 rfl) (by rfl) W.f_min (by decide +kernel) (pa_cons (pv 2) (pa_cons (pe_op op_minus (pe_callB c_abs (by rfl) W.f_abs (by decide +kernel) (pa_cons (pe_op op_minus (pe_ix (ix_K K) (pv 3) (pv 4) (fun _ _ => rfl)) (pv 6)) pa_nil)) pe_int) pa_nil)))) (pss_cons (ps_augS (pv 3) (pv 4) (get_listK K) (pe_op op_times (pv 7) (pv 5)) ip_sub set_list) (pss_one (ps_aug (i := 2) sc_shortened.nd rfl (Or.inl rfl) (pv 7) ip_sub))))))) (pss_one (ps_ret (pe_slice (sl_listK K) (pv 3) (po_some pe_int) po_none))))), ?_⟩
  walk_at "q"
  refine ⟨sz rfl, fun t ht0 => ?_⟩; generalize hNt : upd _ t _ = H1; obtain ⟨s1, e1⟩ := nws hNt ht0
  walk_at "q"
  refine n_plusL e1 (s1 _ _ hq) (sz5 (by rw [List.length_map]; show 1 + _ ≤ _; omega)) fun r H2 hr1 s2 e2 => ?_
  have e2' : H2 r = some (.lst ((b :: zs).map V.int)) := e2
  have hr0 : H r = none := s1.free hr1
  walk_at "q"
  refine x_lenL (SqL.of e2') ?_
  walk_at "q"
  have ln : ((b :: zs).map V.int).length = zs.length + 1 := by rw [List.length_map]; rfl
  refine x_iR2At ⟨by decide, by decide, by rw [ln]; omega, by rw [ln]; omega⟩ ?_
  have cnt : ((((b :: zs).map V.int).length : Int) - 1 - 1).toNat = zs.length - 1 := by rw [ln]; omega
  rw [cnt]
  refine x_loop walk_range (fun i σ H3 => Same H H3 ∧ ∃ (dn rest : List Int) (pv sl : Int), (∃ a b' c d, σ = [some (.int b), some (.ref q), some (.int sl), some (.ref r), a, b', c, d]) ∧ H3 r = some (.lst ((dn ++ rest).map V.int)) ∧ dn.length = i + 1 ∧ rest.length + i = zs.length ∧ dn[i]? = some pv ∧ shortGo b zs sl0 = dn.tail ++ shortGo pv rest sl)
    ⟨s1.trans s2, [b], zs, b, sl0, ⟨_, _, _, _, rfl⟩, e2', rfl, rfl, rfl, rfl⟩ (fun _ _ _ _ _ => trivial) ?_ ?_
  · rintro i y σ H4 H3 hi ⟨s3, dn, rest, pv, sl, ⟨a, b', c, d, rfl⟩, h3, dl, rl, dp, hg⟩ ⟨rfl, rfl⟩
    obtain ⟨z, nx, r', rfl⟩ : ∃ z nx r', rest = z :: nx :: r' := by
      match rest, rl with
      | [], rl => exfalso; simp at rl; omega
      | [_], rl => exfalso; simp at rl; omega
      | z :: nx :: r', _ => exact ⟨z, nx, r', rfl⟩
    have a0 : (dn ++ z :: nx :: r')[i]? = some pv := by rw [List.getElem?_append_left (by omega)]; exact dp
    have a1 : (dn ++ z :: nx :: r')[i + 1]? = some z := by rw [List.getElem?_append_right (by omega), dl]; simp
    have a2 : (dn ++ z :: nx :: r')[i + 2]? = some nx := by rw [List.getElem?_append_right (by omega), dl, show i + 2 - (i + 1) = 1 by omega]; rfl
    walk_at "q"
    refine x_ixL (SqL.of h3) (at_i a1 (by omega)) ?_
    walk_at "q"
    refine x_ixL (SqL.of h3) (at_i a0 (by omega)) ?_
    walk_at "q"
    refine x_ifSetd (fun v H' => v = .int (if z > pv then 1 else -1) ∧ H3 = H') (fun hz Q' kQ => ?up) (fun hz Q' kQ => ?down) ?rest
    case up =>
      walk_at "q"
      exact kQ _ _ ⟨by rw [if_pos hz], rfl⟩
    case down =>
      walk_at "q"
      exact kQ _ _ ⟨by rw [if_neg hz], rfl⟩
    case rest =>
      rintro _ _ ⟨rfl, rfl⟩
      have eg : shortGo pv (z :: nx :: r') sl = (z - mn sl (absI (z - mx (pv * (if z > pv then 1 else -1)) (nx * (if z > pv then 1 else -1)) * (if z > pv then 1 else -1)) - 1) * (if z > pv then 1 else -1)) :: shortGo (z - mn sl (absI (z - mx (pv * (if z > pv then 1 else -1)) (nx * (if z > pv then 1 else -1)) * (if z > pv then 1 else -1)) - 1) * (if z > pv then 1 else -1)) (nx :: r') (sl - mn sl (absI (z - mx (pv * (if z > pv then 1 else -1)) (nx * (if z > pv then 1 else -1)) * (if z > pv then 1 else -1)) - 1)) := rfl
      rw [eg] at hg
      have hst : (if z > pv then (1 : Int) else -1) = 1 ∨ (if z > pv then (1 : Int) else -1) = -1 := by
        split
        · exact .inl rfl
        · exact .inr rfl
      generalize (if z > pv then (1 : Int) else -1) = st at hst hg ⊢
      have cm : ∀ u : Int, CMul u st := fun u => .inr ⟨by omega, by omega⟩
      walk_at "q"
      refine x_ixL (SqL.of h3) (at_i a0 (by omega)) ?_
      walk_at "q"
      refine x_timesI (cm _) ?_
      walk_at "q"
      refine x_ixL (SqL.of h3) (at_i a2 (by omega)) ?_
      walk_at "q"
      refine x_timesI (cm _) ?_
      walk_at "q"
      refine x_timesI (cm _) ?_
      walk_at "q"
      refine x_ixL (SqL.of h3) (at_i a1 (by omega)) ?_
      walk_at "q"
      refine x_augS ?_
      walk_at "q"
      refine x_getL (SqL.of h3) (by omega) (at_i a1 (by omega)) ?_
      walk_at "q"
      refine x_timesI (cm _) ?_
      refine x_ipI ?_
      have ix : ixN ((dn ++ z :: nx :: r').map V.int).length (1 + (i : Int)) = some (i + 1) := by
        have ll : ((dn ++ z :: nx :: r').map V.int).length = i + 1 + (r'.length + 2) := by rw [List.length_map, List.length_append, dl]; rfl
        rw [ll, show (1 : Int) + (i : Int) = ((i + 1 : Nat) : Int) by omega]
        unfold ixN
        rw [if_pos (by omega), if_pos (by omega), Int.toNat_natCast]
      refine x_setL h3 ix ?_
      refine x_aug rfl ?_
      walk_at "q"
      refine x_ipI ?_
      refine ⟨Same.mut s3 hr0, dn ++ [z - mn sl (absI (z - mx (pv * st) (nx * st) * st) - 1) * st], nx :: r', z - mn sl (absI (z - mx (pv * st) (nx * st) * st) - 1) * st, sl - mn sl (absI (z - mx (pv * st) (nx * st) * st) - 1), ⟨_, _, _, _, rfl⟩, ?_, by rw [List.length_append, dl]; rfl, by simp at rl ⊢; omega, by rw [List.getElem?_append_right (by omega), dl]; simp, ?_⟩
      · rw [upd_same, ← List.map_set]
        rw [List.set_append_right _ _ (by omega), dl]
        simp
        rfl
      · rw [hg]
        cases dn with
        | nil => simp at dl
        | cons d0 dr => simp
  · rintro σ H3 ⟨s3, dn, rest, pv, sl, ⟨a, b', c, d, rfl⟩, h3, dl, rl, dp, hg⟩
    obtain ⟨z, rfl⟩ : ∃ z, rest = [z] := by
      match rest, rl with
      | [], rl => exfalso; simp at rl; omega
      | [z], _ => exact ⟨z, rfl⟩
      | _ :: _ :: _, rl => exfalso; simp at rl; omega
    walk_at "q"
    refine n_slL (SqL.of h3) fun u H4 hu s4 e4 => ?_
    refine k u H4 (s3.free hu) (s3.trans s4) ?_
    rw [e4, cut_tail _ (by rw [List.length_map, List.length_append, dl]; omega), hg]
    cases dn with
    | nil => simp at dl
    | cons d0 dr => simp [shortGo]
def spWO (K : PySem.W.Frag) : Sp := fun vs H Q _ => ∃ (c b g L : Int), vs = [.int c, .int b, .int g, .int L] ∧ (L ≠ absI (g - b) → ∃ m0 u, 2 ≤ m0 ∧ m0 ≤ 9000 ∧ doesW c b g L m0 u) ∧
  ∀ t r H' up zs, H t = none → Same H H' → WayOf c b g L up zs → zs.length ≤ 10000 → H' t = some (.tup [.bl up, .ref r]) → H' r = some (.lst (zs.map V.int)) → Q (.ref t) H'
theorem ok_way_of (W : Wd K mg) : FnR P w K mg base CX0 2 (ga K "way_of") (spWO K) := by
  refine (def_ok W.F_way_of sc_way_of (fun _ _ _ _ _ _ us hl => match us, hl with | [_, _, _, _], _ => rfl) (fun vs H Q E ⟨c, b, g, L, e, _⟩ => by rw [e]; rfl) fun cdv A outer s' H vs Q E hr ⟨c, b, g, L, e, hex, k⟩ => ?_).2
  subst e
  refine ⟨_, PSs.nox (pss_cons (ps_if (pt_cmpR (op_eqK K hr.units) (pv 3) (pe_callB c_abs (by rfl) W.f_abs (by decide +kernel) (pa_cons (pe_op op_minus (pv 2) (pv 1)) pa_nil)) (nomark _)) (pss_one (ps_ret (pe_tup (pa_cons (pe_cmpR op_gtI (pv 2) (pv 1) (nomark _)) (pa_cons (pe_lst (pa_cons (pv 2) pa_nil)) pa_nil))))) pss_nil) (pss_cons (ps_set (i := 4) sc_way_of.nd rfl (Or.inl rfl) pe_int) (pss_one (ps_while PassesOwn.never (pt_val pe_bl) (pss_cons (ps_for PassesOwn.never rfl (pi_tupK K (pe_tup (pa_cons pe_bl (pa_cons pe_bl pa_nil)))) (pg_name (i := 5) sc_way_of.nd rfl (Or.inl rfl)) (pss_cons (ps_set (i := 6) sc_way_of.nd rfl (Or.inl rfl) (pe_callR (ok_longest_way W) (hr.mono (by decide)) W.g_longest_way W.k_longest_way pass0 rfl (pa_cons (pv 0) (pa_cons (pv 1) (pa_cons (pv 2) (pa_cons (pv 4) (pa_cons (pv 5) pa_nil))))))) (pss_one (ps_if (PW.pt (pw_and (pt_val (pe_callR (ok_is_possible W) (hr.mono (by decide)) W.g_is_possible W.k_is_possible pass0 rfl (pa_cons (pv 0) (pa_cons (pv 1) (pa_cons (pv 2) (pa_cons (pv 4) (pa_cons (pv 5) pa_nil))))))) (pw_and1 (pt_cmpR op_geI (pv 6) (pv 3) (nomark _))))) (pss_one (ps_ret (pe_tup (pa_cons (pv 5) (pa_cons (pe_callR (ok_shortened W) (hr.mono (by decide)) W.g_shortened W.k_shortened pass0 rfl (pa_cons (pv 1) (pa_cons (pe_callR (ok_places_of W) (hr.mono (by decide)) W.g_places_of W.k_places_of pass0 rfl (pa_cons (pv 0) (pa_cons (pv 1) (pa_cons (pv 2) (pa_cons (pv 4) (pa_cons (pv 5) pa_nil)))))) (pa_cons (pe_op op_divP (pe_op op_minus (pv 6) (pv 3)) pe_int) pa_nil)))) pa_nil))))) pss_nil)))) (pss_one (ps_aug (i := 4) sc_way_of.nd rfl (Or.inl rfl) pe_int ip_add))))))), ?_⟩
  walk_at "q"
  refine x_ifd (fun h => ?_) fun h => ?_
  · walk_at "q"
    refine ⟨sz rfl, fun r hr0 => ?_⟩; generalize hNr : upd _ r _ = H1; obtain ⟨s1, e1⟩ := nws hNr hr0
    walk_at "q"
    refine ⟨sz rfl, fun t ht => ?_⟩; generalize hNt : upd _ t _ = H2; obtain ⟨s2, e2⟩ := nws hNt ht
    exact k t r H2 (decide (b < g)) [g] (s1.free ht) (s1.trans s2) (.inl ⟨h, rfl, rfl⟩) (by show 1 ≤ 10000; decide) e2 (s2 _ _ e1)
  · have h' : L ≠ absI (g - b) := h
    obtain ⟨m0, u0, m02, m09, hd0⟩ := hex h'
    walk_at "q"
    refine x_while (fun n σ H1 => ∃ (m : Nat), n = m0 + 1 - m ∧ 2 ≤ m ∧ m ≤ m0 ∧ (∀ m' u, 2 ≤ m' → m' < m → ¬ doesW c b g L m' u) ∧ Same H H1 ∧ ∃ a d, σ = [some (.int c), some (.int b), some (.int g), some (.int L), some (.int m), a, d]) (m0 + 1 - 2) ⟨2, rfl, Nat.le_refl _, m02, fun m' u h1 h2 => by omega, Same.refl _, _, _, rfl⟩ ?_
    rintro n σ H1 ⟨m, rfl, m2, mm, hno, s1, a, d, rfl⟩
    walk_at "q"
    refine x_turn ?_
    walk_at "q"
    refine ⟨sz rfl, fun tu htu => ?_⟩; generalize hNtu : upd _ tu _ = H2; obtain ⟨s2, e2⟩ := nws hNtu htu
    walk_at "q"
    refine x_iTAt (SqT.of e2) (x_loop walk_tup (fun i σ H3 => Same H2 H3 ∧ (∃ a d, σ = [some (.int c), some (.int b), some (.int g), some (.int L), some (.int m), a, d]) ∧ (1 ≤ i → ¬ doesW c b g L m true) ∧ (2 ≤ i → ¬ doesW c b g L m false)) ⟨Same.refl _, ⟨_, _, rfl⟩, fun z => by omega, fun z => by omega⟩ (fun i σ H3 _ ⟨s3, _⟩ => SqT.of (s3 _ _ e2)) ?_ ?_)
    · rintro i y σ H3 H4 hi ⟨s3, ⟨a, d, rfl⟩, n1, n2⟩ ⟨rfl, ey⟩
      have hi2 : i < 2 := hi
      obtain ⟨up, rfl, hup⟩ : ∃ up : Bool, y = .bl up ∧ ((i = 0 ∧ up = true) ∨ (i = 1 ∧ up = false)) := by
        have : i = 0 ∨ i = 1 := by omega
        rcases this with rfl | rfl
        · cases ey; exact ⟨true, rfl, .inl ⟨rfl, rfl⟩⟩
        · cases ey; exact ⟨false, rfl, .inr ⟨rfl, rfl⟩⟩
      walk_at "q"
      refine ⟨c, b, g, m, up, rfl, by omega, ?_⟩
      walk_at "q"
      refine ⟨c, b, g, m, up, rfl, ?_⟩
      walk_at "q"
      have fail : ¬ doesW c b g L m up → (1 ≤ i + 1 → ¬ doesW c b g L m true) ∧ (2 ≤ i + 1 → ¬ doesW c b g L m false) := by
        intro hn
        rcases hup with ⟨rfl, rfl⟩ | ⟨rfl, rfl⟩
        · exact ⟨fun _ => hn, fun z => by omega⟩
        · exact ⟨fun _ => n1 (by omega), fun _ => hn⟩
      refine x_if (fun hp => ?_) fun hp => ?_
      · walk_at "q"
        refine x_ifd (fun hl => ?_) fun hl => ?_
        · walk_at "q"
          refine ⟨c, b, g, m, up, rfl, by omega, by omega, fun r H5 hr5 s5 e5 => ?_⟩
          walk_at "q"
          refine x_div (divF (by decide) (by decide)) ?_
          walk_at "q"
          have pl : (placesL c g m up).length = m := by unfold placesL; rw [List.length_append, rgI_len]; show m - 1 + 1 = m; omega
          refine ⟨r, b, (longW c b g m up - L) / 2, placesL c g m up, rfl, e5, by omega, by omega, fun z H6 hz s6 e6 => ?_⟩
          walk_at "q"
          refine ⟨sz rfl, fun t ht => ?_⟩; generalize hNt : upd _ t _ = H7; obtain ⟨s7, e7⟩ := nws hNt ht
          refine k t z H7 up _ ((s1.trans (s2.trans (s3.trans (s5.trans s6)))).free ht) (s1.trans (s2.trans (s3.trans (s5.trans (s6.trans s7))))) (.inr ⟨h', m, m2, ⟨hp, hl⟩, hno, fun hu => ?_, rfl⟩) ?_ e7 (s7 _ _ e6)
          · rcases hup with ⟨_, rfl⟩ | ⟨rfl, _⟩
            · cases hu
            · exact n1 (Nat.le_refl _)
          · rw [shortGo_len, pl]
            omega
        · walk_at "q"
          exact ⟨s3, ⟨_, _, rfl⟩, fail fun z => hl z.2⟩
      · walk_at "q"
        exact ⟨s3, ⟨_, _, rfl⟩, fail fun z => by have := z.1; rw [hp] at this; cases this⟩
    · rintro σ H3 ⟨s3, ⟨a, d, rfl⟩, n1, n2⟩
      have nm : ∀ u, ¬ doesW c b g L m u := fun u => by
        cases u
        · exact n2 (by show 2 ≤ 2; decide)
        · exact n1 (by show 1 ≤ 2; decide)
      have mlt : m < m0 := by
        rcases Nat.lt_or_ge m m0 with z | z
        · exact z
        · exfalso
          have : m = m0 := by omega
          subst this
          exact nm u0 hd0
      walk_at "q"
      refine x_aug rfl ?_
      walk_at "q"
      refine x_ipI ?_
      refine ⟨m0 + 1 - (m + 1), by omega, m + 1, rfl, by omega, by omega, fun m' u h1 h2 => ?_, s1.trans (s2.trans s3), _, _, rfl⟩
      by_cases q : m' = m
      · subst q
        exact nm u
      · exact hno m' u h1 (by omega)
def spSS (K : PySem.W.Frag) : Sp := fun vs H Q _ => ∃ (p : Addr) (e : Eff), vs = [.ref p] ∧ EffAt (CE K) H p e ∧ e.Ok ∧ (e.ex ≠ 0 → ∀ g, e.goal = some g → e.ex ≠ absI (g - e.lo) → ∃ m0 u, 2 ≤ m0 ∧ m0 ≤ 9000 ∧ doesW e.c e.lo g e.ex m0 u) ∧
  ∀ r H' ps l, H r = none → Same H H' → H' r = some (.lst ps) → StepsAt H' ps l → SimpleOf e l → l.length ≤ 20000 → Q (.ref r) H'
theorem ok_simple_steps (W : Wd K mg) : FnR P w K mg base CX0 3 (ga K "simple_steps") (spSS K) := by
  refine (def_ok W.F_simple_steps sc_simple_steps (fun _ _ _ _ _ _ us hl => match us, hl with | [_], _ => rfl) (fun vs H Q E ⟨p, e, ev, _⟩ => by rw [ev]; rfl) fun cdv A outer s' H vs Q E hr ⟨p, e, ev, hp, eo, hex, k⟩ => ?_).2
  subst ev
  refine ⟨_, PSs.nox (pss_cons (ps_set (i := 1) sc_simple_steps.nd rfl (Or.inl rfl) (pe_fldK K (pv 0))) (pss_cons (ps_if (pt_cmpR (op_eqK K hr.units) (pe_fldK K (pv 0)) pe_int (nomark _)) (pss_cons (ps_set (i := 2) sc_simple_steps.nd rfl (Or.inl rfl) (pe_ifExp (pt_cmpR op_gtI (pe_fldK K (pv 0)) pe_int (nomark _)) (pe_lst (pa_cons (pe_callR (ok_step_to W) (hr.mono (by decide)) W.g_step_to W.k_step_to pass0 rfl (pa_cons (pv 1) (pa_cons (pe_fldK K (pv 0)) (pa_cons pe_bl pa_nil)))) pa_nil)) (pe_lst pa_nil))) (pss_one (ps_ret (pe_op op_plus (pv 2) (pe_ifExp (pt_cmpR op_ltI (pe_fldK K (pv 0)) (pv 1) (nomark _)) (pe_lst (pa_cons (pe_callR (ok_step_to W) (hr.mono (by decide)) W.g_step_to W.k_step_to pass0 rfl (pa_cons (pv 1) (pa_cons (pe_fldK K (pv 0)) (pa_cons pe_bl pa_nil)))) pa_nil)) (pe_lst pa_nil)))))) pss_nil) (pss_cons (ps_asg (pe_callR (ok_way_of W) (hr.mono (by decide)) W.g_way_of W.k_way_of pass0 rfl (pa_cons (pv 1) (pa_cons (pe_fldK K (pv 0)) (pa_cons (pe_fldK K (pv 0)) (pa_cons (pe_fldK K (pv 0)) pa_nil))))) (pg_tupK (n := 2) K rfl (pgs_cons (pg_name (i := 3) sc_simple_steps.nd rfl (Or.inl rfl)) (pgs_cons (pg_name (i := 4) sc_simple_steps.nd rfl (Or.inl rfl)) pgs_nil)))) (pss_cons (ps_set (i := 2) sc_simple_steps.nd rfl (Or.inl rfl) (pe_lst (pa_cons (pe_callR (ok_step_to W) (hr.mono (by decide)) W.g_step_to W.k_step_to pass0 rfl (pa_cons (pv 1) (pa_cons (pe_fldK K (pv 0)) (pa_cons (pe_not (pv 3)) pa_nil)))) pa_nil))) (pss_cons (ps_for PassesOwn.never rfl (pi_listK K (pv 4)) (pg_name (i := 5) sc_simple_steps.nd rfl (Or.inl rfl)) (pss_cons (ps_expr (pe_bmK K PySem.F.plainAttrs_list PySem.F.slot_list_append PySem.F.type_list_append mt_append (pv 2) (pa_cons (pe_callR (ok_step_to W) (hr.mono (by decide)) W.g_step_to W.k_step_to pass0 rfl (pa_cons (pv 1) (pa_cons (pv 5) (pa_cons (pv 3) pa_nil)))) pa_nil))) (pss_one (ps_set (i := 3) sc_simple_steps.nd rfl (Or.inl rfl) (pe_not (pv 3)))))) (pss_one (ps_ret (pv 2)))))))), ?_⟩
  walk_at "y"
  refine x_ifd (fun h0 => ?_) fun h0 => ?_
  · walk_at "y"
    refine x_ifSetd (fun v H1 => ∃ r ps, v = .ref r ∧ Same H H1 ∧ H1 r = some (.lst ps) ∧ StepsAt H1 ps (if e.lo > 0 then [stepTo e.c e.lo true] else []) ∧ ps.length ≤ 1) (fun hl Q' kQ => ?A) (fun hl Q' kQ => ?B) ?C
    case A =>
      walk_at "y"
      refine ⟨_, _, _, rfl, fun t H1 ht s1 e1 => ?_⟩
      walk_at "y"
      refine ⟨sz rfl, fun r hr1 => ?_⟩; generalize hNr : upd _ r _ = H2; obtain ⟨s2, e2⟩ := nws hNr hr1
      exact kQ _ _ ⟨r, _, rfl, s1.trans s2, e2, by rw [if_pos hl]; exact StepsAt.put _ (s2 _ _ e1) .nil, Nat.le_refl _⟩
    case B =>
      walk_at "y"
      refine ⟨sz rfl, fun r hr1 => ?_⟩; generalize hNr : upd _ r _ = H2; obtain ⟨s2, e2⟩ := nws hNr hr1
      exact kQ _ _ ⟨r, _, rfl, s2, e2, by rw [if_neg hl]; exact .nil, Nat.zero_le _⟩
    case C =>
      rintro _ H1 ⟨r, ps, rfl, s1, hr1, hs1, hl1⟩
      have hp1 := hp.mono s1
      walk_at "y"
      refine x_ifSetd (fun v H2 => ∃ q qs, v = .ref q ∧ Same H1 H2 ∧ H2 q = some (.lst qs) ∧ StepsAt H2 qs (if e.hi < e.c then [stepTo e.c e.hi false] else []) ∧ qs.length ≤ 1) (fun hl Q' kQ => ?A) (fun hl Q' kQ => ?B) ?C
      case A =>
        walk_at "y"
        refine ⟨_, _, _, rfl, fun t H2 ht s2 e2 => ?_⟩
        walk_at "y"
        refine ⟨sz rfl, fun q hq1 => ?_⟩; generalize hNq : upd _ q _ = H3; obtain ⟨s3, e3⟩ := nws hNq hq1
        exact kQ _ _ ⟨q, _, rfl, s2.trans s3, e3, by rw [if_pos hl]; exact StepsAt.put _ (s3 _ _ e2) .nil, Nat.le_refl _⟩
      case B =>
        walk_at "y"
        refine ⟨sz rfl, fun q hq1 => ?_⟩; generalize hNq : upd _ q _ = H3; obtain ⟨s3, e3⟩ := nws hNq hq1
        exact kQ _ _ ⟨q, _, rfl, s3, e3, by rw [if_neg hl]; exact .nil, Nat.zero_le _⟩
      case C =>
        rintro _ H2 ⟨q, qs, rfl, s2, hq2, hs2, hl2⟩
        refine n_plusL (s2 _ _ hr1) hq2 (sz5 (by omega)) fun t H3 ht s3 e3 => ?_
        exact k t H3 _ _ ((s1.trans s2).free ht) (s1.trans (s2.trans s3)) e3 (pr_app (hs1.mono (s2.trans s3)) (hs2.mono s3)) (.inl ⟨h0, rfl⟩) (by rw [← pr_len (pr_app (hs1.mono (s2.trans s3)) (hs2.mono s3)), List.length_append]; omega)
  · obtain ⟨g, hg⟩ : ∃ g, e.goal = some g := by
      cases g : e.goal with
      | none => exact absurd (eo.no g).1 h0
      | some y => exact ⟨y, rfl⟩
    walk_at "y"
    rw [hg]
    refine ⟨e.c, e.lo, g, e.ex, rfl, hex h0 g hg, fun t z H1 up zs ht s1 hw hzl e1 e2 => ?_⟩
    refine x_gTup e1 rfl ?_
    have hp1 := hp.mono s1
    walk_at "y"
    refine ⟨e.c, e.lo, !up, rfl, fun t2 H2 ht2 s2 e3 => ?_⟩
    walk_at "y"
    refine ⟨sz rfl, fun r hr1 => ?_⟩; generalize hNr : upd _ r _ = H3; obtain ⟨s3, e4⟩ := nws hNr hr1
    have hr0 : H r = none := (s1.trans s2).free hr1
    have hz3 := s3 _ _ (s2 _ _ e2)
    have nzr : z ≠ r := ne_of_none (s2 _ _ e2) hr1
    walk_at "y"
    refine x_iLAt (SqL.of hz3) (x_loop walk_list (fun i σ H4 => (∃ b, σ = [some (.ref p), some (.int e.c), some (.ref r), some (.bl (if i % 2 = 0 then up else !up)), some (.ref z), b]) ∧ (∀ b o, b ≠ r → H3 b = some o → H4 b = some o) ∧ ∃ ps, H4 r = some (.lst ps) ∧ StepsAt H4 ps (stepTo e.c e.lo (!up) :: zsteps e.c up (zs.take i))) ⟨⟨_, rfl⟩, fun _ _ _ h => h, _, e4, StepsAt.put _ (s3 _ _ e3) .nil⟩ (fun i σ H4 _ ⟨_, s4, _⟩ => SqL.of (s4 _ _ nzr hz3)) ?_ ?_)
    · rintro i y σ H4 H5 hi ⟨⟨b, rfl⟩, s4, ps, hps, hpp⟩ ⟨rfl, ey⟩
      rw [List.getElem?_map] at ey
      obtain ⟨zi, hzi, rfl⟩ := Option.map_eq_some_iff.mp ey
      have hil : i < zs.length := (List.getElem?_eq_some_iff.mp hzi).1
      have tk : zs.take (i + 1) = zs.take i ++ [zi] := by rw [List.take_add_one, hzi]; rfl
      have lps : ps.length = i + 1 := by
        have := pr_len hpp
        rw [this]
        show (zsteps e.c up (zs.take i)).length + 1 = i + 1
        rw [zsteps_len, List.length_take]
        omega
      walk_at "y"
      refine ⟨ty_lst hps, ?_⟩
      walk_at "y"
      refine ⟨e.c, zi, _, rfl, fun t3 H6 ht3 s6 e6 => ?_⟩
      walk_at "y"
      refine x_app (s6 _ _ hps) (sz5' (by omega)) ?_
      walk_at "y"
      refine ⟨?_, fun b o hb eb => by rw [upd_ne hb]; exact s6 _ _ (s4 b o hb eb), _, upd_same, ?_⟩
      · by_cases q : i % 2 = 0
        · rw [if_pos q, if_neg (show ¬ (i + 1) % 2 = 0 by omega)]
          exact ⟨_, rfl⟩
        · rw [if_neg q, if_pos (show (i + 1) % 2 = 0 by omega), Bool.not_not]
          exact ⟨_, rfl⟩
      · rw [tk, zsteps_snoc, List.length_take, Nat.min_eq_left (by omega)]
        refine pr_snoc (hpp.mono2 s6 (s6 _ _ hps)) ⟨t3, rfl, ?_⟩
        rw [upd_ne (ne_of e6 (s6 _ _ hps) (by intro z; cases z))]
        exact e6
    · rintro σ H4 ⟨⟨b, rfl⟩, s4, ps, hps, hpp⟩
      rw [List.length_map, List.take_length] at hpp
      walk_at "y"
      refine k r H4 ps _ hr0 (fun b o eb => s4 b o (ne_of_none eb hr0) (s3 _ _ (s2 _ _ (s1 _ _ eb)))) hps hpp (.inr ⟨h0, g, up, zs, hg, hw, rfl⟩) ?_
      show (zsteps e.c up zs).length + 1 ≤ 20000
      rw [zsteps_len]
      omega
def spSP (K : PySem.W.Frag) : Sp := fun vs H Q _ => ∃ (p : Addr) (c : Int) (l : List Stp), vs = [.ref p, .int c] ∧ PlanAt (CP K) H p l ∧ l.length ≤ 60 ∧ 0 ≤ c ∧ c ≤ 1000000000000000000 ∧ fitsS c l ∧
  ∀ x H' l', H x = none → Same H H' → SimpleOf (effOf c l) l' → PlanAt (CP K) H' x (l' ++ turnL (turning l)) → Q (.ref x) H'
theorem ok_simple_plan (W : Wd K mg) : FnR P w K mg base CX0 6 (ga K "simple_plan") (spSP K) := by
  refine (def_ok W.F_simple_plan sc_simple_plan (fun _ _ _ _ _ _ us hl => match us, hl with | [_, _], _ => rfl) (fun vs H Q E ⟨p, c, l, ev, _⟩ => by rw [ev]; rfl) fun cdv A outer s' H vs Q E hr ⟨p, c, l, ev, hp, h60, c0, c1, hf, k⟩ => ?_).2
  subst ev
  have hex := simple_ex c0 hf h60
  have hgd := fun l' => simple_goodP (l' := l') c0 c1 hf h60
  obtain ⟨eo, ec, et, _⟩ := effOf_ok c0 hf
  refine ⟨_, PSs.nox (pss_cons (ps_expr (pe_callR (ok_validate_house W) (hr.mono (by decide)) W.g_validate_house W.k_validate_house pass0 rfl (pa_cons (pv 0) (pa_cons (pv 1) pa_nil)))) (pss_cons (ps_set (i := 2) sc_simple_plan.nd rfl (Or.inl rfl) (pe_callR (ok_effect_of W) (hr.mono (by decide)) W.g_effect_of W.k_effect_of pass0 rfl (pa_cons (pv 0) (pa_cons (pv 1) pa_nil)))) (pss_cons (ps_set (i := 3) sc_simple_plan.nd rfl (Or.inl rfl) (pe_op op_plus (pe_callR (ok_simple_steps W) (hr.mono (by decide)) W.g_simple_steps W.k_simple_steps pass0 rfl (pa_cons (pv 2) pa_nil)) (pe_ifExp (pt_val (pe_fldK K (pv 2))) (pe_lst (pa_cons (pe_tup (pa_cons (pe_gs W.t_TURN rfl) pa_nil)) pa_nil)) (pe_lst pa_nil)))) (pss_one (ps_ret (pe_mkS W.mk_Plan (ok_Plan_init W) (hr.mono (by decide)) W.g_Plan pass0 rfl (pv 3))))))), ?_⟩
  walk_at "y"
  refine ⟨p, c, l, rfl, hp, h60, c0, c1, hf, fun H1 s1 => ?_⟩
  walk_at "y"
  refine ⟨p, c, l, rfl, hp.mono s1, h60, fun x H2 s2 he => ?_⟩
  walk_at "y"
  refine ⟨x, _, rfl, he, eo, hex, fun r H3 ps l' hr2 s3 hps hpp hsl hll => ?_⟩
  have he3 := he.mono s3
  walk_at "y"
  rw [et]
  have hgd' := hgd l' hsl
  refine x_ifSet (fun v H4 => ∃ q qs, v = .ref q ∧ Same H3 H4 ∧ H4 q = some (.lst qs) ∧ StepsAt H4 qs (turnL (turning l)) ∧ qs.length ≤ 1) (fun ht Q' kQ => ?A) (fun ht Q' kQ => ?B) ?C
  case A =>
    walk_at "y"
    refine ⟨sz rfl, fun t ht3 => ?_⟩; generalize hNt : upd _ t _ = H4; obtain ⟨s4, e4⟩ := nws hNt ht3
    walk_at "y"
    refine ⟨sz rfl, fun q hq => ?_⟩; generalize hNq : upd _ q _ = H5; obtain ⟨s5, e5⟩ := nws hNq hq
    exact kQ _ _ ⟨q, _, rfl, s4.trans s5, e5, by rw [ht]; exact StepsAt.put .turn (s5 _ _ e4) .nil, Nat.le_refl _⟩
  case B =>
    walk_at "y"
    refine ⟨sz rfl, fun q hq => ?_⟩; generalize hNq : upd _ q _ = H5; obtain ⟨s5, e5⟩ := nws hNq hq
    exact kQ _ _ ⟨q, _, rfl, s5, e5, by rw [ht]; exact .nil, Nat.zero_le _⟩
  case C =>
    rintro _ H4 ⟨q, qs, rfl, s4, hq4, hq5, ql⟩
    have lps : ps.length = l'.length := pr_len hpp
    refine n_plusL (s4 _ _ hps) hq4 (sz5 (by omega)) fun t H5 ht s5 e5 => ?_
    walk_at "y"
    refine ⟨t, _, rfl, .inr (SqL.of e5), ?_⟩
    have s05 : Same H H5 := s1.trans (s2.trans (s3.trans (s4.trans s5)))
    refine mk_plan (l := l' ++ turnL (turning l)) (pr_app (hpp.mono (s4.trans s5)) (hq5.mono s5)) hgd' fun x H' hx s6 hP => ?_
    exact k x H' l' (s05.free hx) (s05.trans s6) hsl hP
end
end K08

set_option Elab.async false
set_option linter.all false
set_option autoImplicit false
set_option maxRecDepth 100000
set_option pp.maxSteps 500
set_option maxHeartbeats 4000000
namespace K08
open PySem PySem.Spec PyProof.Rows L2 He ChH Ch ChM NkX
local macro_rules | `(tactic| walk_at "x1") => `(tactic| first
  | ((with_reducible apply x_var); exact rfl)
  | with_reducible refine x_c ?_
  | with_reducible refine x_op ?_
  | with_reducible refine x_seq ?_
  | with_reducible refine x_asg ?_
  | with_reducible refine x_gname ?_
  | with_reducible refine x_cons ?_
  | with_reducible refine x_nil ?_
  | with_reducible refine x_fld ?_
  | with_reducible refine x_ret ?_
  | with_reducible refine x_ifS ?_
  | with_reducible refine x_test ?_
  | with_reducible refine x_ex ?_
  | with_reducible refine x_call ?_
  | with_reducible refine x_mk ?_
  | with_reducible refine x_meth ?_
  | with_reducible refine x_prop ?_
  | with_reducible refine x_cb ?_
  | with_reducible refine x_tup ?_
  | with_reducible refine x_lst ?_
  | with_reducible refine x_drop ?_
  | with_reducible refine x_for ?_
  | with_reducible refine x_iL ?_
  | with_reducible refine x_iT ?_
  | with_reducible refine x_iE ?_
  | with_reducible refine x_iU ?_
  | with_reducible refine x_iR1 ?_
  | with_reducible refine x_iR2 ?_
  | with_reducible refine x_gcons ?_
  | with_reducible refine x_gnil ?_
  | with_reducible refine x_par ?_
  | with_reducible refine x_lstRg ?_
  | with_reducible refine x_rg1 ?_
  | with_reducible refine x_rg1At ?_
  | with_reducible refine x_par3 ?_
  | with_reducible refine x_bm ?_
  | with_reducible refine x_bm0 ?_
  | with_reducible refine x_gSub ?_
  | with_reducible refine x_lc ?_
  | with_reducible refine x_yes ?_
  | with_reducible refine x_setf ?_
  | with_reducible refine x_next ?_
  | with_reducible refine x_B ?_
  | with_reducible refine x_and ?_
  | with_reducible refine x_or ?_
  | with_reducible refine x_not ?_
  | with_reducible refine x_andV ?_
  | with_reducible refine x_orV ?_
  | with_reducible refine x_notV ?_
  | with_reducible refine x_ifE ?_
  | with_reducible refine x_chain ?_
  | with_reducible refine x_chain3 ?_
  | with_reducible refine x_un ?_
  | with_reducible refine x_isNe ?_
  | with_reducible refine x_notNe ?_
  | with_reducible refine x_starA ?_
  | with_reducible refine x_plusI ?_
  | with_reducible refine x_minus ?_
  | with_reducible refine x_lt ?_
  | with_reducible refine x_le ?_
  | with_reducible refine x_gt ?_
  | with_reducible refine x_ge ?_
  | with_reducible refine x_eqI ?_
  | with_reducible refine x_neI ?_
  | with_reducible refine x_eqS ?_
  | with_reducible refine x_eqB ?_
  | with_reducible refine x_neB ?_
  | with_reducible refine x_int ?_
  | with_reducible refine x_intB ?_
  | with_reducible refine x_max2 ?_
  | with_reducible refine x_min2 ?_
  | with_reducible refine x_max3 ?_
  | with_reducible refine x_abs ?_
  | with_reducible refine x_neg ?_
  | with_reducible refine x_isi_ii ?_
  | with_reducible refine x_isi_ib ?_
  | with_reducible refine x_T ?_
  | with_reducible refine x_nT ?_
  | with_reducible refine x_nF ?_
  | with_reducible refine x_F ?_)
local macro_rules | `(tactic| walk_at "x") => `(tactic| repeat walk_at "x1")

local macro_rules | `(tactic| walk_at "q1") => `(tactic| first
  | walk_at "x1"
  | with_reducible refine x_sl ?_
  | with_reducible refine x_cmeth ?_
  | with_reducible refine x_noPart ?_
  | with_reducible refine x_part ?_
  | with_reducible refine x_partI ?_)
local macro_rules | `(tactic| walk_at "q") => `(tactic| repeat walk_at "q1")

section
variable {P : Program} {w : World} {K : PySem.W.Frag} {mg : Str → Option Value} {base : Heap}
def spTd : Sp := fun vs H Q _ => ∃ (r : Addr) (ps : List V) (l : List Stp) (c : Int), vs = [.ref r, .int c] ∧ H r = some (.lst ps) ∧ StepsAt H ps l ∧ l.length ≤ 10000 ∧ 0 ≤ c ∧ c ≤ 100 ∧ (∀ b n, Stp.mt b n ∈ l → PyData.strOk (roomS b) = true) ∧
  ∀ t H', Same H H' → KAt H' (tell c l) t → Q (.ref t) H'
theorem ok__law_told (W : Wd K mg) : FnR P w K mg base CX0 2 (ga K "_law_told") spTd := by
  refine (def_ok W.F__law_told sc__law_told (fun _ _ _ _ _ _ us hl => match us, hl with | [_, _], _ => rfl) (fun vs H Q E ⟨r, ps, l, c, ev, _⟩ => by rw [ev]; rfl) fun cdv A outer s H vs Q E hr ⟨r, ps, l, c, ev, hps, hpl, hll, c0, c1, hok, k⟩ => ?_).2
  subst ev
  have lps : ps.length = l.length := pr_len hpl
  refine ⟨_, PSs.nox (pss_cons (ps_set (i := 2) sc__law_told.nd rfl (Or.inl rfl) (pe_lst pa_nil)) (pss_cons (ps_for PassesOwn.never rfl (pi_range1 (by rfl) W.f_range (pa_cons (pe_op op_plus (pv 1) pe_int) pa_nil)) (pg_name (i := 3) sc__law_told.nd rfl (Or.inl rfl)) (pss_cons (ps_asg (pe_callR (ok__law_played W) (hr.mono (by decide)) W.g__law_played W.k__law_played pass0 rfl (pa_cons (pv 0) (pa_cons (pv 1) (pa_cons (pv 3) pa_nil)))) (pg_tupK (n := 2) K rfl (pgs_cons (pg_name (i := 4) sc__law_told.nd rfl (Or.inl rfl)) (pgs_cons (pg_name (i := 5) sc__law_told.nd rfl (Or.inl rfl)) pgs_nil)))) (pss_one (ps_expr (pe_bmK K PySem.F.plainAttrs_list PySem.F.slot_list_append PySem.F.type_list_append mt_append (pv 2) (pa_cons (pe_tup (pa_cons (pe_callB (c_sumK K rfl) (by rfl) W.f_sum (by decide +kernel) (pa_cons (pv 4) pa_nil)) (pa_cons (pv 5) pa_nil))) pa_nil)))))) (pss_one (ps_ret (pe_tup (pa_cons (pe_callTy (c_tupleK K) (by rfl) W.f_tuple (by decide +kernel) (pa_cons (pv 2) pa_nil)) (pa_cons (pe_op op_modP (pe_callB (c_lenK K) (by rfl) W.f_len (by decide +kernel) (pa_cons (pe_lc (own := [("_law_step", 6)]) (g := gName 6) rfl sc__law_told.nd (pi_listK K (pv 0)) (blkOk_by (own := [("_law_step", 6)]) (N := N__law_told) (sc := defScope s__law_told) (by decide +kernel)) (fun _ _ _ _ _ => (pg_name (i := 6) sc__law_told.nd rfl (Or.inl rfl))) (fun _ _ _ _ _ => (pts_one (pt_cmpR (op_eqK K hr.units) (pv 6) (pe_tup (pa_cons pe_str pa_nil)) (nomark _)))) (fun _ _ _ _ _ => (pv 6))) pa_nil)) pe_int) pa_nil))))))), ?_⟩
  walk_at "q"
  refine ⟨sz rfl, fun q hq => ?_⟩; generalize hN1 : upd _ q _ = H1; obtain ⟨s1, e1⟩ := nws hN1 hq
  walk_at "q"
  refine x_iR1At (by omega) (by omega) ?_
  refine x_loop walk_range (fun i σ Hi => Same H Hi ∧ (∃ vs, Hi q = some (.lst vs) ∧ Paired (PrAt Hi) vs (((List.range i).map fun x : Nat => ((playC ((x : Int), c - (x : Int)) l).sum, (playS ((x : Int), c - (x : Int)) l).1)))) ∧ ∃ v3 v4 v5 v6, σ = [some (.ref r), some (.int c), some (.ref q), v3, v4, v5, v6]) ⟨s1, ⟨[], e1, .nil⟩, _, _, _, _, rfl⟩ (fun _ _ _ _ _ => trivial) ?_ ?_
  · rintro i y σ Hi' Hi hi ⟨si, ⟨vs, eq, pq⟩, v3, v4, v5, v6, rfl⟩ ⟨rfl, rfl⟩
    show gName 3 (V.int (0 + (i : Int))) _ _ _
    rw [Int.zero_add]
    walk_at "q"
    refine ⟨r, ps, l, c, (i : Int), rfl, si _ _ hps, StepsAt.mono si hpl, hll, fun t u H2 hu ht s2 et eu => ?_⟩
    refine x_gTup et rfl ?_
    walk_at "q"
    refine ⟨ty_lst (s2 _ _ eq), ?_⟩
    walk_at "q"
    refine x_sum (SqL.of eu) ?_
    walk_at "q"
    refine ⟨sz rfl, fun t3 ht3 => ?_⟩; generalize hN3 : upd _ t3 _ = H3; obtain ⟨s3, e3⟩ := nws hN3 ht3
    have eq3 := s3 _ _ (s2 _ _ eq)
    have lq := pr_len pq
    walk_at "q"
    refine x_app eq3 (sz5' (by rw [lq, List.length_map, List.length_range]; omega)) ?_
    have kp : ∀ a xs, Hi a = some (.tup xs) → (upd H3 q (.lst (vs ++ [.ref t3]))) a = some (.tup xs) := fun a xs e => by
      rw [upd_ne (ne_of e eq (fun z => nomatch z))]
      exact s3 _ _ (s2 _ _ e)
    walk_at "q"
    refine ⟨Same.mut (si.trans (s2.trans s3)) hq, ⟨_, upd_same, ?_⟩, _, _, _, _, rfl⟩
    rw [List.range_succ, List.map_append]
    refine Paired.snoc (Paired.mapP pq fun v p ⟨d, e, z⟩ => ⟨d, e, kp _ _ z⟩) ⟨t3, rfl, ?_⟩
    rw [upd_ne (ne_of e3 eq3 (fun z => nomatch z))]
    exact e3
  · rintro σ Hi ⟨si, ⟨vs, eq, pq⟩, v3, v4, v5, v6, rfl⟩
    walk_at "q"
    refine ⟨q, vs, rfl, .inl ⟨SqL.of eq, fun R hR => ?_⟩⟩
    generalize hN2 : upd _ R _ = H2; obtain ⟨s2, e2⟩ := nws hN2 hR
    walk_at "q"
    have hp2 := s2 _ _ (si _ _ hps)
    have hs2 := StepsAt.mono (si.trans s2) hpl
    refine x_iLAt (SqL.of hp2) ?_
    refine x_lcA walk_list (fun i acc _ => acc.length = turns (l.take i)) (fun _ _ _ _ _ _ _ h => h) (fun _ _ => rfl) (by omega) (fun H' s' => SqL.of (s' _ _ hp2)) ?_ ?_
    · rintro i y acc H3 H4 NT NF hTT hFF hi s3 hacc ⟨rfl, ey⟩
      obtain ⟨st, hst, hsv⟩ := pr_at hpl ey
      obtain ⟨p, rfl, hp⟩ := hsv
      have hp4 := s3 _ _ (s2 _ _ (si _ _ hp))
      walk_at "q"
      refine ⟨rfl, ?_⟩
      walk_at "q"
      refine ⟨sz rfl, fun t5 ht5 => ?_⟩; generalize hN5 : upd _ t5 _ = H5; obtain ⟨s5, e5⟩ := nws hN5 ht5
      refine eq_turn (s5 _ _ hp4) e5 ?_
      have ht := turns_step hst
      by_cases h : st = .turn
      · rw [decide_eq_true h]
        rw [if_pos h] at ht
        walk_at "q"
        exact hTT _ _ s5 (by rw [List.length_append, hacc, ht]; rfl)
      · rw [decide_eq_false h]
        rw [if_neg h] at ht
        walk_at "q"
        exact hFF _ s5 (by rw [hacc, ht]; rfl)
    rintro D acc H3 hD s3 eD hacc hdl
    rw [lps, List.take_of_length_le (Nat.le_refl _)] at hacc
    walk_at "q"
    refine x_lenL (SqL.of eD) ?_
    walk_at "q"
    refine x_mod (by decide) ?_
    walk_at "q"
    refine ⟨sz rfl, fun t6 ht6 => ?_⟩; generalize hN6 : upd _ t6 _ = H6; obtain ⟨s6, e6⟩ := nws hN6 ht6
    refine k t6 H6 (si.trans (s2.trans (s3.trans s6))) ⟨R, vs, ?_, (s3.trans s6) _ _ e2, Paired.mapP pq fun v p ⟨d, e, z⟩ => ⟨d, e, (s2.trans (s3.trans s6)) _ _ z⟩⟩
    rw [e6, hacc]
    rfl
end
end K08

set_option Elab.async false
set_option linter.all false
set_option autoImplicit false
set_option maxRecDepth 100000
set_option pp.maxSteps 500
set_option maxHeartbeats 4000000
namespace K08
open PySem PySem.Spec PyProof.Rows L2 He ChH Ch ChM NkX
local macro_rules | `(tactic| walk_at "x1") => `(tactic| first
  | ((with_reducible apply x_var); exact rfl)
  | with_reducible refine x_c ?_
  | with_reducible refine x_op ?_
  | with_reducible refine x_seq ?_
  | with_reducible refine x_asg ?_
  | with_reducible refine x_gname ?_
  | with_reducible refine x_cons ?_
  | with_reducible refine x_nil ?_
  | with_reducible refine x_fld ?_
  | with_reducible refine x_ret ?_
  | with_reducible refine x_ifS ?_
  | with_reducible refine x_test ?_
  | with_reducible refine x_ex ?_
  | with_reducible refine x_call ?_
  | with_reducible refine x_mk ?_
  | with_reducible refine x_meth ?_
  | with_reducible refine x_prop ?_
  | with_reducible refine x_cb ?_
  | with_reducible refine x_tup ?_
  | with_reducible refine x_lst ?_
  | with_reducible refine x_drop ?_
  | with_reducible refine x_for ?_
  | with_reducible refine x_iL ?_
  | with_reducible refine x_iT ?_
  | with_reducible refine x_iE ?_
  | with_reducible refine x_iU ?_
  | with_reducible refine x_iR1 ?_
  | with_reducible refine x_iR2 ?_
  | with_reducible refine x_gcons ?_
  | with_reducible refine x_gnil ?_
  | with_reducible refine x_par ?_
  | with_reducible refine x_lstRg ?_
  | with_reducible refine x_rg1 ?_
  | with_reducible refine x_rg1At ?_
  | with_reducible refine x_par3 ?_
  | with_reducible refine x_bm ?_
  | with_reducible refine x_bm0 ?_
  | with_reducible refine x_gSub ?_
  | with_reducible refine x_lc ?_
  | with_reducible refine x_yes ?_
  | with_reducible refine x_setf ?_
  | with_reducible refine x_next ?_
  | with_reducible refine x_B ?_
  | with_reducible refine x_and ?_
  | with_reducible refine x_or ?_
  | with_reducible refine x_not ?_
  | with_reducible refine x_andV ?_
  | with_reducible refine x_orV ?_
  | with_reducible refine x_notV ?_
  | with_reducible refine x_ifE ?_
  | with_reducible refine x_chain ?_
  | with_reducible refine x_chain3 ?_
  | with_reducible refine x_un ?_
  | with_reducible refine x_isNe ?_
  | with_reducible refine x_notNe ?_
  | with_reducible refine x_starA ?_
  | with_reducible refine x_plusI ?_
  | with_reducible refine x_minus ?_
  | with_reducible refine x_lt ?_
  | with_reducible refine x_le ?_
  | with_reducible refine x_gt ?_
  | with_reducible refine x_ge ?_
  | with_reducible refine x_eqI ?_
  | with_reducible refine x_neI ?_
  | with_reducible refine x_eqS ?_
  | with_reducible refine x_eqB ?_
  | with_reducible refine x_neB ?_
  | with_reducible refine x_int ?_
  | with_reducible refine x_intB ?_
  | with_reducible refine x_max2 ?_
  | with_reducible refine x_min2 ?_
  | with_reducible refine x_max3 ?_
  | with_reducible refine x_abs ?_
  | with_reducible refine x_neg ?_
  | with_reducible refine x_isi_ii ?_
  | with_reducible refine x_isi_ib ?_
  | with_reducible refine x_T ?_
  | with_reducible refine x_nT ?_
  | with_reducible refine x_nF ?_
  | with_reducible refine x_F ?_)
local macro_rules | `(tactic| walk_at "x") => `(tactic| repeat walk_at "x1")

local macro_rules | `(tactic| walk_at "q1") => `(tactic| first
  | walk_at "x1"
  | with_reducible refine x_sl ?_
  | with_reducible refine x_cmeth ?_
  | with_reducible refine x_noPart ?_
  | with_reducible refine x_part ?_
  | with_reducible refine x_partI ?_)
local macro_rules | `(tactic| walk_at "q") => `(tactic| repeat walk_at "q1")

theorem x_cutS {t u : TS} {De : Ends} {σ : L2.St} {H : Hp} (R : L2.St → Hp → Prop) (h1 : ∀ nx : L2.St → Hp → Prop, (∀ σ' H', R σ' H' → nx σ' H') → t { De with nx := nx } σ H) (h2 : ∀ σ' H', R σ' H' → u De σ' H') : tSeq t u De σ H := h1 (u De) h2
theorem tell_nil (c : Int) : tell c [] = ((List.range (c + 1).toNat).map fun x : Nat => ((0 : Int), (x : Int)), 0) := rfl
theorem prk {H H' : Hp} {v : V} {p : Int × Int} (h : PrAt H v p) (s : ∀ a xs, H a = some (.tup xs) → H' a = some (.tup xs)) : PrAt H' v p := by
  obtain ⟨d, e, z⟩ := h
  exact ⟨d, e, s _ _ z⟩
/-- all is kept but d -/
def Kd (d : Addr) (H H' : Hp) : Prop := ∀ b u, b ≠ d → H b = some u → H' b = some u
theorem Kd.of {d : Addr} {H H' : Hp} (s : Same H H') : Kd d H H' := fun b u _ e => s b u e
theorem Kd.trans {d : Addr} {H H1 H2 : Hp} (a : Kd d H H1) (b : Kd d H1 H2) : Kd d H H2 := fun x u n e => b x u n (a x u n e)
theorem Kd.list {d : Addr} {H H1 H2 : Hp} {a : Addr} (k : Kd d H H1) (s : Same H1 H2) (ha : H a = none) : ∀ {o : HO}, Kd d H (upd H2 a o) := fun {o} b u n e => by
  rw [upd_ne (fun z => by rw [z, ha] at e; cases e)]
  exact s _ _ (k b u n e)
def KR (H : Hp) (v : V) (k : RK) : Prop := ∃ b, v = .ref b ∧ KAt H k b
theorem KR.keep {H H' : Hp} {v : V} {k : RK} (h : KR H v k) (s : ∀ a xs, H a = some (.tup xs) → H' a = some (.tup xs)) : KR H' v k := by
  obtain ⟨b, e, z⟩ := h
  exact ⟨b, e, z.keep s⟩
theorem seven (L : Nat) : 7 ^ (L + 1) = 7 * 7 ^ L := by rw [Nat.pow_succ, Nat.mul_comm]
section
variable {P : Program} {w : World} {K : PySem.W.Frag} {mg : Str → Option Value} {base : Heap}
/-- what holds ahead of the steps of length L + 1 -/
structure Fw (P : Program) (w : World) (c : Int) (l : List Stp) (d : Addr) (H9 : Hp) (La : Addr) (L : Nat) (seen : KVs) (lvs : List V) (layer : List RK) (Hi : Hp) : Prop where
  dn : DN P w Hi d seen
  kd : Kd d H9 Hi
  sr : Srch c (tell c l) (movesL c.toNat) seen L
  ly : Layer c (tell c l) (movesL c.toNat) seen L layer
  la : Hi La = some (.lst lvs)
  pr : Paired (KR Hi) lvs layer
  n1 : layer.length ≤ 7 ^ L
  n2 : seen.length ≤ 2 * 7 ^ L
def spFw : Sp := fun vs H Q _ => ∃ (t : Addr) (l : List Stp) (c : Int), vs = [.ref t, .int c, .int (l.length : Nat)] ∧ KAt H (tell c l) t ∧ l.length ≤ 5 ∧ 0 ≤ c ∧ c ≤ 3 ∧ fitsS c l ∧
  ∀ (n : Int) H', Same H H' → Least c (tell c l) (movesL c.toNat) n → Q (.int n) H'
theorem ok__law_fewest (W : Wd K mg) : FnR P w K mg base CX0 2 (ga K "_law_fewest") spFw := by
  refine (def_ok W.F__law_fewest sc__law_fewest (fun _ _ _ _ _ _ us hl => match us, hl with | [_, _, _], _ => rfl) (fun vs H Q E ⟨t, l, c, ev, _⟩ => by rw [ev]; rfl) fun cdv A outer s H vs Q E hr ⟨t, l, c, ev, ht, hll, c0, c1, hf, k⟩ => ?_).2
  subst ev
  refine ⟨_, PSs.nox (pss_cons (ps_set (i := 4) sc__law_fewest.nd rfl (Or.inl rfl) (pe_tup (pa_cons (pe_callTy (c_tupleK K) (by rfl) W.f_tuple (by decide +kernel) (pa_cons (pe_lc (own := [("_law_place", 3)]) (g := gName 3) (tt := tYes) rfl sc__law_fewest.nd (pi_range1 (by rfl) W.f_range (pa_cons (pe_op op_plus (pv 1) pe_int) pa_nil)) (blkOk_by (own := [("_law_place", 3)]) (N := N__law_fewest) (sc := defScope s__law_fewest) (by decide +kernel)) (fun _ _ _ _ _ => (pg_name (i := 3) sc__law_fewest.nd rfl (Or.inl rfl))) (fun _ _ _ _ _ => pts_nil) (fun _ _ _ _ _ => (pe_tup (pa_cons pe_int (pa_cons (pv 3) pa_nil))))) pa_nil)) (pa_cons pe_int pa_nil)))) (pss_cons (ps_par (i := 5) (j := 6) (by rfl) sc__law_fewest.nd rfl rfl (by decide) rfl rfl (pa_cons (NkX.pe_ndisp hr.units (pv 4) pe_int) (pa_cons (pe_lst (pa_cons (pv 4) pa_nil)) pa_nil)) (by rfl)) (pss_cons (ps_set (i := 7) sc__law_fewest.nd rfl (Or.inl rfl) (pe_lst (pa_cons (pe_tup (pa_cons pe_str pa_nil)) pa_nil))) (pss_cons (ps_for PassesOwn.never rfl (pi_range2 (by rfl) W.f_range (pa_cons pe_int (pa_cons (pe_op op_plus (pv 1) pe_int) pa_nil))) (pg_name (i := 8) sc__law_fewest.nd rfl (Or.inl rfl)) (pss_one (ps_set (i := 7) sc__law_fewest.nd rfl (Or.inl rfl) (pe_op op_plus (pv 7) (pe_lst (pa_cons (pe_tup (pa_cons pe_str (pa_cons (pv 8) pa_nil))) (pa_cons (pe_tup (pa_cons pe_str (pa_cons (pv 8) pa_nil))) pa_nil))))))) (pss_cons (ps_for PassesOwn.never rfl (pi_range2 (by rfl) W.f_range (pa_cons pe_int (pa_cons (pe_op op_plus (pv 2) pe_int) pa_nil))) (pg_name (i := 9) sc__law_fewest.nd rfl (Or.inl rfl)) (pss_cons (ps_if (pt_cmp (NkX.pc_nin hr.units (pv 0) (pv 5))) (pss_one (ps_ret (NkX.pe_nget hr.units (pv 5) (pv 0) (fun _ _ => rfl)))) pss_nil) (pss_cons (ps_set (i := 10) sc__law_fewest.nd rfl (Or.inl rfl) (pe_lst pa_nil)) (pss_cons (ps_for PassesOwn.never rfl (pi_listK K (pv 6)) (pg_tupK (n := 2) K rfl (pgs_cons (pg_name (i := 11) sc__law_fewest.nd rfl (Or.inl rfl)) (pgs_cons (pg_name (i := 12) sc__law_fewest.nd rfl (Or.inl rfl)) pgs_nil))) (pss_one (ps_for PassesOwn.never rfl (pi_listK K (pv 7)) (pg_name (i := 13) sc__law_fewest.nd rfl (Or.inl rfl)) (pss_cons (ps_set (i := 14) sc__law_fewest.nd rfl (Or.inl rfl) (pe_lst pa_nil)) (pss_cons (ps_for PassesOwn.never rfl (pi_tupK K (pv 11)) (pg_tupK (n := 2) K rfl (pgs_cons (pg_name (i := 15) sc__law_fewest.nd rfl (Or.inl rfl)) (pgs_cons (pg_name (i := 16) sc__law_fewest.nd rfl (Or.inl rfl)) pgs_nil))) (pss_cons (ps_asg (pe_callR (ok__law_played W) (hr.mono (by decide)) W.g__law_played W.k__law_played pass0 rfl (pa_cons (pe_lst (pa_cons (pv 13) pa_nil)) (pa_cons (pv 1) (pa_cons (pv 16) pa_nil)))) (pg_tupK (n := 2) K rfl (pgs_cons (pg_name (i := 17) sc__law_fewest.nd rfl (Or.inl rfl)) (pgs_cons (pg_name (i := 3) sc__law_fewest.nd rfl (Or.inl rfl)) pgs_nil)))) (pss_one (ps_expr (pe_bmK K PySem.F.plainAttrs_list PySem.F.slot_list_append PySem.F.type_list_append mt_append (pv 14) (pa_cons (pe_tup (pa_cons (pe_op op_plus (pv 15) (pe_callB (c_sumK K rfl) (by rfl) W.f_sum (by decide +kernel) (pa_cons (pv 17) pa_nil))) (pa_cons (pv 3) pa_nil))) pa_nil)))))) (pss_cons (ps_set (i := 18) sc__law_fewest.nd rfl (Or.inl rfl) (pe_tup (pa_cons (pe_callTy (c_tupleK K) (by rfl) W.f_tuple (by decide +kernel) (pa_cons (pv 14) pa_nil)) (pa_cons (pe_op op_modP (pe_op op_plus (pv 12) (pe_callTy c_int (by rfl) W.f_int (by decide +kernel) (pa_cons (pe_cmpR (op_eqK K hr.units) (pv 13) (pe_tup (pa_cons pe_str pa_nil)) (nomark _)) pa_nil))) pe_int) pa_nil)))) (pss_cons (ps_set (i := 19) sc__law_fewest.nd rfl (Or.inl rfl) (pe_and (pe_cmpR op_leI (pe_ix (ix_K K) (pe_ix (ix_K K) (pe_ix (ix_K K) (pv 18) pe_int (fun _ _ => rfl)) pe_int (fun _ _ => rfl)) pe_int (fun _ _ => rfl)) (pe_ix (ix_K K) (pe_ix (ix_K K) (pe_ix (ix_K K) (pv 0) pe_int (fun _ _ => rfl)) pe_int (fun _ _ => rfl)) pe_int (fun _ _ => rfl)) (nomark _)) (pe_one (pe_cmpR op_leI (pe_ix (ix_K K) (pe_ix (ix_K K) (pe_ix (ix_K K) (pv 18) pe_int (fun _ _ => rfl)) (pv 1) (fun _ _ => rfl)) pe_int (fun _ _ => rfl)) (pe_ix (ix_K K) (pe_ix (ix_K K) (pe_ix (ix_K K) (pv 0) pe_int (fun _ _ => rfl)) (pv 1) (fun _ _ => rfl)) pe_int (fun _ _ => rfl)) (nomark _))))) (pss_one (ps_if (PW.pt (pw_and (pt_cmp (NkX.pc_nnotin hr.units (pv 18) (pv 5))) (pw_and1 (pt_val (pv 19))))) (pss_cons (NkX.ps_nput hr.units (pv 5) (pv 18) (pv 9) (by rfl)) (pss_one (ps_expr (pe_bmK K PySem.F.plainAttrs_list PySem.F.slot_list_append PySem.F.type_list_append mt_append (pv 10) (pa_cons (pv 18) pa_nil))))) pss_nil))))))))) (pss_one (ps_set (i := 6) sc__law_fewest.nd rfl (Or.inl rfl) (pv 10))))))) (pss_one (ps_ret (NkX.pe_nget2 hr.units (pv 5) (pv 0) (pe_op op_plus (pv 2) pe_int) ⟨by rfl, by rfl, by rfl, by rfl⟩)))))))), ?_⟩
  walk_at "q"
  refine x_iR1At (by omega) (by omega) ?_
  refine x_lcA walk_range (fun i acc H' => Paired (PrAt H') acc ((List.range i).map fun x : Nat => ((0 : Int), (x : Int)))) (fun i acc H' D xs ys hD h => Paired.mapP h fun v p z => prk z fun a xs e => by rw [upd_ne (ne_of e hD (fun z => nomatch z))]; exact e) (fun _ _ => .nil) (by omega) (fun _ _ => trivial) ?_ ?_
  · rintro i y acc H1 H2 NT NF hTT hFF hi s1 hacc ⟨rfl, rfl⟩
    show gName _ (V.int (0 + (i : Int))) _ _ _
    rw [Int.zero_add]
    walk_at "q"
    refine ⟨rfl, ?_⟩
    walk_at "q"
    refine ⟨sz rfl, fun u3 hu3 => ?_⟩; generalize hN3 : upd _ u3 _ = H3; obtain ⟨s3, e3⟩ := nws hN3 hu3
    refine hTT _ _ s3 ?_
    rw [List.range_succ, List.map_append]
    exact Paired.snoc (Paired.mapP hacc fun v p z => prk z fun a xs e => s3 _ _ e) ⟨u3, rfl, e3⟩
  rintro D acc H1 hD s1 eD pD hdl
  walk_at "q"
  refine ⟨D, acc, rfl, .inl ⟨SqL.of eD, fun R hR => ?_⟩⟩
  generalize hN2 : upd _ R _ = H2; obtain ⟨s2, e2⟩ := nws hN2 hR
  walk_at "q"
  refine ⟨sz rfl, fun b hb => ?_⟩; generalize hN3 : upd _ b _ = H3; obtain ⟨s3, e3⟩ := nws hN3 hb
  have k3 : KAt H3 (tell c []) b := ⟨R, acc, e3, s3 _ _ e2, Paired.mapP pD fun v p z => prk z fun a xs e => s3 _ _ (s2 _ _ e)⟩
  have s03 := s1.trans (s2.trans s3)
  clear s1 s2 s3 e2 e3 eD pD hdl hD hR hb
  walk_at "q"
  refine fun d hd => ?_
  have hd0 : H d = none := s03.free hd
  generalize hN4 : upd H3 d _ = H4
  have s4 : Same H3 H4 := by rw [← hN4]; exact Same.new hd
  walk_at "q"
  refine ⟨by rw [← hN4]; exact upd_same, tell c [], b, 0, rfl, rfl, k3.keep fun a xs e => s4 _ _ e, ?_⟩
  have x4 : DN P w H4 d [] := ⟨by rw [← hN4]; exact upd_same, fun p hp => nomatch hp⟩
  have x50 := n_put (n := 0) x4 (k3.keep fun a xs e => s4 _ _ e)
  generalize hN5 : upd H4 d _ = H5
  have x5 : DN P w H5 d ([] ++ [(tell c [], b, 0)]) := by rw [← hN5]; exact x50
  clear x50
  have k5 : Kd d H3 H5 := fun a u n e => by rw [← hN5, upd_ne n]; exact s4 _ _ e
  walk_at "q"
  refine ⟨sz rfl, fun La hLa => ?_⟩; generalize hN6 : upd _ La _ = H6; obtain ⟨s6, e6⟩ := nws hN6 hLa
  walk_at "q"
  refine ⟨_, _, rfl, ?_⟩
  walk_at "q"
  refine ⟨sz rfl, fun u7 hu7 => ?_⟩; generalize hN7 : upd _ u7 _ = H7; obtain ⟨s7, e7⟩ := nws hN7 hu7
  walk_at "q"
  refine ⟨sz rfl, fun M hM => ?_⟩; generalize hN8 : upd _ M _ = H8; obtain ⟨s8, e8⟩ := nws hN8 hM
  have s58 := s6.trans (s7.trans s8)
  walk_at "q"
  refine x_iR2At ⟨by omega, by omega, by omega, by omega⟩ ?_
  refine x_loop walk_range (fun i σ Hi => Same H8 Hi ∧ (∃ M vs, Hi M = some (.lst vs) ∧ StepsAt Hi vs (movesL i) ∧ ∃ v3 v8 v9 v10 v11 v12 v13 v14 v15 v16 v17 v18 v19, σ = [some (.ref t), some (.int c), some (.int (l.length : Nat)), v3, some (.ref b), some (.ref d), some (.ref La), some (.ref M), v8, v9, v10, v11, v12, v13, v14, v15, v16, v17, v18, v19])) ⟨Same.refl _, M, _, e8, .cons ⟨u7, rfl, s8 _ _ e7⟩ .nil, _, _, _, _, _, _, _, _, _, _, _, _, _, rfl⟩ (fun _ _ _ _ _ => trivial) ?_ ?_
  · rintro i y σ Hi' Hi hi ⟨si, M, vs, eM, hM, v3, v8, v9, v10, v11, v12, v13, v14, v15, v16, v17, v18, v19, rfl⟩ ⟨rfl, rfl⟩
    show gName 8 (V.int (1 + (i : Int))) _ _ _
    walk_at "q"
    refine ⟨sz rfl, fun u1 hu1 => ?_⟩; generalize hN1 : upd _ u1 _ = Ha; obtain ⟨sa, ea⟩ := nws hN1 hu1
    walk_at "q"
    refine ⟨sz rfl, fun u2 hu2 => ?_⟩; generalize hN2 : upd _ u2 _ = Hb; obtain ⟨sb, eb⟩ := nws hN2 hu2
    walk_at "q"
    refine ⟨sz rfl, fun u3 hu3 => ?_⟩; generalize hN3 : upd _ u3 _ = Hc; obtain ⟨sc, ec⟩ := nws hN3 hu3
    have sac := sa.trans (sb.trans sc)
    have lM := pr_len hM
    rw [movesL_len] at lM
    refine n_plusL (sac _ _ eM) ec (sz5 (show vs.length + 2 ≤ 100000 by omega)) fun M2 Hd hM2 sd ed => ?_
    walk_at "q"
    have sad := sac.trans sd
    refine ⟨si.trans sad, M2, _, ed, ?_, _, _, _, _, _, _, _, _, _, _, _, _, _, rfl⟩
    rw [movesL_succ]
    have z := Paired.snoc (l₁ := vs ++ [.ref u1]) (l₂ := movesL i ++ [.mt true (1 + (i : Int))]) (Paired.snoc (StepsAt.mono sad hM) ⟨u1, rfl, show Hd u1 = some (.tup (stepV (.mt true (1 + (i : Int))))) from (sb.trans (sc.trans sd)) u1 _ ea⟩) ⟨u2, rfl, show Hd u2 = some (.tup (stepV (.mt false (1 + (i : Int))))) from (sc.trans sd) u2 _ eb⟩
    rw [List.append_assoc, List.append_assoc] at z
    exact z
  rintro σ H9 ⟨s9, M, vs, eM, hM, v3, v8, v9, v10, v11, v12, v13, v14, v15, v16, v17, v18, v19, rfl⟩
  have x9 : DN P w H9 d ([] ++ [(tell c [], b, 0)]) := ⟨(s58.trans s9) _ _ x5.at', fun p hp => (x5.ks p hp).keep fun a xs e => (s58.trans s9) _ _ e⟩
  rw [show (c + 1 - 1).toNat = c.toNat by omega] at hM
  have eL := (s7.trans (s8.trans s9)) _ _ e6
  have k09 : Kd d H3 H9 := k5.trans (Kd.of (s58.trans s9))
  have bd : b ≠ d := by
    obtain ⟨R, vs, h1, _⟩ := x9.ks _ (List.mem_singleton.mpr rfl)
    exact ne_of h1 x9.at' (fun z => nomatch z)
  clear s9 s58 s6 s7 s8 e6 e7 e8 hN5 hN4 x5 x4 k5 hLa hu7 s4
  have same : ∀ {Hx : Hp}, Kd d H9 Hx → Same H Hx := fun {Hx} kx a u e => by
    have n : a ≠ d := fun z => by rw [z, hd0] at e; cases e
    exact kx a u n (k09 a u n (s03 _ _ e))
  have dM : M ≠ d := ne_of eM x9.at' (fun z => nomatch z)
  have k9 : KAt H9 (tell c []) b := x9.ks _ (List.mem_singleton.mpr rfl)
  have F0 : Fw P w c l d H9 La 0 ([] ++ [(tell c [], b, 0)]) [.ref b] [tell c []] H9 := ⟨x9, fun _ _ _ e => e, (srch_start b).1, (srch_start b).2, eL, .cons ⟨b, rfl, k9⟩ .nil, (show 1 ≤ 1 from Nat.le_refl _), (show 1 ≤ 2 by decide)⟩
  clear k9 x9 eL k09 s03 hd hd0 k3
  walk_at "q"
  refine x_iR2At ⟨by omega, by omega, by omega, by omega⟩ ?_
  refine x_loop walk_range (fun L σ Hi => ∃ La seen lvs layer, Fw P w c l d H9 La L seen lvs layer Hi ∧ ∃ v3 v4 v8 v9 v10 v11 v12 v13 v14 v15 v16 v17 v18 v19, σ = [some (.ref t), some (.int c), some (.int (l.length : Nat)), v3, v4, some (.ref d), some (.ref La), some (.ref M), v8, v9, v10, v11, v12, v13, v14, v15, v16, v17, v18, v19]) ⟨La, _, _, _, F0, _, _, _, _, _, _, _, _, _, _, _, _, _, _, rfl⟩ (fun _ _ _ _ _ => trivial) ?_ ?_
  · rintro L y σ Hi' Hi hi ⟨La, seen, lvs, layer, F, v3, v4, v8, v9, v10, v11, v12, v13, v14, v15, v16, v17, v18, v19, rfl⟩ ⟨rfl, rfl⟩
    show gName 9 (V.int (1 + (L : Int))) _ _ _
    have sm := same F.kd
    have kt := ht.keep fun a xs e => sm _ _ e
    walk_at "q"
    refine ⟨_, rfl, _, rfl, d, seen, tell c l, t, rfl, rfl, F.dn, kt, ?_⟩
    cases hv : valN seen (tell c l) with
    | some n =>
      rw [show (some n : Option Int).isSome = true from rfl]
      walk_at "q"
      refine ⟨_, rfl, _, rfl, ?_⟩
      exact ⟨d, seen, tell c l, t, n, rfl, rfl, F.dn, kt, hv, k n _ sm (srch_least F.sr hv)⟩
    | none =>
      rw [show (none : Option Int).isSome = false from rfl]
      walk_at "q"
      refine ⟨sz rfl, fun Lt hLt => ?_⟩; generalize hN1 : upd _ Lt _ = H1; obtain ⟨s1, e1⟩ := nws hN1 hLt
      walk_at "q"
      have dLt : Lt ≠ d := ne_of e1 (s1 _ _ F.dn.at') (fun z => nomatch z)
      have dLa : La ≠ d := ne_of F.la F.dn.at' (fun z => nomatch z)
      have lpr := pr_len F.pr
      refine x_iLAt (SqL.of (s1 _ _ F.la)) ?_
      refine x_loop walk_list (fun i σ Hx => ∃ seen' later lv2, DN P w Hx d seen' ∧ Kd d Hi Hx ∧ Hx Lt = some (.lst lv2) ∧ Paired (KR Hx) lv2 later ∧ Mid c (tell c l) (movesL c.toNat) seen' L later (fun k m => k ∈ layer.take i ∧ m ∈ movesL c.toNat) ∧ seen'.length = seen.length + later.length ∧ later.length ≤ 7 * i ∧ (∀ k n, valN seen k = some n → valN seen' k = some n) ∧
        ∃ v3 v4 v8 v11 v12 v13 v14 v15 v16 v17 v18 v19, σ = [some (.ref t), some (.int c), some (.int (l.length : Nat)), v3, v4, some (.ref d), some (.ref La), some (.ref M), v8, some (.int (1 + (L : Int))), some (.ref Lt), v11, v12, v13, v14, v15, v16, v17, v18, v19])
        ⟨seen, [], [], F.dn.keep (s1 _ _ F.dn.at' |>.trans F.dn.at'.symm) (fun a xs e => s1 _ _ e), Kd.of s1, e1, .nil, mid_weak (mid_start F.sr) (fun k m h => by rw [List.take_zero] at h; exact nomatch h.1), rfl, Nat.zero_le _, fun _ _ h => h, _, _, _, _, _, _, _, _, _, _, _, _, rfl⟩ (fun i σ Hx _ ⟨_, _, _, _, kx, _⟩ => SqL.of (kx _ _ dLa F.la)) ?_ ?_
      · rintro i y σ Hx' Hx hix ⟨seen', later, lv2, xx, kx, ex, px, mx', nx, lx, vx, v3, v4, v8, v11, v12, v13, v14, v15, v16, v17, v18, v19, rfl⟩ ⟨rfl, ey⟩
        obtain ⟨key, hkey, kb, rfl, hkb⟩ := pr_at F.pr ey
        obtain ⟨R, rvs, g1, g2, g3⟩ := id hkb
        have lk : key.1.length = (c + 1).toNat := by
          obtain ⟨w0, _, _, e⟩ := F.ly.snd key (List.mem_of_getElem? hkey)
          rw [← e]
          show (List.map _ _).length = _
          rw [List.length_map, List.length_range]
        have tup : ∀ {Hx : Hp} {a : Addr} {xs : List V}, Kd d Hi Hx → Hi a = some (.tup xs) → Hx a = some (.tup xs) := fun {Hx a xs} kx e => kx _ _ (ne_of e F.dn.at' (fun z => nomatch z)) e
        refine x_gTup (tup kx g1) rfl ?_
        walk_at "q"
        have lM := pr_len hM
        have hml := movesL_len c.toNat
        refine x_iLAt (SqL.of (kx _ _ dM (F.kd _ _ dM eM))) ?_
        refine x_loop walk_list (fun j σ Hx => ∃ seen' later lv2, DN P w Hx d seen' ∧ Kd d Hi Hx ∧ Hx Lt = some (.lst lv2) ∧ Paired (KR Hx) lv2 later ∧ Mid c (tell c l) (movesL c.toNat) seen' L later (fun k m => (k ∈ layer.take i ∧ m ∈ movesL c.toNat) ∨ (k = key ∧ m ∈ (movesL c.toNat).take j)) ∧ seen'.length = seen.length + later.length ∧ later.length ≤ 7 * i + j ∧ (∀ k n, valN seen k = some n → valN seen' k = some n) ∧
          ∃ v3 v4 v8 v13 v14 v15 v16 v17 v18 v19, σ = [some (.ref t), some (.int c), some (.int (l.length : Nat)), v3, v4, some (.ref d), some (.ref La), some (.ref M), v8, some (.int (1 + (L : Int))), some (.ref Lt), some (.ref R), some (.int key.2), v13, v14, v15, v16, v17, v18, v19])
          ⟨seen', later, lv2, xx, kx, ex, px, mid_weak mx' (fun k m h => by
            rcases h with h | h
            · exact h
            · rw [List.take_zero] at h; exact nomatch h.2), nx, lx, vx, _, _, _, _, _, _, _, _, _, _, rfl⟩ (fun j σ Hx _ ⟨_, _, _, _, kx, _⟩ => SqL.of (kx _ _ dM (F.kd _ _ dM eM))) ?_ ?_
        · clear xx kx ex px mx' nx lx vx
          rintro j y σ Hy' Hy hj ⟨seen', later, lv2, xx, kx, ex, px, mx', nx, lx, vx, v3, v4, v8, v13, v14, v15, v16, v17, v18, v19, rfl⟩ ⟨rfl, ey2⟩
          obtain ⟨sm1, hsm1, pm, rfl, hpm⟩ := pr_at hM ey2
          have dpm : pm ≠ d := ne_of hpm F0.dn.at' (fun z => nomatch z)
          have hpmi := F.kd _ _ dpm hpm
          walk_at "q"
          refine ⟨sz rfl, fun Af hAf => ?_⟩; generalize hN2 : upd _ Af _ = H2; obtain ⟨s2, e2⟩ := nws hN2 hAf
          walk_at "q"
          have lg3 := pr_len g3
          refine x_iTAt (SqT.of (s2 _ _ (tup kx g2))) ?_
          refine x_loop walk_tup (fun x σ Hz => Same Hy Hz ∧ (∃ av, Hz Af = some (.lst av) ∧ Paired (PrAt Hz) av ((key.1.take x).map (row1 c sm1))) ∧ ∃ v3 v4 v8 v15 v16 v17 v18 v19, σ = [some (.ref t), some (.int c), some (.int (l.length : Nat)), v3, v4, some (.ref d), some (.ref La), some (.ref M), v8, some (.int (1 + (L : Int))), some (.ref Lt), some (.ref R), some (.int key.2), some (.ref pm), some (.ref Af), v15, v16, v17, v18, v19])
            ⟨s2, ⟨[], e2, .nil⟩, _, _, _, _, _, _, _, _, rfl⟩ (fun x σ Hz _ ⟨sz, _⟩ => SqT.of (sz _ _ (tup kx g2))) ?_ ?_
          · rintro x y σ Hz' Hz hx ⟨sz1, ⟨av, eA, pA⟩, v3, v4, v8, v15, v16, v17, v18, v19, rfl⟩ ⟨rfl, ey3⟩
            obtain ⟨rw1, hrw1, cp, rfl, hcp⟩ := pr_at g3 ey3
            refine x_gTup (sz1 _ _ (tup kx hcp)) rfl ?_
            walk_at "q"
            refine ⟨sz rfl, fun u3 hu3 => ?_⟩; generalize hN3 : upd _ u3 _ = H3'; obtain ⟨s3, e3⟩ := nws hN3 hu3
            walk_at "q"
            refine ⟨u3, [.ref pm], [sm1], c, rw1.2, rfl, e3, .cons ⟨pm, rfl, s3 _ _ (sz1 _ _ (kx _ _ dpm hpmi))⟩ .nil, (show 1 ≤ 10000 by decide), fun tt qq Hw hqq htt sw et eq => ?_⟩
            refine x_gTup et rfl ?_
            walk_at "q"
            refine ⟨ty_lst (sw _ _ (s3 _ _ eA)), ?_⟩
            walk_at "q"
            refine x_sum (SqL.of eq) ?_
            walk_at "q"
            refine ⟨sz rfl, fun u4 hu4 => ?_⟩; generalize hN4 : upd _ u4 _ = H4'; obtain ⟨s4, e4⟩ := nws hN4 hu4
            walk_at "q"
            have eA4 := s4 _ _ (sw _ _ (s3 _ _ eA))
            have lA := pr_len pA
            have s34 := s3.trans (sw.trans s4)
            have kp : ∀ a xs, Hz a = some (.tup xs) → (upd H4' Af (.lst (av ++ [.ref u4]))) a = some (.tup xs) := fun a xs e => by
              rw [upd_ne (ne_of e eA (fun z => nomatch z))]
              exact s34 _ _ e
            refine x_app eA4 (sz5' (by rw [lA, List.length_map, List.length_take]; have := Nat.min_le_right x key.1.length; omega)) ?_
            walk_at "q"
            refine ⟨Same.mut (sz1.trans s34) hAf, ⟨_, upd_same, ?_⟩, _, _, _, _, _, _, _, _, rfl⟩
            rw [List.take_add_one, hrw1, List.map_append]
            refine Paired.snoc (Paired.mapP pA fun v p z => prk z kp) ⟨u4, rfl, ?_⟩
            rw [upd_ne (ne_of e4 eA4 (fun z => nomatch z)), e4]
            show some (HO.tup [V.int (rw1.1 + ((play1 (rw1.2, c - rw1.2) sm1).2 + 0)), _]) = _
            rw [Int.add_zero]
            rfl
          · rintro σ Hz ⟨sz1, ⟨av, eA, pA⟩, v3, v4, v8, v15, v16, v17, v18, v19, rfl⟩
            rw [lg3, List.take_of_length_le (Nat.le_refl _)] at pA
            walk_at "q"
            refine ⟨Af, av, rfl, .inl ⟨SqL.of eA, fun R2 hR2 => ?_⟩⟩
            generalize hN3 : upd _ R2 _ = H3'; obtain ⟨s3, e3⟩ := nws hN3 hR2
            walk_at "q"
            refine ⟨sz rfl, fun u4 hu4 => ?_⟩; generalize hN4 : upd _ u4 _ = H4'; obtain ⟨s4, e4⟩ := nws hN4 hu4
            refine eq_turn ((sz1.trans (s3.trans s4)) _ _ (kx _ _ dpm hpmi)) e4 ?_
            walk_at "q"
            refine x_mod (by decide) ?_
            walk_at "q"
            refine ⟨sz rfl, fun kb2 hkb2 => ?_⟩; generalize hN5 : upd _ kb2 _ = H5'; obtain ⟨s5, e5⟩ := nws hN5 hkb2
            have s15 := sz1.trans (s3.trans (s4.trans s5))
            have lA := pr_len pA
            rw [List.length_map, lk] at lA
            have kk : KAt H5' (nextK c sm1 key) kb2 := by
              refine ⟨R2, av, ?_, (s4.trans s5) _ _ e3, Paired.mapP pA fun v p z => prk z fun a xs e => (s3.trans (s4.trans s5)) _ _ e⟩
              rw [e5]
              cases sm1 <;> rfl
            have smy := same (F.kd.trans kx)
            have kt5 := (ht.keep fun a xs e => smy _ _ e).keep fun a xs e => s15 _ _ e
            obtain ⟨TR, tvs, t1, t2, t3⟩ := id kt5
            obtain ⟨R3, kvs2, q1, q2, q3⟩ := id kk
            have len1 : (tell c l).1.length = (c + 1).toNat := by
              show (List.map _ _).length = _
              rw [List.length_map, List.length_range]
            have len2 : (nextK c sm1 key).1.length = (c + 1).toNat := by
              show (List.map _ _).length = _
              rw [List.length_map, lk]
            have get : ∀ (ks : RK) (i : Nat), ks.1.length = (c + 1).toNat → i < (c + 1).toNat → ∃ p, ks.1[i]? = some p ∧ cst ks i = p.1 := fun ks i h1 h2 => by
              have e := List.getElem?_eq_getElem (l := ks.1) (i := i) (by omega)
              refine ⟨_, e, ?_⟩
              unfold cst
              rw [e]
              rfl
            obtain ⟨a0, ha0, ca0⟩ := get _ 0 len2 (by omega)
            obtain ⟨b0, hb0, cb0⟩ := get _ 0 len1 (by omega)
            obtain ⟨a1, ha1, ca1⟩ := get _ c.toNat len2 (by omega)
            obtain ⟨b1, hb1, cb1⟩ := get _ c.toNat len1 (by omega)
            obtain ⟨va0, wa0, za0, rfl, ya0⟩ := pr_atR q3 ha0
            obtain ⟨vb0, wb0, zb0, rfl, yb0⟩ := pr_atR t3 hb0
            obtain ⟨va1, wa1, za1, rfl, ya1⟩ := pr_atR q3 ha1
            obtain ⟨vb1, wb1, zb1, rfl, yb1⟩ := pr_atR t3 hb1
            have atc : ∀ {vs : List V} {v : V}, vs[c.toNat]? = some v → atI vs c = some v := fun h => by
              have := atI_nat h
              rwa [Int.toNat_of_nonneg c0] at this
            with_reducible refine x_gname ?_
            dsimp only
            refine x_cutS (fun σ' H' => H' = H5' ∧ ∃ ch : Bool, (ch = true ↔ cheap c (tell c l) (nextK c sm1 key)) ∧ ∃ v3 v4 v8 v14 v15 v16 v17, σ' = [some (.ref t), some (.int c), some (.int (l.length : Nat)), v3, v4, some (.ref d), some (.ref La), some (.ref M), v8, some (.int (1 + (L : Int))), some (.ref Lt), some (.ref R), some (.int key.2), some (.ref pm), v14, v15, v16, v17, some (.ref kb2), some (.bl ch)]) (fun nx hnx => ?_) ?_
            · skip
              walk_at "q"
              refine x_ixT (SqT.of q1) (i := ((0 : Nat) : Int)) (v := .ref R3) (atI_nat rfl) ?_
              walk_at "q"
              refine x_ixT (SqT.of q2) (i := ((0 : Nat) : Int)) (v := .ref za0) (atI_nat wa0) ?_
              walk_at "q"
              refine x_ixT (SqT.of ya0) (i := ((0 : Nat) : Int)) (v := .int a0.1) (atI_nat rfl) ?_
              walk_at "q"
              refine x_ixT (SqT.of t1) (i := ((0 : Nat) : Int)) (v := .ref TR) (atI_nat rfl) ?_
              walk_at "q"
              refine x_ixT (SqT.of t2) (i := ((0 : Nat) : Int)) (v := .ref zb0) (atI_nat wb0) ?_
              walk_at "q"
              refine x_ixT (SqT.of yb0) (i := ((0 : Nat) : Int)) (v := .int b0.1) (atI_nat rfl) ?_
              walk_at "q"
              by_cases h1 : a0.1 ≤ b0.1
              · rw [decide_eq_true h1, if_pos rfl]
                walk_at "q"
                refine x_ixT (SqT.of q1) (i := ((0 : Nat) : Int)) (v := .ref R3) (atI_nat rfl) ?_
                walk_at "q"
                refine x_ixT (SqT.of q2) (i := c) (v := .ref za1) (atc wa1) ?_
                walk_at "q"
                refine x_ixT (SqT.of ya1) (i := ((0 : Nat) : Int)) (v := .int a1.1) (atI_nat rfl) ?_
                walk_at "q"
                refine x_ixT (SqT.of t1) (i := ((0 : Nat) : Int)) (v := .ref TR) (atI_nat rfl) ?_
                walk_at "q"
                refine x_ixT (SqT.of t2) (i := c) (v := .ref zb1) (atc wb1) ?_
                walk_at "q"
                refine x_ixT (SqT.of yb1) (i := ((0 : Nat) : Int)) (v := .int b1.1) (atI_nat rfl) ?_
                walk_at "q"
                exact hnx _ _ ⟨rfl, decide (a1.1 ≤ b1.1), ⟨fun z => ⟨by rw [ca0, cb0]; exact h1, by rw [ca1, cb1]; exact of_decide_eq_true z⟩, fun z => decide_eq_true (by rw [← ca1, ← cb1]; exact z.2)⟩, _, _, _, _, _, _, _, rfl⟩
              · rw [decide_eq_false h1, if_neg Bool.false_ne_true]
                walk_at "q"
                exact hnx _ _ ⟨rfl, false, ⟨(fun z => nomatch z), fun z => absurd (by rw [← ca0, ← cb0]; exact z.1) h1⟩, _, _, _, _, _, _, _, rfl⟩
            rintro σ H6 ⟨e6', ch, hch, v3, v4, v8, v14, v15, v16, v17, rfl⟩
            rw [e6']
            clear e6'
            have dn5 : DN P w H5' d seen' := xx.keep ((s15 _ _ xx.at').trans xx.at'.symm) fun a xs e => s15 _ _ e
            have kd5 : Kd d Hi H5' := kx.trans (Kd.of s15)
            have ex5 := s15 _ _ ex
            have px5 : Paired (KR H5') lv2 later := Paired.mapP px fun v p z => z.keep fun a xs e => s15 _ _ e
            have hD : ∀ k m, (k ∈ layer.take i ∧ m ∈ movesL c.toNat ∨ k = key ∧ m ∈ (movesL c.toNat).take (j + 1)) → (k ∈ layer.take i ∧ m ∈ movesL c.toNat ∨ k = key ∧ m ∈ (movesL c.toNat).take j) ∨ (k = key ∧ m = sm1) := fun k m h => by
              rcases h with h | ⟨h1, h2⟩
              · exact .inl (.inl h)
              · rw [List.take_add_one, hsm1] at h2
                rcases List.mem_append.mp h2 with z | z
                · exact .inl (.inr ⟨h1, z⟩)
                · exact .inr ⟨h1, List.mem_singleton.mp z⟩
            walk_at "q"
            refine ⟨_, rfl, _, rfl, d, seen', nextK c sm1 key, kb2, rfl, rfl, dn5, kk, ?_⟩
            cases hv : valN seen' (nextK c sm1 key) with
            | some n =>
              rw [show (!(some n : Option Int).isSome) = false from rfl]
              walk_at "q"
              exact ⟨seen', later, lv2, dn5, kd5, ex5, px5, mid_skip mx' (.inl (by rw [hv]; rfl)) hD, nx, by omega, vx, _, _, _, _, _, _, _, _, _, _, rfl⟩
            | none =>
              rw [show (!(none : Option Int).isSome) = true from rfl]
              cases ch with
              | false =>
                walk_at "q"
                exact ⟨seen', later, lv2, dn5, kd5, ex5, px5, mid_skip mx' (.inr fun z => nomatch hch.mpr z) hD, nx, by omega, vx, _, _, _, _, _, _, _, _, _, _, rfl⟩
              | true =>
                walk_at "q"
                have h7 : 7 ^ L ≤ 7 ^ 4 := Nat.pow_le_pow_right (by decide) (by omega)
                have n1 := F.n1
                have n2 := F.n2
                have lpx := pr_len px5
                have cap : seen'.length < 90000 ∧ later.length < 90000 := by
                  have e7 : (7 : Nat) ^ 4 = 2401 := by decide
                  omega
                refine ⟨_, rfl, _, rfl, _, rfl, d, seen', nextK c sm1 key, kb2, 1 + (L : Int), rfl, rfl, rfl, dn5, kk, hv, by rw [sizeLine_eq]; omega, ?_⟩
                generalize hN6 : upd H5' d _ = H6'
                have dn6 : DN P w H6' d (seen' ++ [(nextK c sm1 key, kb2, 1 + (L : Int))]) := by rw [← hN6]; exact n_put dn5 kk
                have hLtd : H6' Lt = some (.lst lv2) := by rw [← hN6, upd_ne dLt]; exact ex5
                have kd6 : ∀ a u, a ≠ d → H5' a = some u → H6' a = some u := fun a u n e => by rw [← hN6, upd_ne n]; exact e
                walk_at "q"
                refine ⟨ty_lst hLtd, ?_⟩
                walk_at "q"
                refine x_app hLtd (sz5' (by omega)) ?_
                have kp : ∀ a xs, H5' a = some (.tup xs) → (upd H6' Lt (.lst (lv2 ++ [.ref kb2]))) a = some (.tup xs) := fun a xs e => by
                  rw [upd_ne (ne_of e ex5 (fun z => nomatch z))]
                  exact kd6 _ _ (ne_of e dn5.at' (fun z => nomatch z)) e
                walk_at "q"
                have eL1 : (1 + (L : Int)) = ((L + 1 : Nat) : Int) := by omega
                refine ⟨seen' ++ [(nextK c sm1 key, kb2, ((L + 1 : Nat) : Int))], later ++ [nextK c sm1 key], lv2 ++ [.ref kb2], ?_, fun a u n e => ?_, upd_same, ?_, mid_add mx' (List.mem_of_getElem? hsm1) (F.ly.snd key (List.mem_of_getElem? hkey)) hv hD, ?_, ?_, fun k' n' h' => ?_, _, _, _, _, _, _, _, _, _, _, rfl⟩
                · rw [← eL1]
                  exact dn6.keep (upd_ne dLt.symm) fun a xs e => by
                    rw [upd_ne (ne_of e hLtd (fun z => nomatch z))]
                    exact e
                · rw [upd_ne (fun z => by rw [z, hLt] at e; cases e)]
                  exact kd6 _ _ n (kd5 a u n e)
                · exact Paired.snoc (Paired.mapP px5 fun v p z => z.keep kp) ⟨kb2, rfl, kk.keep kp⟩
                · rw [List.length_append, List.length_append, nx]
                  show seen.length + later.length + 1 = seen.length + (later.length + 1)
                  omega
                · rw [List.length_append]
                  show later.length + 1 ≤ _
                  omega
                · rw [valN_snoc, vx k' n' h']
        · rintro σ Hy ⟨seen', later, lv2, xx, kx, ex, px, mx', nx, lx, vx, v3, v4, v8, v13, v14, v15, v16, v17, v18, v19, rfl⟩
          walk_at "q"
          rw [lM, List.take_of_length_le (Nat.le_refl _)] at mx'
          refine ⟨seen', later, lv2, xx, kx, ex, px, mid_weak mx' (fun k m h => ?_), nx, by rw [lM, hml] at lx; omega, vx, _, _, _, _, _, _, _, _, _, _, _, _, rfl⟩
          rw [List.take_add_one, hkey] at h
          rcases List.mem_append.mp h.1 with z | z
          · exact .inl ⟨z, h.2⟩
          · exact .inr ⟨List.mem_singleton.mp z, h.2⟩
      · rintro σ Hx ⟨seen', later, lv2, xx, kx, ex, px, mx', nx, lx, vx, v3, v4, v8, v11, v12, v13, v14, v15, v16, v17, v18, v19, rfl⟩
        walk_at "q"
        rw [lpr, List.take_of_length_le (Nat.le_refl _)] at mx'
        obtain ⟨S2, L2'⟩ := mid_endS F.sr F.ly mx' (fun k hk m hm => ⟨hk, hm⟩) vx
        have n1 := F.n1
        have n2 := F.n2
        rw [lpr] at lx
        refine ⟨Lt, seen', lv2, later, ⟨xx, F.kd.trans kx, S2, L2', ex, px, ?_, ?_⟩, _, _, _, _, _, _, _, _, _, _, _, _, _, _, rfl⟩
        · rw [seven]; omega
        · rw [seven]; omega
  · rintro σ Hi ⟨La, seen, lvs, layer, F, v3, v4, v8, v9, v10, v11, v12, v13, v14, v15, v16, v17, v18, v19, rfl⟩
    have sm := same F.kd
    have kt := ht.keep fun a xs e => sm _ _ e
    walk_at "q"
    obtain ⟨w0, w1, w2, w3⟩ := word_there c0 hf
    obtain ⟨n, hv⟩ := srch_there F.sr w1 (by omega) w3
    refine ⟨_, rfl, d, seen, rfl, F.dn, ?_⟩
    walk_at "q"
    refine ⟨seen, tell c l, t, rfl, F.dn, kt, ?_⟩
    rw [hv]
    exact k n _ sm (srch_least F.sr hv)
end
end K08

set_option Elab.async false
set_option linter.all false
set_option autoImplicit false
set_option maxRecDepth 100000
set_option pp.maxSteps 500
set_option maxHeartbeats 4000000
namespace K08
open PySem PySem.Spec PyProof.Rows L2 He ChH Ch ChM NkX
/-! ### keys as data -/
def rowD (p : Int × Int) : PyData := .tuple [.int p.1, .int p.2]
def keyD (k : RK) : PyData := .tuple [.tuple (k.1.map rowD), .int k.2]
theorem lay_row (p : Int × Int) : Lay 1 (rowD p) := lay_tup (n := 0) fun d hd => by
  rcases List.mem_cons.mp hd with e | e
  · rw [e]; exact lay_int 0 _
  · rw [List.mem_singleton.mp e]; exact lay_int 0 _
theorem lay_key (k : RK) : Lay 3 (keyD k) := lay_tup (n := 2) fun d hd => by
  rcases List.mem_cons.mp hd with e | e
  · rw [e]; exact lay_tup (n := 1) (lay_map lay_row k.1)
  · rw [List.mem_singleton.mp e]; exact lay_int 2 _
theorem dp_rows {K : PySem.W.Frag} {H : Hp} : ∀ {vs : List V} {ps : List (Int × Int)}, Paired (PrAt H) vs ps → DpAll K H vs (ps.map rowD)
  | _, _, .nil => .nil
  | _, _, .cons ⟨c, e, z⟩ h => by
    subst e
    exact .cons (.tup (SqT.of z) (.cons (.int _) (.cons (.int _) .nil))) (dp_rows h)
theorem dp_key {K : PySem.W.Frag} {H : Hp} {k : RK} {b : Addr} (h : KAt H k b) : Dp K H (.ref b) (keyD k) := by
  obtain ⟨R, vs, h1, h2, h3⟩ := h
  exact .tup (SqT.of h1) (.cons (.tup (SqT.of h2) (dp_rows h3)) (.cons (.int _) .nil))
theorem x_neKy {K : PySem.W.Frag} {H : Hp} {k : RK} {a b : Addr} {Q : VK} (h1 : KAt H k a) (h2 : KAt H k b) (q : Q (.bl false) H) : rNeU K (.ref a) (.ref b) H Q := by
  have l := (lay_key k).shaped
  refine x_neDp (dp_key h1) (dp_key h2) l l ?_
  rw [PySem.SeqAt.eqv_refl _ (lay_key k).1]
  exact q
theorem fd_same {c : Int} {e : Eff} {o : Option Int} (h : FirstD c e e o) : o = none := by
  cases o with
  | none => rfl
  | some x => exact absurd ⟨rfl, rfl⟩ h.2.2.1
local macro_rules | `(tactic| walk_at "x1") => `(tactic| first
  | ((with_reducible apply x_var); exact rfl)
  | with_reducible refine x_c ?_
  | with_reducible refine x_op ?_
  | with_reducible refine x_seq ?_
  | with_reducible refine x_asg ?_
  | with_reducible refine x_gname ?_
  | with_reducible refine x_cons ?_
  | with_reducible refine x_nil ?_
  | with_reducible refine x_fld ?_
  | with_reducible refine x_ret ?_
  | with_reducible refine x_ifS ?_
  | with_reducible refine x_test ?_
  | with_reducible refine x_ex ?_
  | with_reducible refine x_call ?_
  | with_reducible refine x_mk ?_
  | with_reducible refine x_meth ?_
  | with_reducible refine x_prop ?_
  | with_reducible refine x_cb ?_
  | with_reducible refine x_tup ?_
  | with_reducible refine x_lst ?_
  | with_reducible refine x_drop ?_
  | with_reducible refine x_for ?_
  | with_reducible refine x_iL ?_
  | with_reducible refine x_iT ?_
  | with_reducible refine x_iE ?_
  | with_reducible refine x_iU ?_
  | with_reducible refine x_iR1 ?_
  | with_reducible refine x_iR2 ?_
  | with_reducible refine x_gcons ?_
  | with_reducible refine x_gnil ?_
  | with_reducible refine x_par ?_
  | with_reducible refine x_lstRg ?_
  | with_reducible refine x_rg1 ?_
  | with_reducible refine x_rg1At ?_
  | with_reducible refine x_par3 ?_
  | with_reducible refine x_bm ?_
  | with_reducible refine x_bm0 ?_
  | with_reducible refine x_gSub ?_
  | with_reducible refine x_lc ?_
  | with_reducible refine x_yes ?_
  | with_reducible refine x_setf ?_
  | with_reducible refine x_next ?_
  | with_reducible refine x_B ?_
  | with_reducible refine x_and ?_
  | with_reducible refine x_or ?_
  | with_reducible refine x_not ?_
  | with_reducible refine x_andV ?_
  | with_reducible refine x_orV ?_
  | with_reducible refine x_notV ?_
  | with_reducible refine x_ifE ?_
  | with_reducible refine x_chain ?_
  | with_reducible refine x_chain3 ?_
  | with_reducible refine x_un ?_
  | with_reducible refine x_isNe ?_
  | with_reducible refine x_notNe ?_
  | with_reducible refine x_starA ?_
  | with_reducible refine x_plusI ?_
  | with_reducible refine x_minus ?_
  | with_reducible refine x_lt ?_
  | with_reducible refine x_le ?_
  | with_reducible refine x_gt ?_
  | with_reducible refine x_ge ?_
  | with_reducible refine x_eqI ?_
  | with_reducible refine x_neI ?_
  | with_reducible refine x_eqS ?_
  | with_reducible refine x_eqB ?_
  | with_reducible refine x_neB ?_
  | with_reducible refine x_int ?_
  | with_reducible refine x_intB ?_
  | with_reducible refine x_max2 ?_
  | with_reducible refine x_min2 ?_
  | with_reducible refine x_max3 ?_
  | with_reducible refine x_abs ?_
  | with_reducible refine x_neg ?_
  | with_reducible refine x_isi_ii ?_
  | with_reducible refine x_isi_ib ?_
  | with_reducible refine x_T ?_
  | with_reducible refine x_nT ?_
  | with_reducible refine x_nF ?_
  | with_reducible refine x_F ?_)
local macro_rules | `(tactic| walk_at "x") => `(tactic| repeat walk_at "x1")

local macro_rules | `(tactic| walk_at "q1") => `(tactic| first
  | walk_at "x1"
  | with_reducible refine x_sl ?_
  | with_reducible refine x_cmeth ?_
  | with_reducible refine x_noPart ?_
  | with_reducible refine x_part ?_
  | with_reducible refine x_partI ?_)
local macro_rules | `(tactic| walk_at "q") => `(tactic| repeat walk_at "q1")

section
variable {P : Program} {w : World} {K : PySem.W.Frag} {mg : Str → Option Value} {base : Heap}
abbrev lawLv : Nat := 7
def spLaw (K : PySem.W.Frag) : Sp := fun vs H Q _ => ∃ (a : Addr) (ns : List Int), vs = [.ref a] ∧ SqL K H a (ns.map V.int) ∧ ∀ H', Q (.bl true) H'
theorem ok_law (W : Wd K mg) : FnOk P w K mg base CX0 lawLv (ga K "law") (fdOf K (ga K "law")) ["_law_script"] (spLaw K) := by
  refine (def_ok W.F_law sc_law (fun _ _ _ _ _ _ us hl => match us, hl with | [_], _ => rfl) (fun vs H Q E ⟨a, ns, ev, _⟩ => by rw [ev]; rfl) fun cdv A outer s H vs Q E hr ⟨a, ns, ev, hs, k⟩ => ?_).1
  subst ev
  refine ⟨_, PSs.nox (pss_cons (ps_set (i := 1) sc_law.nd rfl (Or.inl rfl) (pe_callR (ok__law_start W) (hr.mono (by decide)) W.g__law_start W.k__law_start pass0 rfl (pa_cons (pv 0) pa_nil))) (pss_cons (ps_set (i := 2) sc_law.nd rfl (Or.inl rfl) (pe_callR (ok__law_drawn W) (hr.mono (by decide)) W.g__law_drawn W.k__law_drawn pass0 rfl (pa_cons (pv 1) (pa_cons pe_int pa_nil)))) (pss_cons (ps_set (i := 3) sc_law.nd rfl (Or.inl rfl) (pe_callR (ok__law_random_steps W) (hr.mono (by decide)) W.g__law_random_steps W.k__law_random_steps pass0 rfl (pa_cons (pv 1) (pa_cons pe_int (pa_cons (pv 2) pa_nil))))) (pss_cons (ps_set (i := 4) sc_law.nd rfl (Or.inl rfl) (pe_callR (ok_simple_plan W) (hr.mono (by decide)) W.g_simple_plan W.k_simple_plan pass0 rfl (pa_cons (pe_callR (ok__law_plan W) (hr.mono (by decide)) W.g__law_plan W.k__law_plan pass0 rfl (pa_cons (pv 3) pa_nil)) (pa_cons (pv 2) pa_nil)))) (pss_cons (ps_set (i := 5) sc_law.nd rfl (Or.inl rfl) (pe_callR (ok__law_told W) (hr.mono (by decide)) W.g__law_told W.k__law_told pass0 rfl (pa_cons (pv 3) (pa_cons (pv 2) pa_nil)))) (pss_cons (ps_if (PW.pt (pw_or (pt_cmpR (op_neK K hr.units) (pe_callR (ok__law_told W) (hr.mono (by decide)) W.g__law_told W.k__law_told pass0 rfl (pa_cons (pe_callTy (c_listK K) (by rfl) W.f_list (by decide +kernel) (pa_cons (pe_propR W.c_Plan W.p_Plan_steps (ok_Plan_steps W) (hr.mono (by decide)) (pv 4)) pa_nil)) (pa_cons (pv 2) pa_nil))) (pv 5) (nomark _)) (pw_or1 (pt_cmpR (op_neK K hr.units) (pe_callB (c_lenK K) (by rfl) W.f_len (by decide +kernel) (pa_cons (pe_propR W.c_Plan W.p_Plan_steps (ok_Plan_steps W) (hr.mono (by decide)) (pv 4)) pa_nil)) (pe_callR (ok__law_fewest W) (hr.mono (by decide)) W.g__law_fewest W.k__law_fewest pass0 rfl (pa_cons (pv 5) (pa_cons (pv 2) (pa_cons (pe_callB (c_lenK K) (by rfl) W.f_len (by decide +kernel) (pa_cons (pv 3) pa_nil)) pa_nil)))) (nomark _))))) (pss_one (ps_ret pe_bl)) pss_nil) (pss_cons (ps_for PassesOwn.never rfl (pi_range1 (by rfl) W.f_range (pa_cons pe_int pa_nil)) (pg_name (i := 6) sc_law.nd rfl (Or.inl rfl)) (pss_cons (ps_set (i := 7) sc_law.nd rfl (Or.inl rfl) (pe_ix (ix_K K) (pe_lst (pa_cons pe_int (pa_cons pe_int (pa_cons (pe_op op_powP pe_int pe_int) pa_nil)))) (pe_callR (ok__law_drawn W) (hr.mono (by decide)) W.g__law_drawn W.k__law_drawn pass0 rfl (pa_cons (pv 1) (pa_cons pe_int pa_nil))) (fun _ _ => rfl))) (pss_cons (ps_set (i := 3) sc_law.nd rfl (Or.inl rfl) (pe_callR (ok__law_random_steps W) (hr.mono (by decide)) W.g__law_random_steps W.k__law_random_steps pass0 rfl (pa_cons (pv 1) (pa_cons pe_int (pa_cons (pv 7) pa_nil))))) (pss_cons (ps_par (i := 8) (j := 4) (by rfl) sc_law.nd rfl rfl (by decide) rfl rfl (pa_cons (pe_callR (ok__law_plan W) (hr.mono (by decide)) W.g__law_plan W.k__law_plan pass0 rfl (pa_cons (pv 3) pa_nil)) (pa_cons (pe_callR (ok_simple_plan W) (hr.mono (by decide)) W.g_simple_plan W.k_simple_plan pass0 rfl (pa_cons (pe_callR (ok__law_plan W) (hr.mono (by decide)) W.g__law_plan W.k__law_plan pass0 rfl (pa_cons (pv 3) pa_nil)) (pa_cons (pv 7) pa_nil))) pa_nil)) (by rfl)) (pss_cons (ps_if (PW.pt (pw_or (pt_cmpR op_gtI (pe_callB (c_lenK K) (by rfl) W.f_len (by decide +kernel) (pa_cons (pe_propR W.c_Plan W.p_Plan_steps (ok_Plan_steps W) (hr.mono (by decide)) (pv 4)) pa_nil)) (pe_callB (c_lenK K) (by rfl) W.f_len (by decide +kernel) (pa_cons (pv 3) pa_nil)) (nomark _)) (pw_or1 (pt_cmp (pc_notN (pe_callR (ok_first_difference W) (hr.mono (by decide)) W.g_first_difference W.k_first_difference pass0 rfl (pa_cons (pv 8) (pa_cons (pv 4) (pa_cons (pv 7) pa_nil))))))))) (pss_one (ps_ret pe_bl)) pss_nil) (pss_one (ps_if (PW.pt (pw_or (pt_cmpR (op_neK K hr.units) (pe_propR W.c_Plan W.p_Plan_is_turning (ok_Plan_is_turning W) (hr.mono (by decide)) (pv 4)) (pe_propR W.c_Plan W.p_Plan_is_turning (ok_Plan_is_turning W) (hr.mono (by decide)) (pv 8)) (nomark _)) (pw_or1 (pt_cmpR (op_neK K hr.units) (pe_callB (c_lenK K) (by rfl) W.f_len (by decide +kernel) (pa_cons (pe_propR W.c_Plan W.p_Plan_steps (ok_Plan_steps W) (hr.mono (by decide)) (pe_callR (ok_simple_plan W) (hr.mono (by decide)) W.g_simple_plan W.k_simple_plan pass0 rfl (pa_cons (pv 4) (pa_cons (pv 7) pa_nil)))) pa_nil)) (pe_callB (c_lenK K) (by rfl) W.f_len (by decide +kernel) (pa_cons (pe_propR W.c_Plan W.p_Plan_steps (ok_Plan_steps W) (hr.mono (by decide)) (pv 4)) pa_nil)) (nomark _))))) (pss_one (ps_ret pe_bl)) pss_nil))))))) (pss_one (ps_ret pe_bl))))))))), ?_⟩
  walk_at "q"
  refine ⟨a, ns, rfl, hs, fun st H0 hst s0 S0 => ?_⟩
  walk_at "q"
  refine ⟨st, a, ns, 4, rfl, S0, by decide, by decide, fun c H1 c0 c1 s1 S1 => ?_⟩
  walk_at "q"
  refine ⟨st, a, ns, 5, c, rfl, S1, by decide, by decide, c0, by omega, fun r H2 ps l hr2 s2 S2 hrst hps hpl hll hfl => ?_⟩
  have gl : goodP l := ⟨fun s hs b n e => by subst e; have := hfl b n hs; omega, by omega⟩
  have hok : ∀ (l : List Stp) b n, Stp.mt b n ∈ l → PyData.strOk (roomS b) = true := fun _ b _ _ => by cases b <;> decide +kernel
  walk_at "q"
  refine ⟨r, ps, l, rfl, hps, hpl, gl, fun x1 H3 hx1 s3 P3 => ?_⟩
  walk_at "q"
  refine ⟨x1, c, l, rfl, P3, by omega, c0, by omega, hfl, fun x2 H4 l' hx2 s4 hsim P4 => ?_⟩
  have hle := simple_le c0 hfl hsim
  have htell := simple_tell c0 hfl hsim
  have s34 := s3.trans s4
  walk_at "q"
  refine ⟨r, ps, l, c, rfl, s34 _ _ hps, hpl.mono s34, by omega, c0, by omega, hok l, fun t H5 s5 k5 => ?_⟩
  obtain ⟨dx, tq, rs, g1, g2, g3⟩ := (P4.mono s5).ex
  walk_at "q"
  refine x_propAt g1 ⟨x2, dx, _, _, rfl, g1, rfl, ?_⟩
  walk_at "q"
  refine x_listT (SqT.of g2) fun u hu => ?_
  generalize hN6 : upd _ u _ = H6; obtain ⟨s6, e6⟩ := nws hN6 hu
  walk_at "q"
  refine ⟨u, rs, _, c, rfl, e6, g3.mono s6, by omega, c0, by omega, hok _, fun t2 H7 s7 k7 => ?_⟩
  rw [htell] at k7
  have s67 := s6.trans s7
  walk_at "q"
  refine x_neKy k7 (k5.keep fun a xs e => s67 _ _ e) ?_
  walk_at "q"
  refine x_propAt (s67 _ _ g1) ⟨x2, dx, _, _, rfl, s67 _ _ g1, rfl, ?_⟩
  walk_at "q"
  refine x_lenT (SqT.of (s67 _ _ g2)) ?_
  walk_at "q"
  have hps7 := (s34.trans (s5.trans s67)) _ _ hps
  refine x_lenL (SqL.of hps7) ?_
  walk_at "q"
  refine ⟨t, l, c, by rw [pr_len hpl], k5.keep fun a xs e => s67 _ _ e, by omega, c0, by omega, hfl, fun n H8 s8 hn => ?_⟩
  rw [simple_least c0 hfl hsim hn, pr_len g3]
  walk_at "q"
  refine x_ifnd (fun hne => absurd rfl hne) fun _ => ?_
  have S8 := S2.mono (s34.trans (s5.trans (s67.trans s8)))
  walk_at "q"
  refine x_iR1At (by decide) (by decide) ?_
  refine x_loop walk_range (fun i σ H1 => StAt K H1 st a ns ∧ ∃ b c d e f g h, σ = [some (.ref a), some (.ref st), b, c, d, e, f, g, h]) ⟨S8, _, _, _, _, _, _, _, rfl⟩ (fun _ _ _ _ _ => trivial) ?_ ?_
  · clear S8 hps7 hn s8 s67 k7 s7 g1 g2 g3 e6 s6 k5 s5 P4 P3 s34 s4 s3 hps hpl S2 s2 S1 s1 S0 s0 hle htell hsim hfl gl hll
    rintro i y σ H2 H1 hi ⟨S1, b, c, d, e, f, g, h, rfl⟩ ⟨rfl, rfl⟩
    walk_at "q"
    refine x_pow ⟨by decide, by decide, by decide⟩ ?_
    walk_at "q"
    refine ⟨sz rfl, fun q1 hq1 => ?_⟩; generalize hNq1 : upd _ q1 _ = H2; obtain ⟨s2, e2⟩ := nws hNq1 hq1
    walk_at "q"
    refine ⟨st, a, ns, 3, rfl, S1.mono s2, by decide, by decide, fun z2 H3 z20 z21 s3 S3 => ?_⟩
    walk_at "q"
    have hq3 := s3 q1 _ (S1.neN hq1) e2
    obtain ⟨y, hy, hyy⟩ := pick3 (u := .int 9) (v := .int 50) (x := .int (10 ^ ((18 : Int).toNat))) (z := z2) (by omega) (by omega)
    refine x_ixL (SqL.of hq3) hy ?_
    have ey : ∃ n : Int, y = .int n ∧ 0 ≤ n ∧ n ≤ 1000000000000000000 := by
      have e18 : (10 : Int) ^ ((18 : Int).toNat) = 1000000000000000000 := by decide
      rcases hyy with e | e | e
      · exact ⟨9, e, by decide, by decide⟩
      · exact ⟨50, e, by decide, by decide⟩
      · rw [e18] at e
        exact ⟨_, e, by omega, by omega⟩
    obtain ⟨hh, rfl, h0, h1⟩ := ey
    walk_at "q"
    refine ⟨st, a, ns, 12, hh, rfl, S3, by decide, by decide, h0, h1, fun r H4 ps l hr4 s4 S4 hrst hps hpl hll hfl => ?_⟩
    have gl : goodP l := ⟨fun s hs b n e => by subst e; have := hfl b n hs; omega, by omega⟩
    walk_at "q"
    refine ⟨r, ps, l, rfl, hps, hpl, gl, fun x1 H5 hx1 s5 P5 => ?_⟩
    walk_at "q"
    refine ⟨r, ps, l, rfl, s5 _ _ hps, hpl.mono s5, gl, fun x2 H6 hx2 s6 P6 => ?_⟩
    walk_at "q"
    refine ⟨x2, hh, l, rfl, P6, by omega, h0, h1, hfl, fun x3 H7 l' hx3 s7 hsim P7 => ?_⟩
    have hle := simple_le h0 hfl hsim
    have heff := simple_eff h0 hfl hsim
    have hft := simple_fits h0 hfl hsim
    have htn := simple_turning hsim
    have s57 := s5.trans (s6.trans s7)
    have P57 := P5.mono (s6.trans s7)
    walk_at "q"
    refine ⟨_, _, rfl, ?_⟩
    obtain ⟨dx, tq, rs, g1, g2, g3⟩ := id P7.ex
    walk_at "q"
    refine x_propAt g1 ⟨x3, dx, _, _, rfl, g1, rfl, ?_⟩
    walk_at "q"
    refine x_lenT (SqT.of g2) ?_
    walk_at "q"
    refine x_lenL (SqL.of (s57 _ _ hps)) ?_
    walk_at "q"
    rw [pr_len hpl, pr_len g3]
    refine x_ifd (fun hgt => absurd hgt (by omega)) fun _ => ?_
    walk_at "q"
    refine ⟨x1, x3, hh, l, _, rfl, P57, P7, by omega, by omega, h0, h1, hfl, hft, fun o H8 s8 ho => ?_⟩
    rw [heff] at ho
    obtain rfl := fd_same ho
    walk_at "q"
    rw [show decide (goalV none = V.non) = true from rfl]
    walk_at "q"
    have P8 := P7.mono s8
    refine x_propAt (s8 _ _ g1) ⟨x3, _, rfl, P8, by omega, fun H9 s9 => ?_⟩
    walk_at "q"
    obtain ⟨dy, tp, qs, f1, f2, f3⟩ := id (P57.mono (s8.trans s9)).ex
    refine x_propAt f1 ⟨x1, l, rfl, P57.mono (s8.trans s9), by omega, fun HA sA => ?_⟩
    walk_at "q"
    rw [htn]
    rw [decide_eq_true (rfl : turning l = turning l)]
    walk_at "q"
    refine ⟨x3, hh, _, rfl, P8.mono (s9.trans sA), by omega, h0, h1, hft, fun x4 HB l2 hx4 sB hsim2 PB => ?_⟩
    rw [heff] at hsim2
    obtain rfl := simple_one hsim2 hsim
    rw [htn] at PB
    obtain ⟨dz, tz, us, b1, b2, b3⟩ := id PB.ex
    walk_at "q"
    refine x_propAt b1 ⟨x4, dz, _, _, rfl, b1, rfl, ?_⟩
    walk_at "q"
    refine x_lenT (SqT.of b2) ?_
    walk_at "q"
    have sAll := s8.trans (s9.trans (sA.trans sB))
    refine x_propAt (sAll _ _ g1) ⟨x3, dx, _, _, rfl, sAll _ _ g1, rfl, ?_⟩
    walk_at "q"
    refine x_lenT (SqT.of (sAll _ _ g2)) ?_
    walk_at "q"
    rw [pr_len b3, pr_len g3]
    refine x_ifnd (fun hne => absurd rfl hne) fun _ => ?_
    walk_at "q"
    exact ⟨(S4.mono s57).mono sAll, _, _, _, _, _, _, _, rfl⟩
  · rintro σ H1 ⟨S1, b, c, d, e, f, g, h, rfl⟩
    walk_at "q"
    exact k _
end
end K08

set_option Elab.async false
set_option linter.all false
set_option autoImplicit false
set_option maxRecDepth 100000
set_option pp.maxSteps 500
namespace K08
open PySem PySem.Spec PyProof.Rows L2 He ChH
theorem facts {P : Program} {w : World} {K : PySem.W.Frag} {h : Heap} {mg : Str → Option Value} {f : Addr} (X : K.In h) (G : h.Ns mainGlobals mg) (hfa : mg ("law" : Str) = some (.ref f)) (c : SaysC faL xsL dfL K) :
    ∃ fd : FuncData, (∀ (s : Shared) (v : Value), BindsTo s fd ⟨[v], []⟩ [("_law_script", v)]) ∧ ∀ base : Heap, K.In base → base.Ns mainGlobals mg → FnOk P w K mg base CX0 lawLv f fd ["_law_script"] (spLaw K) := by
  have W : Wd K mg := ⟨⟨h, X, G⟩, c⟩
  have e := hfa.symm.trans W.g_law
  cases e
  have b := FunD.bindsA (ps := ["_law_script"]) W.F_law fun _ _ _ _ _ _ us hl => match us, hl with | [_], _ => rfl
  exact ⟨_, fun s v => b s [v] rfl, fun base _ _ => ok_law W⟩
end K08
open PySem PySem.W PyProof.Rows
set_option maxRecDepth 100000 in
set_option maxHeartbeats 0 in
theorem PySem.Challenge.cw_chaircarry_k08_simple_plans_by_search_holds : PySem.Challenge.rw_chaircarry_k08_simple_plans_by_search.Holds := by
  w_on; o_law
  refine HandSHeadRun.head_any (r := OpenLaw.row PySem.Challenge.rw_chaircarry_k08_simple_plans_by_search) (q := view (OpenLaw.row PySem.Challenge.rw_chaircarry_k08_simple_plans_by_search).prog [38]) (H := K08.hk) (ob := K08.ob) (M := 8000) (loose := K08.loose) (d := HandSHeadRun.topDef (OpenLaw.row PySem.Challenge.rw_chaircarry_k08_simple_plans_by_search).prog 38) (kwd := []) K08.ob_eq
    (by kernel_rfl) (fun s => by kernel_rfl) K08.run (by kernel_rfl) (by kernel_rfl) (by kernel_rfl) (by rfl) (by first | assumption | decide +kernel) (by decide +kernel) ⟨rfl, rfl, rfl, rfl, rfl, by decide +kernel⟩ ?hw ?hc
  case hw => w_witness2
  case hc =>
    refine L2.walk_ofE (l := PySem.Challenge.rw_chaircarry_k08_simple_plans_by_search) (n := 63) (k := K08.lawLv) (x := "_law_script") (CX := L2.CX0) rfl (by decide) (by kernel_rfl) ⟨rfl, by decide, by decide⟩ ?F (fun _ _ _ _ z => z)
    intro w mg fa h Y G hmg0
    obtain ⟨K, KX, c⟩ := Y
    have hmg : mg ("law" : PySem.Str) = some (.ref fa) := by
      have e : (HandSHeadRun.topDef (OpenLaw.row PySem.Challenge.rw_chaircarry_k08_simple_plans_by_search).prog 38).name = ("law" : PySem.Str) := by kernel_rfl
      rw [← e]
      exact hmg0
    obtain ⟨fd, hb, hF⟩ := K08.facts (P := (PySem.Challenge.rw_chaircarry_k08_simple_plans_by_search).prog) (w := w) KX G hmg c
    exact ⟨K, fd, K08.spLaw K, KX, hb, fun H a ns hl _ hS => ⟨a, ns, rfl, hS, fun _ => rfl⟩, hF⟩
#print axioms PySem.Challenge.cw_chaircarry_k08_simple_plans_by_search_holds
