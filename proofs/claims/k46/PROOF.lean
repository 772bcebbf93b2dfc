import PyProof.Rows.All
import Wide.All
import OpenK.AllK
import Wide.FinOn
import KE.KUnpackStar
import HandS.Base
import HandS.Call
import KE.GoesEnum
import HandS.List
import HandS.Iter
import HandS.Walk
import HandS.Flt
import HandS.More
import HandS.Star
import HandS.Property
import HandS.Defaults
import HandS.ClsMeth
import HandS.Words
import HandS.ForMost
import HandS.Exc
import HandS.TryOnly
import HandS.ExcOwn
import HandS.WordsExc
import HandS.IsInst
import HandS.Wide
import HandS.Style
import HandS.Conv
import HandS.Flow
import HandS.Ends
import HandS.HeadHook1
import HandS.HeadHook2
import HandS.HeadHook3
import HandS.HeadNt
import HandS.ExcInit
import HandS.MakeKwOnly
import HandS.Lambda
import HandS.EndTab
import HandS.EndOwn
import HandS.ExcField
import HandS.TryMany
import KE.KExcIs
import HandS.ExcIs
import HandS.SetFor
import HandS.Strs
import HandS.Comp
import KE.KNest
import PySem.Challenge.RW_chaircarry_k46_whole_daybooks_for_all_st
import KE.KStateDown
import HandS.Head0
import HandS.Head1
import HandS.Head2
import HandS.HeadEnd
import HandS.Deep
import PyProof.WalkInts
import PyProof.P3Eq
import KE.KIntText
import HandS.Text
import PyProof.RulesMatchSeq
import PyProof.Rows.MatchSeqLen
import KE.KUnpack
import HandS.ExcCtx
import PyProof.SliceList
import HandS.RaiseFrom
import HandS.SuiteRaise
set_option Elab.async false
set_option linter.all false
set_option autoImplicit false
set_option maxRecDepth 100000
set_option maxHeartbeats 4000000
namespace Ch
open PySem PySem.Spec PyProof.Rows L2
/-! ### a star among the targets: a, *b = a tuple -/
section
variable {prog : Program} {w : World} {A : Around} {E : Value → Shared → Prop} {s : Shared}
theorem star_tup {t : Addr} {its : Array Value} {n i : Nat} {Q : List Value → Shared → Prop} (ht : IsTup s.heap t its) (hand : A.handled = none) (hin : i < n) (hle : n ≤ its.size + 1) (hsz : its.size ≤ 16384)
    (k : ∀ (g : Heap) (tk : Nat), (∀ b o, s.heap.get? b = some o → g.get? b = some o) → Q (its.toList.take i ++ [.ref g.objs.size] ++ (its.toList.drop i).drop (its.size + 1 - n)) { s with heap := g.push { cls := .type "list", data := .seq ((its.toList.drop i).take (its.size + 1 - n)).toArray }, toks := tk }) :
    wpAny (model prog w) A (unpackItems (.ref t) n (some i)) Q E s := by
  have tlt : t < s.heap.objs.size := by
    obtain ⟨o, ho, _⟩ := ht
    exact Heap.lt_size ho
  have tne : t ≠ s.heap.objs.size := Nat.ne_of_lt tlt
  unfold unpackItems
  refine wpAny_bind ?_
  unfold notIterableAtAll
  refine wpAny_bind (wpAny_specialOf ht.typeIs slot_tuple_iter.lookup (wpAny_pure ?_))
  simp only [Bool.false_eq_true, if_false]
  refine wpAny_bind (wpAny_holding (iter_tuple ht (?_)))
  refine wpAny_bind (wpAny_holding (draw_tuple tne i 0 _ _ ⟨_, Heap.get?_push_size _ rfl, rfl, rfl⟩ (ht.push _) (by omega) fun g1 it1 sb1 => ?_))
  have ht1 : IsTup g1 t its := (ht.push _).extBut sb1.extBut tne
  rw [Nat.zero_add] at it1
  obtain ⟨oi, hoi, hoi2⟩ := id it1
  obtain ⟨ot, hot, _⟩ := id ht1
  rw [List.drop_zero]
  have lf : (its.toList.take i).length = i := by
    rw [List.length_take, Array.length_toList]
    omega
  have lr : (its.toList.drop i).length = its.size - i := by
    rw [List.length_drop, Array.length_toList]
  rw [if_neg (show ¬ ((its.toList.take i).length < i) by omega)]
  refine wpAny_bind (wpAny_holding (PySem.W.kun_collect (s := { s with heap := g1 }) (T := "tuple_iterator") (Or.inr (Or.inr (Or.inr rfl))) (Walks.tuple (A := A.in1) hand s.heap.objs.size t tne its) (fun _ _ st => st.1.typeIs) (k := i) (by omega) ⟨it1, ht1⟩ (Heap.lt_size hoi) (Heap.lt_size hot) (fun g2 tk kp => ?_) (by rw [sizeLine_eq]; omega)))
  have lm : (its.toList.drop i).length - (n - 1 - i) = its.size + 1 - n := by omega
  show wpAny _ _ (if (its.toList.drop i).length < n - 1 - i then _ else _) _ _ _
  rw [if_neg (by omega)]
  show wpAny _ _ (newList ((its.toList.drop i).take ((its.toList.drop i).length - (n - 1 - i))) >>= fun d => pure (its.toList.take i ++ [d] ++ (its.toList.drop i).drop ((its.toList.drop i).length - (n - 1 - i)))) _ _ _
  rw [lm]
  have keep : ∀ b o, s.heap.get? b = some o → g2.get? b = some o := fun b o e => by
    have hb : b ≠ s.heap.objs.size := Nat.ne_of_lt (Heap.lt_size e)
    exact kp b o hb (sb1.extBut b o hb (Heap.get?_push_of_some _ e))
  refine wpAny_bind (wpAny_newList (s := { s with heap := g2, toks := tk }) (wpAny_pure (k g2 tk keep)) ?_)
  rw [List.length_take, lr, sizeLine_eq]
  omega
end
section
variable {X : Cx} {pos : Pos}
theorem pgs_star {e : Expr} {p : Pos} {es : List Expr} {t : TG} {u : TGs} (h1 : PG X e t) (h2 : PGs X es u)
    (hs : (assignEach (.Starred e p :: es) X.env).map (·.2) = assign e X.env :: (assignEach es X.env).map (·.2) := by rfl) : PGs X (.Starred e p :: es) (gCons t u) := by
  refine ⟨fun pins s σ H vs us Q I r ⟨v, vr, ev, h⟩ => ?_⟩
  subst ev
  cases r with
  | cons ra rb =>
    rw [hs]
    exact assignInOrder_cons (thn (h1.run pins s σ H _ _ _ I ra h) fun _ s1 ⟨σ1, H1, I1, q1⟩ => h2.run pins s1 σ1 H1 _ _ Q I1 rb q1)
/-- n targets, the i-th with a star, a tuple of fewer or more items -/
def gStar (K : PySem.W.Frag) (n i : Nat) (t : TGs) : TG := fun v σ H Q => ∃ a xs, v = .ref a ∧ SqT K H a xs ∧ i < n ∧ n ≤ xs.length + 1 ∧ xs.length ≤ 16384 ∧
  ∀ d, H d = none → t (xs.take i ++ [.ref d] ++ (xs.drop i).drop (xs.length + 1 - n)) σ (upd H d (.lst ((xs.drop i).take (xs.length + 1 - n)))) Q
theorem pg_star {es : List Expr} {k : Nat} {t : TGs} {n i : Nat} (hc : X.calm = true) (h : PGs X es t)
    (hn : (assignEach es X.env).length = n := by rfl) (hst : (assignEach es X.env).findIdx? (·.1) = some i := by rfl) : PG X (.Tuple es k pos) (gStar X.K n i t) := by
  refine ⟨fun pins s σ H v u Q I r ⟨a, xs, ev, hq, hin, hle, hsz, q⟩ => ?_⟩
  subst ev
  cases r
  obtain ⟨its, rv, ht, _⟩ := I.tuple hq
  have el : its.length = xs.length := rv.length.symm
  rw [assign_Tuple]
  refine wpAny_bind (wpAny_standAt ?_)
  unfold unpack
  rw [hn, hst]
  refine wpAny_bind (wpAny_holding (star_tup ht (I.ok.hd hc) hin (by simp [el]; omega) (by simp [el]; omega) fun g tk keep => ?_))
  have esz : its.toArray.size + 1 - n = xs.length + 1 - n := by simp [el]
  rw [esz]
  have I1 : Inv X pins σ H { s with heap := g, toks := tk } := I.kept (t' := tk) keep
  have hf : H g.objs.size = none := I1.hok.fresh (Nat.le_refl _)
  have I2 : Inv X pins σ (upd H g.objs.size (.lst ((xs.drop i).take (xs.length + 1 - n)))) { s with heap := g.push { cls := .type "list", data := .seq ((its.toArray.toList.drop i).take (xs.length + 1 - n)).toArray }, toks := tk } := by
    refine I1.laid (t' := tk) (fun b u e => Heap.get?_push_of_some _ e) (Nat.le_refl _) ⟨?_, (its.drop i).take (xs.length + 1 - n), 0, (rv.drop i).take _, Heap.get?_push_size _ rfl⟩
    rw [List.length_take, List.length_drop, sizeLine_eq]
    omega
  refine h.run pins _ σ _ _ _ Q I2 ?_ (q _ hf)
  exact Vals.append (Vals.append (rv.take i) (.cons rfl .nil)) ((rv.drop i).drop _)
end
end Ch

set_option Elab.async false
set_option linter.all false
set_option autoImplicit false
set_option maxRecDepth 100000
set_option maxHeartbeats 4000000
namespace Ch
open PySem PySem.Spec PyProof.Rows L2
/-! ### a < b < c < d as a test -/
def tChain3 (r1 r2 r3 : R2) (ta tb tc td : TE) : TE := fun σ H Q => ta σ H fun x H1 => tb σ H1 fun y H2 => r1 x y H2 fun z H3 => ∃ k, z = .bl k ∧
  (if k = true then tc σ H3 fun x2 H4 => r2 y x2 H4 fun z2 H5 => ∃ k2, z2 = .bl k2 ∧ (if k2 = true then td σ H5 fun x3 H6 => r3 x2 x3 H6 Q else Q (.bl false) H5) else Q (.bl false) H3)
section
variable {X : Cx} {a b c d : Expr} {ta tb tc td : TE} {pos : Pos}
theorem pt_chain3 {o1 o2 o3 : CmpOp} {r1 r2 r3 : R2} (h1 : OpR X (compareOp o1) r1) (h2 : OpR X (compareOp o2) r2) (h3 : OpR X (compareOp o3) r3) (ha : PE X a ta) (hb : PE X b tb) (hc : PE X c tc) (hd : PE X d td)
    (hm : lastMarks [o1, o2, o3] [b, c, d] = false := by with_unfolding_all rfl) : PT X (.Compare a [o1, o2, o3] [b, c, d] pos) (tTest (tChain3 r1 r2 r3 ta tb tc td)) := by
  refine ⟨fun pins s σ H Q I h => isTrue_chain (thn (ha.run pins s σ H _ I h) fun v s1 ⟨x, H1, I1, e1, q1⟩ => test_link (thn (hb.run pins s1 σ H1 _ I1 q1) fun u s2 ⟨y, H2, I2, e2, q2⟩ =>
    thn (h1 pins s2 σ H2 x y v u _ I2 e1 e2 q2) fun w1 s3 ⟨z, H3, I3, e3, k, ek, q3⟩ => ?_)) hm⟩
  subst ek
  cases e3
  refine wpAny_truthy_bool ?_
  cases k with
  | false =>
    obtain ⟨k', ek', q'⟩ := q3
    cases ek'
    exact ite_ff ⟨H3, I3, q'⟩
  | true =>
    refine ite_tt (test_link (thn (hc.run pins s3 σ H3 _ I3 q3) fun w2 s4 ⟨x2, H4, I4, e4, q4⟩ => thn (h2 pins s4 σ H4 y x2 u w2 _ I4 e2 e4 q4) fun w3 s5 ⟨z2, H5, I5, e5, k2, ek2, q5⟩ => ?_))
    subst ek2
    cases e5
    refine wpAny_truthy_bool ?_
    cases k2 with
    | false =>
      obtain ⟨k', ek', q'⟩ := q5
      cases ek'
      exact ite_ff ⟨H5, I5, q'⟩
    | true =>
      refine ite_tt (test_last (thn (hd.run pins s5 σ H5 _ I5 q5) fun w4 s6 ⟨x3, H6, I6, e6, q6⟩ => thn (h3 pins s6 σ H6 x2 x3 w2 w4 _ I6 e4 e6 q6) fun w5 s7 ⟨z3, H7, I7, e7, k3, ek3, q7⟩ => ?_))
      subst ek3
      cases e7
      exact wpAny_truthy_bool ⟨H7, I7, q7⟩
end
end Ch

set_option Elab.async false
set_option linter.all false
set_option autoImplicit false
set_option maxRecDepth 100000
set_option maxHeartbeats 4000000
namespace Ch
open PySem PySem.Spec PyProof.Rows L2
open Sem (wp)
/-! ### enumerate of a tuple -/
theorem en_new1 {v : Value} {ob : Obj} {G : Heap → Prop} (B : Begins v ob G) :
    Meets (Builtin.«enumerate.__new__» ⟨[.type "enumerate", v], []⟩) (fun _ R s => G s.heap ∧
      R (.ok (.ret (.ref (s.heap.push ob).objs.size))) { s with heap := (s.heap.push ob).push { cls := .type "enumerate", data := .fields #[.none, .bool false, .ref s.heap.objs.size, rawInt 0, .none, .none] } }) :=
  .of_wp fun prog w A R st ⟨hG, hR⟩ => by
    obtain ⟨hp, ge, dr, tk, os⟩ := st
    have hsub := sub_enumerate
    have itq : ∀ {A1 : Around} {E : Value → Shared → Prop} {Q : Value → Shared → Prop}, Q (.ref hp.objs.size) ⟨hp.push ob, ge, dr, tk, os⟩ → wpAny (model prog w) A1 (pyIter v) Q E ⟨hp, ge, dr, tk, os⟩ :=
      fun q => B.iter prog w _ _ ⟨hp, ge, dr, tk, os⟩ _ hG q
    wp_walk using itq
    refine wpAny_stack_any fun sk => wpAny_pure (?_)
    split
    · rename_i c _ _ _ _ _
      cases (c == Value.type "enumerate")
      all_goals
        wp_walk using itq
        exact ⟨_, rfl, hR⟩
    · wp_walk using itq
      exact ⟨_, rfl, hR⟩
section
variable {prog : Program} {w : World} {A : Around} {E : Value → Shared → Prop} {s : Shared}
theorem en_call1 {v : Value} {ob : Obj} {G : Heap → Prop} {Q : Value → Shared → Prop} (B : Begins v ob G) (hG : G s.heap)
    (k : ∀ g : Heap, IsEnum g (s.heap.objs.size + 1) s.heap.objs.size 0 .none → g.get? s.heap.objs.size = some ob → (∀ b o, s.heap.get? b = some o → g.get? b = some o) → Q (.ref (s.heap.objs.size + 1)) { s with heap := g }) :
    wpAny (model prog w) A (call (.type "enumerate") [v]) Q E s := by
  refine callType_new F.called_enumerate (by decide) (F.typeCall_enumerate_1 _) (F.newCall_enumerate_1 _) (fun obj => F.args_object_init_2 obj _) F.entry_enumerate_new (en_new1 B) ⟨hG, ?_⟩
  have sz : (s.heap.push ob).objs.size = s.heap.objs.size + 1 := Heap.size_push ..
  show _ ∧ _
  rw [sz]
  have ie : IsEnum ((s.heap.push ob).push { cls := .type "enumerate", data := .fields #[.none, .bool false, .ref s.heap.objs.size, rawInt 0, .none, .none] }) (s.heap.objs.size + 1) s.heap.objs.size 0 .none := by
    have q := Heap.get?_push_size (s.heap.push ob) (o := { cls := .type "enumerate", data := .fields #[.none, .bool false, .ref s.heap.objs.size, rawInt 0, .none, .none] }) rfl
    rw [sz] at q
    exact q
  exact ⟨⟨_, ie, rfl⟩, k _ ie (Heap.get?_push_of_some _ (Heap.get?_push_size _ B.free)) fun b o x => Heap.get?_push_of_some _ (Heap.get?_push_of_some _ x)⟩
end
/-- the tuple at a, each item in a new pair -/
def IteT (K : PySem.W.Frag) (a : Addr) : It :=
  ⟨fun i H => ∃ (xs : List V) (x : V), SqT K H a xs ∧ xs[i]? = some x, fun i H v H' => ∃ T x, v = .ref T ∧ H T = none ∧ H' = upd H T (.tup [.int (i : Nat), x]) ∧ ∀ xs, SqT K H a xs → xs[i]? = some x, fun i H => ∃ xs : List V, SqT K H a xs ∧ xs.length ≤ i⟩
theorem turn_enumT {P : Program} {w : World} {K : PySem.W.Frag} {elts : List Expr} {kk : Nat} {tpos : Pos} (a e it : Addr) :
    Turn P w K (.Tuple elts kk tpos) (IteT K a) [e, it] e (fun i h => (∃ old, IsEnum h e it ((i : Nat) : Int) old) ∧ h.IsTupleIter it a i ∧ e ≠ it ∧ e ≠ a ∧ a ≠ it) where
  mem := List.mem_cons_self
  obj := fun i h st b hb => by
    obtain ⟨⟨old, he⟩, ⟨o, ho, hc, hd⟩, _⟩ := st
    rcases List.mem_cons.mp hb with z | z
    · rw [z]
      exact ⟨_, he, fun v q => nomatch q⟩
    · rw [List.mem_singleton.mp z]
      exact ⟨o, ho, fun v q => by rw [hd] at q; cases q⟩
  keep := fun i h h' ⟨⟨old, he⟩, hi, hn⟩ k => ⟨⟨old, k e (by simp) _ he⟩, hi.at fun o q => k it (by simp) o q, hn⟩
  item := by
    intro X hP hw hK hc i pins s σ H E I hf ⟨⟨old, he⟩, hit, hne, hea, hai⟩ ⟨xs, x, hq, hx⟩
    subst hP hw hK
    obtain ⟨its, rv, p, hz⟩ := I.tuple hq
    obtain ⟨u, hu, ru⟩ := rv.get hx
    have pt : s.heap.IsTuple a its.toArray := p
    have hel : e < s.heap.objs.size := Heap.lt_size he
    have hil : it < s.heap.objs.size := by
      obtain ⟨_, q, _⟩ := hit
      exact Heap.lt_size q
    have hlt : i < its.toArray.size := by
      have := (List.getElem?_eq_some_iff.mp hu).1
      simpa using this
    refine wpAny_pyNext_enum_itemD (Draws.tuple (A := X.A.in1) (I.ok.hd hc) it a hai its.toArray) he ⟨hit, pt⟩ hlt hne (by simp [hne, hea]) fun u' g tk hPu ho st' hT hsz hk => ?_
    have eu : u' = u := by
      have h1 : its.toArray[i]? = some u' := hPu
      rw [List.getElem?_toArray, hu] at h1
      exact (Option.some.inj h1).symm
    subst eu
    refine ⟨_, rfl, wpAny_letOwnedTupleGo_enum (s := { s with heap := g, toks := tk + 1 }) ho fun g2 he' sb => ?_⟩
    have hT2 : g2.get? s.heap.objs.size = some { cls := .type "tuple", data := .seq #[.int i tk, u'] } := (sb.2 _ (Nat.ne_of_gt hel)).trans hT
    have new : ObjOk X.prog X.w (upd H s.heap.objs.size (.tup [.int (i : Nat), x])) g2 s.heap.objs.size (.tup [.int (i : Nat), x]) :=
      ⟨by show 2 ≤ sizeLine; decide, [.int i tk, u'], .cons ⟨_, rfl⟩ (.cons ru .nil), ⟨_, hT2, rfl, _, rfl⟩⟩
    have I1 : Inv X pins σ (upd H s.heap.objs.size (.tup [.int (i : Nat), x])) { s with heap := g2, toks := tk + 1 } :=
      I.turnedNew (ch := [e, it]) (fun b ob hb q => by
        have n1 : b ≠ e := fun z => hb (by simp [z])
        have n2 : b ≠ it := fun z => hb (by simp [z])
        exact (sb.2 b n1).trans (hk b ob n1 n2 q)) hf (Nat.le_refl _) new
    refine ⟨.ref s.heap.objs.size, _, I1, rfl, ⟨_, x, rfl, I.hok.fresh (Nat.le_refl _), rfl, fun ys hy => by rw [I.tuple_inj hy hq]; exact hx⟩, ⟨⟨u', ?_⟩, st'.1.at fun o q => (sb.2 it (Ne.symm hne)).trans q, hne, hea, hai⟩, fun b hb => ?_⟩
    · rw [show ((i + 1 : Nat) : Int) = (i : Int) + 1 by omega]
      exact he'
    · have lb : b < s.heap.objs.size := by
        rcases List.mem_cons.mp hb with z | z
        · rw [z]
          exact hel
        · rw [List.mem_singleton.mp z]
          exact hil
      rw [upd_ne (Nat.ne_of_lt lb)]
      exact (hf b hb).1
  done := by
    intro X hP hw hK hc i pins s σ H E I hf ⟨⟨old, he⟩, hit, hne, hea, hai⟩ ⟨xs, hq, hx⟩
    subst hP hw hK
    obtain ⟨its, rv, p, hz⟩ := I.tuple hq
    have pt : s.heap.IsTuple a its.toArray := p
    obtain ⟨f0, f1, f2, f3, f4, f5⟩ := hf it (by simp)
    have hl := rv.length
    have hd : s.heap.IsTupleIter it a i := hit
    refine wpAny_pyNext_enum_endD (fp := [it, a]) (n := i) (P := fun _ _ => False) (St := fun j g => j = i ∧ g.IsTupleIter it a i ∧ g.IsTuple a its.toArray) ?_ he ⟨rfl, hit, pt⟩ fun g eb => ⟨rfl, I.turned (t' := s.toks) (fun b o hb q => eb b o hb q) f0 f1 f3 f4 f5⟩
    exact {
      live := fun _ _ st => let ⟨o, ho, _⟩ := st.2.1; ⟨o, ho⟩
      frame := fun _ _ _ st hk => ⟨st.1, st.2.1.at fun o q => hk it (by simp) o q, st.2.2.at fun o q => hk a (by simp) o q⟩
      item := fun j s2 Q2 E2 hj st _ => absurd st.1 (Nat.ne_of_lt hj)
      done := fun s2 Q2 E2 st hE => wpAny_nextOf_tuple_end (I.ok.hd hc) st.2.1 st.2.2 (by simp; omega) hE }
  self := fun A i s Q E st h => let ⟨⟨_, he⟩, _⟩ := st; wpAny_pyIter_enum he h
def iEnumT (K : PySem.W.Frag) (ta : TA) : TI := fun σ H R => ta σ H fun vs H1 => ∃ a xs, vs = [.ref a] ∧ SqT K H1 a xs ∧ R (IteT K a) H1
theorem pi_enumT {X : Cx} {e : Expr} {ta : TA} {p pos tpos : Pos} {elts : List Expr} {kk : Nat} (hg : Gl X "enumerate") (hm : X.mg "enumerate" = none) (ha : PA X [e] ta) (hs : starEach [e] X.env = [(false, eval e X.env)] := by rfl) :
    PI X (.Tuple elts kk tpos) (.Call (.Name "enumerate" p) [e] [] pos) (iEnumT X.K ta) := by
  refine ⟨fun pins s σ H R I h => ?_⟩
  refine Call_ (ld_blt I hg hm boot_enumerate (PyProof.Rows.callWith_type1 (thn (ha.run pos pins s σ H _ I h) fun us s1 ⟨vs, H1, I1, r1, a, xs, ex, hq, q⟩ => ?_) hs rfl))
  subst ex
  obtain ⟨u, rfl, ru⟩ := vals1 r1
  obtain rfl : u = Value.ref a := ru
  obtain ⟨its, rv, p', hz⟩ := I1.tuple hq
  have pt : s1.heap.IsTuple a its.toArray := p'
  have al : a < s1.heap.objs.size := by
    obtain ⟨o, ho, _⟩ := pt
    exact Heap.lt_size ho
  refine en_call1 (begins_tuple a its.toArray) pt fun g he hit hk => wpAny_pyIter_enum he ?_
  have I2 : Inv X pins σ H1 { s1 with heap := g } := I1.kept (t' := s1.toks) hk
  refine ⟨s1.heap.objs.size + 1, [s1.heap.objs.size + 1, s1.heap.objs.size], _, _, H1, rfl, I2, turn_enumT a (s1.heap.objs.size + 1) s1.heap.objs.size, ⟨⟨.none, he⟩, ⟨_, hit, rfl, rfl⟩, Nat.succ_ne_self _, Nat.ne_of_gt (Nat.lt_succ_of_lt al), Nat.ne_of_lt al⟩, fun b hb => ?_, q⟩
  have lb : s1.heap.objs.size ≤ b := by
    rcases List.mem_cons.mp hb with z | z
    · rw [z]
      exact Nat.le_add_right _ _
    · rw [List.mem_singleton.mp z]
      exact Nat.le_refl _
  exact I1.fpOk lb (I1.hok.fresh lb)
theorem walk_enumT {K : PySem.W.Frag} {a : Addr} {xs : List V} : Walk (IteT K a) xs.length (fun H => SqT K H a xs) (YPair (fun i => some (.int (i : Nat))) (fun i => xs[i]?)) where
  goes := fun i H hi hG => ⟨xs, xs[i], hG, List.getElem?_eq_getElem hi⟩
  stops := fun H hG => ⟨xs, hG, Nat.le_refl _⟩
  yields := fun i H v H' hi hG ⟨T, x, ev, hT, eH, hx⟩ => ⟨T, _, x, ev, hT, eH, rfl, hx xs hG⟩
/-! ### max of three ints -/
theorem call_max3 {X : Cx} (hc : X.calm = true) : CallR X (.builtin "max") (fun xs H Q => ∃ i j k : Int, xs = [.int i, .int j, .int k] ∧ Q (.int (if k > (if j > i then j else i) then k else (if j > i then j else i))) H) := by
  intro pins s σ H xs us Q I r ⟨i, j, k, e, q⟩
  refine call_max3Nu hc pins s σ H xs us Q I r ⟨.int i, .int j, .int k, _, e, ?_, q⟩
  have two : ∀ a b : Int, nuMax2 (.int a) (.int b) = some (.int (if b > a then b else a)) := fun a b => by
    show some (if decide (a < b) = true then V.int b else V.int a) = _
    by_cases h : a < b
    · rw [decide_eq_true h, if_pos rfl, if_pos h]
    · rw [decide_eq_false h, if_neg Bool.false_ne_true, if_neg h]
  unfold nuMax3
  rw [two, Option.bind_some, two]
end Ch

set_option Elab.async false
set_option linter.all false
set_option autoImplicit false
set_option maxRecDepth 100000
set_option maxHeartbeats 4000000
namespace Ch
open PySem PySem.Spec PyProof.Rows L2
/-! ### calls by positional promises -/
def tCallR (sp : Sp) (E : XK) (t : TA) : TE := fun σ H Q => t σ H fun vs H1 => sp vs H1 Q E
def tMethR (C : Addr) (m : Str) (sp : Sp) (E : XK) (ta : TE) (t : TA) : TE := fun σ H Q => ta σ H fun x H1 => ∃ a dx fs, x = .ref a ∧ H1 a = some (.ins C dx fs) ∧ fs.lookup m = none ∧ t σ H1 fun vs H2 => sp (.ref a :: vs) H2 Q E
def tPropR (C : Addr) (sp : Sp) (E : XK) (ta : TE) : TE := fun σ H Q => ta σ H fun x H1 => ∃ a dx fs, x = .ref a ∧ H1 a = some (.ins C dx fs) ∧ sp [.ref a] H1 Q E
def tMk (C : Addr) (sp : Sp) (E : XK) (t : TA) : TE := fun σ H Q => t σ H fun vs H1 => ∀ x dx, H1 x = none → H1 dx = none → dx ≠ x → sp (.ref x :: vs) (upd (upd H1 dx (.own x)) x (.ins C dx [])) (fun v H2 => v = .non ∧ Q (.ref x) H2) E
section
variable {X : Cx} {CX : CXT} {k : Nat} {f C g p : Addr} {sp : Sp} {E : XK} {x m : Str} {np pos apos : Pos} {e o : Expr} {es : List Expr} {ta : TE} {t : TA}
theorem pe_callR (F : FnR X.prog X.w X.K X.mg X.base CX k f sp) (hr : Room k X.A) (hm : X.mg x = some (.ref f)) (hk : PySem.W.keepIn X.K (.ref f) = true) (hx : Passes CX X E) (hg : Gl X x) (ha : PA X (e :: es) t)
    (hd : (x == ("__debug__" : Str)) = false := by decide) (he : starEach (e :: es) X.env = (false, eval e X.env) :: starEach es X.env := by rfl) (hpl : (backTo pos (starEach es X.env)).any (·.1) = false := by rfl) :
    PE X (.Call (.Name x np) (e :: es) [] pos) (tCallR sp E t) :=
  ⟨fun pins s σ H Q I h => wpAny_Call_Name_kw (ld_glob I hg hm (PySem.W.callWith_K (h₀ := X.base) I.ok.mod.kin hk (thn (ha.run pos pins s σ H _ I h) fun us s1 ⟨vs, H1, I1, r, q⟩ => ⟨I1.kIn, wpAny_call (run_fnR F hr hx I1 r q)⟩) he hpl) hd)⟩
theorem pe_callR0 (F : FnR X.prog X.w X.K X.mg X.base CX k f sp) (hr : Room k X.A) (hm : X.mg x = some (.ref f)) (hk : PySem.W.keepIn X.K (.ref f) = true) (hx : Passes CX X E) (hg : Gl X x)
    (hd : (x == ("__debug__" : Str)) = false := by decide) : PE X (.Call (.Name x np) [] [] pos) (tCallR sp E tNil) :=
  ⟨fun pins s σ H Q I h => wpAny_Call_Name_kw (ld_glob I hg hm (PySem.W.callWith_K0 I.kIn hk (wpAny_call (run_fnR (us := []) F hr hx I .nil h))) hd)⟩
theorem pe_methR {pl : Sem Bool} (c : Cls X.K C) (hm : Meth X.K C m f) (F : FnR X.prog X.w X.K X.mg X.base CX k f sp) (hr : Room k X.A) (hx : Passes CX X E) (ho : PE X o ta) (ha : PA X (e :: es) t)
    (hst : starEach (e :: es) X.env = (false, eval e X.env) :: starEach es X.env := by rfl) (hpl : (backTo pos (starEach es X.env)).any (·.1) = false := by rfl)
    (ht : eval (.Call (.Attribute o m apos) (e :: es) [] pos) X.env = (do
      let rv ← eval o X.env
      standAt apos.atName
      let (fn, first) ← holding [rv] (getMethod rv m pl)
      callWith pos fn first (backTo pos (starEach (e :: es) X.env)) (backToKw pos (keywordEach [] X.env))) := by rfl) :
    PE X (.Call (.Attribute o m apos) (e :: es) [] pos) (tMethR C m sp E ta t) := by
  refine ⟨fun pins s σ H Q I h => PySem.W.methodCall_KW (pl := pl) (thn (ho.run pins s σ H _ I h) fun u s1 ⟨y, H1, I1, ry, a, dx, fs, ey, ea, l, q⟩ => ?_) ht⟩
  subst ey
  obtain rfl : u = Value.ref a := ry
  refine getmeth_ok I1 ea c hm l (PySem.W.callWith_K (first := [.ref a]) (h₀ := X.base) I.ok.mod.kin hm.kp (thn (ha.run pos pins s1 σ H1 _ I1 q) fun us s2 ⟨vs, H2, I2, r, q2⟩ => ⟨I2.kIn, ?_⟩) hst hpl)
  exact wpAny_call (run_fnR (us := .ref a :: us) (vs := .ref a :: vs) F hr hx I2 (.cons rfl r) q2)
theorem pe_methR0 {pl : Sem Bool} (c : Cls X.K C) (hm : Meth X.K C m f) (F : FnR X.prog X.w X.K X.mg X.base CX k f sp) (hr : Room k X.A) (hx : Passes CX X E) (ho : PE X o ta)
    (ht : eval (.Call (.Attribute o m apos) [] [] pos) X.env = (do
      let rv ← eval o X.env
      standAt apos.atName
      let (fn, first) ← holding [rv] (getMethod rv m pl)
      callWith pos fn first (backTo pos (starEach [] X.env)) (backToKw pos (keywordEach [] X.env))) := by rfl) :
    PE X (.Call (.Attribute o m apos) [] [] pos) (tMethR C m sp E ta tNil) := by
  refine ⟨fun pins s σ H Q I h => PySem.W.methodCall_KW (pl := pl) (thn (ho.run pins s σ H _ I h) fun u s1 ⟨y, H1, I1, ry, a, dx, fs, ey, ea, l, q⟩ => ?_) ht⟩
  subst ey
  obtain rfl : u = Value.ref a := ry
  exact getmeth_ok I1 ea c hm l (PySem.W.callWith_K0 (first := [.ref a]) I1.kIn hm.kp (wpAny_call (run_fnR (us := [.ref a]) (vs := [.ref a]) F hr hx I1 (.cons rfl .nil) q)))
/-- C(e, ..), C(), C(*e) -/
theorem pe_mk (M : Mk X.K C f) (F : FnR X.prog X.w X.K X.mg X.base CX k f sp) (hr : Room (k + 1) X.A) (hm : X.mg x = some (.ref C)) (hx : Passes CX X E) (hg : Gl X x) (ha : PA X (e :: es) t) (hd : (x == ("__debug__" : Str)) = false := by decide)
    (he : starEach (e :: es) X.env = (false, eval e X.env) :: starEach es X.env := by rfl) (hpl : (backTo pos (starEach es X.env)).any (·.1) = false := by rfl) : PE X (.Call (.Name x np) (e :: es) [] pos) (tMk C sp E t) :=
  StX.pe_makeR M F hr hg hm hx ha hd he hpl
theorem pe_mk0 (M : Mk X.K C f) (F : FnR X.prog X.w X.K X.mg X.base CX k f sp) (hr : Room (k + 1) X.A) (hm : X.mg x = some (.ref C)) (hx : Passes CX X E) (hg : Gl X x) (hd : (x == ("__debug__" : Str)) = false := by decide) :
    PE X (.Call (.Name x np) [] [] pos) (tMk C sp E tNil) :=
  ⟨fun pins s σ H Q I h => wpAny_Call_Name_kw (ld_glob I hg hm (PySem.W.callWith_K0 I.kIn M.kp (StX.run_makeR (us := []) M F hr hx I .nil h)) hd)⟩
def tStarA (K : PySem.W.Frag) (te : TE) : TA := fun σ H Q => te σ H fun y H1 => ∃ a xs, y = .ref a ∧ (SqT K H1 a xs ∨ SqL K H1 a xs) ∧ Q xs H1
theorem pe_mkS {sp_ : Pos} (M : Mk X.K C f) (F : FnR X.prog X.w X.K X.mg X.base CX k f sp) (hr : Room (k + 1) X.A) (hm : X.mg x = some (.ref C)) (hx : Passes CX X E) (hg : Gl X x) (he : PE X e ta) (hd : (x == ("__debug__" : Str)) = false := by decide)
    (hst : starEach [.Starred e sp_] X.env = [(true, eval e X.env)] := by rfl) : PE X (.Call (.Name x np) [.Starred e sp_] [] pos) (tMk C sp E (tStarA X.K ta)) := by
  refine ⟨fun pins s σ H Q I h => wpAny_Call_Name_kw (ld_glob I hg hm (PySem.W.callWith_S (h₀ := X.base) I.ok.mod.kin M.kp (thn (he.run pins s σ H _ I h) fun v s1 ⟨y, H1, I1, ry, a, xs, ey, hxs, q⟩ => ?_) hst) hd)⟩
  subst ey
  obtain rfl : v = Value.ref a := ry
  exact StX.star_any I1 hxs fun us s2 I2 rv => ⟨I2.kIn, StX.run_makeR M F hr hx I2 rv q⟩
/-- a property whose getter raises nothing -/
theorem pe_propR (c : Cls X.K C) (hp : PropOf X.K C m p g) (F : FnR X.prog X.w X.K X.mg X.base CX0 k g sp) (hr : Room (k + 1) X.A) (ho : PE X o ta) (hab : attributeBase o m X.env (eval o X.env) = eval o X.env := by rfl) : PE X (.Attribute o m pos) (tPropR C sp E0 ta) := by
  refine ⟨fun pins s σ H Q I h => attr_of hab (thn (ho.run pins s σ H _ I h) fun u s1 ⟨y, H1, I1, ry, a, dx, fs, ey, ea, q⟩ => ?_)⟩
  subst ey
  obtain rfl : u = Value.ref a := ry
  obtain ⟨mA, J, hl, wi, _⟩ := ins_get I1.hok ea
  obtain ⟨rest, hrec⟩ := hp.rec_
  have hc : (PySem.W.clsIn X.K C).isSome = true := by
    obtain ⟨cd, hcd, _⟩ := PySem.W.any_some c.hd
    rw [hcd]
    rfl
  obtain ⟨od, Ja, _⟩ := J.look
  refine PySem.W.get_bind I1.kIn Ja (PySem.W.plainGet_of (c.get m)).1 (PySem.W.findObj_data hc hp.at_ hp.get hp.tak) (PySem.W.plainGet_of (c.get m)).2 (wpAny_call (PySem.W.prop_get (s := { s1 with toks := s1.toks + 1 }) I1.kIn hrec ?_))
  have I2 : Inv X pins σ H1 { s1 with toks := s1.toks + 1 } := I1.tok _
  refine codeAny_mono (F X.A.in1 X.stack { s1 with toks := s1.toks + 1 } H1 [.ref a] [.ref a] Q E0 hr.in1 I2.env0.in1 (.cons rfl .nil) q) fun r s' hq => ?_
  cases r with
  | error er =>
    have hz : CX0 X.stack H1 { s1 with toks := s1.toks + 1 } E0 er s' := hq
    exact False.elim hz
  | ok fl =>
    cases fl with
    | ret u1 =>
      obtain ⟨v, H', I3, rv, q3⟩ := I2.after hq
      show wpAny _ _ (handedOut u1) _ _ _
      rw [PySem.W.handedOut_of (handed_of rv)]
      exact wpAny_pure ⟨v, H', I3, rv, q3⟩
    | next => exact False.elim hq
    | brk => exact False.elim hq
    | cont => exact False.elim hq
end
/-! ### defs to such promises -/
section
variable {P : Program} {w : World} {K : PySem.W.Frag} {mg : Str → Option Value} {base : Heap} {x qual : Str} {params : Arguments} {body : List Stmt} {scope : Scope} {kws : List (Str × V)} {f : Addr} {fd : FuncData}
/-- a def without defaults and stars -/
theorem def_ok {CX : CXT} {N ps : List Str} {k : Nat} {sp : Sp} (F : FunD K x qual params body scope [] kws f fd) (S : FnScope N ps scope)
    (hb : ∀ (kV doc pm : Value) (an : Option Addr) (cdv ct : Value) (us : List Value), us.length = ps.length → bindArgs (PySem.W.fnOf x qual params body scope .none kV doc pm an cdv ct) ⟨us, []⟩ = pure (ps.zip us))
    (len : ∀ vs H Q E, sp vs H Q E → vs.length = ps.length)
    (body_ok : ∀ (cdv : Value) (A : Around) (outer : List Env) (s : Shared) (H : Hp) (vs : List V) (Q : VK) (E : XK), Room k (A.deeper (envOfC qual scope s.heap.objs.size f cdv)) → sp vs H Q E →
      ∃ t, PSs (cxOf CX P w K mg base N qual scope f cdv A outer s H E) body t ∧ t { nx := fun _ H' => Q .non H', rt := Q } (start N vs) H) : FnOk P w K mg base CX (k + 1) f fd ps sp ∧ FnR P w K mg base CX (k + 1) f sp := by
  have G : FnOk P w K mg base CX (k + 1) f fd ps sp := F.ok S len body_ok
  refine ⟨G, (G.raw (F.bindsN hb) .nil).imp fun vs H Q E h => ?_⟩
  rw [List.append_nil]
  exact h
/-- def f(a, .., *v) -/
theorem star_ok {CX : CXT} {N ps : List Str} {k : Nat} {sp : Sp} {pv : Str} (F : FunD K x qual params body scope [] kws f fd) (S : FnScope N (ps ++ [pv]) scope) (hCX : StX.CXUp CX)
    (hb : ∀ (kV doc pm : Value) (an : Option Addr) (cdv ct : Value) (us rest : List Value), us.length = ps.length → bindArgs (PySem.W.fnOf x qual params body scope .none kV doc pm an cdv ct) ⟨us ++ rest, []⟩ = (newTuple rest >>= fun t => pure (ps.zip us ++ [(pv, t)])))
    (body_ok : ∀ (cdv : Value) (A : Around) (outer : List Env) (s : Shared) (H : Hp) (vs : List V) (Q : VK) (E : XK), Room k (A.deeper (envOfC qual scope s.heap.objs.size f cdv)) → sp vs H Q E →
      ∃ t, PSs (cxOf CX P w K mg base N qual scope f cdv A outer s H E) body t ∧ t { nx := fun _ H' => Q .non H', rt := Q } (start N vs) H) :
    FnR P w K mg base CX (k + 1) f (fun vs H Q E => ∃ ws rest, vs = ws ++ rest ∧ ws.length = ps.length ∧ rest.length ≤ sizeLine ∧ ∀ p, H p = none → sp (ws ++ [V.ref p]) (upd H p (.tup rest)) Q E) := by
  obtain ⟨oc, od, dV, kV, doc, pm, an, cdv, ct, osl, e1, lk, hcd, hD, hK⟩ := F.ex
  rcases hD with ⟨_, e2⟩ | ⟨ne, _⟩
  · subst e1 e2
    exact StX.fn_star lk hcd S hCX (hb kV doc pm an cdv ct) fun A outer s H vs Q E hr hsp => body_ok cdv A outer s H vs Q E hr hsp
  · exact absurd rfl ne
end
end Ch

set_option Elab.async false
set_option linter.all false
set_option autoImplicit false
set_option maxRecDepth 100000
set_option maxHeartbeats 4000000
namespace Ch
open PySem PySem.Spec PyProof.Rows L2
/-! ### heaps -/
theorem Same.new {H : Hp} {p : Addr} {o : HO} (h : H p = none) : Same H (upd H p o) := fun b u e => by
  rw [upd_ne (ne_of_none e h)]
  exact e
theorem Same.seqT {K : PySem.W.Frag} {H H' : Hp} {a : Addr} {xs : List V} (e : Same H H') (h : SqT K H a xs) : SqT K H' a xs := by
  rcases h with (h | ⟨o, h⟩) | h
  · exact .inl (.inl (e _ _ h))
  · exact .inl (.inr ⟨o, e _ _ h⟩)
  · exact .inr h
theorem Same.mut {H H' : Hp} {p : Addr} {o : HO} (e : Same H H') (h : H p = none) : Same H (upd H' p o) := fun b u q => by
  rw [upd_ne (ne_of_none q h)]
  exact e b u q
theorem tr {H H1 H2 : Hp} {a : Addr} {o : HO} (e : Same H H1) (h : H a = some o) : H1 a = some o := e a o h
theorem up {H : Hp} {a p : Addr} {o u : HO} (h : H a = some o) (n : H p = none) : (upd H p u) a = some o := by
  rw [upd_ne (ne_of_none h n)]
  exact h
theorem fr {H H1 : Hp} {a p : Addr} {o : HO} (e : Same H H1) (n : H1 p = none) (h : H a = some o) : a ≠ p := ne_of_none (e a o h) n
/-! ### operators of several kinds of values -/
variable {X : Cx}
def rPlus : R2 := fun x y H Q => (∃ i j, x = .int i ∧ y = .int j ∧ Q (.int (i + j)) H) ∨ rCat x y H Q ∨ (∃ i j, x = .str i ∧ y = .str j ∧ i.length + j.length ≤ sizeLine ∧ Q (.str (i ++ j)) H)
theorem op_plus : OpR X (binaryOp .Add) rPlus := op_add.or (op_cat.or op_add_str)
def rTimes : R2 := fun x y H Q => (∃ i j, x = .int i ∧ y = .int j ∧ CMul i j ∧ Q (.int (i * j)) H) ∨ rI CMulW (fun i j => .int (i * j)) x y H Q ∨ rRep x y H Q
theorem op_times : OpR X (binaryOp .Mult) rTimes := op_mul.or (op_mulW.or op_rep)
def rMinus : R2 := rI0 fun i j => .int (i - j)
theorem op_minus : OpR X (binaryOp .Sub) rMinus := op_sub
def rModP : R2 := rI (fun _ j => 0 < j) fun i j => .int (i % j)
theorem op_modP : OpR X (binaryOp .Mod) rModP := op_mod
def rDivP : R2 := rI CDivW fun i j => .int (i / j)
theorem op_divP : OpR X (binaryOp .FloorDiv) rDivP := op_fdivW
def rPowP : R2 := rI CPow fun i j => .int (i ^ j.toNat)
theorem op_powP : OpR X (binaryOp .Pow) rPowP := op_pow
def rEqU (K : PySem.W.Frag) : R2 := fun x y H Q => rEq x y H Q ∨ rEqD K x y H Q
theorem op_eqU (hu : X.A.units + 64 < cLine) : OpR X (compareOp .Eq) (rEqU X.K) := op_eq.or (op_eqD hu)
def rNeU (K : PySem.W.Frag) : R2 := fun x y H Q => rNe x y H Q ∨ rNeD K x y H Q
theorem op_neU (hu : X.A.units + 64 < cLine) : OpR X (compareOp .NotEq) (rNeU X.K) := op_ne.or (op_neD hu)
def rLtI : R2 := rI0 fun i j => .bl (decide (i < j))
def rLeI : R2 := rI0 fun i j => .bl (decide (i ≤ j))
def rGtI : R2 := rI0 fun i j => .bl (decide (j < i))
def rGeI : R2 := rI0 fun i j => .bl (decide (j ≤ i))
theorem op_ltI : OpR X (compareOp .Lt) rLtI := op_lt
theorem op_leI : OpR X (compareOp .LtE) rLeI := op_le
theorem op_gtI : OpR X (compareOp .Gt) rGtI := op_gt
theorem op_geI : OpR X (compareOp .GtE) rGeI := op_ge
def rInU (K : PySem.W.Frag) : R2 := fun x y H Q => rIn K false x y H Q ∨ (∃ i j, x = .str i ∧ y = .str j ∧ Q (.bl (!(Builtin.Str.occurrences j i 0 j.length 1).isEmpty)) H)
theorem op_inU : OpR X (compareOp .In) (rInU X.K) := op_in_seq.or op_in_str
def rNotInU (K : PySem.W.Frag) : R2 := fun x y H Q => rIn K true x y H Q ∨ (∃ i j, x = .str i ∧ y = .str j ∧ Q (.bl (!(!(Builtin.Str.occurrences j i 0 j.length 1).isEmpty))) H)
theorem op_notInU : OpR X (compareOp .NotIn) (rNotInU X.K) := op_notIn_seq.or op_notIn_str
/-! ### built-ins by named readings -/
def rLn (K : PySem.W.Frag) : List V → Hp → VK → Prop := fun xs H Q => ∃ x n, xs = [x] ∧ LenV K x H n ∧ Q (.int n) H
theorem c_len : CallR X (.builtin "len") (rLn X.K) := call_len
def rI1 : List V → Hp → VK → Prop := fun xs H Q => (∃ i, xs = [.int i] ∧ Q (.int i) H) ∨ ∃ k, xs = [.bl k] ∧ Q (.int (if k then 1 else 0)) H
theorem c_int : CallR X (.type "int") rI1 := call_int1
def rMx2 : List V → Hp → VK → Prop := fun xs H Q => ∃ i j : Int, xs = [.int i, .int j] ∧ Q (.int (if j > i then j else i)) H
theorem c_max2 (hc : X.calm = true) : CallR X (.builtin "max") rMx2 := call_max2 hc
def rMn2 : List V → Hp → VK → Prop := fun xs H Q => ∃ i j : Int, xs = [.int i, .int j] ∧ Q (.int (if j < i then j else i)) H
theorem c_min2 (hc : X.calm = true) : CallR X (.builtin "min") rMn2 := call_min2 hc
def rMx3 : List V → Hp → VK → Prop := fun xs H Q => ∃ i j k : Int, xs = [.int i, .int j, .int k] ∧ Q (.int (if k > (if j > i then j else i) then k else (if j > i then j else i))) H
theorem c_max3 (hc : X.calm = true) : CallR X (.builtin "max") rMx3 := call_max3 hc
def rAb : List V → Hp → VK → Prop := fun xs H Q => ∃ i : Int, xs = [.int i] ∧ Q (.int (if i < 0 then -i else i)) H
theorem c_abs : CallR X (.builtin "abs") rAb := call_abs
def rLs (K : PySem.W.Frag) : List V → Hp → VK → Prop := fun xs H Q => ∃ p ys, xs = [.ref p] ∧ (SqL K H p ys ∨ SqT K H p ys) ∧ ∀ l, H l = none → Q (.ref l) (upd H l (.lst ys))
theorem c_list : CallR X (.type "list") (rLs X.K) := call_list_of
def rTu (K : PySem.W.Frag) : List V → Hp → VK → Prop := fun xs H Q => ∃ p ys, xs = [.ref p] ∧ ((SqL K H p ys ∧ ∀ l, H l = none → Q (.ref l) (upd H l (.tup ys))) ∨ (SqT K H p ys ∧ Q (.ref p) H))
theorem c_tuple : CallR X (.type "tuple") (rTu X.K) := call_tuple_of
/-- a module's text -/
theorem pe_gs {x z : Str} {pos : Pos} (h : ∃ t, X.mg x = some (.str z t)) (hg : Gl X x) (hd : (x == ("__debug__" : Str)) = false := by decide) : PE X (.Name x pos) (tC (.str z)) := by
  obtain ⟨t, e⟩ := h
  exact pe_glob hg e ⟨t, rfl⟩ hd
theorem pe_gi {x : Str} {z : Int} {pos : Pos} (h : ∃ t, X.mg x = some (.int z t)) (hg : Gl X x) (hd : (x == ("__debug__" : Str)) = false := by decide) : PE X (.Name x pos) (tC (.int z)) := by
  obtain ⟨t, e⟩ := h
  exact pe_glob hg e ⟨t, rfl⟩ hd
theorem pe_gr {x : Str} {a : Addr} {pos : Pos} (h : X.mg x = some (.ref a)) (hg : Gl X x) (hd : (x == ("__debug__" : Str)) = false := by decide) : PE X (.Name x pos) (tC (.ref a)) := pe_glob hg h rfl hd
/-- e.NAME, e a class -/
def tCV (v : V) : TE := tC v
theorem pe_cv {x f : Str} {C : Addr} {v : V} {np pos : Pos} (h : X.mg x = some (.ref C)) (r : ClX.CRead X.K C (.type "type")) (k : ∃ u, ClX.CVal X.K C (.type "type") f v u) (hg : Gl X x) (hd : (x == ("__debug__" : Str)) = false := by decide)
    (hb : attributeBase (.Name x np) f X.env (eval (.Name x np) X.env) = eval (.Name x np) X.env := by rfl) : PE X (.Attribute (.Name x np) f pos) (tC v) := by
  obtain ⟨u, k⟩ := k
  exact ⟨fun pins s σ H Q I q => (ClX.pe_cval (pe_gr h hg hd) hb).run pins s σ H Q I ⟨C, .type "type", v, u, rfl, r, k, q⟩⟩
/-! ### steps -/
section
variable {σ : L2.St} {H : Hp} {Q : VK} {QT : Bool → Hp → Prop} {QA : List V → Hp → Prop} {QS : L2.St → Hp → Prop} {D : Ends} {ta tb tc td te : TE} {t u tx ty : TT} {t1 t2 : TS} {r r' r'' : R2} {a : TA} {v x y z : V} {i j k : Int} {p q l : Addr} {b c : Bool} {xs ys : List V} {K : PySem.W.Frag} {sp : Sp} {E : XK} {C dx : Addr} {f m : Str} {fs : List (Str × V)} {n : Nat} {g : TG}
theorem x_var {n : Nat} (h : σ[n]? = some (some v)) (k : Q v H) : tVar n σ H Q := ⟨v, h, k⟩
theorem x_c (k : Q v H) : tC v σ H Q := k
theorem x_op (k : ta σ H fun x H1 => tb σ H1 fun y H2 => r x y H2 Q) : tOp r ta tb σ H Q := k
theorem x_un {r : V → Hp → VK → Prop} (k : ta σ H fun x H1 => r x H1 Q) : tUn r ta σ H Q := k
theorem x_test (k : te σ H fun x H' => ∃ k, x = .bl k ∧ QT k H') : tTest te σ H QT := k
theorem x_B (k : te σ H fun x H' => ∃ k, x = .bl k ∧ QT k H') : tB te σ H QT := k
theorem x_bl (k : QT b H) : ∃ k, V.bl b = .bl k ∧ QT k H := ⟨b, rfl, k⟩
theorem x_ex {R : Bool → Prop} (k : R b) : ∃ c, V.bl b = .bl c ∧ R c := ⟨b, rfl, k⟩
theorem x_nT {A B : Prop} (k : B) : if (!true) = true then A else B := k
theorem x_nF {A B : Prop} (k : A) : if (!false) = true then A else B := k
theorem x_and (k : t σ H fun c H1 => if c = true then u σ H1 QT else QT false H1) : tAnd t u σ H QT := k
theorem x_or (k : t σ H fun c H1 => if c = true then QT true H1 else u σ H1 QT) : tOr t u σ H QT := k
theorem x_not (k : t σ H fun c H1 => QT (!c) H1) : tNot t σ H QT := k
theorem x_andV (k : ta σ H fun x H1 => ∃ c, x = .bl c ∧ if c = true then tb σ H1 Q else Q (.bl false) H1) : tAndV ta tb σ H Q := k
theorem x_orV (k : ta σ H fun x H1 => ∃ c, x = .bl c ∧ if c = true then Q (.bl true) H1 else tb σ H1 Q) : tOrV ta tb σ H Q := k
theorem x_notV (k : ta σ H fun x H1 => ∃ c, x = .bl c ∧ Q (.bl (!c)) H1) : tNotV ta σ H Q := k
theorem x_ifE (k : t σ H fun c H1 => if c = true then ta σ H1 Q else tb σ H1 Q) : tIf t ta tb σ H Q := k
theorem x_chain (k : ta σ H fun x H1 => tb σ H1 fun y H2 => r x y H2 fun z H3 => ∃ k, z = .bl k ∧ (if k = true then tc σ H3 fun w' H4 => r' y w' H4 Q else Q (.bl false) H3)) : tChain r r' ta tb tc σ H Q := k
theorem x_chain3 (k : ta σ H fun x H1 => tb σ H1 fun y H2 => r x y H2 fun z H3 => ∃ k, z = .bl k ∧ (if k = true then tc σ H3 fun x2 H4 => r' y x2 H4 fun z2 H5 => ∃ k2, z2 = .bl k2 ∧ (if k2 = true then td σ H5 fun x3 H6 => r'' x2 x3 H6 Q else Q (.bl false) H5) else Q (.bl false) H3)) : tChain3 r r' r'' ta tb tc td σ H Q := k
theorem x_next (k : D.nx σ H) : tNext D σ H := k
theorem x_seq (k : t1 { D with nx := t2 D } σ H) : tSeq t1 t2 D σ H := k
theorem x_drop (k : te σ H fun _ H1 => D.nx σ H1) : tDrop te D σ H := k
theorem x_ret (k : te σ H D.rt) : tRet te D σ H := k
theorem x_ifS (k : t σ H fun b H1 => if b = true then t1 D σ H1 else t2 D σ H1) : tIfS t t1 t2 D σ H := k
theorem x_asg (k : te σ H fun x H1 => g x σ H1 D.nx) : tAsg te g D σ H := k
theorem x_gname {n : Nat} (k : QS (σ.set n (some v)) H) : gName n v σ H QS := k
theorem x_cons (k : te σ H fun x H1 => a σ H1 fun xs H2 => QA (x :: xs) H2) : tCons te a σ H QA := k
theorem x_nil (k : QA [] H) : tNil σ H QA := k
theorem x_tup (k : a σ H fun xs H1 => xs.length ≤ sizeLine ∧ ∀ p, H1 p = none → Q (.ref p) (upd H1 p (.tup xs))) : tTup a σ H Q := k
theorem x_lst (k : a σ H fun xs H1 => xs.length ≤ sizeLine ∧ ∀ p, H1 p = none → Q (.ref p) (upd H1 p (.lst xs))) : tLst a σ H Q := k
theorem x_cb {r : List V → Hp → VK → Prop} (k : a σ H fun vs H1 => r vs H1 Q) : tCB r a σ H Q := k
theorem x_call (k : a σ H fun vs H1 => sp vs H1 Q E) : tCallR sp E a σ H Q := k
theorem x_mk (k : a σ H fun vs H1 => ∀ x dx, H1 x = none → H1 dx = none → dx ≠ x → sp (.ref x :: vs) (upd (upd H1 dx (.own x)) x (.ins C dx [])) (fun v H2 => v = .non ∧ Q (.ref x) H2) E) : tMk C sp E a σ H Q := k
def rMeth (C : Addr) (m : Str) (k : Addr → Hp → Prop) (x : V) (H : Hp) : Prop := ∃ a dx fs, x = .ref a ∧ H a = some (.ins C dx fs) ∧ fs.lookup m = none ∧ k a H
theorem x_meth (k : ta σ H (rMeth C m fun p H1 => a σ H1 fun vs H2 => sp (.ref p :: vs) H2 Q E)) : tMethR C m sp E ta a σ H Q := k
theorem x_methAt {kk : Addr → Hp → Prop} (h : H p = some (.ins C dx fs)) (l : fs.lookup m = none) (k : kk p H) : rMeth C m kk (.ref p) H := ⟨p, dx, fs, rfl, h, l, k⟩
def rProp (C : Addr) (sp : Sp) (E : XK) (x : V) (H : Hp) (Q : VK) : Prop := ∃ a dx fs, x = .ref a ∧ H a = some (.ins C dx fs) ∧ sp [.ref a] H Q E
theorem x_prop (k : ta σ H fun x H1 => rProp C sp E x H1 Q) : tPropR C sp E ta σ H Q := k
theorem x_propAt (h : H p = some (.ins C dx fs)) (k : sp [.ref p] H Q E) : rProp C sp E (.ref p) H Q := ⟨p, dx, fs, rfl, h, k⟩
def rFld (K : PySem.W.Frag) (f : Str) (x : V) (H : Hp) (Q : VK) : Prop := ∃ a C dx fs v, x = .ref a ∧ H a = some (.ins C dx fs) ∧ Cls K C ∧ NoAttr K C f ∧ fs.lookup f = some v ∧ Q v H
theorem x_fld (k : ta σ H fun x H1 => rFld K f x H1 Q) : tFld K ta f σ H Q := k
theorem x_fldAt (h : H p = some (.ins C dx fs)) (c : Cls K C) (na : NoAttr K C f) (l : fs.lookup f = some v) (k : Q v H) : rFld K f (.ref p) H Q := ⟨p, C, dx, fs, v, rfl, h, c, na, l, k⟩
def rSet (K : PySem.W.Frag) (f : Str) (y x : V) (H : Hp) (k : Hp → Prop) : Prop := ∃ a C dx fs, x = .ref a ∧ H a = some (.ins C dx fs) ∧ Cls K C ∧ NoAttr K C f ∧ fs.length < 1000 ∧ k (upd H a (.ins C dx (putF f y fs)))
theorem x_setf (k : te σ H fun y H1 => ta σ H1 fun x H2 => rSet K f y x H2 fun H3 => D.nx σ H3) : sFld K ta te f D σ H := k
theorem x_setAt {kk : Hp → Prop} (h : H p = some (.ins C dx fs)) (c : Cls K C) (na : NoAttr K C f) (l : fs.length < 1000) (k : kk (upd H p (.ins C dx (putF f v fs)))) : rSet K f v (.ref p) H kk := ⟨p, C, dx, fs, rfl, h, c, na, l, k⟩
theorem x_starA (k : te σ H fun y H1 => ∃ a xs, y = .ref a ∧ (SqT K H1 a xs ∨ SqL K H1 a xs) ∧ QA xs H1) : tStarA K te σ H QA := k
/-! values -/
theorem x_plusI (k : Q (.int (i + j)) H) : rPlus (.int i) (.int j) H Q := .inl ⟨i, j, rfl, rfl, k⟩
theorem x_plusL (h1 : H p = some (.lst xs)) (h2 : H q = some (.lst ys)) (h3 : xs.length + ys.length ≤ sizeLine) (k : ∀ r, H r = none → Q (.ref r) (upd H r (.lst (xs ++ ys)))) : rPlus (.ref p) (.ref q) H Q := .inr (.inl ⟨p, q, xs, ys, rfl, rfl, h1, h2, h3, k⟩)
theorem x_minus (k : Q (.int (i - j)) H) : rMinus (.int i) (.int j) H Q := ⟨i, j, rfl, rfl, k⟩
theorem x_timesI (h : CMul i j) (k : Q (.int (i * j)) H) : rTimes (.int i) (.int j) H Q := .inl ⟨i, j, rfl, rfl, h, k⟩
theorem x_timesW (h : CMulW i j) (k : Q (.int (i * j)) H) : rTimes (.int i) (.int j) H Q := .inr (.inl ⟨i, j, rfl, rfl, h, k⟩)
theorem x_mod (h : 0 < j) (k : Q (.int (i % j)) H) : rModP (.int i) (.int j) H Q := ⟨i, j, rfl, rfl, h, k⟩
theorem x_div (h : CDivW i j) (k : Q (.int (i / j)) H) : rDivP (.int i) (.int j) H Q := ⟨i, j, rfl, rfl, h, k⟩
theorem x_pow (h : CPow i j) (k : Q (.int (i ^ j.toNat)) H) : rPowP (.int i) (.int j) H Q := ⟨i, j, rfl, rfl, h, k⟩
theorem x_lt (k : Q (.bl (decide (i < j))) H) : rLtI (.int i) (.int j) H Q := ⟨i, j, rfl, rfl, k⟩
theorem x_le (k : Q (.bl (decide (i ≤ j))) H) : rLeI (.int i) (.int j) H Q := ⟨i, j, rfl, rfl, k⟩
theorem x_gt (k : Q (.bl (decide (j < i))) H) : rGtI (.int i) (.int j) H Q := ⟨i, j, rfl, rfl, k⟩
theorem x_ge (k : Q (.bl (decide (j ≤ i))) H) : rGeI (.int i) (.int j) H Q := ⟨i, j, rfl, rfl, k⟩
theorem x_eqI (k : Q (.bl (decide (i = j))) H) : rEqU K (.int i) (.int j) H Q := .inl ⟨rfl, by rw [show decide (V.int i = V.int j) = decide (i = j) by simp]; exact k⟩
theorem x_neI (k : Q (.bl (!decide (i = j))) H) : rNeU K (.int i) (.int j) H Q := .inl ⟨rfl, by rw [show decide (V.int i = V.int j) = decide (i = j) by simp]; exact k⟩
theorem x_eqS {i j : Str} (k : Q (.bl (decide (i = j))) H) : rEqU K (.str i) (.str j) H Q := .inl ⟨rfl, by rw [show decide (V.str i = V.str j) = decide (i = j) by simp]; exact k⟩
theorem x_eqB {i j : Bool} (k : Q (.bl (decide (i = j))) H) : rEqU K (.bl i) (.bl j) H Q := .inl ⟨rfl, by rw [show decide (V.bl i = V.bl j) = decide (i = j) by simp]; exact k⟩
theorem x_neB {i j : Bool} (k : Q (.bl (!decide (i = j))) H) : rNeU K (.bl i) (.bl j) H Q := .inl ⟨rfl, by rw [show decide (V.bl i = V.bl j) = decide (i = j) by simp]; exact k⟩
theorem x_eqDp {d e : PyData} (h1 : Dp K H x d) (h2 : Dp K H y e) (h3 : SeqAt.shaped d = true) (h4 : SeqAt.shaped e = true) (k : Q (.bl (PyData.eqv d e)) H) : rEqU K x y H Q := .inr ⟨d, e, h1, h2, h3, h4, k⟩
theorem x_neDp {d e : PyData} (h1 : Dp K H x d) (h2 : Dp K H y e) (h3 : SeqAt.shaped d = true) (h4 : SeqAt.shaped e = true) (k : Q (.bl (!PyData.eqv d e)) H) : rNeU K x y H Q := .inr ⟨d, e, h1, h2, h3, h4, k⟩
theorem x_isN {x : V} (k : Q (.bl (decide (x = .non))) H) (e : te σ H fun y H1 => Q (.bl (decide (y = .non))) H1) : tIsN te σ H Q := e
theorem x_isNe (e : te σ H fun y H1 => Q (.bl (decide (y = .non))) H1) : tIsN te σ H Q := e
theorem x_notNe (e : te σ H fun y H1 => Q (.bl (!decide (y = .non))) H1) : tNotN te σ H Q := e
theorem x_ixL (h : SqL K H p xs) (a : atI xs i = some v) (k : Q v H) : rIx K (.ref p) (.int i) H Q := .inl ⟨p, xs, i, v, rfl, rfl, h, a, k⟩
theorem x_ixT (h : SqT K H p xs) (a : atI xs i = some v) (k : Q v H) : rIx K (.ref p) (.int i) H Q := .inr (.inl ⟨p, xs, i, v, rfl, rfl, h, a, k⟩)
theorem x_inT (h : SqT K H p xs) (h1 : flatV x = true) (h2 : xs.all flatV = true) (k : Q (.bl (inV x xs)) H) : rInU K x (.ref p) H Q := .inl ⟨p, xs, rfl, .inr h, h1, h2, k⟩
theorem x_inL (h : SqL K H p xs) (h1 : flatV x = true) (h2 : xs.all flatV = true) (k : Q (.bl (inV x xs)) H) : rInU K x (.ref p) H Q := .inl ⟨p, xs, rfl, .inl h, h1, h2, k⟩
theorem x_lenL (h : SqL K H p xs) (k : Q (.int xs.length) H) : rLn K [.ref p] H Q := ⟨.ref p, xs.length, rfl, .inl ⟨xs, h, rfl⟩, k⟩
theorem x_lenT (h : SqT K H p xs) (k : Q (.int xs.length) H) : rLn K [.ref p] H Q := ⟨.ref p, xs.length, rfl, .inr ⟨xs, h, rfl⟩, k⟩
theorem x_int (k : Q (.int i) H) : rI1 [.int i] H Q := .inl ⟨i, rfl, k⟩
theorem x_intB (k : Q (.int (if b then 1 else 0)) H) : rI1 [.bl b] H Q := .inr ⟨b, rfl, k⟩
theorem x_max2 (k : Q (.int (if j > i then j else i)) H) : rMx2 [.int i, .int j] H Q := ⟨i, j, rfl, k⟩
theorem x_min2 (k : Q (.int (if j < i then j else i)) H) : rMn2 [.int i, .int j] H Q := ⟨i, j, rfl, k⟩
theorem x_max3 {w : Int} (k : Q (.int (if w > (if j > i then j else i) then w else (if j > i then j else i))) H) : rMx3 [.int i, .int j, .int w] H Q := ⟨i, j, w, rfl, k⟩
theorem x_abs (k : Q (.int (if i < 0 then -i else i)) H) : rAb [.int i] H Q := ⟨i, rfl, k⟩
theorem x_listL (h : SqL K H p xs) (k : ∀ l, H l = none → Q (.ref l) (upd H l (.lst xs))) : rLs K [.ref p] H Q := ⟨p, xs, rfl, .inl h, k⟩
theorem x_listT (h : SqT K H p xs) (k : ∀ l, H l = none → Q (.ref l) (upd H l (.lst xs))) : rLs K [.ref p] H Q := ⟨p, xs, rfl, .inr h, k⟩
theorem x_neg (k : Q (.int (-i)) H) : rU (fun i => .int (-i)) (.int i) H Q := ⟨i, rfl, k⟩
/-! ways -/
theorem x_if {A B : Prop} (hT : b = true → A) (hF : b = false → B) : if b = true then A else B := by
  cases b with
  | true => exact hT rfl
  | false => exact hF rfl
theorem x_ifd {c A B : Prop} [Decidable c] (hT : c → A) (hF : ¬ c → B) : if decide c = true then A else B := by
  by_cases h : c
  · rw [decide_eq_true h]
    exact hT h
  · rw [decide_eq_false h]
    exact hF h
theorem x_ifnd {c A B : Prop} [Decidable c] (hT : ¬ c → A) (hF : c → B) : if (!decide c) = true then A else B := by
  by_cases h : c
  · rw [decide_eq_true h]
    exact hF h
  · rw [decide_eq_false h]
    exact hT h
theorem x_T {A B : Prop} (h : A) : if true = true then A else B := h
theorem x_F {A B : Prop} (h : B) : if false = true then A else B := h
end
end Ch
namespace Ch
open PySem PySem.Spec PyProof.Rows L2
section
variable {H : Hp} {Q : VK} {K : PySem.W.Frag} {p : Addr} {xs : List V} {i : Int} {b : Bool} {z : Str}
theorem x_isiB {x : V} {a n : String} {r : Bool} (t : TyX K H x (.type a)) (h : kitB a n = some r) (k : Q (.bl r) H) : rIsi K [x, .ty n] H Q := ⟨x, .ty n, .type a, .type n, r, rfl, .ty n, t, kit_ty h, k⟩
theorem x_isi_ii (k : Q (.bl true) H) : rIsi K [.int i, .ty "int"] H Q := x_isiB (.base (.int i)) (by decide +kernel) k
theorem x_isi_ib (k : Q (.bl false) H) : rIsi K [.int i, .ty "bool"] H Q := x_isiB (.base (.int i)) (by decide +kernel) k
theorem x_isi_bi (k : Q (.bl true) H) : rIsi K [.bl b, .ty "int"] H Q := x_isiB (.base (.bl b)) (by decide +kernel) k
theorem x_isi_bb (k : Q (.bl true) H) : rIsi K [.bl b, .ty "bool"] H Q := x_isiB (.base (.bl b)) (by decide +kernel) k
theorem x_isi_tt (h : H p = some (.tup xs)) (k : Q (.bl true) H) : rIsi K [.ref p, .ty "tuple"] H Q := x_isiB (.base (.tup h)) (by decide +kernel) k
theorem x_isi_lt (h : H p = some (.lst xs)) (k : Q (.bl false) H) : rIsi K [.ref p, .ty "tuple"] H Q := x_isiB (.base (.lst h)) (by decide +kernel) k
theorem x_isi_tl (h : H p = some (.tup xs)) (k : Q (.bl false) H) : rIsi K [.ref p, .ty "list"] H Q := x_isiB (.base (.tup h)) (by decide +kernel) k
theorem x_isi_ll (h : H p = some (.lst xs)) (k : Q (.bl true) H) : rIsi K [.ref p, .ty "list"] H Q := x_isiB (.base (.lst h)) (by decide +kernel) k
theorem sz {xs : List V} (h : Nat.ble xs.length sizeLine = true) : xs.length ≤ sizeLine := Nat.le_of_ble_eq_true h
theorem sz5 {n : Nat} (h : n ≤ 100000) : n ≤ sizeLine := Nat.le_trans h (by decide)
theorem sz5' {n : Nat} (h : n < 100000) : n < sizeLine := Nat.lt_of_lt_of_le h (by decide)
end
end Ch
/-! ### loops -/
namespace Ch
open PySem PySem.Spec PyProof.Rows L2
def ForB (J : It) (g : TG) (tb : TS) (D : Ends) (σ : L2.St) (H1 : Hp) : Prop := ∃ W : Nat → Nat → L2.St → Hp → Prop, (∃ m, W 0 m σ H1) ∧ ∀ i m σ H, W i m σ H →
  (J.stop i H ∧ D.nx σ H) ∨ (J.go i H ∧ ∃ N : L2.St → Hp → Prop, (∀ σ' H', N σ' H' → ∃ m', m' < m ∧ W (i + 1) m' σ' H') ∧ ∀ x H', J.yld i H x H' → g x σ H' fun σ2 H2 => tb { D with nx := N, ct := N, bk := D.nx } σ2 H2)
def rIL (K : PySem.W.Frag) (x : V) (H : Hp) (R : It → Hp → Prop) : Prop := ∃ a, x = .ref a ∧ (∃ xs, SqL K H a xs) ∧ R (Itl K a) H
def rIT (K : PySem.W.Frag) (x : V) (H : Hp) (R : It → Hp → Prop) : Prop := ∃ a, x = .ref a ∧ (∃ xs, SqT K H a xs) ∧ R (Itt K a) H
def rIE (K : PySem.W.Frag) (vs : List V) (H : Hp) (R : It → Hp → Prop) : Prop := ∃ a xs, vs = [.ref a] ∧ SqL K H a xs ∧ R (Ite K a) H
def rIU (K : PySem.W.Frag) (vs : List V) (H : Hp) (R : It → Hp → Prop) : Prop := ∃ a xs, vs = [.ref a] ∧ SqT K H a xs ∧ R (IteT K a) H
def rIR1 (vs : List V) (H : Hp) (R : It → Hp → Prop) : Prop := ∃ j : Int, vs = [.int j] ∧ -(2 ^ 62) ≤ j ∧ j < 2 ^ 62 ∧ R (Itr 0 j.toNat) H
def rIR2 (vs : List V) (H : Hp) (R : It → Hp → Prop) : Prop := ∃ i j : Int, vs = [.int i, .int j] ∧ (-(2 ^ 62) ≤ i ∧ i < 2 ^ 62 ∧ -(2 ^ 62) ≤ j ∧ j < 2 ^ 62) ∧ R (Itr i (j - i).toNat) H
section
variable {σ : L2.St} {H : Hp} {R : It → Hp → Prop} {D : Ends} {wi : TI} {g : TG} {tb : TS} {tl : TE} {ta : TA} {K : PySem.W.Frag} {p : Addr} {xs : List V} {i j : Int}
theorem x_for (k : wi σ H fun J H1 => ForB J g tb D σ H1) : tFor wi g tb D σ H := k
theorem x_iL (k : tl σ H fun x H1 => rIL K x H1 R) : iList K tl σ H R := k
theorem x_iT (k : tl σ H fun x H1 => rIT K x H1 R) : iTup K tl σ H R := k
theorem x_iE (k : ta σ H fun x H1 => rIE K x H1 R) : iEnum K ta σ H R := k
theorem x_iU (k : ta σ H fun x H1 => rIU K x H1 R) : iEnumT K ta σ H R := k
theorem x_iR1 (k : ta σ H fun x H1 => rIR1 x H1 R) : iRng1 ta σ H R := k
theorem x_iR2 (k : ta σ H fun x H1 => rIR2 x H1 R) : iRng2 ta σ H R := k
theorem x_iLAt (h : SqL K H p xs) (k : R (Itl K p) H) : rIL K (.ref p) H R := ⟨p, rfl, ⟨xs, h⟩, k⟩
theorem x_iTAt (h : SqT K H p xs) (k : R (Itt K p) H) : rIT K (.ref p) H R := ⟨p, rfl, ⟨xs, h⟩, k⟩
theorem x_iEAt (h : SqL K H p xs) (k : R (Ite K p) H) : rIE K [.ref p] H R := ⟨p, xs, rfl, h, k⟩
theorem x_iUAt (h : SqT K H p xs) (k : R (IteT K p) H) : rIU K [.ref p] H R := ⟨p, xs, rfl, h, k⟩
theorem x_iR1At (h0 : -(2 ^ 62) ≤ j) (h1 : j < 2 ^ 62) (k : R (Itr 0 j.toNat) H) : rIR1 [.int j] H R := ⟨j, rfl, h0, h1, k⟩
theorem x_iR2At (h : -(2 ^ 62) ≤ i ∧ i < 2 ^ 62 ∧ -(2 ^ 62) ≤ j ∧ j < 2 ^ 62) (k : R (Itr i (j - i).toNat) H) : rIR2 [.int i, .int j] H R := ⟨i, j, rfl, h, k⟩
theorem x_loop {J : It} {n : Nat} {G : Hp → Prop} {Y : Nat → Hp → V → Hp → Prop} (w : Walk J n G Y) (Pv : Nat → L2.St → Hp → Prop) (h0 : Pv 0 σ H) (hG : ∀ i σ H, i ≤ n → Pv i σ H → G H)
    (hs : ∀ i x σ H H', i < n → Pv i σ H → Y i H x H' → g x σ H' fun σ2 H2 => tb { D with nx := Pv (i + 1), ct := Pv (i + 1), bk := D.nx } σ2 H2) (hd : ∀ σ H, Pv n σ H → D.nx σ H) : ForB J g tb D σ H := for_it w Pv h0 hG hs hd
/-! targets -/
theorem x_gTup {n : Nat} {t : TGs} {QS : L2.St → Hp → Prop} (h : H p = some (.tup xs)) (e : xs.length = n) (k : t xs σ H QS) : gTup K n t (.ref p) σ H QS := ⟨p, xs, rfl, SqT.of h, e, k⟩
theorem x_gTupT {n : Nat} {t : TGs} {QS : L2.St → Hp → Prop} (h : SqT K H p xs) (e : xs.length = n) (k : t xs σ H QS) : gTup K n t (.ref p) σ H QS := ⟨p, xs, rfl, h, e, k⟩
theorem x_gStar {n i : Nat} {t : TGs} {QS : L2.St → Hp → Prop} (h : H p = some (.tup xs)) (h1 : i < n) (h2 : n ≤ xs.length + 1) (h3 : xs.length ≤ 16384) (k : ∀ d, H d = none → t (xs.take i ++ [.ref d] ++ (xs.drop i).drop (xs.length + 1 - n)) σ (upd H d (.lst ((xs.drop i).take (xs.length + 1 - n)))) QS) : gStar K n i t (.ref p) σ H QS :=
  ⟨p, xs, rfl, SqT.of h, h1, h2, h3, k⟩
theorem x_star1 {t : TGs} {a : V} {QS : L2.St → Hp → Prop} (h : H p = some (.tup [a])) (k : ∀ d, H d = none → t [a, .ref d] σ (upd H d (.lst [])) QS) : gStar K 2 1 t (.ref p) σ H QS := ⟨p, [a], rfl, SqT.of h, by decide, Nat.le_refl 2, Nat.le_of_ble_eq_true rfl, k⟩
theorem x_star2 {t : TGs} {a b : V} {QS : L2.St → Hp → Prop} (h : H p = some (.tup [a, b])) (k : ∀ d, H d = none → t [a, .ref d] σ (upd H d (.lst [b])) QS) : gStar K 2 1 t (.ref p) σ H QS := ⟨p, [a, b], rfl, SqT.of h, by decide, Nat.le_of_ble_eq_true rfl, Nat.le_of_ble_eq_true rfl, k⟩
theorem x_gcons {t : TG} {u : TGs} {v : V} {vs : List V} {QS : L2.St → Hp → Prop} (k : t v σ H fun σ' H' => u vs σ' H' QS) : gCons t u (v :: vs) σ H QS := ⟨v, vs, rfl, k⟩
theorem x_gnil {QS : L2.St → Hp → Prop} (k : QS σ H) : gNil [] σ H QS := ⟨rfl, k⟩
theorem x_par {i j : Nat} (k : ta σ H fun vs H1 => ∃ u v, vs = [u, v] ∧ D.nx ((σ.set i (some u)).set j (some v)) H1) : tPar i j ta D σ H := k
theorem x_app {l : Addr} {v : V} {Q : VK} (h : H l = some (.lst xs)) (h1 : xs.length < sizeLine) (k : Q .non (upd H l (.lst (xs ++ [v])))) : rAppend (.ref l) [v] H Q := ⟨l, xs, v, rfl, rfl, h, h1, k⟩
def rBM (K : PySem.W.Frag) (T : String) (r : V → List V → Hp → VK → Prop) (x : V) (H : Hp) (t : (List V → Hp → Prop) → Prop) (Q : VK) : Prop := tyV K T x H ∧ t fun xs H2 => r x xs H2 Q
theorem x_bm {T : String} {r : V → List V → Hp → VK → Prop} {to : TE} {Q : VK} (k : to σ H fun x H1 => tyV K T x H1 ∧ ta σ H1 fun xs H2 => r x xs H2 Q) : tBM K T r to ta σ H Q := k
theorem x_bm0 {T : String} {r : V → List V → Hp → VK → Prop} {to : TE} {Q : VK} (k : to σ H fun x H1 => tyV K T x H1 ∧ r x [] H1 Q) : tBM0 K T r to σ H Q := k
theorem ty_lst {l : Addr} (h : H l = some (.lst xs)) : tyV K "list" (.ref l) H := .inl ⟨rfl, _, SqL.of h⟩
end
end Ch
/-! ### comprehensions -/
namespace Ch
open PySem PySem.Spec PyProof.Rows L2
def LcB (J : It) (g : TG) (tt : TT) (te : TE) (vs : List Nat) (σ : L2.St) (H1 : Hp) (Q : VK) : Prop := ∀ D, H1 D = none → ∃ W : Nat → Nat → Hp → Prop, (∃ m, W 0 m (upd H1 D (.lst []))) ∧ ∀ i m H, W i m H →
  (J.stop i H ∧ Q (.ref D) H) ∨ (J.go i H ∧ ∃ Nx : Hp → Prop, (∀ H', Nx H' → ∃ m', m' < m ∧ W (i + 1) m' H') ∧ ∀ x H', J.yld i H x H' → g x (wipe σ vs) H' fun σ2 H2 => wipe σ2 vs = wipe σ vs ∧ tt σ2 H2 fun b H3 =>
    if b = true then te σ2 H3 fun y H4 => ∃ acc, H4 D = some (.lst acc) ∧ acc.length < sizeLine ∧ Nx (upd H4 D (.lst (acc ++ [y]))) else Nx H3)
section
variable {σ : L2.St} {H : Hp} {Q : VK} {wi : TI} {g : TG} {tt : TT} {te : TE} {vs : List Nat} {J : It} {n : Nat} {G : Hp → Prop} {Y : Nat → Hp → V → Hp → Prop} {QT : Bool → Hp → Prop}
theorem x_lc (k : wi σ H fun J H1 => LcB J g tt te vs σ H1 Q) : tLc wi g tt te vs σ H Q := k
theorem x_yes (k : QT true H) : tYes σ H QT := k
/-- a comprehension that only makes new things: A tells of the items so far -/
theorem x_lcA (w : Walk J n G Y) (A : Nat → List V → Hp → Prop) (stab : ∀ i acc H D xs ys, H D = some (.lst xs) → A i acc H → A i acc (upd H D (.lst ys))) (h0 : ∀ D, H D = none → A 0 [] (upd H D (.lst []))) (hn : n ≤ 100000) (hG : ∀ H', Same H H' → G H')
    (hs : ∀ i x acc H1 H' (NT : V → Hp → Prop) (NF : Hp → Prop), (∀ y H4, Same H1 H4 → A (i + 1) (acc ++ [y]) H4 → NT y H4) → (∀ H3, Same H1 H3 → A (i + 1) acc H3 → NF H3) → i < n → Same H H1 → A i acc H1 → Y i H1 x H' →
      g x (wipe σ vs) H' fun σ2 H2 => wipe σ2 vs = wipe σ vs ∧ tt σ2 H2 fun b H3 => if b = true then te σ2 H3 NT else NF H3)
    (k : ∀ D acc H', H D = none → Same H H' → H' D = some (.lst acc) → A n acc H' → acc.length ≤ n → Q (.ref D) H') : LcB J g tt te vs σ H Q := by
  intro D hD
  refine lc_it w (fun i H1 => ∃ acc, H1 D = some (.lst acc) ∧ Same H H1 ∧ A i acc H1 ∧ acc.length ≤ i) ⟨[], upd_same, Same.new hD, h0 D hD, Nat.le_refl _⟩ (fun i H1 _ ⟨_, _, s1, _⟩ => hG H1 s1) ?_ ?_
  · rintro i x H1 H' hi ⟨acc, e1, s1, a1, l1⟩ y
    refine hs i x acc H1 H' _ _ ?_ ?_ hi s1 a1 y
    · intro y H4 s4 a4
      refine ⟨acc, s4 _ _ e1, by show acc.length < 2 ^ 24; omega, acc ++ [y], upd_same, Same.mut (s1.trans s4) hD, stab _ _ _ _ _ _ (s4 _ _ e1) a4, ?_⟩
      rw [List.length_append]
      exact Nat.succ_le_succ l1
    · intro H3 s3 a3
      exact ⟨acc, s3 _ _ e1, s1.trans s3, a3, Nat.le_succ_of_le l1⟩
  · rintro H1 ⟨acc, e1, s1, a1, l1⟩
    exact k D acc H1 hD s1 e1 a1 l1
end
end Ch
/-! ### the rules with the written part named -/
namespace Ch
open PySem PySem.Spec PyProof.Rows L2
section
variable {X : Cx} {e o a b tg iter value : Expr} {es : List Expr} {ta tb te tv : TE} {t : TA} {tgs : TGs} {f x : Str} {pos pos' p tpos : Pos} {n i kk : Nat} {elts : List Expr}
theorem op_eqK (K : PySem.W.Frag) (hu : X.A.units + 64 < cLine) (hK : X.K = K := by rfl) : OpR X (compareOp .Eq) (rEqU K) := by subst hK; exact op_eqU hu
theorem op_neK (K : PySem.W.Frag) (hu : X.A.units + 64 < cLine) (hK : X.K = K := by rfl) : OpR X (compareOp .NotEq) (rNeU K) := by subst hK; exact op_neU hu
theorem op_inK (K : PySem.W.Frag) (hK : X.K = K := by rfl) : OpR X (compareOp .In) (rInU K) := by subst hK; exact op_inU
theorem op_notInK (K : PySem.W.Frag) (hK : X.K = K := by rfl) : OpR X (compareOp .NotIn) (rNotInU K) := by subst hK; exact op_notInU
theorem ix_K (K : PySem.W.Frag) (hK : X.K = K := by rfl) : IxR X (rIx K) := by subst hK; exact ix_seq
theorem c_lenK (K : PySem.W.Frag) (hK : X.K = K := by rfl) : CallR X (.builtin "len") (rLn K) := by subst hK; exact c_len
theorem c_listK (K : PySem.W.Frag) (hK : X.K = K := by rfl) : CallR X (.type "list") (rLs K) := by subst hK; exact c_list
theorem c_tupleK (K : PySem.W.Frag) (hK : X.K = K := by rfl) : CallR X (.type "tuple") (rTu K) := by subst hK; exact c_tuple
theorem c_isiK (K : PySem.W.Frag) (hK : X.K = K := by rfl) : CallR X (.builtin "isinstance") (rIsi K) := by subst hK; exact call_isi
theorem c_isiTK (K : PySem.W.Frag) (hK : X.K = K := by rfl) : CallR X (.builtin "isinstance") (rIsiT K) := by subst hK; exact call_isiT
theorem c_sumK (K : PySem.W.Frag) (hc : X.calm = true) (hK : X.K = K := by rfl) : CallR X (.builtin "sum") (rSum K) := by subst hK; exact cr_sum hc
theorem pe_fldK (K : PySem.W.Frag) (he : PE X e ta) (hb : attributeBase e f X.env (eval e X.env) = eval e X.env := by rfl) (hK : X.K = K := by rfl) : PE X (.Attribute e f pos) (tFld K ta f) := by subst hK; exact pe_fld he hb
theorem ps_fldK (K : PySem.W.Frag) (ha : PE X o ta) (hv : PE X value tv) (hs : swapsWith value (some (.Attribute o f pos')) pos.line X.env = pure false := by rfl) (hK : X.K = K := by rfl) : PS X (.Assign [.Attribute o f pos'] value pos) (sFld K ta tv f) := by subst hK; exact ps_fld ha hv hs
theorem pi_listK (K : PySem.W.Frag) (hl : PE X e te) (hK : X.K = K := by rfl) : PI X tg e (iList K te) := by subst hK; exact pi_list hl
theorem pi_tupK (K : PySem.W.Frag) (hl : PE X e te) (hK : X.K = K := by rfl) : PI X tg e (iTup K te) := by subst hK; exact pi_tup hl
theorem pi_enumK (K : PySem.W.Frag) (hm : X.mg "enumerate" = none) (ha : PA X [e] t) (hK : X.K = K := by rfl) (hg : Gl X "enumerate" := by rfl) (hs : starEach [e] X.env = [(false, eval e X.env)] := by rfl) : PI X (.Tuple elts kk tpos) (.Call (.Name "enumerate" p) [e] [] pos) (iEnum K t) := by subst hK; exact pi_enum hg hm ha hs
theorem pi_enumTK (K : PySem.W.Frag) (hm : X.mg "enumerate" = none) (ha : PA X [e] t) (hK : X.K = K := by rfl) (hg : Gl X "enumerate" := by rfl) (hs : starEach [e] X.env = [(false, eval e X.env)] := by rfl) : PI X (.Tuple elts kk tpos) (.Call (.Name "enumerate" p) [e] [] pos) (iEnumT K t) := by subst hK; exact pi_enumT hg hm ha hs
theorem pg_tupK (K : PySem.W.Frag) (hc : X.calm = true) (h : PGs X es tgs) (hn : (assignEach es X.env).length = n := by rfl) (hst : (assignEach es X.env).findIdx? (·.1) = none := by rfl) (hK : X.K = K := by rfl) : PG X (.Tuple es kk pos) (gTup K n tgs) := by subst hK; exact pg_tup hc h hn hst
theorem pg_starK (K : PySem.W.Frag) (hc : X.calm = true) (h : PGs X es tgs) (hn : (assignEach es X.env).length = n := by rfl) (hst : (assignEach es X.env).findIdx? (·.1) = some i := by rfl) (hK : X.K = K := by rfl) : PG X (.Tuple es kk pos) (gStar K n i tgs) := by subst hK; exact pg_star hc h hn hst
theorem sl_listK (K : PySem.W.Frag) (hK : X.K = K := by rfl) : SlR X (rSlL K) := by subst hK; exact sl_list
theorem sl_tupK (K : PySem.W.Frag) (hK : X.K = K := by rfl) : SlR X (rSlT K) := by subst hK; exact sl_tup
theorem pe_bmK {T : String} {id : String} {r : V → List V → Hp → VK → Prop} {apos : Pos} {ea : Expr} (K : PySem.W.Frag) (pa : PlainAttrs T) (slot : Slot T f id) (hty : typeOf (.builtin id) = pure (.type "method_descriptor")) (hm : MtR X id r) (ho : PE X o ta) (ha : PA X (ea :: es) t) (hK : X.K = K := by rfl)
    (h3 : attributeBase o f X.env (eval o X.env) = eval o X.env := by rfl)
    (h4 : ((backTo pos (starEach (ea :: es) X.env)).all (fun x => !x.1) && (backToKw pos (keywordEach [] X.env)).all (fun x => x.1.isSome) && decide ((ea :: es).length + ([] : List Keyword).length + (if ([] : List Keyword).isEmpty then 0 else 1) < 30)) = true := by rfl)
    (h5 : (apos.endLine == pos.line) = true := by rfl) (h1 : starEach (ea :: es) X.env = (false, eval ea X.env) :: starEach es X.env := by rfl) (h2 : (backTo pos (starEach es X.env)).any (·.1) = false := by rfl) : PE X (.Call (.Attribute o f apos) (ea :: es) [] pos) (tBM K T r ta t) := by
  subst hK
  exact pe_bm pa slot hty hm ho ha h3 h4 h5 h1 h2
theorem pe_bm0K {T : String} {id : String} {r : V → List V → Hp → VK → Prop} {apos : Pos} (K : PySem.W.Frag) (pa : PlainAttrs T) (slot : Slot T f id) (hty : typeOf (.builtin id) = pure (.type "method_descriptor")) (hm : MtR X id r) (ho : PE X o ta) (hK : X.K = K := by rfl)
    (h3 : attributeBase o f X.env (eval o X.env) = eval o X.env := by rfl) (h5 : (apos.endLine == pos.line) = true := by rfl) : PE X (.Call (.Attribute o f apos) [] [] pos) (tBM0 K T r ta) := by
  subst hK
  exact pe_bm0 pa slot hty hm ho h3 h5
end
end Ch
namespace Ch
open PySem PySem.Spec PyProof.Rows L2
section
variable {σ : L2.St} {H : Hp} {v : V} {to ti : TE} {t : V → V → V → Hp → (Hp → Prop) → Prop} {QS : L2.St → Hp → Prop} {QH : Hp → Prop} {p : Addr} {xs : List V} {i : Int} {j : Nat}
theorem x_gSub (k : to σ H fun o H1 => ti σ H1 fun i H2 => t o i v H2 fun H3 => QS σ H3) : gSub to ti t v σ H QS := k
theorem x_setL (h : H p = some (.lst xs)) (e : ixN xs.length i = some j) (k : QH (upd H p (.lst (xs.set j v)))) : rSetL (.ref p) (.int i) v H QH := ⟨p, xs, i, j, rfl, rfl, h, e, k⟩
end
end Ch
namespace Ch
open L2
/-- two ways meet: what holds of every heap like that -/
theorem x_meet {G : Prop} {T : Hp → Prop} (R : Hp → Prop) (h1 : ∀ H, R H → T H) (h2 : (∀ H, R H → T H) → G) : G := h2 h1
end Ch
namespace Ch
open PySem PySem.Spec PyProof.Rows L2
theorem x_par3 {i j l : Nat} {ta : TA} {D : Ends} {σ : L2.St} {H : Hp} (k : ta σ H fun vs H1 => ∃ u v w, vs = [u, v, w] ∧ D.nx (((σ.set i (some u)).set j (some v)).set l (some w)) H1) : tPar3 i j l ta D σ H := k
theorem x_sum {K : PySem.W.Frag} {H : Hp} {Q : VK} {p : Addr} {ns : List Int} (h : SqL K H p (ns.map V.int)) (k : Q (.int ns.sum) H) : rSum K [.ref p] H Q := ⟨p, ns, rfl, h, k⟩
end Ch
namespace Ch
open PySem PySem.Spec PyProof.Rows L2
section
variable {σ : L2.St} {H : Hp} {Q : VK} {g : TG} {tt : TT} {te : TE} {vs : List Nat} {J : It} {n : Nat} {G : Hp → Prop} {Y : Nat → Hp → V → Hp → Prop}
/-- a comprehension by a word about the whole heap -/
theorem x_lcG (w : Walk J n G Y) (Pv : Addr → Nat → Hp → Prop) (h0 : ∀ D, H D = none → Pv D 0 (upd H D (.lst []))) (hG : ∀ D i H1, i ≤ n → Pv D i H1 → G H1)
    (hs : ∀ D i x H1 H', H D = none → i < n → Pv D i H1 → Y i H1 x H' → g x (wipe σ vs) H' fun σ2 H2 => wipe σ2 vs = wipe σ vs ∧ tt σ2 H2 fun b H3 =>
      if b = true then te σ2 H3 fun y H4 => ∃ acc, H4 D = some (.lst acc) ∧ acc.length < sizeLine ∧ Pv D (i + 1) (upd H4 D (.lst (acc ++ [y]))) else Pv D (i + 1) H3)
    (hd : ∀ D H1, H D = none → Pv D n H1 → Q (.ref D) H1) : LcB J g tt te vs σ H Q := fun D hD =>
  lc_it w (Pv D) (h0 D hD) (hG D) (fun i x H1 H' hi p y => hs D i x H1 H' hD hi p y) fun H1 p => hd D H1 hD p
theorem x_meet2 {G : Prop} {T : Addr → Hp → Prop} (R : Addr → Hp → Prop) (h1 : ∀ q H, R q H → T q H) (h2 : (∀ q H, R q H → T q H) → G) : G := h2 h1
theorem x_lstRg {te : L2.St → Hp → (Int → Int → Hp → Prop) → Prop} (k : te σ H fun a b H1 => RgOk a b ∧ ∀ q, H1 q = none → Q (.ref q) (upd H1 q (.lst (rgV a b)))) : tLstRg te σ H Q := k
def rRg1 (x : V) (H : Hp) (R : Int → Int → Hp → Prop) : Prop := ∃ n, x = .int n ∧ R 0 n H
theorem x_rg1 {ta : TE} {R : Int → Int → Hp → Prop} (k : ta σ H fun x H1 => rRg1 x H1 R) : tRg1 ta σ H R := k
theorem x_rg1At {R : Int → Int → Hp → Prop} {n : Int} (k : R 0 n H) : rRg1 (.int n) H R := ⟨n, rfl, k⟩
end
end Ch
namespace Ch
open PySem PySem.Spec PyProof.Rows L2
/-- if c: x = e, what is known of x behind it -/
theorem x_whenSet {c : Prop} [Decidable c] {D : Ends} {σ : L2.St} {H : Hp} {i : Nat} {te : TE} (R : V → Hp → Prop) (v0 : V) (h0 : σ.set i (some v0) = σ) (hF : ¬ c → R v0 H) (hT : c → te σ H R) (mono : ∀ Q : VK, (∀ v H', R v H' → Q v H') → te σ H R → te σ H Q) (h1 : ∀ v H', R v H' → D.nx (σ.set i (some v)) H') :
    if decide c = true then tAsg te (gName i) D σ H else tNext D σ H := by
  by_cases h : c
  · rw [decide_eq_true h]
    exact mono _ h1 (hT h)
  · rw [decide_eq_false h]
    show D.nx σ H
    have g := h1 v0 H (hF h)
    rw [h0] at g
    exact g
/-- the same, e told for any end -/
theorem x_whenSet' {c : Prop} [Decidable c] {D : Ends} {σ : L2.St} {H : Hp} {i : Nat} {te : TE} (R : V → Hp → Prop) (v0 : V) (h0 : σ.set i (some v0) = σ) (hF : ¬ c → R v0 H) (hT : c → ∀ Q : VK, (∀ v H', R v H' → Q v H') → te σ H Q) (h1 : ∀ v H', R v H' → D.nx (σ.set i (some v)) H') :
    if decide c = true then tAsg te (gName i) D σ H else tNext D σ H := by
  by_cases h : c
  · rw [decide_eq_true h]
    exact hT h _ h1
  · rw [decide_eq_false h]
    show D.nx σ H
    have g := h1 v0 H (hF h)
    rw [h0] at g
    exact g
end Ch
namespace Ch
open PySem PySem.Spec PyProof.Rows L2
section
variable {c : TT} {tb : TS} {D : Ends} {σ : L2.St} {H : Hp}
/-- while, a word with a measure -/
theorem x_while (W : Nat → L2.St → Hp → Prop) (m : Nat) (h0 : W m σ H) (hs : ∀ m σ H, W m σ H → c σ H fun b H1 => if b = true then ∃ N : L2.St → Hp → Prop, (∀ σ' H', N σ' H' → ∃ m', m' < m ∧ W m' σ' H') ∧ tb { D with nx := N, ct := N, bk := D.nx } σ H1 else D.nx σ H1) : tWhile c tb D σ H := ⟨W, ⟨m, h0⟩, hs⟩
theorem x_turn {W : Nat → L2.St → Hp → Prop} {m : Nat} (k : tb { D with nx := fun σ' H' => ∃ m', m' < m ∧ W m' σ' H', ct := fun σ' H' => ∃ m', m' < m ∧ W m' σ' H', bk := D.nx } σ H) : ∃ N : L2.St → Hp → Prop, (∀ σ' H', N σ' H' → ∃ m', m' < m ∧ W m' σ' H') ∧ tb { D with nx := N, ct := N, bk := D.nx } σ H := ⟨_, fun _ _ h => h, k⟩
end
end Ch
namespace Ch
open PySem PySem.Spec PyProof.Rows L2
/-- x = e1 if c else e2, what is known of x behind it -/
theorem x_ifSet {b : Bool} {σ : L2.St} {H : Hp} {ta tb : TE} {k : VK} (R : V → Hp → Prop) (hT : b = true → ∀ Q : VK, (∀ v H', R v H' → Q v H') → ta σ H Q) (hF : b = false → ∀ Q : VK, (∀ v H', R v H' → Q v H') → tb σ H Q) (h1 : ∀ v H', R v H' → k v H') :
    if b = true then ta σ H k else tb σ H k := by
  cases b with
  | true => exact hT rfl _ h1
  | false => exact hF rfl _ h1
theorem x_ifSetd {c : Prop} [Decidable c] {σ : L2.St} {H : Hp} {ta tb : TE} {k : VK} (R : V → Hp → Prop) (hT : c → ∀ Q : VK, (∀ v H', R v H' → Q v H') → ta σ H Q) (hF : ¬ c → ∀ Q : VK, (∀ v H', R v H' → Q v H') → tb σ H Q) (h1 : ∀ v H', R v H' → k v H') :
    if decide c = true then ta σ H k else tb σ H k := x_ifSet R (fun e => hT (of_decide_eq_true e)) (fun e => hF (of_decide_eq_false e)) h1
end Ch
namespace Ch
open PySem PySem.Spec PyProof.Rows L2
section
variable {X : Cx} {H : Hp} {Q : VK} {K : PySem.W.Frag} {p : Addr} {ns : List Int}
theorem c_minLK (K : PySem.W.Frag) (hc : X.calm = true) (hK : X.K = K := by rfl) : CallR X (.builtin "min") (rMin K) := by subst hK; exact cr_min hc
theorem c_maxLK (K : PySem.W.Frag) (hc : X.calm = true) (hK : X.K = K := by rfl) : CallR X (.builtin "max") (rMax K) := by subst hK; exact cr_max hc
theorem c_sortedK (K : PySem.W.Frag) (hK : X.K = K := by rfl) : CallR X (.builtin "sorted") (rSorted K) := by subst hK; exact cr_sorted
theorem x_minL (h : SqL K H p (ns.map V.int)) (h0 : 0 < ns.length) (k : ∀ m, m ∈ ns → (∀ y ∈ ns, m ≤ y) → Q (.int m) H) : rMin K [.ref p] H Q := ⟨p, ns, rfl, h, h0, k⟩
theorem x_maxL (h : SqL K H p (ns.map V.int)) (h0 : 0 < ns.length) (k : ∀ m, m ∈ ns → (∀ y ∈ ns, y ≤ m) → Q (.int m) H) : rMax K [.ref p] H Q := ⟨p, ns, rfl, h, h0, k⟩
theorem x_sorted (h : SqL K H p (ns.map V.int)) (h0 : ns.length < 64) (k : ∀ (ms : List Int) (q : Addr), ms.Perm ns → ms.Pairwise (· ≤ ·) → H q = none → Q (.ref q) (upd H q (.lst (ms.map V.int)))) : rSorted K [.ref p] H Q := ⟨p, ns, rfl, h, h0, k⟩
/-- a list of ints made by a range -/
def rgI (f : Int → Int) (n : Nat) : List Int := (List.range n).map fun j => f (j : Nat)
theorem rgI_len {f : Int → Int} {n : Nat} : (rgI f n).length = n := by unfold rgI; rw [List.length_map, List.length_range]
theorem rgI_snoc {f : Int → Int} {n : Nat} : rgI f (n + 1) = rgI f n ++ [f (n : Nat)] := by unfold rgI; rw [List.range_succ, List.map_append]; rfl
theorem rgI_at {f : Int → Int} {n : Nat} {y : Int} (h0 : 0 ≤ y) (h1 : y < n) : atI ((rgI f n).map V.int) y = some (.int (f y)) := by
  have e : y = ((y.toNat : Nat) : Int) := (Int.toNat_of_nonneg h0).symm
  rw [e]
  refine atI_nat ?_
  unfold rgI
  rw [List.getElem?_map, List.getElem?_map, List.getElem?_range (by omega)]
  rfl
theorem rgI_mem {f : Int → Int} {n : Nat} {z : Int} : z ∈ rgI f n ↔ ∃ y : Int, 0 ≤ y ∧ y < n ∧ f y = z := by
  unfold rgI
  constructor
  · intro h
    obtain ⟨j, hj, e⟩ := List.mem_map.mp h
    exact ⟨(j : Nat), by omega, by have := List.mem_range.mp hj; omega, e⟩
  · rintro ⟨y, h0, h1, e⟩
    refine List.mem_map.mpr ⟨y.toNat, List.mem_range.mpr (by omega), ?_⟩
    rw [Int.toNat_of_nonneg h0]
    exact e
end
end Ch

set_option linter.all false
set_option maxRecDepth 100000
set_option maxHeartbeats 4000000
namespace ChM
/-! ### the mirror of plans and effects -/
inductive Stp where
  | turn
  | mt (r : Bool) (n : Int)
  deriving DecidableEq
/-- (side, need) of each step -/
def sides : Int → List Stp → List (Int × Int)
  | _, [] => []
  | s, .turn :: r => (0, 0) :: sides (0 - s) r
  | s, .mt b n :: r => ((if b then s else 0 - s), n) :: sides s r
def fitsS (c : Int) (l : List Stp) : Prop := ∀ b n, Stp.mt b n ∈ l → 0 ≤ n ∧ n ≤ c
def turns : List Stp → Nat
  | [] => 0
  | .turn :: r => turns r + 1
  | .mt _ _ :: r => turns r
def turning (l : List Stp) : Bool := turns l % 2 == 1
structure Eff where
  c : Int
  lo : Int
  hi : Int
  ex : Int
  goal : Option Int
  tu : Bool
def mkE (c lo hi ex : Int) (g : Option Int) (t : Bool) : Eff := ⟨c, lo, hi, ex, if g = none ∧ lo = hi then some lo else g, t⟩
/-- max and min as Python's two-place ones say them -/
def mx (a b : Int) : Int := if b > a then b else a
def mn (a b : Int) : Int := if b < a then b else a
def Eff.atLeast (e : Eff) (n : Int) : Eff := match e.goal with
  | none => if n ≤ e.hi then mkE e.c (mx e.lo n) e.hi 0 none e.tu else mkE e.c e.hi e.hi (n - e.hi) (some n) e.tu
  | some g => if n ≤ g then e else mkE e.c e.lo e.hi (e.ex + n - g) (some n) e.tu
def Eff.mir (e : Eff) : Eff := mkE e.c (e.c - e.hi) (e.c - e.lo) e.ex (e.goal.map fun g => e.c - g) e.tu
def Eff.atMost (e : Eff) (m : Int) : Eff := (e.mir.atLeast (e.c - m)).mir
def Eff.carried (e : Eff) (x : Int) : Int := mx (mx (e.lo - x) (x - e.hi)) 0 + e.ex
def Eff.place (e : Eff) (x : Int) : Int := match e.goal with
  | none => mn (mx x e.lo) e.hi
  | some g => g
def Eff.fin (e : Eff) (x : Int) : Int := if e.tu then e.c - e.place x else e.place x
structure Eff.Ok (e : Eff) : Prop where
  lo0 : 0 ≤ e.lo
  lh : e.lo ≤ e.hi
  hc : e.hi ≤ e.c
  ex0 : 0 ≤ e.ex
  no : e.goal = none → e.ex = 0 ∧ e.lo < e.hi
  yes : ∀ g, e.goal = some g → 0 ≤ g ∧ g ≤ e.c
def nothing (c : Int) : Eff := mkE c 0 c 0 none false
def moved (c x s n : Int) : Int := if s = 1 then mx x n else if s = -1 then mn x (c - n) else x
def effStep (c : Int) (e : Eff) (p : Int × Int) : Eff := if p.1 = 1 then e.atLeast p.2 else if p.1 = -1 then e.atMost (c - p.2) else e
def effFold (c : Int) (l : List (Int × Int)) : Eff := l.foldl (effStep c) (nothing c)
def effOf (c : Int) (l : List Stp) : Eff :=
  let e := effFold c (sides 1 l)
  mkE c e.lo e.hi e.ex e.goal (turning l)
theorem mx_def (a b : Int) : (mx a b = a ∧ b ≤ a) ∨ (mx a b = b ∧ a < b) := by
  unfold mx
  split <;> omega
theorem mn_def (a b : Int) : (mn a b = a ∧ a ≤ b) ∨ (mn a b = b ∧ b < a) := by
  unfold mn
  split <;> omega
theorem mkE_none {c lo hi ex : Int} {t : Bool} (h : lo < hi) : mkE c lo hi ex none t = ⟨c, lo, hi, ex, none, t⟩ := by
  unfold mkE
  rw [if_neg (by omega)]
theorem mkE_eq {c lo ex : Int} {t : Bool} : mkE c lo lo ex none t = ⟨c, lo, lo, ex, some lo, t⟩ := by
  unfold mkE
  rw [if_pos ⟨rfl, rfl⟩]
theorem mkE_some {c lo hi ex g : Int} {t : Bool} : mkE c lo hi ex (some g) t = ⟨c, lo, hi, ex, some g, t⟩ := by
  unfold mkE
  rw [if_neg (by intro h; cases h.1)]
theorem mkE_cases {c lo hi : Int} {t : Bool} (h0 : 0 ≤ lo) (h1 : lo ≤ hi) (h2 : hi ≤ c) :
    (mkE c lo hi 0 none t).Ok ∧ ∀ x, (mkE c lo hi 0 none t).place x = mn (mx x lo) hi := by
  by_cases e : lo = hi
  · subst e
    rw [mkE_eq]
    refine ⟨⟨h0, h1, h2, Int.le_refl 0, (fun z => nomatch z), fun g hg => ?_⟩, fun x => ?_⟩
    · cases hg
      exact ⟨h0, h2⟩
    · show lo = mn (mx x lo) lo
      have := mx_def x lo
      have := mn_def (mx x lo) lo
      omega
  · rw [mkE_none (by omega)]
    exact ⟨⟨h0, h1, h2, Int.le_refl 0, fun _ => ⟨rfl, by show lo < hi; omega⟩, (fun g hg => nomatch hg)⟩, fun x => rfl⟩
theorem Ok_some {c lo hi ex g : Int} {t : Bool} (h0 : 0 ≤ lo) (h1 : lo ≤ hi) (h2 : hi ≤ c) (h3 : 0 ≤ ex) (h4 : 0 ≤ g) (h5 : g ≤ c) : (mkE c lo hi ex (some g) t).Ok := by
  rw [mkE_some]
  exact ⟨h0, h1, h2, h3, (fun z => nomatch z), fun g1 hg => by cases hg; exact ⟨h4, h5⟩⟩
@[simp] theorem mkE_c {c lo hi ex : Int} {g : Option Int} {t : Bool} : (mkE c lo hi ex g t).c = c := rfl
@[simp] theorem mkE_lo {c lo hi ex : Int} {g : Option Int} {t : Bool} : (mkE c lo hi ex g t).lo = lo := rfl
@[simp] theorem mkE_hi {c lo hi ex : Int} {g : Option Int} {t : Bool} : (mkE c lo hi ex g t).hi = hi := rfl
@[simp] theorem mkE_ex {c lo hi ex : Int} {g : Option Int} {t : Bool} : (mkE c lo hi ex g t).ex = ex := rfl
@[simp] theorem mkE_tu {c lo hi ex : Int} {g : Option Int} {t : Bool} : (mkE c lo hi ex g t).tu = t := rfl
theorem place_some {e : Eff} {g x : Int} (h : e.goal = some g) : e.place x = g := by
  unfold Eff.place
  rw [h]
theorem place_none {e : Eff} {x : Int} (h : e.goal = none) : e.place x = mn (mx x e.lo) e.hi := by
  unfold Eff.place
  rw [h]
theorem place_range {e : Eff} (h : e.Ok) {x : Int} (h0 : 0 ≤ x) (h1 : x ≤ e.c) : 0 ≤ e.place x ∧ e.place x ≤ e.c := by
  have a := h.lo0
  have b := h.lh
  have d := h.hc
  cases g : e.goal with
  | none =>
    rw [place_none g]
    have := mx_def x e.lo
    have := mn_def (mx x e.lo) e.hi
    omega
  | some y =>
    rw [place_some g]
    exact h.yes y g
theorem atLeast_ok {e : Eff} (h : e.Ok) {n : Int} (h0 : 0 ≤ n) (h1 : n ≤ e.c) :
    (e.atLeast n).Ok ∧ (e.atLeast n).c = e.c ∧ (e.atLeast n).tu = e.tu ∧ ∀ x, (e.atLeast n).place x = mx (e.place x) n ∧ (e.atLeast n).carried x = e.carried x + (mx (e.place x) n - e.place x) := by
  have a := h.lo0
  have b := h.lh
  have d := h.hc
  cases g : e.goal with
  | none =>
    obtain ⟨z, l⟩ := h.no g
    unfold Eff.atLeast
    rw [g]
    dsimp only
    by_cases q : n ≤ e.hi
    · rw [if_pos q]
      have m := mx_def e.lo n
      obtain ⟨o, p⟩ := mkE_cases (c := e.c) (lo := mx e.lo n) (hi := e.hi) (t := e.tu) (by omega) (by omega) d
      refine ⟨o, rfl, rfl, fun x => ⟨?_, ?_⟩⟩
      · rw [p, place_none g]
        have := mx_def x e.lo
        have := mx_def x (mx e.lo n)
        have := mn_def (mx x (mx e.lo n)) e.hi
        have := mn_def (mx x e.lo) e.hi
        have := mx_def (mn (mx x e.lo) e.hi) n
        omega
      · rw [place_none g]
        unfold Eff.carried
        simp only [mkE_lo, mkE_hi, mkE_ex]
        have := mx_def x e.lo
        have := mn_def (mx x e.lo) e.hi
        have := mx_def (mn (mx x e.lo) e.hi) n
        have := mx_def (mx e.lo n - x) (x - e.hi)
        have := mx_def (mx (mx e.lo n - x) (x - e.hi)) 0
        have := mx_def (e.lo - x) (x - e.hi)
        have := mx_def (mx (e.lo - x) (x - e.hi)) 0
        omega
    · rw [if_neg q]
      refine ⟨Ok_some (by omega) (by omega) d (by omega) h0 h1, rfl, rfl, fun x => ⟨?_, ?_⟩⟩
      · rw [place_none g, mkE_some]
        show n = _
        have := mx_def x e.lo
        have := mn_def (mx x e.lo) e.hi
        have := mx_def (mn (mx x e.lo) e.hi) n
        omega
      · rw [place_none g]
        unfold Eff.carried
        simp only [mkE_lo, mkE_hi, mkE_ex]
        have := mx_def x e.lo
        have := mn_def (mx x e.lo) e.hi
        have := mx_def (mn (mx x e.lo) e.hi) n
        have := mx_def (e.hi - x) (x - e.hi)
        have := mx_def (mx (e.hi - x) (x - e.hi)) 0
        have := mx_def (e.lo - x) (x - e.hi)
        have := mx_def (mx (e.lo - x) (x - e.hi)) 0
        omega
  | some y =>
    obtain ⟨y0, y1⟩ := h.yes y g
    unfold Eff.atLeast
    rw [g]
    dsimp only
    by_cases q : n ≤ y
    · rw [if_pos q]
      refine ⟨h, rfl, rfl, fun x => ?_⟩
      rw [place_some g]
      have := mx_def y n
      omega
    · rw [if_neg q]
      have := h.ex0
      refine ⟨Ok_some a b d (by omega) h0 h1, rfl, rfl, fun x => ⟨?_, ?_⟩⟩
      · rw [place_some g, mkE_some]
        show n = _
        have := mx_def y n
        omega
      · rw [place_some g]
        unfold Eff.carried
        simp only [mkE_lo, mkE_hi, mkE_ex]
        have := mx_def y n
        omega
theorem mir_ok {e : Eff} (h : e.Ok) : e.mir.Ok ∧ e.mir.c = e.c ∧ e.mir.tu = e.tu ∧ ∀ x, e.mir.place x = e.c - e.place (e.c - x) ∧ e.mir.carried x = e.carried (e.c - x) := by
  have a := h.lo0
  have b := h.lh
  have d := h.hc
  have car : ∀ x, e.mir.carried x = e.carried (e.c - x) := fun x => by
    unfold Eff.carried Eff.mir
    simp only [mkE_lo, mkE_hi, mkE_ex]
    have := mx_def (e.c - e.hi - x) (x - (e.c - e.lo))
    have := mx_def (mx (e.c - e.hi - x) (x - (e.c - e.lo))) 0
    have := mx_def (e.lo - (e.c - x)) (e.c - x - e.hi)
    have := mx_def (mx (e.lo - (e.c - x)) (e.c - x - e.hi)) 0
    omega
  cases g : e.goal with
  | none =>
    obtain ⟨z, l⟩ := h.no g
    have em : e.mir = mkE e.c (e.c - e.hi) (e.c - e.lo) 0 none e.tu := by
      unfold Eff.mir
      rw [g, z] <;> rfl
    obtain ⟨o, p⟩ := mkE_cases (c := e.c) (lo := e.c - e.hi) (hi := e.c - e.lo) (t := e.tu) (by omega) (by omega) (by omega)
    refine ⟨by rw [em]; exact o, rfl, rfl, fun x => ⟨?_, car x⟩⟩
    rw [em, p, place_none g]
    have := mx_def x (e.c - e.hi)
    have := mn_def (mx x (e.c - e.hi)) (e.c - e.lo)
    have := mx_def (e.c - x) e.lo
    have := mn_def (mx (e.c - x) e.lo) e.hi
    omega
  | some y =>
    obtain ⟨y0, y1⟩ := h.yes y g
    have em : e.mir = mkE e.c (e.c - e.hi) (e.c - e.lo) e.ex (some (e.c - y)) e.tu := by
      unfold Eff.mir
      rw [g] <;> rfl
    refine ⟨by rw [em]; exact Ok_some (by omega) (by omega) (by omega) h.ex0 (by omega) (by omega), rfl, rfl, fun x => ⟨?_, car x⟩⟩
    rw [em, mkE_some, place_some g] <;> rfl
theorem atMost_ok {e : Eff} (h : e.Ok) {m : Int} (h0 : 0 ≤ m) (h1 : m ≤ e.c) :
    (e.atMost m).Ok ∧ (e.atMost m).c = e.c ∧ (e.atMost m).tu = e.tu ∧ ∀ x, (e.atMost m).place x = mn (e.place x) m ∧ (e.atMost m).carried x = e.carried x + (e.place x - mn (e.place x) m) := by
  obtain ⟨o1, c1, t1, p1⟩ := mir_ok h
  obtain ⟨o2, c2, t2, p2⟩ := atLeast_ok o1 (n := e.c - m) (by omega) (by rw [c1]; omega)
  obtain ⟨o3, c3, t3, p3⟩ := mir_ok o2
  refine ⟨o3, by unfold Eff.atMost; rw [c3, c2, c1], by unfold Eff.atMost; rw [t3, t2, t1], fun x => ?_⟩
  obtain ⟨a3, b3⟩ := p3 x
  rw [c2, c1] at a3 b3
  obtain ⟨a2, b2⟩ := p2 (e.c - x)
  obtain ⟨a1, b1⟩ := p1 (e.c - x)
  have ex : e.c - (e.c - x) = x := by omega
  rw [ex] at a1 b1
  unfold Eff.atMost
  rw [a3, b3, a2, b2, a1, b1]
  have := mx_def (e.c - e.place x) (e.c - m)
  have := mn_def (e.place x) m
  omega
theorem nothing_ok {c : Int} (h : 0 ≤ c) : (nothing c).Ok ∧ ∀ x, 0 ≤ x → x ≤ c → (nothing c).place x = x ∧ (nothing c).carried x = 0 := by
  obtain ⟨o, p⟩ := mkE_cases (c := c) (lo := 0) (hi := c) (t := false) (by omega) h (by omega)
  refine ⟨o, fun x h0 h1 => ⟨?_, ?_⟩⟩
  · show (mkE c 0 c 0 none false).place x = x
    rw [p]
    have := mx_def x 0
    have := mn_def (mx x 0) c
    omega
  · show (mkE c 0 c 0 none false).carried x = 0
    unfold Eff.carried
    simp only [mkE_lo, mkE_hi, mkE_ex]
    have := mx_def (0 - x) (x - c)
    have := mx_def (mx (0 - x) (x - c)) 0
    omega
/-! ### steps one by one -/
def absI (a : Int) : Int := if a < 0 then -a else a
def simP (c : Int) : List (Int × Int) → Int → Int
  | [], x => x
  | p :: r, x => simP c r (moved c x p.1 p.2)
def simC (c : Int) : List (Int × Int) → Int → Int
  | [], _ => 0
  | p :: r, x => absI (moved c x p.1 p.2 - x) + simC c r (moved c x p.1 p.2)
def fits (c : Int) (l : List (Int × Int)) : Prop := ∀ p ∈ l, (p.1 = 1 ∨ p.1 = -1 ∨ p.1 = 0) ∧ 0 ≤ p.2 ∧ p.2 ≤ c
theorem effStep_ok {c : Int} {e : Eff} (h : e.Ok) (hc : e.c = c) {p : Int × Int} (hs : p.1 = 1 ∨ p.1 = -1 ∨ p.1 = 0) (h0 : 0 ≤ p.2) (h1 : p.2 ≤ c) :
    (effStep c e p).Ok ∧ (effStep c e p).c = c ∧ (effStep c e p).tu = e.tu ∧ ∀ x, (effStep c e p).place x = moved c (e.place x) p.1 p.2 ∧
      (effStep c e p).carried x = e.carried x + absI (moved c (e.place x) p.1 p.2 - e.place x) := by
  unfold effStep moved
  rcases hs with s | s | s
  · rw [if_pos s]
    obtain ⟨a, b, d, f⟩ := atLeast_ok h h0 (by omega)
    refine ⟨a, b.trans hc, d, fun x => ?_⟩
    rw [if_pos s, (f x).1, (f x).2]
    refine ⟨rfl, ?_⟩
    unfold absI
    have := mx_def (e.place x) p.2
    split <;> omega
  · rw [if_neg (by omega), if_pos s]
    obtain ⟨a, b, d, f⟩ := atMost_ok h (m := c - p.2) (by omega) (by omega)
    refine ⟨a, b.trans hc, d, fun x => ?_⟩
    rw [if_neg (by omega), if_pos s, (f x).1, (f x).2]
    refine ⟨rfl, ?_⟩
    unfold absI
    have := mn_def (e.place x) (c - p.2)
    split <;> omega
  · rw [if_neg (by omega), if_neg (by omega)]
    refine ⟨h, hc, rfl, fun x => ?_⟩
    rw [if_neg (by omega), if_neg (by omega)]
    refine ⟨rfl, ?_⟩
    unfold absI
    split <;> omega
theorem fold_ok {c : Int} : ∀ (l : List (Int × Int)) (e : Eff), e.Ok → e.c = c → fits c l →
    (l.foldl (effStep c) e).Ok ∧ (l.foldl (effStep c) e).c = c ∧ (l.foldl (effStep c) e).tu = e.tu ∧ ∀ x, (l.foldl (effStep c) e).place x = simP c l (e.place x) ∧ (l.foldl (effStep c) e).carried x = e.carried x + simC c l (e.place x)
  | [], e, h, hc, _ => ⟨h, hc, rfl, fun x => ⟨rfl, by show e.carried x = e.carried x + 0; omega⟩⟩
  | p :: r, e, h, hc, hf => by
    obtain ⟨hs, h0, h1⟩ := hf p List.mem_cons_self
    obtain ⟨a, b, d, f⟩ := effStep_ok h hc hs h0 h1
    obtain ⟨a2, b2, d2, f2⟩ := fold_ok r (effStep c e p) a b fun q hq => hf q (List.mem_cons_of_mem _ hq)
    refine ⟨a2, b2, d2.trans d, fun x => ?_⟩
    rw [List.foldl_cons, (f2 x).1, (f2 x).2, (f x).1, (f x).2]
    refine ⟨rfl, ?_⟩
    show _ = e.carried x + (absI (moved c (e.place x) p.1 p.2 - e.place x) + simC c r (moved c (e.place x) p.1 p.2))
    omega
theorem mkE_self {e : Eff} (h : e.Ok) (t : Bool) : mkE e.c e.lo e.hi e.ex e.goal t = { e with tu := t } := by
  unfold mkE
  cases g : e.goal with
  | none =>
    have := (h.no g).2
    rw [if_neg (by omega)]
  | some y =>
    rw [if_neg (by intro z; cases z.1)]
theorem sides_fits {c : Int} : ∀ (l : List Stp) (s : Int), (s = 1 ∨ s = -1) → 0 ≤ c → fitsS c l → fits c (sides s l)
  | [], _, _, _, _ => fun p hp => nomatch hp
  | .turn :: r, s, hs, h0, h => fun p hp => by
    rcases List.mem_cons.mp hp with e | hp
    · subst e
      exact ⟨.inr (.inr rfl), by show (0 : Int) ≤ 0; omega, h0⟩
    · exact sides_fits r (0 - s) (by omega) h0 (fun b n hm => h b n (List.mem_cons_of_mem _ hm)) p hp
  | .mt b n :: r, s, hs, h0, h => fun p hp => by
    rcases List.mem_cons.mp hp with e | hp
    · subst e
      refine ⟨?_, h b n List.mem_cons_self⟩
      show (if b = true then s else 0 - s) = 1 ∨ (if b = true then s else 0 - s) = -1 ∨ (if b = true then s else 0 - s) = 0
      split <;> omega
    · exact sides_fits r s hs h0 (fun b n hm => h b n (List.mem_cons_of_mem _ hm)) p hp
theorem effOf_ok {c : Int} {l : List Stp} (hc : 0 ≤ c) (hl : fitsS c l) :
    (effOf c l).Ok ∧ (effOf c l).c = c ∧ (effOf c l).tu = turning l ∧ ∀ x, 0 ≤ x → x ≤ c → (effOf c l).place x = simP c (sides 1 l) x ∧ (effOf c l).carried x = simC c (sides 1 l) x := by
  obtain ⟨n0, n1⟩ := nothing_ok hc
  obtain ⟨a, b, d, f⟩ := fold_ok (sides 1 l) (nothing c) n0 rfl (sides_fits l 1 (.inl rfl) hc hl)
  have e : effOf c l = ⟨c, (effFold c (sides 1 l)).lo, (effFold c (sides 1 l)).hi, (effFold c (sides 1 l)).ex, (effFold c (sides 1 l)).goal, turning l⟩ := by
    show mkE c (effFold c (sides 1 l)).lo (effFold c (sides 1 l)).hi (effFold c (sides 1 l)).ex (effFold c (sides 1 l)).goal (turning l) = _
    have h := mkE_self (e := effFold c (sides 1 l)) a (turning l)
    have hb : (effFold c (sides 1 l)).c = c := b
    rw [hb] at h
    exact h
  rw [e]
  have hcc : (effFold c (sides 1 l)).c = c := b
  have hhc : (effFold c (sides 1 l)).hi ≤ c := Int.le_trans a.hc (Int.le_of_eq hcc)
  refine ⟨⟨a.lo0, a.lh, hhc, a.ex0, a.no, fun g hg => ⟨(a.yes g hg).1, Int.le_trans (a.yes g hg).2 (Int.le_of_eq hcc)⟩⟩, rfl, rfl, fun x h0 h1 => ?_⟩
  obtain ⟨p1, p2⟩ := f x
  rw [(n1 x h0 h1).1, (n1 x h0 h1).2] at *
  refine ⟨p1, ?_⟩
  have p2' : (effFold c (sides 1 l)).carried x = 0 + simC c (sides 1 l) x := p2
  show (effFold c (sides 1 l)).carried x = _
  rw [p2']
  omega
end ChM

set_option Elab.async false
set_option linter.all false
set_option autoImplicit false
set_option maxRecDepth 100000
set_option maxHeartbeats 4000000
namespace Ch
open PySem PySem.Spec PyProof.Rows L2 ChM
/-! ### steps, plans -/
def roomS (b : Bool) : Str := if b then "red" else "blue"
def stepV : Stp → List V
  | .turn => [.str "turn"]
  | .mt b n => [.str (roomS b), .int n]
def StepsAt (H : Hp) : List V → List Stp → Prop := Paired fun v s => ∃ p, v = .ref p ∧ H p = some (.tup (stepV s))
theorem pr_len {α β : Type} {R : α → β → Prop} : ∀ {xs : List α} {ys : List β}, Paired R xs ys → xs.length = ys.length
  | _, _, .nil => rfl
  | _, _, .cons _ t => congrArg (· + 1) (pr_len t)
theorem pr_at {α β : Type} {R : α → β → Prop} : ∀ {xs : List α} {ys : List β} {i : Nat} {x : α}, Paired R xs ys → xs[i]? = some x → ∃ y, ys[i]? = some y ∧ R x y
  | _, _, _, _, .nil, e => nomatch e
  | _, _, 0, x, .cons r _, e => ⟨_, rfl, by cases e; exact r⟩
  | _, _, i + 1, x, .cons _ t, e => pr_at (i := i) t e
theorem pr_atR {α β : Type} {R : α → β → Prop} : ∀ {xs : List α} {ys : List β} {i : Nat} {y : β}, Paired R xs ys → ys[i]? = some y → ∃ x, xs[i]? = some x ∧ R x y
  | _, _, _, _, .nil, e => nomatch e
  | _, _, 0, x, .cons r _, e => ⟨_, rfl, by cases e; exact r⟩
  | _, _, i + 1, x, .cons _ t, e => pr_atR (i := i) t e
theorem pr_app {α β : Type} {R : α → β → Prop} : ∀ {xs xs' : List α} {ys ys' : List β}, Paired R xs ys → Paired R xs' ys' → Paired R (xs ++ xs') (ys ++ ys')
  | _, _, _, _, .nil, t => t
  | _, _, _, _, .cons r t, u => .cons r (pr_app t u)
theorem pr_im {α β : Type} {R R' : α → β → Prop} (f : ∀ a b, R a b → R' a b) : ∀ {xs : List α} {ys : List β}, Paired R xs ys → Paired R' xs ys
  | _, _, .nil => .nil
  | _, _, .cons r t => .cons (f _ _ r) (pr_im f t)
theorem pr_take {α β : Type} {R : α → β → Prop} : ∀ (n : Nat) {xs : List α} {ys : List β}, Paired R xs ys → Paired R (xs.take n) (ys.take n)
  | 0, _, _, _ => by rw [List.take_zero, List.take_zero]; exact .nil
  | n + 1, _, _, .nil => .nil
  | n + 1, _, _, .cons r t => .cons r (pr_take n t)
theorem pr_drop {α β : Type} {R : α → β → Prop} : ∀ (n : Nat) {xs : List α} {ys : List β}, Paired R xs ys → Paired R (xs.drop n) (ys.drop n)
  | 0, _, _, t => t
  | n + 1, _, _, .nil => .nil
  | n + 1, _, _, .cons r t => pr_drop n t
theorem pr_snoc {α β : Type} {R : α → β → Prop} {xs : List α} {ys : List β} {x : α} {y : β} (t : Paired R xs ys) (r : R x y) : Paired R (xs ++ [x]) (ys ++ [y]) := pr_app t (.cons r .nil)
theorem StepsAt.mono {H H' : Hp} {vs : List V} {l : List Stp} (e : Same H H') (h : StepsAt H vs l) : StepsAt H' vs l := pr_im (fun _ _ ⟨p, e1, e2⟩ => ⟨p, e1, e p _ e2⟩) h
structure PlanAt (C : Addr) (H : Hp) (p : Addr) (l : List Stp) : Prop where
  ex : ∃ dx t vs, H p = some (.ins C dx [("parts", .ref t)]) ∧ H t = some (.tup vs) ∧ StepsAt H vs l
theorem PlanAt.mono {C : Addr} {H H' : Hp} {p : Addr} {l : List Stp} (e : Same H H') (h : PlanAt C H p l) : PlanAt C H' p l := by
  obtain ⟨dx, t, vs, h1, h2, h3⟩ := h.ex
  exact ⟨dx, t, vs, e _ _ h1, e _ _ h2, h3.mono e⟩
/-- a step that a plan may have -/
def goodS (s : Stp) : Prop := ∀ b n, s = .mt b n → 0 ≤ n ∧ n ≤ 1000000000000000000
def goodP (l : List Stp) : Prop := (∀ s ∈ l, goodS s) ∧ l.length ≤ 60
theorem roomS_cases (b : Bool) : (b = true ∧ roomS b = "red") ∨ (b = false ∧ roomS b = "blue") := by
  cases b
  · exact .inr ⟨rfl, rfl⟩
  · exact .inl ⟨rfl, rfl⟩
/-- (side, need) -/
def pairV (p : Int × Int) : List V := [.int p.1, .int p.2]
def PairsAt (H : Hp) : List V → List (Int × Int) → Prop := Paired fun v s => ∃ p, v = .ref p ∧ H p = some (.tup (pairV s))
theorem PairsAt.mono {H H' : Hp} {vs : List V} {l : List (Int × Int)} (e : Same H H') (h : PairsAt H vs l) : PairsAt H' vs l := pr_im (fun _ _ ⟨p, e1, e2⟩ => ⟨p, e1, e p _ e2⟩) h
/-- a list at r, that is written -/
theorem PairsAt.mono2 {H H' : Hp} {vs : List V} {l : List (Int × Int)} {r : Addr} {xs : List V} {o : HO} (h : PairsAt H vs l) (e : Same H H') (hr : H' r = some (.lst xs)) : PairsAt (upd H' r o) vs l :=
  pr_im (fun _ _ ⟨p, e1, e2⟩ => ⟨p, e1, by rw [upd_ne (ne_of (e p _ e2) hr (by intro z; cases z))]; exact e p _ e2⟩) h
theorem StepsAt.mono2 {H H' : Hp} {vs : List V} {l : List Stp} {r : Addr} {xs : List V} {o : HO} (h : StepsAt H vs l) (e : Same H H') (hr : H' r = some (.lst xs)) : StepsAt (upd H' r o) vs l :=
  pr_im (fun _ _ ⟨p, e1, e2⟩ => ⟨p, e1, by rw [upd_ne (ne_of (e p _ e2) hr (by intro z; cases z))]; exact e p _ e2⟩) h
theorem PlanAt.mono2 {C : Addr} {H H' : Hp} {p r : Addr} {l : List Stp} {xs : List V} {o : HO} (h : PlanAt C H p l) (e : Same H H') (hr : H' r = some (.lst xs)) : PlanAt C (upd H' r o) p l := by
  obtain ⟨dx, t, vs, h1, h2, h3⟩ := h.ex
  exact ⟨dx, t, vs, by rw [upd_ne (ne_of (e p _ h1) hr (by intro z; cases z))]; exact e p _ h1, by rw [upd_ne (ne_of (e t _ h2) hr (by intro z; cases z))]; exact e t _ h2, h3.mono2 e hr⟩
/-! ### effects -/
def goalV : Option Int → V
  | none => .non
  | some g => .int g
def effF (e : Eff) : List (Str × V) := [("chairs", .int e.c), ("low", .int e.lo), ("high", .int e.hi), ("extra", .int e.ex), ("goal", goalV e.goal), ("turned", .bl e.tu)]
def EffAt (C : Addr) (H : Hp) (p : Addr) (e : Eff) : Prop := ∃ dx, H p = some (.ins C dx (effF e))
theorem EffAt.mono {C : Addr} {H H' : Hp} {p : Addr} {e : Eff} (s : Same H H') (h : EffAt C H p e) : EffAt C H' p e := let ⟨dx, q⟩ := h; ⟨dx, s _ _ q⟩
section
variable {H : Hp} {Q : VK} {K : PySem.W.Frag} {C p q : Addr} {e : Eff} {f : Str} {v : V}
theorem x_eff (h : EffAt C H p e) (c : Cls K C) (na : NoAttr K C f) (l : (effF e).lookup f = some v) (k : Q v H) : rFld K f (.ref p) H Q := let ⟨_, q⟩ := h; x_fldAt q c na l k
theorem eff_chairs : (effF e).lookup ("chairs" : Str) = some (.int e.c) := by unfold effF; kernel_rfl
theorem eff_low : (effF e).lookup ("low" : Str) = some (.int e.lo) := by unfold effF; kernel_rfl
theorem eff_high : (effF e).lookup ("high" : Str) = some (.int e.hi) := by unfold effF; kernel_rfl
theorem eff_extra : (effF e).lookup ("extra" : Str) = some (.int e.ex) := by unfold effF; kernel_rfl
theorem eff_goal : (effF e).lookup ("goal" : Str) = some (goalV e.goal) := by unfold effF; kernel_rfl
theorem eff_turned : (effF e).lookup ("turned" : Str) = some (.bl e.tu) := by unfold effF; kernel_rfl
/-- step == ("turn",) -/
def stepD : Stp → PyData
  | .turn => .tuple [.str "turn"]
  | .mt b n => .tuple [.str (roomS b), .int n]
theorem step_dp {s : Stp} (h : H p = some (.tup (stepV s))) : Dp K H (.ref p) (stepD s) := by
  cases s with
  | turn => exact .tup (SqT.of h) (.cons (.str _) .nil)
  | mt b n => exact .tup (SqT.of h) (.cons (.str _) (.cons (.int _) .nil))
theorem eq_turn {s : Stp} (h1 : H p = some (.tup (stepV s))) (h2 : H q = some (.tup [.str "turn"])) (k : Q (.bl (decide (s = .turn))) H) : rEqU K (.ref p) (.ref q) H Q := by
  refine x_eqDp (step_dp h1) (step_dp (s := .turn) h2) ?_ (by decide +kernel) ?_
  · cases s with
    | turn => decide +kernel
    | mt b n => cases b <;> kernel_rfl
  · cases s with
    | turn => exact k
    | mt b n =>
      have ez : PyData.eqv (stepD (.mt b n)) (stepD .turn) = false := by
        show (PyData.eqv (.str (roomS b)) (.str "turn") && false) = false
        rw [Bool.and_false]
      rw [ez]
      exact k
theorem step_len {s : Stp} : (stepV s).length = if s = .turn then 1 else 2 := by
  cases s <;> rfl
end
end Ch
/-! ### the draws' state: a list at st, written in place -/
namespace Ch
open PySem PySem.Spec PyProof.Rows L2 ChM
def SameB (st : Addr) (H H' : Hp) : Prop := ∀ b o, b ≠ st → H b = some o → H' b = some o
theorem SameB.refl (st : Addr) (H : Hp) : SameB st H H := fun _ _ _ h => h
theorem SameB.trans {st : Addr} {H H1 H2 : Hp} (a : SameB st H H1) (b : SameB st H1 H2) : SameB st H H2 := fun c o n h => b c o n (a c o n h)
theorem SameB.of {st : Addr} {H H' : Hp} (s : Same H H') : SameB st H H' := fun c o _ h => s c o h
theorem SameB.upd {st : Addr} {H : Hp} {o : HO} : SameB st H (upd H st o) := fun b u n h => by
  rw [upd_ne n]
  exact h
structure StAt (K : PySem.W.Frag) (H : Hp) (st a : Addr) (ns : List Int) : Prop where
  lst : ∃ pos m r : Int, H st = some (.lst [.ref a, .int pos, .int m, .int r]) ∧ 0 ≤ pos
  scr : ∀ H', SameB st H H' → SqL K H' a (ns.map V.int)
theorem StAt.mono {K : PySem.W.Frag} {H H' : Hp} {st a : Addr} {ns : List Int} (h : StAt K H st a ns) (s : Same H H') : StAt K H' st a ns := by
  obtain ⟨pos, m, r, h1, h2⟩ := h.lst
  exact ⟨⟨pos, m, r, s _ _ h1, h2⟩, fun H2 s2 => h.scr H2 ((SameB.of s).trans s2)⟩
theorem StAt.scr0 {K : PySem.W.Frag} {H : Hp} {st a : Addr} {ns : List Int} (h : StAt K H st a ns) : SqL K H a (ns.map V.int) := h.scr H (SameB.refl _ _)
theorem StAt.put {K : PySem.W.Frag} {H : Hp} {st a : Addr} {ns : List Int} {pos m r : Int} (h : StAt K H st a ns) (h0 : 0 ≤ pos) : StAt K (upd H st (.lst [.ref a, .int pos, .int m, .int r])) st a ns :=
  ⟨⟨pos, m, r, upd_same, h0⟩, fun H' s => h.scr H' (SameB.upd.trans s)⟩
theorem StAt.new {K : PySem.W.Frag} {H : Hp} {st a : Addr} {ns : List Int} {pos m r : Int} (hs : SqL K H a (ns.map V.int)) (hn : H st = none) (h0 : 0 ≤ pos) : StAt K (upd H st (.lst [.ref a, .int pos, .int m, .int r])) st a ns := by
  refine ⟨⟨pos, m, r, upd_same, h0⟩, fun H' s => ?_⟩
  have key : ∀ b o, H b = some o → H' b = some o := fun b o e => by
    have hb : b ≠ st := ne_of_none e hn
    refine s b o hb ?_
    rw [upd_ne hb]
    exact e
  rcases hs with (h | ⟨o, h⟩) | h
  · exact .inl (.inl (key _ _ h))
  · exact .inl (.inr ⟨o, key _ _ h⟩)
  · exact .inr h
/-- not the state: another kind of object, or one that came later -/
theorem StAt.ne {K : PySem.W.Frag} {H : Hp} {st a p : Addr} {ns : List Int} {o : HO} (h : StAt K H st a ns) (hp : H p = some o) (hd : ∀ xs, o ≠ .lst xs) : p ≠ st := by
  obtain ⟨_, _, _, h1, _⟩ := h.lst
  exact ne_of hp h1 (hd _)
theorem StAt.neN {K : PySem.W.Frag} {H : Hp} {st a p : Addr} {ns : List Int} (h : StAt K H st a ns) (hp : H p = none) : p ≠ st := by
  obtain ⟨_, _, _, h1, _⟩ := h.lst
  exact (ne_of_none h1 hp).symm
theorem StepsAt.monoB {K : PySem.W.Frag} {H H' : Hp} {st a : Addr} {ns : List Int} {vs : List V} {l : List Stp} (h : StAt K H st a ns) (s : SameB st H H') (hs : StepsAt H vs l) : StepsAt H' vs l :=
  pr_im (fun _ _ ⟨p, e1, e2⟩ => ⟨p, e1, s p _ (h.ne e2 fun xs z => nomatch z) e2⟩) hs
theorem PlanAt.monoB {K : PySem.W.Frag} {H H' : Hp} {st a C p : Addr} {ns : List Int} {l : List Stp} (h : StAt K H st a ns) (s : SameB st H H') (hp : PlanAt C H p l) : PlanAt C H' p l := by
  obtain ⟨dx, t, vs, h1, h2, h3⟩ := hp.ex
  exact ⟨dx, t, vs, s _ _ (h.ne h1 fun xs z => nomatch z) h1, s _ _ (h.ne h2 fun xs z => nomatch z) h2, StepsAt.monoB h s h3⟩
theorem SameB.free {K : PySem.W.Frag} {H H' : Hp} {st a p : Addr} {ns : List Int} (h : StAt K H' st a ns) (s : SameB st H H') (hp : H' p = none) : H p = none := by
  cases e : H p with
  | none => rfl
  | some o =>
    have := s p o (h.neN hp) e
    rw [hp] at this
    cases this
end Ch
namespace Ch
open PySem PySem.Spec PyProof.Rows L2 ChM
theorem StAt.putD {K : PySem.W.Frag} {H H1 : Hp} {st a D : Addr} {ns : List Int} {o : HO} (S0 : StAt K H st a ns) (S : StAt K H1 st a ns) (hD : H D = none) (sB : SameB st H H1) : StAt K (upd H1 D o) st a ns ∧ SameB st H (upd H1 D o) := by
  have sN : SameB st H (upd H1 D o) := fun b u hb e => by
    rw [upd_ne (ne_of_none e hD)]
    exact sB b u hb e
  obtain ⟨p1, p2, p3, p4, p5⟩ := S.lst
  exact ⟨⟨⟨p1, p2, p3, by rw [upd_ne (S0.neN hD).symm]; exact p4, p5⟩, fun H' s' => S0.scr H' (sN.trans s')⟩, sN⟩
end Ch

set_option Elab.async false
set_option linter.all false
set_option autoImplicit false
set_option maxRecDepth 100000
set_option maxHeartbeats 4000000
namespace ChH
open PySem PySem.Spec PyProof.Rows L2 He
/-! ### the facts of a head: Fa's, further Bools, defs at any address -/
abbrev Fx : Type := PySem.W.Frag → Bool
def obsC (fa : List Fa) (xs : List Fx) (fn : List He5.DefA) (K : PySem.W.Frag) : AlD := ((fa.all fun f => f.ok K) && (xs.all fun x => x K) && fn.all fun d => d.ok K, fn.map fun d => He5.fnA K (d.at_ K))
def SaysC (fa : List Fa) (xs : List Fx) (fn : List He5.DefA) (K : PySem.W.Frag) : Prop := obsC fa xs fn K = He5.valA fn
def obsCG (n : Nat) (fa : List Fa) (xs : List Fx) (fn : List He5.DefA) (g : Addr → Option Obj) : AlD := obsC fa xs fn (frG g (He5.asA g n))
def hookC (n : Nat) (fa : List Fa) (xs : List Fx) (fn : List He5.DefA) : PySem.W.Hook where
  α := AlD
  obs := fun s => obsCG n fa xs fn s.heap.get?
  val := fun _ => He5.valA fn
  says := fun _ h => ∃ K : PySem.W.Frag, K.In h ∧ SaysC fa xs fn K
  of := fun _ _ e => ⟨_, frG_in, e⟩
  keeps := fun _ _ _ ⟨K, hK, c⟩ k => ⟨K, hK.keeps k, c⟩
theorem obsCG_eq {n : Nat} {fa : List Fa} {xs : List Fx} {fn : List He5.DefA} {g : Addr → Option Obj} {s : Shared} (h : ∀ a, g a = s.heap.get? a) : obsCG n fa xs fn g = (hookC n fa xs fn).obs s := by
  rw [show g = s.heap.get? from funext h]
  rfl
def fdOf (K : PySem.W.Frag) (a : Addr) : FuncData := match K.lookup a with
  | some ⟨_, _, .func fd, _⟩ => fd
  | _ => default
section
variable {fa : List Fa} {xs : List Fx} {fn : List He5.DefA} {K : PySem.W.Frag}
theorem says_1 (c : SaysC fa xs fn K) : ((fa.all fun f => f.ok K) && (xs.all fun x => x K) && fn.all fun d => d.ok K) = true := congrArg (fun z : AlD => z.1) c
theorem SaysC.fact (c : SaysC fa xs fn K) (i : Nat) {f : Fa} (h : fa[i]? = some f := by rfl) : f.ok K = true :=
  List.all_eq_true.mp (ba (ba (says_1 c)).1).1 f (List.mem_of_getElem? h)
theorem SaysC.ex (c : SaysC fa xs fn K) (i : Nat) {x : Fx} (h : xs[i]? = some x := by rfl) : x K = true :=
  List.all_eq_true.mp (ba (ba (says_1 c)).1).2 x (List.mem_of_getElem? h)
theorem SaysC.df (c : SaysC fa xs fn K) (i : Nat) {d : He5.DefA} (h : fn[i]? = some d := by rfl) : FunD K d.name d.qual d.params d.body d.scope (d.dvs K) (d.kws K) (d.at_ K) (fdOf K (d.at_ K)) := by
  have e : fn.map (fun d => He5.fnA K (d.at_ K)) = fn.map He5.DefA.val := congrArg (fun z : AlD => z.2) c
  have e2 : (fn.map fun d => He5.fnA K (d.at_ K))[i]? = (fn.map He5.DefA.val)[i]? := by rw [e]
  rw [List.getElem?_map, List.getElem?_map, h] at e2
  obtain ⟨fd, F⟩ := He5.DefA.funD (Option.some.inj e2) (List.all_eq_true.mp (ba (says_1 c)).2 d (List.mem_of_getElem? h))
  have ed : fdOf K (d.at_ K) = fd := by
    obtain ⟨oc, od, dV, kV, doc, pm, an, cdv, ct, osl, e, l, _⟩ := F.ex
    unfold fdOf
    rw [l]
  rw [ed]
  exact F
end
/-! ### a property, a class's constant, a class read -/
def prB (C m : Str) (K : PySem.W.Frag) : Bool := eqO (PySem.W.findIn K (.ref (ga K C)) m) (some (some (.ref (ma K (ga K C) m)))) && (eqO (PySem.W.specialIn K (.ref (ma K (ga K C) m)) "__get__") (some (some (.builtin "property.__get__"))) &&
  (decide (PySem.W.takesIn K (.ref (ma K (ga K C) m)) = some true) && (match PySem.W.recIn K (ma K (ga K C) m) "property" with
    | some (.ref _ :: _) => true
    | _ => false)))
abbrev gp (C m : Str) (K : PySem.W.Frag) : Addr := He5.wf K (ga K C) "property" m
theorem pr_ok {K : PySem.W.Frag} {C m : Str} (h : prB C m K = true) : PropOf K (ga K C) m (ma K (ga K C) m) (gp C m K) := by
  obtain ⟨h1, h⟩ := ba h
  obtain ⟨h2, h⟩ := ba h
  obtain ⟨h3, h4⟩ := ba h
  refine ⟨eqO_ok h1, eqO_ok h2, of_decide_eq_true h3, ?_⟩
  unfold gp He5.wf
  split at h4
  · rename_i f r e
    exact ⟨r, by rw [e]⟩
  · cases h4
def rdB (C : Str) (K : PySem.W.Frag) : Bool := PySem.W.readsIn K (ga K C) (.type "type") && eqO (PySem.W.specialIn K (.ref (ga K C)) "__getattribute__") (some (some (.builtin "type.__getattribute__")))
theorem rd_ok {K : PySem.W.Frag} {C : Str} (h : rdB C K = true) : ClX.CRead K (ga K C) (.type "type") := by
  obtain ⟨h1, h2⟩ := ba h
  exact ⟨h1, eqO_ok h2⟩
def cvB (C f : Str) (v : Dv) (K : PySem.W.Frag) : Bool := match PySem.W.findCls K (.ref (ga K C)) (.type "type") f with
  | some (.val u) => relB (v.v K) u
  | _ => false
theorem cv_ok {K : PySem.W.Frag} {C f : Str} {v : Dv} (h : cvB C f v K = true) : ∃ u, ClX.CVal K (ga K C) (.type "type") f (v.v K) u := by
  unfold cvB at h
  split at h
  · rename_i u e
    exact ⟨u, e, relB_ok h⟩
  · cases h
/-- a def's function object is that of its def (a class's method, by name) -/
def keB (C : Str) (K : PySem.W.Frag) : Bool := PySem.W.keepIn K (.ref (ga K C))
end ChH
/-! ### a classmethod -/
namespace ChH
open PySem PySem.Spec PyProof.Rows L2 He
abbrev gc (C m : Str) (K : PySem.W.Frag) : Addr := He5.wf K (ga K C) "classmethod" m
def cmB (C m : Str) (K : PySem.W.Frag) : Bool := (match PySem.W.findCls K (.ref (ga K C)) (.type "type") m with
  | some (.get (.builtin b) (.ref p) .none (.ref c)) => decide (b = "classmethod.__get__") && (decide (p = ma K (ga K C) m) && decide (c = ga K C))
  | _ => false) && ((match PySem.W.recIn K (ma K (ga K C) m) "classmethod" with
    | some (.ref _ :: _) => true
    | _ => false) && PySem.W.fnIn K (gc C m K))
theorem cm_ok {K : PySem.W.Frag} {C m : Str} (h : cmB C m K = true) : ClX.CMet K (ga K C) (.type "type") m (ma K (ga K C) m) (gc C m K) := by
  obtain ⟨h1, h⟩ := ba h
  obtain ⟨h2, h3⟩ := ba h
  refine ⟨?_, ?_, h3⟩
  · split at h1
    · rename_i b p c e
      obtain ⟨a1, h1⟩ := ba h1
      obtain ⟨a2, a3⟩ := ba h1
      rw [e, of_decide_eq_true a1, of_decide_eq_true a2, of_decide_eq_true a3]
    · cases h1
  · unfold gc He5.wf
    split at h2
    · rename_i f r e
      exact ⟨r, by rw [e]⟩
    · cases h2
end ChH
/-! ### a tuple of texts that stands in the written part -/
namespace ChH
open PySem PySem.Spec PyProof.Rows L2 He
def strOf : Value → Option Str
  | .str z _ => some z
  | _ => none
def tpsB (x : Str) (ys : List Str) (K : PySem.W.Frag) : Bool := match K.lookup (ga K x) with
  | some ⟨c, _, .seq its _, _⟩ => decide (c = .type "tuple") && decide (its.toList.map strOf = ys.map some)
  | _ => false
theorem vals_strs : ∀ {us : List Value} {ys : List Str}, us.map strOf = ys.map some → Vals (ys.map V.str) us
  | [], [], _ => .nil
  | u :: us, y :: ys, h => by
    injection h with h1 h2
    cases u with
    | str z t => cases h1; exact .cons ⟨t, rfl⟩ (vals_strs h2)
    | _ => cases h1
  | [], y :: ys, h => by cases h
  | u :: us, [], h => by cases h
theorem tps_ok {x : Str} {ys : List Str} {K : PySem.W.Frag} (hl : ys.length ≤ 1000) (h : tpsB x ys K = true) : ∀ H, SqT K H (ga K x) (ys.map V.str) := by
  unfold tpsB at h
  split at h
  · rename_i c dd its n sl el
    obtain ⟨h1, h2⟩ := ba h
    have v := vals_strs (of_decide_eq_true h2)
    intro H
    refine .inr ⟨_, its, n, el, of_decide_eq_true h1, rfl, ?_, v⟩
    have := v.length
    rw [List.length_map] at this
    have hs := sizeLine_eq
    have : its.size = its.toList.length := by simp
    omega
  · cases h
end ChH

set_option Elab.async false
set_option linter.all false
set_option maxRecDepth 100000
set_option maxHeartbeats 4000000
/-! ### an own exception class called with keywords: its __new__ takes no notice of them -/
namespace ChZ
open PySem PySem.W PySem.Calls PyProof.Rows PySem.HandSPX
section
variable {M : Model} {prog : Program} {w : World} {A : Around} {E : Value → Shared → Prop} {R : Result → Shared → Prop} {h : Heap} {g : Array GenState} {d : Drawn} {t : Nat} {os : OsState}
variable {nm q : Str} {C N : Addr} {bs bm bmB : List Value} {hdct : Bool} {sn : List Str} {sub : List Value} {ab : Bool} {col : Option Bool} {dd : Option Addr} {k0 k1 k2 k3 k5 : Option Value} {B newId initId : String} {kw : List (Str × Value)}
theorem newcheck_kw (F : ExcBaseFacts B newId initId bmB) (hT : ∀ X : String, bm.contains (.type X) = bmB.contains (.type X)) {Q : Unit → Shared → Prop}
    (hC : h.get? C = some (excClassObj nm q C N bs bm hdct sn sub ab col dd k0 k1 k2 k3 k5 newId)) (hq : Q () ⟨h, g, d, t, os⟩) :
    wpAny M A (checkBuiltinCall newId ⟨[.ref C], kw⟩) Q E ⟨h, g, d, t, os⟩ := by
  have inB : (Value.ref C :: bm).contains (.type B) = true := by
    rw [List.contains_cons, hT, F.hasB, Bool.or_true]
  have ns := F.noStar
  simp only [checkBuiltinCall, F.newKind,
    F.newSplit, F.newRow]
  repeat (first
    | refine wpAny_loadPart_at hC ?_
    | (refine wpAny_isSubtype_exc hC ?_; rw [inB])
    | refine wpAny_staticBase_exc hC ?_
    | refine wpAny_madeBy_exc hC ?_
    | simp only [bne_self_eq_false, Bool.false_eq_true, if_false]
    | wp_step)
  exact hq
theorem new_kw (F : ExcBaseFacts B newId initId bmB) (hT : ∀ X : String, bm.contains (.type X) = bmB.contains (.type X))
    (hC : h.get? C = some (excClassObj nm q C N bs bm hdct sn sub ab col dd k0 k1 k2 k3 k5 newId))
    (hq : R (.ok (.ret (.ref (h.objs.size + 1)))) ⟨(h.push (kdv_tup [])).push (excO C h.objs.size), g, d, t, os⟩) :
    codeAny (model prog w) A (.builtin newId ⟨[.ref C], kw⟩) R ⟨h, g, d, t, os⟩ := by
  have he := F.ends
  have inB : (Value.ref C :: bm).contains (.type B) = true := by
    rw [List.contains_cons, hT, F.hasB, Bool.or_true]
  have inA : (Value.ref C :: bm).contains (.type "AttributeError") = false := by
    rw [List.contains_cons, hT, F.noAttr]
    rfl
  have inN : (Value.ref C :: bm).contains (.type "NameError") = false := by
    rw [List.contains_cons, hT, F.noName]
    rfl
  refine codeAny_builtinAt F.entry ?_
  unfold Builtin.«BaseException.__new__»
  refine PySem.wpAt_bind ?_
  show PySem.wpAt _ _ _ (stack >>= _) _ _ _
  refine PySem.wpAt_bind (PySem.wpAt_stack fun p below => PySem.wpAt_of_wpAny ?_)
  wp_walk
  refine PySem.wpAt_of_wpAny ?_
  rw [F.owner]
  repeat (first
    | with_reducible refine wpAny_madeHere_exc F.canon hC ?_
    | with_reducible refine wpAny_loadPart_at hC ?_
    | (with_reducible refine wpAny_isSubtype_exc hC ?_
       first
       | rw [inB]
       | rw [inA]
       | rw [inN])
    | wp_step)
  show R _ _
  rw [Heap.size_push]
  exact hq
theorem tcall_kw (F : ExcBaseFacts B newId initId bmB) (hT : ∀ X : String, bm.contains (.type X) = bmB.contains (.type X)) {fI : Addr} {Q : Fin → Shared → Prop}
    (hC : h.get? C = some (excClassObj nm q C N bs bm hdct sn sub ab col dd k0 k1 k2 k3 k5 newId))
    (hi : Looks (model prog w) h (typeLookup (.ref C) "__init__") (some (.ref fI))) (hb : ∀ self, Looks (model prog w) h (bindSpecial (.ref fI) self) (.ref fI, [self]))
    (hq : codeAny (model prog w) A (.call (.ref fI) ⟨[.ref (h.objs.size + 1)], kw⟩)
      (fun r s' => match r with
        | .ok (.ret v) => v = .none ∧ Q (.done (.ret (.ref (h.objs.size + 1)))) s'
        | .ok _ => False
        | .error e => E e s')
      ⟨(h.push (kdv_tup [])).push (excO C h.objs.size), g, d, t, os⟩) :
    wpAny (model prog w) A (Builtin.«type.__call__» ⟨[.ref C], kw⟩) Q E ⟨h, g, d, t, os⟩ := by
  repeat (first
    | with_reducible refine wpAny_loadPart_at hC ?_
    | with_reducible refine wpAny_madeBy_exc hC ?_
    | wp_step)
  refine codeAny_call_builtin_code (Code.quiet_builtin _ F.quiet) (newcheck_kw F hT hC ?_)
  refine new_kw F hT hC ?_
  show wpAny _ _ _ _ _ _
  have kk : ∀ b o, h.get? b = some o → ((h.push (kdv_tup [])).push (excO C h.objs.size)).get? b = some o := fun b o e => Heap.get?_push_of_some _ (Heap.get?_push_of_some _ e)
  have hC2 := kk _ _ hC
  have hg2 : ((h.push (kdv_tup [])).push (excO C h.objs.size)).get? (h.objs.size + 1) = some (excO C h.objs.size) := by heap_get
  have inC : (Value.ref C :: bm).contains (.ref C) = true := by simp
  have j1 := hi.keeps kk
  have j2 := (hb (.ref (h.objs.size + 1))).keeps kk
  unfold isInstance
  repeat (first
    | with_reducible refine wpAny_loadPart_at hg2 ?_
    | (with_reducible refine wpAny_isSubtype_exc hC2 ?_
       rw [inC])
    | wp_step)
  show wpAny _ _ (typeLookup (.ref C) _) _ _ _
  refine j1.at ?_
  refine wpAny_holding (wpAny_bind (j2.at ?_))
  refine wpAny_bind (wpAny_call (codeAny_mono hq fun r s' z => ?_))
  rcases r with e | (v | _ | _ | _)
  · exact z
  · exact z.elim
  · exact z.elim
  · exact z.elim
  · obtain ⟨rfl, z⟩ := z
    first
    | exact wpAny_pure (wpAny_pure z)
    | (wp_walk; exact z)
theorem call_kw (F : ExcBaseFacts B newId initId bmB) (hT : ∀ X : String, bm.contains (.type X) = bmB.contains (.type X)) {fI : Addr}
    (hC : h.get? C = some (excClassObj nm q C N bs bm hdct sn sub ab col dd k0 k1 k2 k3 k5 newId))
    (hi : Looks (model prog w) h (typeLookup (.ref C) "__init__") (some (.ref fI))) (hb : ∀ self, Looks (model prog w) h (bindSpecial (.ref fI) self) (.ref fI, [self]))
    (hq : codeAny (model prog w) (A.under (.builtin "type.__call__" ⟨[.ref C], kw⟩)) (.call (.ref fI) ⟨[.ref (h.objs.size + 1)], kw⟩) (InitBack (h.objs.size + 1) R)
      ⟨(h.push (kdv_tup [])).push (excO C h.objs.size), g, d, t, os⟩) :
    codeAny (model prog w) A (.call (.ref C) ⟨[], kw⟩) R ⟨h, g, d, t, os⟩ := by
  have f1 := tc_lookup
  have f2 := tc_bind (.ref C)
  have ty : (⟨h, g, d, t, os⟩ : Shared).TypeIs (.ref C) "type" := ⟨_, hC, rfl⟩
  refine codeAny_of_tree ?_
  show wpAny _ _ (callAny (.ref C) _) _ _ _
  repeat (any_goals (first
    | assumption
    | with_reducible refine wpAny_loadPart_at hC ?_
    | wp_step))
  refine ⟨rfl, ?_⟩
  refine codeAny_call_builtin_at (Code.quiet_builtin _ (by decide +kernel)) entry_typeCall (wpAny_check_type_call_sub hC (tcall_kw F hT hC hi hb ?_))
  refine codeAny_mono hq fun r s' z => ?_
  rcases r with e | (v | _ | _ | _) <;> exact z
end
end ChZ
/-! ### raise C(f = e), C's __init__(self, *, f) calling an own base's __init__ -/
namespace Ch
open PySem PySem.Spec PyProof.Rows L2
/-- what __init__(self, *, f) keeps -/
def spXI (f : Str) (C : Addr) : Sp := fun vs H Q _ => ∃ (a : Addr) (v : V), vs = [.ref a, v] ∧ H a = some (exo a C none) ∧
  ∀ d, H d = none → d ≠ a → Q .non (upd (upd H d (exd d [(f, v)])) a (exo a C (some d)))
def tRx (C : Addr) (f : Str) (tk : TA) : L2.St → Hp → XK → Prop := fun σ H Q => tk σ H fun zs H1 => ∃ v, zs = [v] ∧ ∀ d, H1 d = none → Q (.ref C) (some d) (upd H1 d (.xd [(f, v)]))
theorem left_xd {H : Hp} {a C d : Addr} {f : Str} {v : V} (ha : H a = none) (hda : d ≠ a) :
    upd (L2.del (upd (upd (upd H a (exo a C none)) d (exd d [(f, v)])) a (exo a C (some d))) a) d (.xd [(f, v)]) = upd H d (.xd [(f, v)]) := by
  funext b
  by_cases h1 : b = d
  · rw [h1, upd_same, upd_same]
  · rw [upd_ne h1, upd_ne h1]
    by_cases h2 : b = a
    · rw [h2, del_same, ha]
    · rw [del_ne h2, upd_ne h2, upd_ne h1, upd_ne h2]
theorem pmk_kw {X : Cx} {CX : CXT} {x f : Str} {C fI : Addr} {k : Nat} {fd : FuncData} {kws : List Keyword} {tk : TA} {p pos : Pos} (T : OexC X.K C) (iC : PySem.W.findIn X.K (.ref C) "__init__" = some (some (.ref fI)))
    (tI : PySem.W.typeIn X.K (.ref fI) = some (.type "function")) (F1 : FnOk X.prog X.w X.K X.mg X.base CX k fI fd ["self", f] (spXI f C)) (hr : Room (k + 1) X.A)
    (hb : ∀ (s : Shared) (u v : Value), BindsTo s fd ⟨[u], [(f, v)]⟩ [("self", u), (f, v)]) (hx : Passes CX X (fun _ _ _ => False)) (hg : Gl X x) (hm : X.mg x = some (.ref C)) (hkw : PK X kws tk)
    (hall : (backToKw pos (keywordEach kws X.env)).all (·.1.isSome) = true := by rfl) (hks : (backToKw pos (keywordEach kws X.env)).filterMap (·.1) = [f] := by rfl) (hdb : (x == ("__debug__" : Str)) = false := by decide)
    (hpl : ((backTo pos (starEach [] X.env)).any (·.1) || (backToKw pos (keywordEach kws X.env)).any (·.1.isNone)) = false := by rfl) : PMk X (.Call (.Name x p) [] kws pos) (tRx C f tk) := by
  intro pins s σ H Q I h
  obtain ⟨nm, q, N, bs, bm, sn, sub, ab, col, dd, k0, k1, k2, k3, k5, hC, hbm⟩ := T.cls
  refine wpAny_Call_Name_kw (ld_glob I hg hm ?_ hdb)
  refine PySem.W.callWith_KW0 (h₀ := X.base) I.ok.mod.kin T.kC hall ?_ hpl
  refine thn (hkw.run pos pins s σ H _ I h) fun ws s2 ⟨zs, H1, I1, rz, v, ez, hq⟩ => ⟨I1.kIn, ?_⟩
  rw [hks]
  subst ez
  cases rz with
  | @cons _ u _ ur ru rn =>
    cases rn
    show wpAny _ _ (call (.ref C) [] [(f, u)]) _ _ _
    obtain ⟨hp, g, dr, tk', os⟩ := s2
    have hsz : hp.objs.size ≤ hp.objs.size + 1 := Nat.le_succ _
    have hn : H1 (hp.objs.size + 1) = none := I1.hok.fresh hsz
    have kk : ∀ b o, hp.get? b = some o → ((hp.push (PySem.W.kdv_tup [])).push (PySem.HandSPX.excO C hp.objs.size)).get? b = some o := fun b o e => Heap.get?_push_of_some _ (Heap.get?_push_of_some _ e)
    have hget : ((hp.push (PySem.W.kdv_tup [])).push (PySem.HandSPX.excO C hp.objs.size)).get? (hp.objs.size + 1) = some (PySem.HandSPX.excO C hp.objs.size) := by heap_get
    have I2 : Inv X pins σ (upd H1 (hp.objs.size + 1) (exo (hp.objs.size + 1) C none)) ⟨(hp.push (PySem.W.kdv_tup [])).push (PySem.HandSPX.excO C hp.objs.size), g, dr, tk', os⟩ :=
      I1.laid (t' := tk') (a := hp.objs.size + 1) (o := exo (hp.objs.size + 1) C none) (h' := (hp.push (PySem.W.kdv_tup [])).push (PySem.HandSPX.excO C hp.objs.size)) kk hsz (exo_ok hget)
    have r2 : Vals [V.ref (hp.objs.size + 1), v] [Value.ref (hp.objs.size + 1), u] := .cons rfl (.cons ru .nil)
    have hsp : spXI f C [V.ref (hp.objs.size + 1), v] (upd H1 (hp.objs.size + 1) (exo (hp.objs.size + 1) C none))
        (fun w H2 => w = .non ∧ ∃ d, H1 d = none ∧ d ≠ hp.objs.size + 1 ∧ H2 = upd (upd (upd H1 (hp.objs.size + 1) (exo (hp.objs.size + 1) C none)) d (exd d [(f, v)])) (hp.objs.size + 1) (exo (hp.objs.size + 1) C (some d))) (fun _ _ _ => False) :=
      ⟨_, v, rfl, upd_same, fun d hd hne => ⟨rfl, d, by rw [upd_ne hne] at hd; exact hd, hne, rfl⟩⟩
    refine wpAny_call (ChZ.call_kw PySem.F.excBase_ValueError (fun Y => PySem.HandSPX.refsVE_contains Y bm hbm) (I1.kIn _ _ hC) (PySem.W.looks_findIn I1.kIn iC) (fun self => PySem.W.bind_fn I1.kIn self tI)
      (codeAny_mono (F1.run _ X.stack _ _ ⟨[Value.ref (hp.objs.size + 1)], [(f, u)]⟩ [Value.ref (hp.objs.size + 1), u] _ _ (fun _ _ _ => False) (hr.make C [] [(f, u)]) (I2.env0.make C [] [(f, u)]) (hb _ _ _) r2 hsp) fun r s' hq' => ?_))
    cases r with
    | error er => exact hx pins σ _ _ er s' I2 hq'
    | ok fl =>
      cases fl with
      | ret u' =>
        obtain ⟨w, H2, os2, bare2, un2, hok2, rv, ev, d, hd1, hda, eH⟩ := hq'
        subst ev
        have q2 := hq d hd1
        rw [← left_xd (C := C) hn hda, ← eH] at q2
        have ea : H2 (hp.objs.size + 1) = some (exo (hp.objs.size + 1) C (some d)) := by rw [eH, upd_same]
        have ed : H2 d = some (exd d [(f, v)]) := by rw [eH, upd_ne hda, upd_same]
        obtain ⟨h2, g2, d2, t2, os'⟩ := s'
        exact ⟨rv, mk_end (raises_own T.exC T.tyC) I1 hsz kk un2 hok2 os2 bare2 ea ed hd1 q2⟩
      | next => exact False.elim hq'
      | brk => exact False.elim hq'
      | cont => exact False.elim hq'
/-- B.__init__(self, ..), B an own class that takes ValueError's -/
theorem pe_cinit {X : Cx} {x : Str} {B : Addr} {e : Expr} {es : List Expr} {ta : TA} {p1 p2 pos : Pos} {pl : Sem Bool} (hg : Gl X x) (hm : X.mg x = some (.ref B)) (r : ClX.CRead X.K B (.type "type"))
    (vB : PySem.W.findCls X.K (.ref B) (.type "type") "__init__" = some (.val (.builtin "ValueError.__init__"))) (ha : PA X (e :: es) ta) (hdb : (x == ("__debug__" : Str)) = false := by decide)
    (hc : eval (.Call (.Attribute (.Name x p1) "__init__" p2) (e :: es) [] pos) X.env = (do
      let ov ← eval (.Name x p1) X.env
      standAt p2.atName
      let (f, first) ← holding [ov] (getMethod ov "__init__" pl)
      callWith pos f first (backTo pos (starEach (e :: es) X.env)) (backToKw pos (keywordEach [] X.env))) := by rfl)
    (he : starEach (e :: es) X.env = (false, eval e X.env) :: starEach es X.env := by rfl) (hpl : (backTo pos (starEach es X.env)).any (·.1) = false := by rfl) :
    PE X (.Call (.Attribute (.Name x p1) "__init__" p2) (e :: es) [] pos) (tVeI X.K ta) := by
  refine ⟨fun pins s σ H Q I h => ?_⟩
  refine PySem.W.methodCall_KW (ld_glob I hg hm ?_ hdb) hc
  refine PySem.W.method_cls I.kIn r.ga (PySem.W.cls_value I.kIn r.rd vB (by rfl) ?_)
  show wpAny _ _ (callWith pos (Value.builtin "ValueError.__init__") [] (backTo pos (starEach (e :: es) X.env)) []) _ _ _
  refine PyProof.Rows.callWith_method1 (thn (ha.run pos pins _ σ H _ (I.tok _) h) fun us s1 ⟨vs, H1, I1, r1, a, C, ws, ev, hl, T, ea, q⟩ => ?_) he hpl
  subst ev
  cases r1 with
  | @cons _ u0 _ ur ra rw' =>
    obtain rfl : u0 = Value.ref a := ra
    have hlen : ur.length ≤ sizeLine := by
      rw [← Paired.length rw', sizeLine_eq]
      omega
    exact oinit_ok T I1 ea hlen fun s' J => ⟨.non, H1, J, rfl, q⟩
end Ch
/-! ### what the head tells of such a class -/
namespace ChH
open PySem PySem.Spec PyProof.Rows L2 He
def oexB (x : Str) (K : PySem.W.Frag) : Bool := (match K.lookup (ga K x) with
  | some ⟨.type "type", _, .cls cd, sl⟩ => (match cd.mro, sl.toList with
    | .ref C' :: bm, [_, _, _, _, some (.builtin n), _] => decide (C' = ga K x) && (decide (n = "ValueError.__new__") && (!cd.hasDel && (cd.hasDict && PySem.HandSPX.refsVE bm)))
    | _, _ => false)
  | _ => false) && (eqO (PySem.W.findIn K (.ref (ga K x)) "__setattr__") (some (some (.builtin "object.__setattr__"))) && (decide (PySem.W.subIn K (.ref (ga K x)) (.type "BaseException") = some true) &&
    (decide (PySem.W.typeIn K (.ref (ga K x)) = some (.type "type")) && (PySem.W.keepIn K (.ref (ga K x)) && (eqO (PySem.W.findIn K (.ref (ga K x)) "__init__") (some (some (.ref (ma K (ga K x) "__init__")))) &&
      decide (PySem.W.typeIn K (.ref (ma K (ga K x) "__init__")) = some (.type "function")))))))
structure Oex (K : PySem.W.Frag) (x : Str) : Prop where
  T : OexC K (ga K x)
  iC : PySem.W.findIn K (.ref (ga K x)) "__init__" = some (some (.ref (ma K (ga K x) "__init__")))
  tI : PySem.W.typeIn K (.ref (ma K (ga K x) "__init__")) = some (.type "function")
theorem oex_ok {K : PySem.W.Frag} {x : Str} (h : oexB x K = true) : Oex K x := by
  obtain ⟨h1, h⟩ := ba h
  obtain ⟨h2, h⟩ := ba h
  obtain ⟨h3, h⟩ := ba h
  obtain ⟨h4, h⟩ := ba h
  obtain ⟨h5, h⟩ := ba h
  obtain ⟨h6, h7⟩ := ba h
  refine ⟨⟨?_, eqO_ok h2, of_decide_eq_true h3, of_decide_eq_true h4, h5⟩, eqO_ok h6, of_decide_eq_true h7⟩
  split at h1
  · rename_i dd cd sl ho
    split at h1
    · rename_i C' bm k0 k1 k2 k3 n k5 hmr hs
      obtain ⟨a1, h1⟩ := ba h1
      obtain ⟨a2, h1⟩ := ba h1
      obtain ⟨a3, h1⟩ := ba h1
      obtain ⟨a4, a5⟩ := ba h1
      have a1 := of_decide_eq_true a1
      have a2 := of_decide_eq_true a2
      subst a1 a2
      obtain ⟨nm, bs, mro, ns, qn, hd, sn, sub, ab, col, del⟩ := cd
      dsimp only at hmr a3 a4
      have a3 : del = false := by cases del <;> first | rfl | exact absurd a3 (by decide)
      subst hmr a3 a4
      have hsl : sl = #[k0, k1, k2, k3, some (.builtin "ValueError.__new__"), k5] := by
        obtain ⟨l⟩ := sl
        simp only at hs
        rw [hs]
      subst hsl
      exact ⟨nm, qn, ns, bs, bm, sn, sub, ab, col, dd, k0, k1, k2, k3, k5, ho, a5⟩
    · cases h1
  · cases h1
def viB (x : Str) (K : PySem.W.Frag) : Bool := match PySem.W.findCls K (.ref (ga K x)) (.type "type") "__init__" with
  | some (.val (.builtin n)) => decide (n = "ValueError.__init__")
  | _ => false
theorem vi_ok {K : PySem.W.Frag} {x : Str} (h : viB x K = true) : PySem.W.findCls K (.ref (ga K x)) (.type "type") "__init__" = some (.val (.builtin "ValueError.__init__")) := by
  unfold viB at h
  split at h
  · rename_i n e
    rw [e, of_decide_eq_true h]
  · cases h
end ChH

set_option Elab.async false
set_option linter.all false
set_option autoImplicit false
set_option maxRecDepth 100000
set_option maxHeartbeats 4000000
/-! ### a def whose code object is told; its table of code objects -/
namespace Ch
open PySem PySem.Spec PyProof.Rows L2 LamX ChM
section
variable {P : Program} {w : World} {K : PySem.W.Frag} {mg : Str → Option Value} {base : Heap} {x qual : Str} {params : Arguments} {body : List Stmt} {scope : Scope} {kws : List (Str × V)} {f : Addr} {fd : FuncData}
theorem fnok_code {CX : CXT} {N ps : List Str} {k : Nat} {sp : Sp} (F : FunD K x qual params body scope [] kws f fd) (S : FnScope N ps scope) (len : ∀ vs H Q E, sp vs H Q E → vs.length = ps.length)
    (body_ok : ∀ (cdv : Value) (A : Around) (outer : List Env) (s : Shared) (H : Hp) (vs : List V) (Q : VK) (E : XK), fd.code = cdv → Room k (A.deeper (envOfC qual scope s.heap.objs.size f cdv)) → sp vs H Q E →
      ∃ t, PSs (cxOf CX P w K mg base N qual scope f cdv A outer s H E) body t ∧ t { nx := fun _ H' => Q .non H', rt := Q } (start N vs) H) : FnOk P w K mg base CX (k + 1) f fd ps sp := by
  obtain ⟨oc, od, dV, kV, doc, pm, an, cdv, ct, osl, rfl, lk, hcd, _, _⟩ := F.ex
  exact fn_of lk hcd S len fun A outer s H vs Q E hr hsp => body_ok cdv A outer s H vs Q E rfl hr hsp
/-- keyword-only parameter k, given -/
theorem kbind1 {k : Str} (F : FunD K x qual params body scope [] [] f fd) (h : ∀ (kV doc pm : Value) (an : Option Addr) (cdv ct u v : Value), bindArgs (PySem.W.fnOf x qual params body scope .none kV doc pm an cdv ct) ⟨[u], [(k, v)]⟩ = pure [(("self" : Str), u), (k, v)]) :
    ∀ (s : Shared) (u v : Value), BindsTo s fd ⟨[u], [(k, v)]⟩ [("self", u), (k, v)] := by
  obtain ⟨oc, od, dV, kV, doc, pm, an, cdv, ct, osl, rfl, lk, hcd, hD, _⟩ := F.ex
  rcases hD with ⟨_, rfl⟩ | ⟨ne, _⟩
  · exact fun s u v => BindsTo.of_eq (h kV doc pm an cdv ct u v)
  · exact absurd rfl ne
/-- x(lambda: body) -/
theorem pe_lamF {X : Cx} {T : List (Addr × Str)} {TT : (XK → Hp → VK → Prop) → Hp → VK → Prop} {x a : Str} {g c P : Addr} {k : Nat} {pg : Arguments} {bg : List Stmt} {sg : Scope} {fd : FuncData} {Ng : List Str}
    {params : Arguments} {body : Expr} {scope : Scope} {t : XK → TE} {p lpos pos : Pos} (F : FunD X.K x x pg bg sg [] [] g fd) (hm : X.mg x = some (.ref g)) (hb : Binds X.K fd [a] []) (Sg : FnScope Ng [a] sg)
    (hG : ∀ cdg : Value, GivesTo X Ng x sg g cdg bg a (X.env.qual ++ "<lambda>") TT) (TB : TabB X.base X.mg c P) (hcode : X.env.code = .ref c) (hmT : (P, X.env.qual ++ "<lambda>") ∈ T) (hu : ∀ p ∈ T, p.1 = P → p.2 = X.env.qual ++ "<lambda>")
    (hr : Room (k + 2) X.A) (L : LamS X.env.scope scope) (hbody : ∀ (A : Around) (outer : List Env) (s : Shared) (H : Hp) (E : XK) (f c' : Addr), Room k (A.deeper (lamEnv X scope s.heap.objs.size f c')) → PE (lamCx X A outer s H E scope f c') body (t E)) (hg : Gl X x)
    (hNg : Ng[0]? = some a) (hva : Vis sg a) (hdef : defaultsOf params X.env = ([], []))
    (hbind : ∀ (q : Str) (cl : List (Str × Addr)) (pm cv ctv : Value), bindArgs (PySem.W.kla_fn "<lambda>" q params body scope cl pm cv ctv) ⟨[], []⟩ = pure [])
    (hdb : (x == ("__debug__" : Str)) = false := by decide) (hd : (a == ("__debug__" : Str)) = false := by decide) (hcd : (a == ("__classdict__" : Str)) = false := by decide) :
    PE X (.Call (.Name x p) [.Lambda params body scope lpos] [] pos) (tLam T TT t) := by
  obtain ⟨oc, od, dV, kV, doc, pm, an, cdv, ct, osl, rfl, lk, hcd', _, _⟩ := id F.ex
  exact pe_lamcall hg hm F.kp lk hcd' hb Sg hNg hva (hG cdv) TB hcode hmT hu hr L hdef hbind hbody hdb hd hcd
end
/-! ### heaps whose tables of code objects grow -/
section
variable {H H' : Hp}
theorem ExtN.same {H1 : Hp} (a : ExtN H H1) (b : Same H1 H') : ExtN H H' := a.trans (ExtN.of b)
theorem ExtN.lst (e : ExtN H H') {a : Addr} {xs : List V} (h : H a = some (.lst xs)) : H' a = some (.lst xs) := e a _ h fun ps z => nomatch z
theorem ExtN.tup (e : ExtN H H') {a : Addr} {xs : List V} (h : H a = some (.tup xs)) : H' a = some (.tup xs) := e a _ h fun ps z => nomatch z
theorem ExtN.ins (e : ExtN H H') {a C dx : Addr} {fs : List (Str × V)} (h : H a = some (.ins C dx fs)) : H' a = some (.ins C dx fs) := e a _ h fun ps z => nomatch z
theorem ExtN.steps (e : ExtN H H') {vs : List V} {l : List Stp} (h : StepsAt H vs l) : StepsAt H' vs l := pr_im (fun _ _ ⟨p, e1, e2⟩ => ⟨p, e1, ExtN.tup e e2⟩) h
theorem ExtN.plan (e : ExtN H H') {C p : Addr} {l : List Stp} (h : PlanAt C H p l) : PlanAt C H' p l := by
  obtain ⟨dx, t, vs, h1, h2, h3⟩ := h.ex
  exact ⟨dx, t, vs, ExtN.ins e h1, ExtN.tup e h2, ExtN.steps e h3⟩
theorem ExtN.seqL {K : PySem.W.Frag} (e : ExtN H H') {a : Addr} {xs : List V} (h : SqL K H a xs) : SqL K H' a xs := by
  rcases h with (h | ⟨o, h⟩) | h
  · exact .inl (.inl (ExtN.lst e h))
  · exact .inl (.inr ⟨o, e _ _ h fun ps z => nomatch z⟩)
  · exact .inr h
theorem ExtN.free (e : ExtN H H') {a : Addr} (h : H' a = none) : H a = none ∨ ∃ ps, H a = some (.tbl ps) := by
  cases q : H a with
  | none => exact .inl rfl
  | some o =>
    cases o with
    | tbl ps => exact .inr ⟨ps, rfl⟩
    | _ => exact absurd (h.symm.trans (e a _ q fun ps z => nomatch z)) (by simp)
theorem ExtN.st {K : PySem.W.Frag} (e : ExtN H H') {st a : Addr} {ns : List Int} (h : StAt K H st a ns) : StAt K H' st a ns := by
  obtain ⟨pos, m, r, h1, h2⟩ := h.lst
  refine ⟨⟨pos, m, r, ExtN.lst e h1, h2⟩, fun H2 s2 => ?_⟩
  rcases ExtN.seqL e h.scr0 with (q | ⟨o, q⟩) | q
  · by_cases z : a = st
    · rcases h.scr (upd H st (.tup [])) SameB.upd with (y | ⟨o, y⟩) | y
      · rw [z, upd_same] at y; cases y
      · rw [z, upd_same] at y; cases y
      · exact .inr y
    · exact .inl (.inl (s2 a _ z q))
  · have z : a ≠ st := ne_of q (ExtN.lst e h1) fun z => nomatch z
    exact .inl (.inr ⟨o, s2 a _ z q⟩)
  · exact .inr q
/-- tables stay where nothing but lists is written -/
theorem tabs_keep {T : List (Addr × Str)} (t : Tabs T H) (k : ∀ b o, (∀ xs, o ≠ .lst xs) → H b = some o → H' b = some o) : Tabs T H' := fun p hp => by
  obtain ⟨ps, h1, h2, h3⟩ := t p hp
  refine ⟨ps, k _ _ (fun xs z => nomatch z) h1, h2, fun pos cv hc => ?_⟩
  obtain ⟨c, e1, e2⟩ := h3 pos cv hc
  exact ⟨c, e1, k _ _ (fun xs z => by unfold CodeO at z; cases z) e2⟩
theorem tabs_same {T : List (Addr × Str)} (t : Tabs T H) (k : Same H H') : Tabs T H' := Tabs.ext t k
theorem tabs_B {K : PySem.W.Frag} {T : List (Addr × Str)} {st a : Addr} {ns : List Int} (t : Tabs T H) (S : StAt K H st a ns) (k : SameB st H H') : Tabs T H' := tabs_keep t fun b o hd e => k b o (S.ne e hd) e
end
/-! ### readings -/
section
variable {σ : L2.St} {H : Hp} {Q : VK} {K : PySem.W.Frag} {QX : XK} {D : Ends}
theorem x_rx {C : Addr} {f : Str} {tk : TA} (k : tk σ H fun zs H1 => ∃ v, zs = [v] ∧ ∀ d, H1 d = none → QX (.ref C) (some d) (upd H1 d (.xd [(f, v)]))) : tRx C f tk σ H QX := k
theorem x_rx1 {A : V → Prop} {v : V} (k : A v) : ∃ u, [v] = [u] ∧ A u := ⟨v, rfl, k⟩
theorem x_vei {ta : TA} (k : ta σ H fun vs H1 => ∃ (a C : Addr) (ws : List V), vs = .ref a :: ws ∧ ws.length ≤ 1000 ∧ OexC K C ∧ H1 a = some (exo a C none) ∧ Q .non H1) : tVeI K ta σ H Q := k
theorem x_lam {T : List (Addr × Str)} {TT : (XK → Hp → VK → Prop) → Hp → VK → Prop} {t : XK → TE} (h : Tabs T H) (k : ∀ H1, ExtN H H1 → Tabs T H1 → TT (fun E H' Q' => t E σ H' Q') H1 Q) : tLam T TT t σ H Q := ⟨h, k⟩
end
end Ch
/-! ### what the head tells of a def's table -/
namespace ChH
open PySem PySem.Spec PyProof.Rows L2 He LamX
def cdA (K : PySem.W.Frag) (f : Addr) : Addr := match (fdOf K f).code with
  | .ref c => c
  | _ => 0
def tbA (K : PySem.W.Frag) (f : Addr) : Addr := match K.lookup (cdA K f) with
  | some ⟨_, _, .fields vs, _⟩ => (match (vs[11]? : Option Value) with
    | some (.ref P) => P
    | _ => 0)
  | _ => 0
def tabB (x : Str) (K : PySem.W.Frag) : Bool := (match (fdOf K (ga K x)).code with
  | .ref c => (match K.lookup c with
    | some ⟨.type t, _, .fields vs, _⟩ => decide (t = "code") && ((match (vs[11]? : Option Value) with
      | some (.ref P) => decide (c ≠ P) && (match K.lookup P with
        | none => true
        | some _ => false)
      | _ => false) && ((match vs.getD 18 .none with
      | .str _ _ => true
      | _ => false) && ((match vs.getD 7 .none with
      | .int _ _ => true
      | _ => false) && ((match vs.getD 9 .none with
      | .bool _ => true
      | _ => false) && (match vs.getD 10 .none with
      | .int _ _ => true
      | _ => false)))))
    | _ => false)
  | _ => false)
structure TabOk (K : PySem.W.Frag) (f : Addr) : Prop where
  code : (fdOf K f).code = .ref (cdA K f)
  none_ : K.lookup (tbA K f) = none
  hd : ∀ h : Heap, K.In h → PySem.W.CodeHd h (cdA K f) (tbA K f)
  lk : ∃ e dd vs sl, K.lookup (cdA K f) = some ⟨e, dd, .fields vs, sl⟩ ∧ vs[11]? = some (.ref (tbA K f))
theorem tab_ok {K : PySem.W.Frag} {x : Str} (h : tabB x K = true) : TabOk K (ga K x) := by
  unfold tabB at h
  split at h
  · rename_i c ec
    have eC : cdA K (ga K x) = c := by unfold cdA; rw [ec]
    split at h
    · rename_i t dd vs sl el
      obtain ⟨h1, h⟩ := ba h
      obtain ⟨h2, h⟩ := ba h
      obtain ⟨h3, h⟩ := ba h
      obtain ⟨h4, h⟩ := ba h
      obtain ⟨h5, h6⟩ := ba h
      have h1 := of_decide_eq_true h1
      subst h1
      split at h2
      · rename_i P eP
        obtain ⟨a1, a2⟩ := ba h2
        have eT : tbA K (ga K x) = P := by unfold tbA; rw [eC, el]; dsimp only; rw [eP]
        have g11 : vs.getD 11 .none = .ref P := by
          rw [Array.getD_eq_getD_getElem?, eP]
          rfl
        split at h3
        · rename_i s1 t1 e18
          split at h4
          · rename_i i7 t7 e7
            split at h5
            · rename_i b9 e9
              split at h6
              · rename_i i10 t10 e10
                refine ⟨ec.trans (by rw [eC]), ?_, fun hh KX => ?_, ⟨_, _, _, _, by rw [eC]; exact el, by rw [eT]; exact eP⟩⟩
                · rw [eT]
                  split at a2
                  · assumption
                  · cases a2
                · rw [eC, eT]
                  exact ⟨_, vs, s1, t1, i7, t7, b9, i10, t10, KX _ _ el, rfl, rfl, eP, g11, e18, e7, e9, e10, of_decide_eq_true a1⟩
              · cases h6
            · cases h5
          · cases h4
        · cases h3
      · cases h2
    · cases h
  · cases h
def tneB (x y : Str) (K : PySem.W.Frag) : Bool := decide (tbA K (ga K x) ≠ tbA K (ga K y))
theorem tne_ok {K : PySem.W.Frag} {x y : Str} (h : tneB x y K = true) : tbA K (ga K x) ≠ tbA K (ga K y) := of_decide_eq_true h
def nfB (x f : Str) (K : PySem.W.Frag) : Bool := eqO (PySem.W.findIn K (.ref (ga K x)) f) (some none)
theorem nf_ok {K : PySem.W.Frag} {x f : Str} (h : nfB x f K = true) : PySem.W.findIn K (.ref (ga K x)) f = some none := eqO_ok h
def xfF (x : Str) (K : PySem.W.Frag) : Bool := L2.xfB K (ga K x)
theorem xf_ok {K : PySem.W.Frag} {x : Str} (h : xfF x K = true) : L2.XfC K (ga K x) := L2.xfB_ok h
end ChH
namespace Ch
open PySem PySem.Spec PyProof.Rows L2
theorem x_ost {K : PySem.W.Frag} {f : Str} {to te : TE} {D : Ends} {σ : L2.St} {H : Hp} (k : te σ H fun y H1 => to σ H1 fun x H2 => ∃ a C : Addr, x = .ref a ∧ OexC K C ∧ PySem.W.findIn K (.ref C) f = some none ∧
  ((H2 a = some (exo a C none) ∧ ∀ dx, H2 dx = none → dx ≠ a → D.nx σ (upd (upd H2 dx (exd dx [(f, y)])) a (exo a C (some dx)))) ∨
    ∃ (dx : Addr) (fs : List (Str × V)), H2 a = some (exo a C (some dx)) ∧ H2 dx = some (exd dx fs) ∧ fs.length ≤ 900 ∧ D.nx σ (upd H2 dx (exd dx ((f, y) :: fs))))) : tOst K f to te D σ H := k
end Ch
/-! ### the end of a law whose defs make lambdas -/
namespace Ch
open PySem PySem.Spec PyProof.Rows L2 LamX
theorem walk_tab {l : PySem.W.OpenLaw} {n k : Nat} {q : Program} {loose : List Str} {XP : (Str → Option Value) → Heap → Prop} {YP : World → Heap → Prop} {d : DefRec} {CX : CXT} {x : Str}
    (hn : l.most = some n) (hn2 : n ≤ sizeLine) (hdf : d.params.defaults = []) (hr : Room k callerA)
    (F : ∀ (w : World) (mg : Str → Option Value) (fa : Addr) (h : Heap), YP w h → h.Ns mainGlobals mg → mg d.name = some (.ref fa) →
      ∃ K : PySem.W.Frag, K.In h ∧ ((∀ (y : Str) (fy : Addr), ((recsOf q).any fun e => e.name == y) = true → mg y = some (.ref fy) → OwnTab K fy h) → LawAtS l w K CX k n x mg fa h))
    (hCX : ∀ (H : Hp) (s : Shared) (e : Value) (s' : Shared), CX [] H s (fun _ _ _ => False) e s' → False) : PySem.W.WalkO q loose XP YP l.row.toRowW d [] (fun f vs => PySem.call f vs) := by
  refine Att.attach_callB hn hdf fun w s₀ s₁ mg mb fa o pm cd doc a vs ns G Y ho hd hcd hmg hobj hints hlen hbits hg => ?_
  obtain ⟨K, KX, FF⟩ := F w mg fa _ Y G.T.g hmg
  have own : ∀ (y : Str) (fy : Addr), ((recsOf q).any fun e => e.name == y) = true → mg y = some (.ref fy) → OwnTab K fy s₁.heap := by
    intro y fy hy hmy c P o1 fd1 e dd vs1 sl k1 k2 k3 k4 k5
    obtain ⟨dL, hm, hn1⟩ := List.any_eq_true.mp hy
    have en : dL.name = y := beq_iff_eq.mp hn1
    obtain ⟨a', o', fd', c', P', h1, h2, h3, h4, h5, h6⟩ := G.T.tab dL hm
    rw [en, hmy] at h1
    cases h1
    have g1 := KX _ _ k1
    rw [g1] at h2
    cases h2
    rw [k2] at h3
    cases h3
    rw [k3] at h4
    cases h4
    obtain ⟨⟨oc, vc, u1, _, u3, u4⟩, hP⟩ := h6
    have g2 := KX _ _ k4
    rw [g2] at u1
    cases u1
    cases u3
    rw [k5] at u4
    cases u4
    exact hP
  obtain ⟨fd, cs, sp, hT, nT, C, hb, hsp, hF⟩ := FF own
  exact law_callTs KX G.T.g G.T.b G.T.builtins G.T.nolimit hg hT nT C G.T.bmain hobj hints (Nat.le_trans hlen hn2) hr hF hb (fun H hH hS => hsp H a ns hlen hbits hH hS) fun H e s' => hCX H s₁ e s'
end Ch
namespace ChH
open PySem PySem.Spec PyProof.Rows L2 He LamX
/-- the table at the start -/
theorem TabOk.empty {K : PySem.W.Frag} {x : Str} {f : Addr} {h : Heap} {qual : Str} {ps : Arguments} {bd : List Stmt} {sc : Scope} (T : TabOk K f) (F : FunD K x qual ps bd sc [] [] f (fdOf K f)) (own : OwnTab K f h) :
    h.get? (tbA K f) = some { cls := .none, data := .fields #[] } := by
  obtain ⟨e, dd, vs, sl, l1, l2⟩ := T.lk
  obtain ⟨oc, od, dV, kV, doc, pm, an, cdv, ct, osl, ef, lk, _⟩ := F.ex
  exact own _ _ _ _ _ _ _ _ lk rfl T.code l1 l2
end ChH
/-! ### a look at the head that leaves the tables of code objects out -/
namespace ChH
open PySem PySem.Spec PyProof.Rows L2 He
def noTab (g : Addr → Option Obj) (a : Addr) : Bool := match g a with
  | some ⟨.none, _, .fields _, _⟩ => false
  | _ => true
def obsTG (n : Nat) (fa : List Fa) (xs : List Fx) (fn : List He5.DefA) (g : Addr → Option Obj) : AlD := obsC fa xs fn (frG g ((He5.asA g n).filter (noTab g)))
def hookT (n : Nat) (fa : List Fa) (xs : List Fx) (fn : List He5.DefA) : PySem.W.Hook where
  α := AlD
  obs := fun s => obsTG n fa xs fn s.heap.get?
  val := fun _ => He5.valA fn
  says := fun _ h => ∃ K : PySem.W.Frag, K.In h ∧ SaysC fa xs fn K
  of := fun _ _ e => ⟨_, frG_in, e⟩
  keeps := fun _ _ _ ⟨K, hK, c⟩ k => ⟨K, hK.keeps k, c⟩
theorem obsTG_eq {n : Nat} {fa : List Fa} {xs : List Fx} {fn : List He5.DefA} {g : Addr → Option Obj} {s : Shared} (h : ∀ a, g a = s.heap.get? a) : obsTG n fa xs fn g = (hookT n fa xs fn).obs s := by
  rw [show g = s.heap.get? from funext h]
  rfl
end ChH
namespace Ch
open PySem PySem.Spec PyProof.Rows L2 LamX
theorem takes_len {X : Cx} {W : WX} (t : Takes X W) : Takes X (fun cls d σ H => σ.length = X.N.length → W cls d σ H) := fun u s' ⟨a, B, sI, pins, σ, H, cls, d, e, I, nb, up, sky, na, os, ag, w⟩ =>
  t u s' ⟨a, B, sI, pins, σ, H, cls, d, e, I, nb, up, sky, na, os, ag, w (by first | exact I.len | exact I.len.symm)⟩
theorem x_xf {a : Addr} {cls : Value} {d : Option Addr} {C : Addr} {f : Str} {te : TE} {σ : L2.St} {H : Hp} {Q : VK} (k : te σ H fun x H1 => x = .ref a ∧ cls = .ref C ∧ ∃ (dd : Addr) (fs : List (Str × V)) (v : V), d = some dd ∧ H1 dd = some (.xd fs) ∧ fs.lookup f = some v ∧ Q v H1) : tXf a cls d C f te σ H Q := k
/-- try: return a() / except X as e: return (nm, e.f) -/
def TTx (CT : Addr) (nm f : Str) : (XK → Hp → VK → Prop) → Hp → VK → Prop := fun tl H Q =>
  tl (fun cls d H' => cls = .ref CT ∧ ∃ dd v, d = some dd ∧ H' dd = some (.xd [(f, v)]) ∧ ∀ t, H' t = none → Q (.ref t) (upd H' t (.tup [.str nm, v]))) H Q
theorem x_TTx {CT : Addr} {nm f : Str} {tl : XK → Hp → VK → Prop} {H : Hp} {Q : VK} (k : tl (fun cls d H' => cls = .ref CT ∧ ∃ dd v, d = some dd ∧ H' dd = some (.xd [(f, v)]) ∧ ∀ t, H' t = none → Q (.ref t) (upd H' t (.tup [.str nm, v]))) H Q) : TTx CT nm f tl H Q := k
/-- try: return a() / except X: return (nm,) -/
def TTn (CN : Addr) (nm : Str) : (XK → Hp → VK → Prop) → Hp → VK → Prop := fun tl H Q =>
  tl (fun cls _ H' => cls = .ref CN ∧ ∀ t, H' t = none → Q (.ref t) (upd H' t (.tup [.str nm]))) H Q
theorem x_TTn {CN : Addr} {nm : Str} {tl : XK → Hp → VK → Prop} {H : Hp} {Q : VK} (k : tl (fun cls _ H' => cls = .ref CN ∧ ∀ t, H' t = none → Q (.ref t) (upd H' t (.tup [.str nm]))) H Q) : TTn CN nm tl H Q := k
end Ch

set_option Elab.async false
set_option linter.all false
set_option autoImplicit false
set_option maxRecDepth 100000
set_option maxHeartbeats 4000000
/-! ### tables of code objects of methods: told by a look at the head's heap -/
namespace ChH
open PySem PySem.Spec PyProof.Rows L2 He LamX
def tabAB (f : Addr) (K : PySem.W.Frag) : Bool := (match (fdOf K f).code with
  | .ref c => (match K.lookup c with
    | some ⟨.type t, _, .fields vs, _⟩ => decide (t = "code") && ((match (vs[11]? : Option Value) with
      | some (.ref P) => decide (c ≠ P) && (match K.lookup P with
        | none => true
        | some _ => false)
      | _ => false) && ((match vs.getD 18 .none with
      | .str _ _ => true
      | _ => false) && ((match vs.getD 7 .none with
      | .int _ _ => true
      | _ => false) && ((match vs.getD 9 .none with
      | .bool _ => true
      | _ => false) && (match vs.getD 10 .none with
      | .int _ _ => true
      | _ => false)))))
    | _ => false)
  | _ => false)
theorem tabA_ok {K : PySem.W.Frag} {f : Addr} (h : tabAB f K = true) : TabOk K f := by
  unfold tabAB at h
  split at h
  · rename_i c ec
    have eC : cdA K f = c := by unfold cdA; rw [ec]
    split at h
    · rename_i t dd vs sl el
      obtain ⟨h1, h⟩ := ba h
      obtain ⟨h2, h⟩ := ba h
      obtain ⟨h3, h⟩ := ba h
      obtain ⟨h4, h⟩ := ba h
      obtain ⟨h5, h6⟩ := ba h
      have h1 := of_decide_eq_true h1
      subst h1
      split at h2
      · rename_i P eP
        obtain ⟨a1, a2⟩ := ba h2
        have eT : tbA K f = P := by unfold tbA; rw [eC, el]; dsimp only; rw [eP]
        have g11 : vs.getD 11 .none = .ref P := by
          rw [Array.getD_eq_getD_getElem?, eP]
          rfl
        split at h3
        · rename_i s1 t1 e18
          split at h4
          · rename_i i7 t7 e7
            split at h5
            · rename_i b9 e9
              split at h6
              · rename_i i10 t10 e10
                refine ⟨ec.trans (by rw [eC]), ?_, fun hh KX => ?_, ⟨_, _, _, _, by rw [eC]; exact el, by rw [eT]; exact eP⟩⟩
                · rw [eT]
                  split at a2
                  · assumption
                  · cases a2
                · rw [eC, eT]
                  exact ⟨_, vs, s1, t1, i7, t7, b9, i10, t10, KX _ _ el, rfl, rfl, eP, g11, e18, e7, e9, e10, of_decide_eq_true a1⟩
              · cases h6
            · cases h5
          · cases h4
        · cases h3
      · cases h2
    · cases h
  · cases h
def tabFB (f : PySem.W.Frag → Addr) (K : PySem.W.Frag) : Bool := tabAB (f K) K
theorem tabF_ok {K : PySem.W.Frag} {f : PySem.W.Frag → Addr} (h : tabFB f K = true) : TabOk K (f K) := tabA_ok h
def tneFB (f g : PySem.W.Frag → Addr) (K : PySem.W.Frag) : Bool := decide (tbA K (f K) ≠ tbA K (g K))
theorem tneF_ok {K : PySem.W.Frag} {f g : PySem.W.Frag → Addr} (h : tneFB f g K = true) : tbA K (f K) ≠ tbA K (g K) := of_decide_eq_true h
/-- an empty table stands at a -/
def emptyB (g : Addr → Option Obj) (a : Addr) : Bool := match g a with
  | some ⟨.none, none, .fields vs, sl⟩ => decide (vs.size = 0) && decide (sl.size = 0)
  | _ => false
theorem empty_ok {g : Addr → Option Obj} {a : Addr} (h : emptyB g a = true) : g a = some { cls := .none, data := .fields #[] } := by
  unfold emptyB at h
  split at h
  · rename_i vs sl e
    obtain ⟨h1, h2⟩ := ba h
    have e1 : vs = #[] := Array.eq_empty_of_size_eq_zero (of_decide_eq_true h1)
    have e2 : sl = #[] := Array.eq_empty_of_size_eq_zero (of_decide_eq_true h2)
    rw [e, e1, e2]
  · cases h
def frT (n : Nat) (g : Addr → Option Obj) : PySem.W.Frag := frG g ((He5.asA g n).filter (noTab g))
abbrev MsF : Type := List (PySem.W.Frag → Addr)
def obsMG (n : Nat) (fa : List Fa) (xs : List Fx) (fn : List He5.DefA) (ms : MsF) (g : Addr → Option Obj) : AlD × Bool := (obsC fa xs fn (frT n g), ms.all fun f => emptyB g (tbA (frT n g) (f (frT n g))))
def hookM (n : Nat) (fa : List Fa) (xs : List Fx) (fn : List He5.DefA) (ms : MsF) : PySem.W.Hook where
  α := AlD × Bool
  obs := fun s => obsMG n fa xs fn ms s.heap.get?
  val := fun _ => (He5.valA fn, true)
  says := fun _ h => ∃ K : PySem.W.Frag, K.In h ∧ SaysC fa xs fn K ∧ ∀ f ∈ ms, h.get? (tbA K (f K)) = some { cls := .none, data := .fields #[] }
  of := fun _ s e => ⟨frT n s.heap.get?, frG_in, congrArg Prod.fst e, fun f hf => empty_ok (List.all_eq_true.mp (congrArg Prod.snd e) f hf)⟩
  keeps := fun _ _ _ ⟨K, hK, c, t⟩ k => ⟨K, hK.keeps k, c, fun f hf => k _ _ (t f hf)⟩
theorem obsMG_eq {n : Nat} {fa : List Fa} {xs : List Fx} {fn : List He5.DefA} {ms : MsF} {g : Addr → Option Obj} {s : Shared} (h : ∀ a, g a = s.heap.get? a) : obsMG n fa xs fn ms g = (hookM n fa xs fn ms).obs s := by
  rw [show g = s.heap.get? from funext h]
  rfl
end ChH

set_option Elab.async false
set_option linter.all false
set_option autoImplicit false
set_option maxRecDepth 100000
set_option maxHeartbeats 4000000
/-! ### several except clauses, with and without a name -/
namespace Ch
open PySem PySem.Spec PyProof.Rows L2
structure Cl where
  c : Value
  i : Option Nat
  ts : Addr → Value → Option Addr → TS
def Cl.run (k : Cl) (D : Ends) (a : Addr) (cls : Value) (d : Option Addr) (σ : L2.St) (H : Hp) : Prop := match k.i with
  | none => k.ts a cls d D σ H
  | some i => k.ts a cls d { nx := fun σ' H' => D.nx (σ'.set i none) H', rt := D.rt, bk := fun σ' H' => D.bk (σ'.set i none) H', ct := fun σ' H' => D.ct (σ'.set i none) H' } (σ.set i (some (.ref a))) H
def wCl (K : PySem.W.Frag) (Wout : WX) (D : Ends) : List Cl → WX
  | [] => Wout
  | k :: r => fun cls d σ H => ∃ b, PySem.W.exmOne K cls k.c = some b ∧ (b = true → ∀ a, H a = none → k.run D a cls d σ H) ∧ (b = false → wCl K Wout D r cls d σ H)
inductive ClOk (X : Cx) : List ExceptHandler → List Cl → Prop
  | nil : ClOk X [] []
  | bare {x : Str} {c : Value} {ts : Addr → Value → Option Addr → TS} {b₀ : Stmt} {suite : List Stmt} {np pos' : Pos} {hds : List ExceptHandler} {l : List Cl} (hc : Names X x c)
      (hsu : ∀ (a : Addr) (oe : Obj) (cls : Value) (d : Option Addr) (pn : List (Addr × Obj)), Zc cls d oe → (∃ vs, oe.data = .fields vs) → PSs (X.suite a ((a, oe) :: pn)) (b₀ :: suite) (ts a cls d)) (r : ClOk X hds l) :
      ClOk X (.ExceptHandler (some (.Name x np)) none (b₀ :: suite) pos' :: hds) (⟨c, none, ts⟩ :: l)
  | as {x n : Str} {i : Nat} {c : Value} {ts : Addr → Value → Option Addr → TS} {b₀ : Stmt} {suite : List Stmt} {np pos' : Pos} {hds : List ExceptHandler} {l : List Cl} (hi : X.N[i]? = some n) (hln : X.env.kindOf n = some .local) (hc : Names X x c)
      (hsu : ∀ (a : Addr) (oe : Obj) (cls : Value) (d : Option Addr) (pn : List (Addr × Obj)), Zc cls d oe → (∃ vs, oe.data = .fields vs) → PSs (X.suite a ((a, oe) :: pn)) (b₀ :: suite) (ts a cls d)) (r : ClOk X hds l) :
      ClOk X (.ExceptHandler (some (.Name x np)) (some n) (b₀ :: suite) pos' :: hds) (⟨c, some i, ts⟩ :: l)
section
variable {X : Cx} {body : List Stmt} {h₀ : ExceptHandler} {hds : List ExceptHandler} {l : List Cl} {pos : Pos} {tb : WX → TS} {Wout : WX}
theorem ps_try_cl (hs : X.stack = X.env :: X.outer) (hf : X.env.frame = some X.env.locals) (hN : X.N.Nodup) (tk : Takes X Wout)
    (hb : ∀ (W : WX) (pn : List (Addr × Obj)) (xe : Value → Shared → Prop), Takes (X.tr pn xe) W → PassesOwn (model X.prog X.w) X.A X.env xe → PSs (X.tr pn xe) body (tb W))
    (hh : ClOk X (h₀ :: hds) l) : PS X (.Try body (h₀ :: hds) [] [] pos) (fun D σ H => tb (wCl X.K Wout D l) D σ H) := by
  refine ⟨fun pins s σ H D I h => ?_⟩
  have ok := I.ok
  have hfr : X.A.frames = some (X.env :: X.outer) := by rw [ok.frames, hs]
  refine wpAny_Try_except ?_
  refine wpAny_mono ((hb (wCl X.K Wout D l) (X.pn ++ pins) (fun e s₁ => wpAny (model X.prog X.w) X.A (noteFrame e X.env) (fun _ s₂ => wpAny (model X.prog X.w) X.A (setFlight e none) (fun _ s₃ =>
    wpAny (model X.prog X.w) X.A (handleBy e X.env (h₀ :: hds)) (SP X pins D) X.xe s₃) X.xe s₂) X.xe s₁) (fun u s' xx => ?_) PassesOwn.looking).run [] s σ H D (I.toTry _) h) (fun f s1 hsp => ?_) (fun e s1 he => he)
  · obtain ⟨a, B, sI, pins', σ', H', cls, d, rfl, J', nb, up, sky, na, os, ag, w⟩ := xx
    have J : Inv X pins σ' H' sI := J'.ofTry ok
    have sky' : Sky B (X.env :: X.outer) a (Zc cls d) X.env.locals s'.heap := by rw [← hs]; exact sky
    show wpAny (model X.prog X.w) X.A (noteFrame (.ref a) X.env) _ _ _
    refine Sky.land Zc.steady hfr hf sky' fun h3 fl3 up3 => ?_
    have J3 : Inv X pins σ' H' { s' with heap := h3 } := J.landed nb fl3.1 (up.trans up3) os ag
    obtain ⟨oe3, vs3, he3, hz3, hd3⟩ := fl3.there
    have notFr : ∀ {h : Heap} {o : Obj} {vs : Array Value}, h.FunFrames B (X.env :: X.outer) → h.get? a = some o → o.data = .fields vs → a ∉ frs (X.env :: X.outer) := fun {h o vs} ff e dd hm => by
      obtain ⟨_, o', e', hnf⟩ := ff.mem hm
      rw [e] at e'; cases e'
      exact hnf _ dd
    have nfr := notFr fl3.2.2.1 he3 hd3
    have nL : a ≠ X.env.locals := fun z => nfr (List.mem_filterMap.mpr ⟨X.env, List.mem_cons_self, by rw [hf, z]⟩)
    have nF : a ∉ X.fs := fun hm => by
      obtain ⟨e, he, q⟩ := List.mem_filterMap.mp hm
      exact nfr (List.mem_filterMap.mpr ⟨e, List.mem_cons_of_mem _ he, q⟩)
    have S3 := J3.suite he3 hd3 na nL nF
    have LT : PySem.W.Looks (model X.prog X.w) h3 (typeOf (.ref a)) cls := fun A Q E s k q => wpAny_typeOf_ref (k _ _ he3) (by rw [hz3.1]; exact q)
    have test : ∀ {x : Str} {c : Value} {np : Pos}, Names X x c → ∀ {Q : Value → Shared → Prop} {E : Value → Shared → Prop}, Q c { s' with heap := h3 } → wpAny (model X.prog X.w) (X.A.mark (some (.ref a))) (eval (.Name x np) X.env) Q E { s' with heap := h3 } := fun {x c np} hc {Q E} q => by
      obtain ⟨hg, hdbg, hm | ⟨hm, hv, hnn⟩⟩ := hc
      · exact ld_glob (X := X.suite a ((a, oe3) :: (X.pn ++ pins))) S3 hg hm q hdbg
      · exact ld_blt (X := X.suite a ((a, oe3) :: (X.pn ++ pins))) S3 hg hm hv q hnn hdbg
    have go : ∀ {hds' : List ExceptHandler} {l' : List Cl}, ClOk X hds' l' → wCl X.K Wout D l' cls d σ' H' →
        wpAny (model X.prog X.w) X.A (handleBy (.ref a) X.env hds') (SP X pins D) X.xe { s' with heap := h3 } := by
      intro hds' l' hk
      induction hk with
      | nil =>
        intro w
        refine wpAny_handleBy_nil ?_
        obtain ⟨k1, k2, k3, oe, vs, T, oT, ts', he, hz, hd, h1, hr⟩ := id fl3
        unfold PySem.passOn
        refine wpAny_bind (wpAny_field he hd h1 ?_)
        rw [if_neg (show ¬ ((Value.ref T == Value.none) = true) from by simp)]
        have fin : wpAny (model X.prog X.w) X.A (setFlight (.ref a) X.env.frame) (fun _ s4 => wpAny (model X.prog X.w) X.A (throw (.ref a) : Sem Flow) (SP X pins D) X.xe s4) X.xe { s' with heap := h3 } := by
          rw [hf]
          refine HandSPX.setFlight_upZ fl3 fun h4 hh4 up4 => wpAny_throw (tk _ _ ?_)
          exact ⟨a, B, sI, pins, σ', H', cls, d, rfl, J, nb, (up.trans up3).trans up4, .inr (.inr (by rw [hs]; exact hh4)), na, os, ag, w⟩
        first
          | exact wpAny_bind (wpAny_pure (wpAny_bind fin))
          | exact wpAny_bind fin
      | @bare x c ts b₀ suite np pos' hds2 l2 hc hsu r ih =>
        intro w
        obtain ⟨b, hb1, hyes, hno⟩ := w
        refine wpAny_handleBy_cons (codeAny_handlers_test ?_) (by intro q; cases q)
        have LM := PySem.W.exm_one (M := model X.prog X.w) (J3.kIn) LT hb1
        refine test hc (LM.here ?_)
        cases b with
        | true =>
          refine codeAny_handlers_suite ?_
          refine HandSPX.lands_againZ fl3 fun h4 fl4 up4 => ?_
          have J4 : Inv X pins σ' H' { s' with heap := h4 } := J.landed nb fl4.1 ((up.trans up3).trans up4) os ag
          obtain ⟨oe4, vs4, he4, hz4, hd4⟩ := fl4.there
          have S4 := J4.suite he4 hd4 na nL nF
          refine wpAny_mono ((hsu a oe4 cls d (X.pn ++ pins) hz4 ⟨_, hd4⟩).run [] _ _ H' _ S4 (hyes rfl a na)) (fun f s6 hsp => ?_) (fun _ _ z => False.elim z)
          cases f with
          | next =>
            obtain ⟨σ6, H6, S6, q6⟩ := hsp
            exact ⟨_, _, S6.unsuite ok, q6⟩
          | brk =>
            obtain ⟨σ6, H6, S6, q6⟩ := hsp
            exact ⟨_, _, S6.unsuite ok, q6⟩
          | cont =>
            obtain ⟨σ6, H6, S6, q6⟩ := hsp
            exact ⟨_, _, S6.unsuite ok, q6⟩
          | ret u =>
            obtain ⟨v6, σ6, H6, S6, r6, q6⟩ := hsp
            exact ⟨_, _, _, S6.unsuite ok, r6, q6⟩
        | false =>
          show wpAny _ X.A (handleBy (.ref a) X.env hds2) _ _ _
          exact ih (hno rfl)
      | @as x n i c ts b₀ suite np pos' hds2 l2 hi hln hc hsu r ih =>
        intro w
        obtain ⟨b, hb1, hyes, hno⟩ := w
        have hloc : Loc X.env.scope n := .inl hln
        refine wpAny_handleBy_cons (codeAny_handlers_test ?_) (by intro q; cases q)
        have LM := PySem.W.exm_one (M := model X.prog X.w) (J3.kIn) LT hb1
        refine test hc (LM.here ?_)
        cases b with
        | true =>
          refine codeAny_handlers_suite_as ?_
          refine HandSPX.lands_againZ fl3 fun h4 fl4 up4 => ?_
          have J4 : Inv X pins σ' H' { s' with heap := h4 } := J.landed nb fl4.1 ((up.trans up3).trans up4) os ag
          obtain ⟨oe4, vs4, he4, hz4, hd4⟩ := fl4.there
          have S4 := J4.suite he4 hd4 na nL nF
          refine store_ok (X := X.suite a ((a, oe4) :: (X.pn ++ pins))) (v := .ref a) S4 hN hi hloc rfl (fun s5 S5 => ?_) (.inr hln)
          refine wpAny_mono ((hsu a oe4 cls d (X.pn ++ pins) hz4 ⟨_, hd4⟩).run [] s5 _ H' _ S5 (hyes rfl a na)) (fun f s6 hsp => ?_) (fun _ _ z => False.elim z)
          have end_ : ∀ {σ6 : L2.St} {H6 : Hp} {Q : Shared → Prop}, Inv (X.suite a ((a, oe4) :: (X.pn ++ pins))) [] σ6 H6 s6 → (∀ s7, Inv X pins (σ6.set i none) H6 s7 → Q s7) →
              wpAny (model X.prog X.w) X.A (do bindName X.env n .none; unbindBehindTheSuite X.env n pos') (fun _ s7 => Q s7) X.xe s6 := fun {σ6 H6 Q} S6 hq => gone_ok (S6.unsuite ok) hN hi hln hq
          cases f with
          | next =>
            obtain ⟨σ6, H6, S6, q6⟩ := hsp
            exact end_ S6 fun s7 J7 => ⟨_, _, J7, q6⟩
          | brk =>
            obtain ⟨σ6, H6, S6, q6⟩ := hsp
            exact end_ S6 fun s7 J7 => ⟨_, _, J7, q6⟩
          | cont =>
            obtain ⟨σ6, H6, S6, q6⟩ := hsp
            exact end_ S6 fun s7 J7 => ⟨_, _, J7, q6⟩
          | ret u =>
            obtain ⟨v6, σ6, H6, S6, r6, q6⟩ := hsp
            exact end_ S6 fun s7 J7 => ⟨_, _, _, J7, r6, q6⟩
        | false =>
          show wpAny _ X.A (handleBy (.ref a) X.env hds2) _ _ _
          exact ih (hno rfl)
    exact go hh w
  · cases f with
    | next =>
      obtain ⟨σ', H', J', q⟩ := hsp
      exact wpAny_execs_nil ⟨σ', H', J'.ofTry ok, q⟩
    | brk =>
      obtain ⟨σ', H', J', q⟩ := hsp
      exact ⟨σ', H', J'.ofTry ok, q⟩
    | cont =>
      obtain ⟨σ', H', J', q⟩ := hsp
      exact ⟨σ', H', J'.ofTry ok, q⟩
    | ret u =>
      obtain ⟨v, σ', H', J', r, q⟩ := hsp
      exact ⟨v, σ', H', J'.ofTry ok, r, q⟩
end
end Ch

namespace Ch
open PySem PySem.Spec PyProof.Rows L2
/-- a def whose code object is told, by a positional promise -/
theorem def_code {P : Program} {w : World} {K : PySem.W.Frag} {mg : Str → Option Value} {base : Heap} {x qual : Str} {params : Arguments} {body : List Stmt} {scope : Scope} {kws : List (Str × V)} {f : Addr} {fd : FuncData} {CX : CXT} {N ps : List Str} {k : Nat} {sp : Sp}
    (F : FunD K x qual params body scope [] kws f fd) (S : FnScope N ps scope)
    (hb : ∀ (kV doc pm : Value) (an : Option Addr) (cdv ct : Value) (us : List Value), us.length = ps.length → bindArgs (PySem.W.fnOf x qual params body scope .none kV doc pm an cdv ct) ⟨us, []⟩ = pure (ps.zip us))
    (len : ∀ vs H Q E, sp vs H Q E → vs.length = ps.length)
    (body_ok : ∀ (cdv : Value) (A : Around) (outer : List Env) (s : Shared) (H : Hp) (vs : List V) (Q : VK) (E : XK), fd.code = cdv → Room k (A.deeper (envOfC qual scope s.heap.objs.size f cdv)) → sp vs H Q E →
      ∃ t, PSs (cxOf CX P w K mg base N qual scope f cdv A outer s H E) body t ∧ t { nx := fun _ H' => Q .non H', rt := Q } (start N vs) H) : FnR P w K mg base CX (k + 1) f sp := by
  have G := fnok_code F S len body_ok
  refine (G.raw (F.bindsN hb) .nil).imp fun vs H Q E h => ?_
  rw [List.append_nil]
  exact h
end Ch

set_option Elab.async false
set_option linter.all false
set_option autoImplicit false
set_option maxRecDepth 100000
set_option maxHeartbeats 4000000
/-! ### isinstance and fields of a caught exception, its class told by the reading -/
namespace ChH
open PySem PySem.Spec PyProof.Rows L2 He
def kioB (x : Str) (c : PySem.W.Frag → Value) (b : Bool) (K : PySem.W.Frag) : Bool := decide (PySem.W.kitOne K (.ref (ga K x)) (c K) = some b)
theorem kio_ok {K : PySem.W.Frag} {x : Str} {c : PySem.W.Frag → Value} {b : Bool} (h : kioB x c b K = true) : PySem.W.kitOne K (.ref (ga K x)) (c K) = some b := of_decide_eq_true h
def excCB (x : Str) (K : PySem.W.Frag) : Bool :=
  decide (PySem.W.findIn K (.ref (ga K x)) "__getattribute__" = some (some (.builtin "BaseException.__getattribute__"))) && (decide (PySem.W.findIn K (.ref (ga K x)) "__getattr__" = some none) &&
  (decide (PySem.W.subIn K (.ref (ga K x)) (.type "BaseException") = some true) && (PySem.W.hasDictIn K (ga K x) && (decide (PySem.W.findIn K (.ref (ga K x)) "__class__" = some (some (.builtin "object.__class__"))) &&
  (decide (PySem.W.specialIn K (.builtin "object.__class__") "__get__" = some (some (.builtin "getset_descriptor.__get__"))) && (decide (PySem.W.takesIn K (.builtin "object.__class__") = some true) && decide (PySem.W.mroIn K (ga K x) (.type "object") = some true)))))))
theorem excC_ok {K : PySem.W.Frag} {x : Str} (h : excCB x K = true) : L2.ExcC K (ga K x) := by
  obtain ⟨h1, h⟩ := ba h
  obtain ⟨h2, h⟩ := ba h
  obtain ⟨h3, h⟩ := ba h
  obtain ⟨h4, h⟩ := ba h
  obtain ⟨h5, h⟩ := ba h
  obtain ⟨h6, h⟩ := ba h
  obtain ⟨h7, h8⟩ := ba h
  exact ⟨of_decide_eq_true h1, of_decide_eq_true h2, of_decide_eq_true h3, h4, of_decide_eq_true h5, of_decide_eq_true h6, of_decide_eq_true h7, of_decide_eq_true h8⟩
def tptB (x : Str) (K : PySem.W.Frag) : Bool := match K.lookup (ga K x) with
  | some ⟨c, none, _, _⟩ => decide (c = .type "tuple")
  | _ => false
theorem tpt_ok {x : Str} {K : PySem.W.Frag} (h : tptB x K = true) : ∀ H, tyV K "tuple" (.ref (ga K x)) H := fun H => by
  unfold tptB at h
  split at h
  · rename_i c d sl el
    exact .inr (.inl ⟨rfl, _, el, of_decide_eq_true h, rfl⟩)
  · cases h
end ChH
namespace Ch
open PySem PySem.Spec PyProof.Rows L2
/-- the exception's dict, if it has one, is told -/
def DxAt (H : Hp) (d : Option Addr) : Prop := d = none ∨ ∃ dd fs, d = some dd ∧ H dd = some (.xd fs)
theorem DxAt.mono {H H' : Hp} {d : Option Addr} (h : DxAt H d) (s : Same H H') : DxAt H' d := h.imp id fun ⟨dd, fs, e, g⟩ => ⟨dd, fs, e, s _ _ g⟩
/-- isinstance(e, c) -/
def rIsX (K : PySem.W.Frag) (a : Addr) (cls : Value) (d : Option Addr) : List V → Hp → VK → Prop := fun xs H Q => ∃ (C : Addr) (c : V) (cv : Value) (b : Bool), cls = .ref C ∧ ExcC K C ∧ DxAt H d ∧ xs = [.ref a, c] ∧ ClsV c cv ∧ PySem.W.kitOne K (.ref C) cv = some b ∧ Q (.bl b) H
section
variable {X : Cx} {a : Addr} {cls : Value} {d : Option Addr} {oe : Obj} {pn : List (Addr × Obj)}
theorem call_isX (hz : Zc cls d oe) (hf : ∃ vs, oe.data = .fields vs) : CallR (X.suite a ((a, oe) :: pn)) (.builtin "isinstance") (rIsX X.K a cls d) := by
  intro pins s σ H xs us Q I r ⟨C, c, cv, b, ec, T, hd, exs, hc, hk, q⟩
  subst ec exs
  obtain ⟨u1, u2, rfl, r1, r2⟩ := vals2 r
  cases (show u1 = Value.ref a from r1)
  have e2 := hc.eq r2
  subst e2
  obtain ⟨hget, _⟩ := I.pin (a, oe) (List.mem_append_left _ List.mem_cons_self)
  obtain ⟨vs, hv⟩ := hf
  have hJ : ∃ od, PySem.W.InstAt s.heap a oe C od := by
    rcases hd with rfl | ⟨dd, fs, rfl, g⟩
    · refine ⟨none, hget, hz.1, ?_, ?_⟩
      · unfold PySem.W.notCls
        rw [hv] <;> rfl
      · rw [hz.2]
        trivial
    · have hx : ObjOk X.prog X.w H s.heap dd (.xd fs) := I.hok dd _ g
      obtain ⟨mA, hns, hr⟩ := hx
      obtain ⟨od, ho, hl⟩ := lookIn_ns hns
      refine ⟨some od, hget, hz.1, ?_, ?_⟩
      · unfold PySem.W.notCls
        rw [hv] <;> rfl
      · rw [hz.2]
        exact ho
  obtain ⟨od, J⟩ := hJ
  refine PySem.W.kia_one (PySem.W.kitx_exc (od := od) ?_ T.hg T.hk T.hs T.ha T.hn T.ht T.hm) I.kIn J hk (fun z => nomatch z) fun tk => ⟨.bl b, H, I.kept (t' := tk) fun _ _ z => z, rfl, q⟩
  obtain ⟨cd, hcd, _⟩ := PySem.W.any_some T.hd
  rw [hcd]
  rfl
theorem call_isXK (K : PySem.W.Frag) (hz : Zc cls d oe) (hf : ∃ vs, oe.data = .fields vs) (hK : X.K = K := by rfl) : CallR (X.suite a ((a, oe) :: pn)) (.builtin "isinstance") (rIsX K a cls d) := by subst hK; exact call_isX hz hf
theorem x_isX {K : PySem.W.Frag} {C : Addr} {c : V} {cv : Value} {b : Bool} {H : Hp} {Q : VK} (T : ExcC K C) (hd : DxAt H d) (hc : ClsV c cv) (hk : PySem.W.kitOne K (.ref C) cv = some b) (k : Q (.bl b) H) : rIsX K a (.ref C) d [.ref a, c] H Q := ⟨C, c, cv, b, rfl, T, hd, rfl, hc, hk, k⟩
/-- e.f -/
def tXa (K : PySem.W.Frag) (a : Addr) (cls : Value) (d : Option Addr) (f : Str) (te : TE) : TE := fun σ H Q => ∃ C : Addr, XfC K C ∧ PySem.W.findIn K (.ref C) f = some none ∧ tXf a cls d C f te σ H Q
theorem pe_xfA {e : Expr} {te : TE} {pos : Pos} {n : Str} (hz : Zc cls d oe) (hf : ∃ vs, oe.data = .fields vs) (he : PE (X.suite a ((a, oe) :: pn)) e te) (hb : attributeBase e n X.env (eval e X.env) = eval e X.env := by rfl) :
    PE (X.suite a ((a, oe) :: pn)) (.Attribute e n pos) (tXa X.K a cls d n te) :=
  ⟨fun pins s σ H Q I ⟨_, T, hno, h⟩ => (pe_xf T hno hz hf he hb).run pins s σ H Q I h⟩
theorem pe_xfAK (K : PySem.W.Frag) {e : Expr} {te : TE} {pos : Pos} {n : Str} (hz : Zc cls d oe) (hf : ∃ vs, oe.data = .fields vs) (he : PE (X.suite a ((a, oe) :: pn)) e te) (hb : attributeBase e n X.env (eval e X.env) = eval e X.env := by rfl) (hK : X.K = K := by rfl) :
    PE (X.suite a ((a, oe) :: pn)) (.Attribute e n pos) (tXa K a cls d n te) := by subst hK; exact pe_xfA hz hf he hb
theorem x_xa {K : PySem.W.Frag} {C : Addr} {f : Str} {te : TE} {σ : L2.St} {H : Hp} {Q : VK} (T : XfC K C) (hno : PySem.W.findIn K (.ref C) f = some none) (k : tXf a cls d C f te σ H Q) : tXa K a cls d f te σ H Q := ⟨C, T, hno, k⟩
end
/-! ### list.count of flat items -/
section
variable {X : Cx}
def rCntF (K : PySem.W.Frag) : V → List V → Hp → VK → Prop := fun x xs H Q => ∃ (p : Addr) (ys : List V) (y : V), x = .ref p ∧ xs = [y] ∧ SqL K H p ys ∧ flatV y = true ∧ ys.all flatV = true ∧ Q (.int (ys.countP (fun z => eqV z y) : Nat)) H
theorem countP_eqU {y : V} : ∀ {ys : List V} {us : List Value}, Vals ys us → ys.all flatV = true → us.countP (eqU y) = ys.countP fun z => eqV z y
  | _, _, .nil, _ => rfl
  | z :: ys, u :: us, .cons r t, f => by
    obtain ⟨f1, f2⟩ := Bool.and_eq_true_iff.mp (List.all_cons.symm.trans f)
    rw [List.countP_cons, List.countP_cons, countP_eqU t f2, eqU_of r f1]
theorem mt_countF : MtR X "list.count" (rCntF X.K) := by
  intro pins s σ H x xs v us Q I rx rxs h
  obtain ⟨p, ys, y, ex, exs, hs, fy, fys, q⟩ := h
  subst ex exs
  cases rx
  obtain ⟨u, eu, ru⟩ := rxs.one
  subst eu
  obtain ⟨its, rv, ⟨⟨oc, od, odt, osl⟩, n, hob, h1, h2, h3⟩, _⟩ := I.list hs
  dsimp only at h1 h3
  subst h1 h3
  refine call_meets PySem.F.slot_list_count ⟨_, hob, rfl⟩ PySem.F.entry_list_count (PySem.F.args_list_count_2 _ _)
    (SeqAt.list_countAt p its.toArray n od osl u (eqU y)) ⟨hob, fun w hw => mem_eqAt ru fy rv fys w (by simpa using hw), ?_⟩
  have ec : its.toArray.toList.countP (eqU y) = ys.countP fun z => eqV z y := countP_eqU rv fys
  refine ⟨.int (ys.countP (fun z => eqV z y) : Nat), H, I.tok _, ⟨s.toks, ?_⟩, q⟩
  rw [ec]
theorem mt_countK (K : PySem.W.Frag) (hK : X.K = K := by rfl) : MtR X "list.count" (rCntF K) := by subst hK; exact mt_countF
theorem mt_indexK (K : PySem.W.Frag) (hK : X.K = K := by rfl) : MtR X "list.index" (rIndex K) := by subst hK; exact mt_index
theorem mt_tindexK (K : PySem.W.Frag) (hK : X.K = K := by rfl) : MtR X "tuple.index" (fun x xs H Q => ∃ p, ∃ ys : List Str, ∃ z j, x = .ref p ∧ xs = [.str z] ∧ SqT K H p (ys.map V.str) ∧ ys[j]? = some z ∧ (∀ m, m < j → ys[m]? ≠ some z) ∧ Q (.int (j : Nat)) H) := by
  subst hK
  exact mt_tup_index
end
end Ch

set_option Elab.async false
set_option linter.all false
set_option autoImplicit false
set_option maxRecDepth 100000
set_option maxHeartbeats 4000000
/-! ### lambdas as values: made, kept, called later -/
namespace LamV
open PySem PySem.Spec PyProof.Rows L2 LamX
/-- the function of a lambda with these defaults -/
def fdV (q : Str) (params : Arguments) (body : Expr) (scope : Scope) (cl : List (Str × Addr)) (pm cdv ct dV : Value) : FuncData :=
  { name := "<lambda>", qualname := q, params := params, body := .expr body, scope := scope, globals := mainGlobals, closure := cl, defaults := dV, kwdefaults := .none,
    doc := .none, pyModule := pm, annotations := none, code := cdv, closureTuple := ct, builtins := builtinsNs }
def obV (q : Str) (params : Arguments) (body : Expr) (scope : Scope) (cl : List (Str × Addr)) (pm : Value) (c' : Addr) (ct dV : Value) : Obj :=
  { cls := .type "function", data := .func (fdV q params body scope cl pm (.ref c') ct dV) }
/-- the object at f is such a function -/
def LamO (f : Addr) (q : Str) (params : Arguments) (body : Expr) (scope : Scope) (cl : List (Str × Addr)) (c' : Addr) (dV : Value) : HO :=
  .ext fun h => ∃ pm ct, h.get? f = some (obV q params body scope cl pm c' ct dV)
theorem lamO_tbl {f : Addr} {q : Str} {params : Arguments} {body : Expr} {scope : Scope} {cl : List (Str × Addr)} {c' : Addr} {dV : Value} (ps : Array Value) : LamO f q params body scope cl c' dV ≠ .tbl ps := fun z => by
  unfold LamO at z
  cases z
theorem lamO_lst {f : Addr} {q : Str} {params : Arguments} {body : Expr} {scope : Scope} {cl : List (Str × Addr)} {c' : Addr} {dV : Value} (xs : List V) : LamO f q params body scope cl c' dV ≠ .lst xs := fun z => by
  unfold LamO at z
  cases z
theorem lamO_ok {P : Program} {w : World} {H : Hp} {h : Heap} {f : Addr} {q : Str} {params : Arguments} {body : Expr} {scope : Scope} {cl : List (Str × Addr)} {pm ct dV : Value} {c' : Addr} (e : h.get? f = some (obV q params body scope cl pm c' ct dV)) :
    ObjOk P w H h f (LamO f q params body scope cl c' dV) :=
  ⟨⟨pm, ct, e⟩, ⟨_, e⟩, fun h1 h2 ⟨u1, u2, z⟩ k => ⟨u1, u2, k _ z⟩⟩
theorem lamO_at {P : Program} {w : World} {H : Hp} {h : Heap} {f : Addr} {q : Str} {params : Arguments} {body : Expr} {scope : Scope} {cl : List (Str × Addr)} {dV : Value} {c' : Addr} (ok : HOk P w H h) (e : H f = some (LamO f q params body scope cl c' dV)) :
    ∃ pm ct, h.get? f = some (obV q params body scope cl pm c' ct dV) := by
  have x : ObjOk P w H h f (.ext fun h => ∃ pm ct, h.get? f = some (obV q params body scope cl pm c' ct dV)) := ok f _ e
  exact x.1
/-! #### making -/
section
variable {M : Model} {A : Around} {E : Value → Shared → Prop} {s : Shared} {q : Str} {params : Arguments} {body : Expr} {scope : Scope} {env : Env} {c P : Addr} {ps : Array Value} {pos : Pos} {ln : Nat}
  {mg : Str → Option Value} {cl : List (Str × Addr)} {Q : Value → Shared → Prop} {dV : Value}
/-- its code object is new -/
theorem tail_new (hcl : closureFor scope env = pure cl) (hge : env.globals = mainGlobals) (hg : s.heap.Ns mainGlobals mg) (hco : env.code = .ref c) (C : PySem.W.CodeHd s.heap c P)
    (hP : s.heap.get? P = some { cls := .none, data := .fields ps }) (ht : TriplesOk ps.toList) (hnf : codeAmong pos ps.toList = none) (hgP : mainGlobals ≠ P) (hb : s.heap.BuiltinsAt mg P)
    (h : ∀ c' ct h' tk, Heap.ExtBut P s.heap h' → s.heap.objs.size ≤ c' → c' < h'.objs.size → h'.CodeRec (.ref c') q → h'.get? P = some { cls := .none, data := .fields (ps ++ #[rawInt pos.line, rawInt pos.col, .ref c']) } →
      Q (.ref h'.objs.size) { s with heap := h'.push (obV q params body scope cl ((mg "__name__").getD .none) c' ct dV), toks := tk }) :
    wpAny M A (makeTail "<lambda>" q params (.expr body) scope env dV .none none pos ln) Q E s := by
  obtain ⟨bm, ob, b1, b2, _, b4, b5, b6, b7, b8⟩ := hb
  unfold makeTail
  rw [hcl, hge]
  refine wpAny_bind (wpAny_pure ?_)
  cases cl with
  | nil =>
    simp only [List.isEmpty_nil, if_true]
    refine wpAny_bind (wpAny_pure ?_)
    refine wpAny_bind (wpAny_functionCodeX hco (C.code hP ht) (C.tab hP) hnf fun c' h' tk hx g1 g2 _ hrec htb _ => ?_)
    have hg2 := hg.extBut hx hgP
    refine wpAny_bind (wpAny_builtinsFor hg2 b1 b2 (hx _ _ b4 b5) b6 b7 b8 ?_)
    refine wpAny_bind (wpAny_nsGet hg2 ?_)
    exact wpAny_bind (wpAny_pure (wpAny_newObj_type (h c' .none h' tk hx g1 g2 hrec htb.2) (by size_fits)))
  | cons u r =>
    simp only [List.isEmpty_cons, Bool.false_eq_true, if_false]
    refine wpAny_bind (wpAny_newTextTuple ?_)
    have C2 := fun oT : Obj => C.keeps (h' := s.heap.push oT) fun b o e => Heap.get?_push_of_some _ e
    refine wpAny_bind (wpAny_functionCodeX hco ((C2 _).code (Heap.get?_push_of_some _ hP) ht) ((C2 _).tab (Heap.get?_push_of_some _ hP)) hnf fun c' h' tk hx g1 g2 _ hrec htb _ => ?_)
    have hg2 := (hg.push _).extBut hx hgP
    have hx2 : Heap.ExtBut P s.heap h' := fun b o nb e => hx b o nb (Heap.get?_push_of_some _ e)
    have g3 : s.heap.objs.size ≤ c' := Nat.le_trans (by rw [Heap.size_push]; omega) g1
    refine wpAny_bind (wpAny_builtinsFor hg2 b1 b2 (hx2 _ _ b4 b5) b6 b7 b8 ?_)
    refine wpAny_bind (wpAny_nsGet hg2 ?_)
    exact wpAny_bind (wpAny_pure (wpAny_newObj_type (h c' _ h' tk hx2 g3 g2 hrec htb.2) (by size_fits)))
/-- its code object is found in the table -/
theorem tail_hit {c' : Addr} (hcl : closureFor scope env = pure cl) (hge : env.globals = mainGlobals) (hg : s.heap.Ns mainGlobals mg) (hco : env.code = .ref c) (C : PySem.W.CodeHd s.heap c P)
    (hP : s.heap.get? P = some { cls := .none, data := .fields ps }) (ht : TriplesOk ps.toList) (hf : codeAmong pos ps.toList = some (.ref c')) (hb : s.heap.BuiltinsAt mg P)
    (h : ∀ (ct : Value) (h' : Heap) (tk : Tok), (∀ b o, s.heap.get? b = some o → h'.get? b = some o) → s.heap.objs.size ≤ h'.objs.size →
      Q (.ref h'.objs.size) { s with heap := h'.push (obV q params body scope cl ((mg "__name__").getD .none) c' ct dV), toks := tk }) :
    wpAny M A (makeTail "<lambda>" q params (.expr body) scope env dV .none none pos ln) Q E s := by
  obtain ⟨bm, ob, b1, b2, _, b4, b5, b6, b7, b8⟩ := hb
  unfold makeTail
  rw [hcl, hge]
  refine wpAny_bind (wpAny_pure ?_)
  cases cl with
  | nil =>
    simp only [List.isEmpty_nil, if_true]
    refine wpAny_bind (wpAny_pure ?_)
    refine wpAny_bind (wpAny_functionCode_hit hco (C.code hP ht) hf ?_)
    refine wpAny_bind (wpAny_builtinsFor hg b1 b2 b5 b6 b7 b8 ?_)
    refine wpAny_bind (wpAny_nsGet hg ?_)
    exact wpAny_bind (wpAny_pure (wpAny_newObj_type (h .none s.heap s.toks (fun _ _ z => z) (Nat.le_refl _)) (by size_fits)))
  | cons u r =>
    simp only [List.isEmpty_cons, Bool.false_eq_true, if_false]
    refine wpAny_bind (wpAny_newTextTuple ?_)
    have C2 := fun oT : Obj => C.keeps (h' := s.heap.push oT) fun b o e => Heap.get?_push_of_some _ e
    refine wpAny_bind (wpAny_functionCode_hit hco ((C2 _).code (Heap.get?_push_of_some _ hP) ht) hf ?_)
    refine wpAny_bind (wpAny_builtinsFor (hg.push _) b1 b2 (Heap.get?_push_of_some _ b5) b6 b7 b8 ?_)
    refine wpAny_bind (wpAny_nsGet (hg.push _) ?_)
    exact wpAny_bind (wpAny_pure (wpAny_newObj_type (h _ _ s.toks (fun b o e => Heap.get?_push_of_some _ e) (by rw [Heap.size_push]; omega)) (by size_fits)))
end
section
variable {X : Cx} {pins : List (Addr × Obj)} {σ : L2.St} {H : Hp} {s : Shared}
/-- the rest of the making, its defaults there -/
theorem make_rest {T : List (Addr × Str)} {c P : Addr} {params : Arguments} {body : Expr} {scope : Scope} {pos : Pos} {ln : Nat} {dV : Value} {E : Value → Shared → Prop} {Q : Value → Shared → Prop} (I : Inv X pins σ H s) (TB : TabB X.base X.mg c P) (hco : X.env.code = .ref c)
    (hm : (P, X.env.qual ++ "<lambda>") ∈ T) (hu : ∀ p ∈ T, p.1 = P → p.2 = X.env.qual ++ "<lambda>") (hT : Tabs T H) (hfree : ∀ y ∈ scope.names, y.2 = .free → ∃ c, X.env.cells.lookup y.1 = some c)
    (h : ∀ (f c' : Addr) (H1 : Hp) (s' : Shared), Inv X pins σ H1 s' → ExtN H H1 → Tabs T H1 → H1 f = some (LamO f (X.env.qual ++ "<lambda>") params body scope (cloFrom X.env.cells scope.names []) c' dV) → H1 c' = some (CodeO c' (X.env.qual ++ "<lambda>")) → Q (.ref f) s') :
    wpAny (model X.prog X.w) X.A (makeTail "<lambda>" (X.env.qual ++ "<lambda>") params (.expr body) scope X.env dV .none none pos ln) Q E s := by
  obtain ⟨ps, hP, ht, ha⟩ := hT _ hm
  have bP : s.heap.BuiltinsAt X.mg P := TB.bm.keeps I.bk
  have hP' : s.heap.get? P = some { cls := .none, data := .fields ps } := I.hok P _ hP
  cases hc : codeAmong pos ps.toList with
  | none =>
    refine tail_new (mg := X.mg) (c := c) (P := P) (ps := ps) (closure_ok hfree) I.ok.glob (I.mod.glob.keeps I.bk) hco (TB.code.keeps I.bk) hP' ht hc TB.gP bP fun c' ct h' tk hx g1 g2 hrec htb => ?_
    obtain ⟨c2, oc, vs, t, e2, hoc, hd, hv⟩ := hrec
    cases e2
    have nC : H c' = none := I.hok.fresh g1
    have nPc : P ≠ c' := ne_of_none hP nC
    have I1 := inv_table (t' := tk) (more := #[rawInt pos.line, rawInt pos.col, .ref c']) (h' := h') I hP (fun b o nb e => hx b o nb e) htb g1 ⟨oc, vs, t, hoc, hd, hv⟩
    have hE : ExtN H (upd (upd H P (.tbl (ps ++ #[rawInt pos.line, rawInt pos.col, .ref c']))) c' (CodeO c' (X.env.qual ++ "<lambda>"))) := fun b o e n => by
      have z : b ≠ P := fun z => n ps (Option.some.inj (e.symm.trans (by rw [z]; exact hP)))
      rw [upd_ne (ne_of_none e nC), upd_ne z]
      exact e
    have eL : (ps ++ #[rawInt pos.line, rawInt pos.col, .ref c']).toList = ps.toList ++ [rawInt pos.line, rawInt pos.col, .ref c'] := by simp
    have T1 : Tabs T (upd (upd H P (.tbl (ps ++ #[rawInt pos.line, rawInt pos.col, .ref c']))) c' (CodeO c' (X.env.qual ++ "<lambda>"))) := fun p hp => by
      by_cases z : p.1 = P
      · rw [hu p hp z, z]
        refine ⟨_, by rw [upd_ne nPc, upd_same], by rw [eL]; exact PySem.TriplesOk_snoc _ _ _ _ ht, fun p' cv hcv => ?_⟩
        rw [eL] at hcv
        rcases among_app _ ht hcv with y | y
        · obtain ⟨d0, d1, d2⟩ := ha p' cv y
          exact ⟨d0, d1, hE _ _ d2 codeO_ne⟩
        · exact ⟨c', y, upd_same⟩
      · obtain ⟨qs, a1, a2, a3⟩ := hT p hp
        refine ⟨qs, by rw [upd_ne (ne_of_none a1 nC), upd_ne z]; exact a1, a2, fun p' cv hcv => ?_⟩
        obtain ⟨d0, d1, d2⟩ := a3 p' cv hcv
        exact ⟨d0, d1, hE _ _ d2 codeO_ne⟩
    have nf := I1.hok.fresh (Nat.le_refl h'.objs.size)
    have e1 := Heap.get?_push_size h' (o := obV (X.env.qual ++ "<lambda>") params body scope (cloFrom X.env.cells scope.names []) ((X.mg "__name__").getD .none) c' ct dV) rfl
    have I2 := I1.laid (t' := tk) (a := h'.objs.size) (o := LamO h'.objs.size (X.env.qual ++ "<lambda>") params body scope (cloFrom X.env.cells scope.names []) c' dV) (h' := h'.push (obV (X.env.qual ++ "<lambda>") params body scope (cloFrom X.env.cells scope.names []) ((X.mg "__name__").getD .none) c' ct dV))
      (fun b o e => Heap.get?_push_of_some _ e) (Nat.le_refl _) (lamO_ok e1)
    exact h _ c' _ _ I2 (hE.trans (ExtN.of (Ch.Same.new nf))) (Tabs.ext T1 (Ch.Same.new nf)) upd_same (Ch.up upd_same nf)
  | some cv =>
    obtain ⟨c', e, hco'⟩ := ha pos cv hc
    subst e
    refine tail_hit (mg := X.mg) (c := c) (P := P) (ps := ps) (closure_ok hfree) I.ok.glob (I.mod.glob.keeps I.bk) hco (TB.code.keeps I.bk) hP' ht hc bP fun ct h' tk hx g1 => ?_
    have I1 := I.kept (t' := tk) hx
    have nf : H h'.objs.size = none := I.hok.fresh g1
    have e1 := Heap.get?_push_size h' (o := obV (X.env.qual ++ "<lambda>") params body scope (cloFrom X.env.cells scope.names []) ((X.mg "__name__").getD .none) c' ct dV) rfl
    have I2 := I1.laid (t' := tk) (a := h'.objs.size) (o := LamO h'.objs.size (X.env.qual ++ "<lambda>") params body scope (cloFrom X.env.cells scope.names []) c' dV) (h' := h'.push (obV (X.env.qual ++ "<lambda>") params body scope (cloFrom X.env.cells scope.names []) ((X.mg "__name__").getD .none) c' ct dV))
      (fun b o e => Heap.get?_push_of_some _ e) (Nat.le_refl _) (lamO_ok e1)
    exact h _ c' _ _ I2 (ExtN.of (Ch.Same.new nf)) (Tabs.ext hT (Ch.Same.new nf)) upd_same (Ch.up hco' nf)
end
end LamV
/-! #### the rules of making -/
namespace LamV
open PySem PySem.Spec PyProof.Rows L2 LamX
def tLamMk (T : List (Addr × Str)) (q : Str) (params : Arguments) (body : Expr) (scope : Scope) (cl : List (Str × Addr)) : TE := fun σ H Q => Tabs T H ∧
  ∀ (f c' : Addr) (H1 : Hp), ExtN H H1 → Tabs T H1 → H1 f = some (LamO f q params body scope cl c' .none) → H1 c' = some (CodeO c' q) → Q (.ref f) H1
def tLamMk1 (T : List (Addr × Str)) (q : Str) (params : Arguments) (body : Expr) (scope : Scope) (cl : List (Str × Addr)) (d : Int) : TE := fun σ H Q => Tabs T H ∧
  ∀ (f c' D : Addr) (H1 : Hp), ExtN H H1 → Tabs T H1 → H1 f = some (LamO f q params body scope cl c' (.ref D)) → H1 c' = some (CodeO c' q) → H1 D = some (.tup [.int d]) → Q (.ref f) H1
section
variable {X : Cx} {T : List (Addr × Str)} {c P : Addr} {params : Arguments} {body : Expr} {scope : Scope} {pos : Pos}
/-- lambda: body -/
theorem pe_lam (TB : TabB X.base X.mg c P) (hco : X.env.code = .ref c) (hm : (P, X.env.qual ++ "<lambda>") ∈ T) (hu : ∀ p ∈ T, p.1 = P → p.2 = X.env.qual ++ "<lambda>") (hfree : X.Ok → ∀ y ∈ scope.names, y.2 = .free → ∃ c, X.env.cells.lookup y.1 = some c)
    (hdef : defaultsOf params X.env = ([], [])) : PE X (.Lambda params body scope pos) (tLamMk T (X.env.qual ++ "<lambda>") params body scope (cloFrom X.env.cells scope.names [])) := by
  refine ⟨fun pins s σ H Q I h => ?_⟩
  obtain ⟨hT, h⟩ := h
  refine PySem.W.kla_eval hdef ?_
  rw [makeFunction_eq]
  simp only [List.zip_nil_right, List.filterMap_nil,
    List.isEmpty_nil, if_true, pure_bind]
  exact make_rest I TB hco hm hu hT (hfree I.ok) fun f c' H1 s' I1 e1 T1 a1 a2 => ⟨.ref f, H1, I1, rfl, h f c' H1 e1 T1 a1 a2⟩
/-- lambda p=d: body, d a written int -/
theorem pe_lam1 {d : Int} {ed : Expr} (TB : TabB X.base X.mg c P) (hco : X.env.code = .ref c) (hm : (P, X.env.qual ++ "<lambda>") ∈ T) (hu : ∀ p ∈ T, p.1 = P → p.2 = X.env.qual ++ "<lambda>") (hfree : X.Ok → ∀ y ∈ scope.names, y.2 = .free → ∃ c, X.env.cells.lookup y.1 = some c)
    (he : PE X ed (tC (.int d))) (hdef : defaultsOf params X.env = ([eval ed X.env], [])) : PE X (.Lambda params body scope pos) (tLamMk1 T (X.env.qual ++ "<lambda>") params body scope (cloFrom X.env.cells scope.names []) d) := by
  refine ⟨fun pins s σ H Q I h => ?_⟩
  obtain ⟨hT, h⟩ := h
  rw [arm_eval_Lambda, hdef]
  show wpAny _ _ (do
    let dv ← evalAll [eval ed X.env]
    let kdv ← holding dv (evalAllOpt [])
    makeFunction "<lambda>" (X.env.qual ++ "<lambda>") params (.expr body) scope X.env dv kdv [] pos pos.line) _ _ _
  refine wpAny_bind (wpAny_evalAll_cons (thn (he.run pins s σ H (fun v H1 => v = .int d ∧ H1 = H) I ⟨rfl, rfl⟩) fun u s1 ⟨v, H1, I1, rv, ev, eH⟩ => wpAny_pure ?_))
  subst ev
  subst eH
  refine wpAny_bind (wpAny_holding (wpAny_pure ?_))
  rw [makeFunction_eq]
  simp only [List.zip_nil_right, List.filterMap_nil,
    List.isEmpty_nil, List.isEmpty_cons, Bool.false_eq_true, if_false, if_true, pure_bind]
  refine wpAny_bind (wpAny_newTextTuple ?_)
  have nD : H1 s1.heap.objs.size = none := I1.hok.fresh (Nat.le_refl _)
  have I2 := I1.laid (t' := s1.toks) (a := s1.heap.objs.size) (o := .tup [.int d]) (h' := s1.heap.push { cls := .type "tuple", data := .seq [u].toArray }) (fun b o e => Heap.get?_push_of_some _ e) (Nat.le_refl _)
    ⟨by show 1 ≤ sizeLine; rw [sizeLine_eq]; omega, [u], .cons rv .nil, ⟨_, Heap.get?_push_size _ rfl, rfl, _, rfl⟩⟩
  have s2 := Ch.Same.new (o := .tup [.int d]) nD
  exact make_rest I2 TB hco hm hu (Tabs.ext hT s2) (hfree I.ok) fun f c' H1 s' I1 e1 T1 a1 a2 => ⟨.ref f, H1, I1, rfl, h f c' _ H1 ((ExtN.of s2).trans e1) T1 a1 a2 (e1 _ _ upd_same fun ps z => nomatch z)⟩
end
/-! #### calling -/
/-- how the call without arguments binds -/
def DOk (params : Arguments) (body : Expr) (scope : Scope) (dV : Value) (H : Hp) : Prop :=
  (dV = .none ∧ ∀ (q : Str) (cl : List (Str × Addr)) (pm cv ct : Value), bindArgs (fdV q params body scope cl pm cv ct .none) ⟨[], []⟩ = pure []) ∨
  ∃ (D : Addr) (d : V) (p : Str), dV = .ref D ∧ H D = some (.tup [d]) ∧ scope.names.lookup p = some .local ∧
    ∀ (q : Str) (cl : List (Str × Addr)) (pm cv ct u : Value), ∃ kf : Option (Array Value) → Sem (List (Str × Value)), bindArgs (fdV q params body scope cl pm cv ct (.ref D)) ⟨[], []⟩ = seqItems? (.ref D) >>= kf ∧ kf (some #[u]) = pure [(p, u)]
/-- what the lambda's scope may hold: own names that the def does not know -/
structure LamS3 (sc : Scope) (N : List Str) (scope : Scope) : Prop where
  kind : scope.kind = .function
  co : scope.isCoroutine = false
  gen : scope.isGenerator = false
  cel : ∀ y ∈ scope.names, y.2 ≠ .cell
  own : ∀ y ∈ scope.names, y.2 = .local → y.1 ∉ N
  free : ∀ y ∈ scope.names, y.2 = .free → sc.names.lookup y.1 = some .cell ∨ sc.names.lookup y.1 = some .free
def lamS3B (sc : Scope) (N : List Str) (scope : Scope) : Bool :=
  decide (scope.kind = .function) && (!scope.isCoroutine && (!scope.isGenerator && scope.names.all fun y => !decide (y.2 = .cell) && ((!decide (y.2 = .local) || !N.contains y.1) && (!decide (y.2 = .free) || (decide (sc.names.lookup y.1 = some .cell) || decide (sc.names.lookup y.1 = some .free))))))
theorem lamS3_by {sc : Scope} {N : List Str} {scope : Scope} (h : lamS3B sc N scope = true) : LamS3 sc N scope := by
  unfold lamS3B at h
  rw [Bool.and_eq_true, Bool.and_eq_true, Bool.and_eq_true, List.all_eq_true] at h
  obtain ⟨h1, h2, h3, h4⟩ := h
  have g : ∀ y ∈ scope.names, y.2 ≠ .cell ∧ (y.2 = .local → y.1 ∉ N) ∧ (y.2 = .free → sc.names.lookup y.1 = some .cell ∨ sc.names.lookup y.1 = some .free) := fun y hy => by
    have := h4 y hy
    rw [Bool.and_eq_true, Bool.and_eq_true, Bool.or_eq_true, Bool.or_eq_true, Bool.or_eq_true] at this
    obtain ⟨a, b, c⟩ := this
    refine ⟨by simpa using a, fun e => ?_, fun e => ?_⟩
    · rcases b with b | b
      · rw [e] at b; simp at b
      · simpa using b
    · rcases c with c | c | c
      · rw [e] at c; simp at c
      · exact .inl (of_decide_eq_true c)
      · exact .inr (of_decide_eq_true c)
  exact ⟨of_decide_eq_true h1, by simpa using h2, by simpa using h3, fun y hy => (g y hy).1, fun y hy => (g y hy).2.1, fun y hy => (g y hy).2.2⟩
theorem LamS3.has {X : Cx} {scope : Scope} (L : LamS3 X.env.scope X.N scope) (ok : X.Ok) : ∀ y ∈ scope.names, y.2 = .free → ∃ c, X.env.cells.lookup y.1 = some c := fun y hy e => by
  rcases L.free y hy e with u | u
  · exact ok.has _ (.inl u)
  · exact ok.has _ (.inr u)
section
variable {X : Cx} {pins : List (Addr × Obj)} {σ : L2.St} {H HZ : Hp} {s s1 : Shared}
theorem enter {A : Around} {outer : List Env} {E : XK} {scope : Scope} {f c' : Addr} {g1 : Heap} {tk : Nat} {binds : List (Str × Value)} (I : Inv X pins σ H s) (L : LamS3 X.env.scope X.N scope) (e0 : Env0 X.prog X.w X.K X.mg X.base A outer s1 HZ) (hd : A.handled = none)
    (kc : ∀ y c, X.env.cells.lookup y = some c → HZ c = none ∧ ∀ v, s.heap.IsCell c v → s1.heap.IsCell c v) (hns : g1.Ns s1.heap.objs.size fun y => binds.reverse.lookup y) (kp : ∀ b o, s1.heap.get? b = some o → g1.get? b = some o) :
    Inv (lamCx X A outer s1 HZ E scope f c') [] σ HZ { s1 with heap := g1, toks := tk } := by
  have hfr := L.has I.ok
  have back : ∀ {y c}, (cloFrom X.env.cells scope.names []).lookup y = some c → X.env.cells.lookup y = some c := fun {y c} e => by
    rcases cloFrom_mem (PySem.mem_of_lookup e) with hm | ⟨u1, u2⟩
    · cases hm
    · obtain ⟨c1, hc⟩ := hfr _ u1 rfl
      have hc : X.env.cells.lookup y = some c1 := hc
      have ec : c = c1 := by
        rw [u2, hc] <;> rfl
      rw [ec]
      exact hc
  have there : ∀ {y}, scope.names.lookup y = some .free → ∃ c, (cloFrom X.env.cells scope.names []).lookup y = some c := fun {y} hl => by
    have hy : (y, NameKind.free) ∈ scope.names := PySem.mem_of_lookup hl
    exact mem_lookup (cloFrom_has (cells := X.env.cells) (acc := []) hy)
  have cellIn : ∀ {y : Str} {c : Addr} {v : Option Value}, X.env.cells.lookup y = some c → s.heap.IsCell c v → g1.IsCell c v := fun {y c v} e z => by
    obtain ⟨o, ho, hdt⟩ := (kc y c e).2 v z
    exact ⟨o, kp _ _ ho, hdt⟩
  have noex : ∀ b : Addr, b ∉ (lamCx X A outer s1 HZ E scope f c').ex := fun b z => absurd (show b ∈ ([] : List Addr) from z) (by simp)
  refine ⟨⟨e0.mod, L.kind, rfl, rfl, Nat.le_refl _, fun y z c u1 u2 => I.ok.inj y z c (back u1) (back u2), fun y hy => ?_, fun y c z _ => ?_, fun _ => hd, Around.frames_deeper e0.frames, .inr ⟨rfl, rfl⟩, fun b z => absurd z (noex b), e0.bs, e0.bsz, fun b _ _ => noex b,
      fun b z => absurd z (noex b), e0.funs, e0.frf⟩, rfl, e0.bare, Un.kept kp,
    ⟨_, hns, fun i y v u1 u2 u3 => ?_⟩, fun y c e => ?_, e0.hok.fresh (Nat.le_refl _), fun y c e => ?_, fun q hq => absurd (show q ∈ ([] : List (Addr × Obj)) ++ [] from hq) (by simp), e0.hok.kept kp, I.len⟩
  · have hy : scope.names.lookup y = some .cell ∨ scope.names.lookup y = some .free := hy
    rcases hy with hy | hy
    · exact absurd rfl (L.cel _ (PySem.mem_of_lookup hy))
    · exact there hy
  · have z : false = true := z
    cases z
  · have u3 : Vis scope y := u3
    rcases u3 with k | k | k
    · exact absurd (List.mem_of_getElem? u1) (L.own _ (PySem.mem_of_lookup k) rfl)
    · exact absurd rfl (L.cel _ (PySem.mem_of_lookup k))
    · obtain ⟨m, _, hl⟩ := I.loc
      have vis : Vis X.env.scope y := (L.free _ (PySem.mem_of_lookup k) rfl).elim (fun u => .inr (.inl u)) (fun u => .inr (.inr u))
      obtain ⟨w', r, q⟩ := hl i y v u1 u2 vis
      obtain ⟨c2, h2⟩ := there k
      refine ⟨w', r, .inr ⟨.inr k, c2, h2, ?_⟩⟩
      have c1 := back h2
      rcases q with ⟨k', _⟩ | ⟨_, c3, e', z⟩
      · have k' : X.env.scope.names.lookup y = some .local := k'
        rcases L.free _ (PySem.mem_of_lookup k) rfl with u | u <;> rw [show X.env.scope.names.lookup y = _ from u] at k' <;> cases k'
      · rw [c1] at e'
        cases e'
        exact cellIn c1 z
  · obtain ⟨w', z⟩ := I.cell y c (back e)
    exact ⟨w', cellIn (back e) z⟩
  · exact (kc y c (back e)).1
/-- a(), in the def that got the lambda -/
theorem pe_actV {CXg : CXT} {Eg : XK} {Ng : List Str} {qg : Str} {sg : Scope} {g f c' : Addr} {cdg dV : Value} {params : Arguments} {body : Expr} {scope : Scope} {k i : Nat} {a : Str} {pn : List (Addr × Obj)} {xe : Value → Shared → Prop} {W : WX} {E : XK} {tb : TE} {p1 p2 : Pos}
    {sc : Shared} {Hc : Hp} (I : Inv X pins σ Hc sc) (link : ∀ y c, X.env.cells.lookup y = some c → H c = none ∧ ∀ v, sc.heap.IsCell c v → s.heap.IsCell c v) (L : LamS3 X.env.scope X.N scope) (hfO : H f = some (LamO f (X.env.qual ++ "<lambda>") params body scope (cloFrom X.env.cells scope.names []) c' dV))
    (tk : Takes ((cxOf CXg X.prog X.w X.K X.mg X.base Ng qg sg g cdg X.A X.stack s H Eg).tr pn xe) W) (hW : ∀ cls d σ' H', E cls d H' → W cls d σ' H') (hr : Room (k + 1) (X.A.deeper (envOfC qg sg s.heap.objs.size g cdg)))
    (hbody : ∀ (A : Around) (outer : List Env) (s : Shared) (H : Hp), Room k (A.deeper (lamEnv X scope s.heap.objs.size f c')) → PE (lamCx X A outer s H E scope f c') body tb)
    (hN : Ng[i]? = some a) (hv : Vis sg a) (hd : (a == ("__debug__" : Str)) = false := by decide) (hcd : (a == ("__classdict__" : Str)) = false := by decide) :
    PE ((cxOf CXg X.prog X.w X.K X.mg X.base Ng qg sg g cdg X.A X.stack s H Eg).tr pn xe) (.Call (.Name a p1) [] [] p2)
      (fun σZ HZ Q => σZ[i]? = some (some (.ref f)) ∧ HZ c' = some (CodeO c' (X.env.qual ++ "<lambda>")) ∧ HZ f = some (LamO f (X.env.qual ++ "<lambda>") params body scope (cloFrom X.env.cells scope.names []) c' dV) ∧ DOk params body scope dV HZ ∧ tb σ HZ Q) := by
  refine ⟨fun pinsZ sZ σZ HZ Q IZ h => ?_⟩
  obtain ⟨hs, hc, hfz, hdo, ht⟩ := h
  refine wpAny_Call_Name_kw (thn ((pe_var (pos := p1) (i := i) hN hv hd hcd).run pinsZ sZ σZ HZ (fun v H1 => v = .ref f ∧ H1 = HZ) IZ ⟨.ref f, hs, rfl, rfl⟩) fun u s1 ⟨v, H1, I1, r1, q1⟩ => ?_)
  obtain ⟨ev, eH⟩ := q1
  subst ev
  rw [eH] at I1
  obtain rfl : u = Value.ref f := r1
  obtain ⟨pm1, ct1, of1⟩ := lamO_at I1.hok hfz
  refine PySem.W.callWith_F0 ⟨_, _, _, _, of1⟩ ?_
  have un : Un (frs X.stack) [] H HZ s.heap s1.heap := I1.base
  have kc : ∀ y c, X.env.cells.lookup y = some c → HZ c = none ∧ ∀ v, sc.heap.IsCell c v → s1.heap.IsCell c v := fun y c e => by
    obtain ⟨n, l⟩ := link y c e
    obtain ⟨w0, z0⟩ := I.cell y c e
    obtain ⟨o0, e0, _⟩ := l w0 z0
    refine ⟨un.free c o0 e0 n (by simp), fun v z => ?_⟩
    obtain ⟨o, ho, hdt⟩ := l v z
    obtain ⟨sl, q⟩ := un.any ho n (by simp)
    exact ⟨_, q, hdt⟩
  obtain ⟨⟨oc, vs, t, hoc, hdc, hvc⟩, _, _⟩ := I1.hok c' _ hc
  have bnd : ∃ binds : List (Str × Value), BindsTo s1 (fdV (X.env.qual ++ "<lambda>") params body scope (cloFrom X.env.cells scope.names []) pm1 (.ref c') ct1 dV) ⟨[], []⟩ binds ∧ ∀ y ∈ binds, scope.names.lookup y.1 = some .local := by
    rcases hdo with ⟨rfl, hb⟩ | ⟨D, d, p, rfl, hD, hl, hb1⟩
    · exact ⟨[], BindsTo.of_eq (hb _ _ _ _ _), fun y hy => nomatch hy⟩
    · have x : ObjOk X.prog X.w HZ s1.heap D (.tup [d]) := I1.hok D _ hD
      obtain ⟨_, its, rv, oT, n1, n2, n3, n4⟩ := x
      cases rv with
      | @cons _ u0 _ ur ra rw' =>
        cases rw'
        exact ⟨[(p, u0)], let ⟨kf, b1, b2⟩ := hb1 _ _ _ _ _ u0; BindsTo.of_defaults (T := D) (o := oT) (items := #[u0]) (n := n3) (k := kf) rfl n1 n4 b1 b2, fun y hy => by rw [List.mem_singleton.mp hy]; exact hl⟩
  obtain ⟨binds, hbt, hbl⟩ := bnd
  have rc : codeAny (model X.prog X.w) (X.A.deeper (envOfC qg sg s.heap.objs.size g cdg)) (.call (.ref f) ⟨[], []⟩) (CR (L2.CX X.prog X.w) (envOfC qg sg s.heap.objs.size g cdg :: X.stack) X.prog X.w HZ s1 Q E) s1 := by
    refine PySem.W.kla_callFunE hr.depth of1 rfl L.co L.gen rfl ⟨c', oc, vs, t, rfl, hoc, hdc, hvc⟩ (hbt _ _ _ _ ?_)
    refine wpAny_newFunctionEnv (fun y hy => L.cel y hy) hbl (fun g1 hns hsb => ⟨I1.nolimit.fresh _ hsb, ?_⟩) L.kind
    show codeAny _ _ (.expr body (lamEnv X scope s1.heap.objs.size f c')) _ _
    have kp : ∀ b o, s1.heap.get? b = some o → g1.get? b = some o := fun b o e => hsb.extBut b o (Nat.ne_of_lt (Heap.lt_size e)) (Heap.get?_push_of_some _ e)
    have J : Inv (lamCx X (X.A.deeper (envOfC qg sg s.heap.objs.size g cdg)) (envOfC qg sg s.heap.objs.size g cdg :: X.stack) s1 HZ E scope f c') [] σ HZ { s1 with heap := g1, toks := s1.toks + binds.length } := enter I L I1.env0 hr.hd kc hns kp
    refine PySem.W.kla_codeExpr (wpAny_mono ((hbody _ _ s1 HZ (hr.deeper _)).run [] _ _ HZ Q J ht) (fun v s' hq => ?_) fun e s' hq => hq)
    obtain ⟨w', H', J', rv, q⟩ := hq
    exact ⟨w', H', J'.os, J'.bare, J'.base, J'.hok, rv, q⟩
  have hx : Passes (L2.CX X.prog X.w) ((cxOf CXg X.prog X.w X.K X.mg X.base Ng qg sg g cdg X.A X.stack s H Eg).tr pn xe) E := passes_call tk hW
  refine wpAny_call (codeAny_mono rc fun r s' hq => ?_)
  cases r with
  | error e => exact hx pinsZ σZ HZ s1 e s' I1 hq
  | ok fl =>
    cases fl with
    | ret u => exact I1.after hq
    | next => exact False.elim hq
    | brk => exact False.elim hq
    | cont => exact False.elim hq
/-- x(w), w a name that holds a lambda made here -/
def tOutV (X : Cx) (k i : Nat) (TT : (XK → Hp → VK → Prop) → Hp → VK → Prop) : TE := fun σ H Q => ∃ (f c' : Addr) (dV : Value) (params : Arguments) (body : Expr) (scope : Scope) (t : XK → TE), σ[i]? = some (some (.ref f)) ∧
  H f = some (LamO f (X.env.qual ++ "<lambda>") params body scope (cloFrom X.env.cells scope.names []) c' dV) ∧ H c' = some (CodeO c' (X.env.qual ++ "<lambda>")) ∧ LamS3 X.env.scope X.N scope ∧
  (∀ (A : Around) (outer : List Env) (s : Shared) (H : Hp) (E : XK), Room k (A.deeper (lamEnv X scope s.heap.objs.size f c')) → PE (lamCx X A outer s H E scope f c') body (t E)) ∧
  TT (fun E H' Q' => H' f = some (LamO f (X.env.qual ++ "<lambda>") params body scope (cloFrom X.env.cells scope.names []) c' dV) ∧ DOk params body scope dV H' ∧ t E σ H' Q') H Q
theorem pe_callV {TT : (XK → Hp → VK → Prop) → Hp → VK → Prop} {x a b : Str} {g : Addr} {k i : Nat} {pg : Arguments} {bg : List Stmt} {sg : Scope} {fd : FuncData} {Ng : List Str} {p p0 pos : Pos} (F : FunD X.K x x pg bg sg [] [] g fd) (hm : X.mg x = some (.ref g)) (hb : Binds X.K fd [a] [])
    (Sg : FnScope Ng [a] sg) (hG : ∀ cdg : Value, GivesTo X Ng x sg g cdg bg a (X.env.qual ++ "<lambda>") TT) (hr : Room (k + 2) X.A) (hw : PE X (.Name b p0) (tVar i)) (hg : Gl X x) (hNg : Ng[0]? = some a) (hva : Vis sg a)
    (hdb : (x == ("__debug__" : Str)) = false := by decide) (hd : (a == ("__debug__" : Str)) = false := by decide) (hcd : (a == ("__classdict__" : Str)) = false := by decide)
    (he : starEach [.Name b p0] X.env = (false, eval (.Name b p0) X.env) :: starEach [] X.env := by rfl) (hpl : (backTo pos (starEach [] X.env)).any (·.1) = false := by rfl) :
    PE X (.Call (.Name x p) [.Name b p0] [] pos) (tOutV X k i TT) := by
  obtain ⟨oc, od, dVg, kV, doc, pm, an, cdv, ctg, osl, rfl, lk, hcd', _, _⟩ := id F.ex
  refine ⟨fun pins s σ H Q I h => ?_⟩
  obtain ⟨f, c', dV, params, body, scope, t, hs, hfO, hco, L, hbody, hTT⟩ := h
  refine wpAny_Call_Name_kw (ld_glob I hg hm ?_ hdb)
  have ha : PA X [.Name b p0] (tCons (tVar i) tNil) := pa_cons hw pa_nil
  refine PySem.W.callWith_K (h₀ := X.base) I.ok.mod.kin F.kp (thn (ha.run pos pins s σ H (fun vs H1 => vs = [.ref f] ∧ H1 = H) I ⟨.ref f, hs, rfl, rfl⟩) fun us s1 hh => ?_) he hpl
  obtain ⟨vs, H1, I1, r1, ev, eH⟩ := hh
  subst ev
  rw [eH] at I1
  obtain rfl := Vals.ref1 r1
  refine ⟨I1.kIn, ?_⟩
  have rc : codeAny (model X.prog X.w) X.A (.call (.ref g) ⟨[.ref f], []⟩) (CR C8.CX0 X.stack X.prog X.w H s1 Q C8.E0) s1 := by
    refine run_ofS (N := Ng) (ps := [a]) (us := [.ref f]) (vs := [.ref f]) lk hcd' Sg hr I1.env0 (hb s1 [.ref f] I1.kIn rfl) (.cons rfl .nil) rfl fun hr' => ?_
    obtain ⟨t', ht', hq'⟩ := hG cdv f c' s1 H Q _ (fun W pn xe E p1 p2 tk hW => pe_actV (i := 0) I1 (fun y c e => ⟨I1.freeC y c e, fun v z => z⟩) L hfO tk hW hr' (fun A outer s H hr2 => hbody A outer s H E hr2) hNg hva hd hcd) hco hTT
    exact ⟨t', ht'.nox, hq'⟩
  refine wpAny_call (codeAny_mono rc fun r s2 hq => ?_)
  cases r with
  | error e => exact (show False from hq).elim
  | ok fl =>
    cases fl with
    | ret u => exact I1.after hq
    | next => exact False.elim hq
    | brk => exact False.elim hq
    | cont => exact False.elim hq
/-- x(w), w a name of a comprehension, that holds a lambda of the def around -/
def tOutI (X : Cx) (k i : Nat) (TT : (XK → Hp → VK → Prop) → Hp → VK → Prop) (σ0 : L2.St) : TE := fun σ H Q => ∃ (f c' : Addr) (dV : Value) (params : Arguments) (body : Expr) (scope : Scope) (t : XK → TE), σ[i]? = some (some (.ref f)) ∧
  H f = some (LamO f (X.env.qual ++ "<lambda>") params body scope (cloFrom X.env.cells scope.names []) c' dV) ∧ H c' = some (CodeO c' (X.env.qual ++ "<lambda>")) ∧ LamS3 X.env.scope X.N scope ∧
  (∀ (A : Around) (outer : List Env) (s : Shared) (H : Hp) (E : XK), Room k (A.deeper (lamEnv X scope s.heap.objs.size f c')) → PE (lamCx X A outer s H E scope f c') body (t E)) ∧
  TT (fun E H' Q' => H' f = some (LamO f (X.env.qual ++ "<lambda>") params body scope (cloFrom X.env.cells scope.names []) c' dV) ∧ DOk params body scope dV H' ∧ t E σ0 H' Q') H Q
theorem pe_callI {sc : Shared} {Hc : Hp} {bsc : Scope} {ce : Env} {fp : List Addr} {TT : (XK → Hp → VK → Prop) → Hp → VK → Prop} {x a b : Str} {g : Addr} {k i : Nat} {pg : Arguments} {bg : List Stmt} {sg : Scope} {fd : FuncData} {Ng : List Str} {p p0 pos : Pos}
    (I0 : Inv X pins σ Hc sc) (hfp : ∀ b ∈ fp, FpOk X pins Hc b) (F : FunD X.K x x pg bg sg [] [] g fd) (hm : X.mg x = some (.ref g)) (hb : Binds X.K fd [a] [])
    (Sg : FnScope Ng [a] sg) (hG : ∀ cdg : Value, GivesTo X Ng x sg g cdg bg a (X.env.qual ++ "<lambda>") TT) (hr : Room (k + 2) X.A) (hw : PE (X.blk sc Hc bsc ce fp) (.Name b p0) (tVar i)) (hg : Gl (X.blk sc Hc bsc ce fp) x) (hNg : Ng[0]? = some a) (hva : Vis sg a)
    (hdb : (x == ("__debug__" : Str)) = false := by decide) (hd : (a == ("__debug__" : Str)) = false := by decide) (hcd : (a == ("__classdict__" : Str)) = false := by decide)
    (he : starEach [.Name b p0] (X.blk sc Hc bsc ce fp).env = (false, eval (.Name b p0) (X.blk sc Hc bsc ce fp).env) :: starEach [] (X.blk sc Hc bsc ce fp).env := by rfl) (hpl : (backTo pos (starEach [] (X.blk sc Hc bsc ce fp).env)).any (·.1) = false := by rfl) :
    PE (X.blk sc Hc bsc ce fp) (.Call (.Name x p) [.Name b p0] [] pos) (tOutI X k i TT σ) := by
  obtain ⟨oc, od, dVg, kV, doc, pm, an, cdv, ctg, osl, rfl, lk, hcd', _, _⟩ := id F.ex
  refine ⟨fun pins' s τ H Q I h => ?_⟩
  obtain ⟨f, c', dV, params, body, scope, t, hs, hfO, hco, L, hbody, hTT⟩ := h
  refine wpAny_Call_Name_kw (ld_glob I hg hm ?_ hdb)
  have ha : PA (X.blk sc Hc bsc ce fp) [.Name b p0] (tCons (tVar i) tNil) := pa_cons hw pa_nil
  refine PySem.W.callWith_K (h₀ := X.base) I.ok.mod.kin F.kp (thn (ha.run pos pins' s τ H (fun vs H1 => vs = [.ref f] ∧ H1 = H) I ⟨.ref f, hs, rfl, rfl⟩) fun us s1 hh => ?_) he hpl
  obtain ⟨vs, H1, I1, r1, ev, eH⟩ := hh
  subst ev
  rw [eH] at I1
  obtain rfl := Vals.ref1 r1
  refine ⟨I1.kIn, ?_⟩
  have ub : Un (X.blk sc Hc bsc ce fp).fs fp Hc H sc.heap s1.heap := I1.base
  have link : ∀ y c, X.env.cells.lookup y = some c → H c = none ∧ ∀ v, sc.heap.IsCell c v → s1.heap.IsCell c v := fun y c e => by
    have nfp : c ∉ fp := fun z => (hfp c z).2.2.2.2.1 y c e rfl
    have n := I0.freeC y c e
    obtain ⟨w0, o0, e0, _⟩ := I0.cell y c e
    refine ⟨ub.free c o0 e0 n nfp, fun v z => ?_⟩
    obtain ⟨o, ho, hdt⟩ := z
    obtain ⟨sl, q⟩ := ub.any ho n nfp
    exact ⟨_, q, hdt⟩
  have rc : codeAny (model X.prog X.w) X.A (.call (.ref g) ⟨[.ref f], []⟩) (CR C8.CX0 X.stack X.prog X.w H s1 Q C8.E0) s1 := by
    refine run_ofS (N := Ng) (ps := [a]) (us := [.ref f]) (vs := [.ref f]) lk hcd' Sg hr I1.env0 (hb s1 [.ref f] I1.kIn rfl) (.cons rfl .nil) rfl fun hr' => ?_
    obtain ⟨t', ht', hq'⟩ := hG cdv f c' s1 H Q _ (fun W pn xe E p1 p2 tk hW => pe_actV (i := 0) I0 link L hfO tk hW hr' (fun A outer s H hr2 => hbody A outer s H E hr2) hNg hva hd hcd) hco hTT
    exact ⟨t', ht'.nox, hq'⟩
  refine wpAny_call (codeAny_mono rc fun r s2 hq => ?_)
  cases r with
  | error e => exact (show False from hq).elim
  | ok fl =>
    cases fl with
    | ret u => exact I1.after hq
    | next => exact False.elim hq
    | brk => exact False.elim hq
    | cont => exact False.elim hq
end
end LamV

set_option Elab.async false
set_option linter.all false
set_option autoImplicit false
set_option maxRecDepth 100000
set_option maxHeartbeats 4000000
/-! lambdas of one parameter, handed to a method as its last argument, called there -/
namespace LamP
open PySem PySem.Spec PyProof.Rows L2 LamX LamV
/-- the body's context: it knows the parameter, too -/
abbrev lamCxP (X : Cx) (A : Around) (outer : List Env) (s : Shared) (H : Hp) (E : XK) (scope : Scope) (f c' : Addr) (p : Str) : Cx := { lamCx X A outer s H E scope f c' with N := X.N ++ [p] }
section
variable {X : Cx} {pins : List (Addr × Obj)} {σ : L2.St} {H HZ : Hp} {s s1 : Shared}
theorem enterP {A : Around} {outer : List Env} {E : XK} {scope : Scope} {f c' : Addr} {g1 : Heap} {tk : Nat} {p : Str} {v : V} {u : Value} (I : Inv X pins σ H s) (L : LamS3 X.env.scope X.N scope) (hp : scope.names.lookup p = some .local) (rv : RelV v u)
    (e0 : Env0 X.prog X.w X.K X.mg X.base A outer s1 HZ) (hd : A.handled = none)
    (kc : ∀ y c, X.env.cells.lookup y = some c → HZ c = none ∧ ∀ v, s.heap.IsCell c v → s1.heap.IsCell c v) (hns : g1.Ns s1.heap.objs.size fun y => ([(p, u)] : List (Str × Value)).reverse.lookup y) (kp : ∀ b o, s1.heap.get? b = some o → g1.get? b = some o) :
    Inv (lamCxP X A outer s1 HZ E scope f c' p) [] (σ ++ [some v]) HZ { s1 with heap := g1, toks := tk } := by
  have J : Inv (lamCx X A outer s1 HZ E scope f c') [] σ HZ { s1 with heap := g1, toks := tk } := enter I L e0 hd kc hns kp
  have lenσ : σ.length = X.N.length := I.len
  refine ⟨⟨J.ok.mod, J.ok.kind, J.ok.glob, J.ok.blt, J.ok.above, J.ok.inj, J.ok.has, J.ok.cab, J.ok.hd, J.ok.frames, J.ok.stk, J.ok.exf, J.ok.bs, J.ok.bsz, J.ok.noex, J.ok.exfs, J.ok.funs, J.ok.frf⟩,
    J.os, J.bare, J.base, ⟨_, hns, fun i y w e1 e2 e3 => ?_⟩, J.cell, J.free, J.freeC, J.pin, J.hok, ?_⟩
  · replace e1 : (X.N ++ [p])[i]? = some y := e1
    by_cases hi : i < X.N.length
    · rw [List.getElem?_append_left hi] at e1
      rw [List.getElem?_append_left (by omega)] at e2
      obtain ⟨m, _, hl⟩ := J.loc
      obtain ⟨w', r, q⟩ := hl i y w e1 e2 e3
      refine ⟨w', r, ?_⟩
      rcases q with ⟨k', _⟩ | q
      · exact absurd (List.mem_of_getElem? e1) (L.own _ (PySem.mem_of_lookup (show scope.names.lookup y = some .local from k')) rfl)
      · exact .inr q
    · rw [List.getElem?_append_right (by omega)] at e1 e2
      have h0 : i - X.N.length = 0 := by
        have := (List.getElem?_eq_some_iff.mp e1).1
        simp only [List.length_cons, List.length_nil] at this
        omega
      have h1 : i - σ.length = 0 := by omega
      rw [h0] at e1
      rw [h1] at e2
      have ey : p = y := Option.some.inj e1
      have ew : v = w := Option.some.inj (Option.some.inj e2)
      subst ey
      subst ew
      refine ⟨u, rv, .inl ⟨hp, ?_⟩⟩
      show (List.lookup p [(p, u)]) = some u
      simp
  · show (σ ++ [some v]).length = (X.N ++ [p]).length
    rw [List.length_append, List.length_append, lenσ]
    rfl
/-- a(e), in the def that got the lambda -/
theorem pe_actP {Ng : List Str} {qg : Str} {sg : Scope} {g f c' : Addr} {cdg : Value} {params : Arguments} {body : Expr} {scope : Scope} {k i : Nat} {a p : Str} {tb te : TE} {p1 p2 : Pos} {e : Expr}
    {sc : Shared} {Hc : Hp} (I : Inv X pins σ Hc sc) (link : ∀ y c, X.env.cells.lookup y = some c → H c = none ∧ ∀ v, sc.heap.IsCell c v → s.heap.IsCell c v) (L : LamS3 X.env.scope X.N scope) (hp : scope.names.lookup p = some .local)
    (hbind : ∀ (q : Str) (cl : List (Str × Addr)) (pm cv ct u : Value), bindArgs (fdV q params body scope cl pm cv ct .none) ⟨[u], []⟩ = pure [(p, u)])
    (hr : Room (k + 1) (X.A.deeper (envOfC qg sg s.heap.objs.size g cdg)))
    (hbody : ∀ (A : Around) (outer : List Env) (s : Shared) (H : Hp), Room k (A.deeper (lamEnv X scope s.heap.objs.size f c')) → PE (lamCxP X A outer s H (fun _ _ _ => False) scope f c' p) body tb)
    (he : PE (cxOf C8.CX0 X.prog X.w X.K X.mg X.base Ng qg sg g cdg X.A X.stack s H C8.E0).nox e te)
    (hst : starEach [e] (cxOf C8.CX0 X.prog X.w X.K X.mg X.base Ng qg sg g cdg X.A X.stack s H C8.E0).nox.env = (false, eval e (cxOf C8.CX0 X.prog X.w X.K X.mg X.base Ng qg sg g cdg X.A X.stack s H C8.E0).nox.env) :: starEach [] (cxOf C8.CX0 X.prog X.w X.K X.mg X.base Ng qg sg g cdg X.A X.stack s H C8.E0).nox.env)
    (hN : Ng[i]? = some a) (hv : Vis sg a) (hd : (a == ("__debug__" : Str)) = false := by decide) (hcd : (a == ("__classdict__" : Str)) = false := by decide) :
    PE (cxOf C8.CX0 X.prog X.w X.K X.mg X.base Ng qg sg g cdg X.A X.stack s H C8.E0).nox (.Call (.Name a p1) [e] [] p2)
      (fun σZ HZ Q => σZ[i]? = some (some (.ref f)) ∧ HZ f = some (LamO f (X.env.qual ++ "<lambda>") params body scope (cloFrom X.env.cells scope.names []) c' .none) ∧
        te σZ HZ fun v H1 => H1 f = some (LamO f (X.env.qual ++ "<lambda>") params body scope (cloFrom X.env.cells scope.names []) c' .none) ∧ H1 c' = some (CodeO c' (X.env.qual ++ "<lambda>")) ∧ tb (σ ++ [some v]) H1 Q) := by
  refine ⟨fun pinsZ sZ σZ HZ Q IZ h => ?_⟩
  obtain ⟨hs, hfz0, ht⟩ := h
  refine wpAny_Call_Name_kw (thn ((pe_var (pos := p1) (i := i) hN hv hd hcd).run pinsZ sZ σZ HZ (fun v H1 => v = .ref f ∧ H1 = HZ) IZ ⟨.ref f, hs, rfl, rfl⟩) fun u s1 ⟨v, H1, I1, r1, q1⟩ => ?_)
  obtain ⟨ev, eH⟩ := q1
  subst ev
  rw [eH] at I1
  obtain rfl : u = Value.ref f := r1
  obtain ⟨pm0, ct0, of0⟩ := lamO_at I1.hok hfz0
  have ha : PA (cxOf C8.CX0 X.prog X.w X.K X.mg X.base Ng qg sg g cdg X.A X.stack s H C8.E0).nox [e] (tCons te tNil) := pa_cons he pa_nil (hs := hst)
  refine PySem.W.callWith_F ⟨_, _, _, _, of0⟩ (thn (ha.run p2 pinsZ s1 σZ HZ (fun vs H2 => match vs with
    | [v] => H2 f = some (LamO f (X.env.qual ++ "<lambda>") params body scope (cloFrom X.env.cells scope.names []) c' .none) ∧ H2 c' = some (CodeO c' (X.env.qual ++ "<lambda>")) ∧ tb (σ ++ [some v]) H2 Q
    | _ => False) I1 ht) fun us s2 ⟨vs, H2, I2, r2, q2⟩ => ?_) hst (by rfl)
  obtain ⟨v, rfl, hfz, hc, ht2⟩ : ∃ v, vs = [v] ∧ H2 f = some (LamO f (X.env.qual ++ "<lambda>") params body scope (cloFrom X.env.cells scope.names []) c' .none) ∧ H2 c' = some (CodeO c' (X.env.qual ++ "<lambda>")) ∧ tb (σ ++ [some v]) H2 Q := match vs, q2 with
    | [v], q => ⟨v, rfl, q⟩
  cases r2 with
  | @cons _ u _ _ rv rr =>
    cases rr
    obtain ⟨pm1, ct1, of1⟩ := lamO_at I2.hok hfz
    have un : Un (frs X.stack) [] H H2 s.heap s2.heap := I2.base
    have kc : ∀ y c, X.env.cells.lookup y = some c → H2 c = none ∧ ∀ v, sc.heap.IsCell c v → s2.heap.IsCell c v := fun y c e => by
      obtain ⟨n, l⟩ := link y c e
      obtain ⟨w0, z0⟩ := I.cell y c e
      obtain ⟨o0, e0, _⟩ := l w0 z0
      refine ⟨un.free c o0 e0 n (by simp), fun v z => ?_⟩
      obtain ⟨o, ho, hdt⟩ := l v z
      obtain ⟨sl, q⟩ := un.any ho n (by simp)
      exact ⟨_, q, hdt⟩
    obtain ⟨⟨oc, vs, t, hoc, hdc, hvc⟩, _, _⟩ := I2.hok c' _ hc
    refine ⟨⟨_, _, _, _, of1⟩, ?_⟩
    have rc : codeAny (model X.prog X.w) (X.A.deeper (envOfC qg sg s.heap.objs.size g cdg)) (.call (.ref f) ⟨[u], []⟩) (CR (L2.CX X.prog X.w) (envOfC qg sg s.heap.objs.size g cdg :: X.stack) X.prog X.w H2 s2 Q (fun _ _ _ => False)) s2 := by
      refine PySem.W.kla_callFunE hr.depth of1 rfl L.co L.gen rfl ⟨c', oc, vs, t, rfl, hoc, hdc, hvc⟩ ?_
      show wpAny _ _ (bindArgs (fdV _ params body scope _ pm1 _ ct1 .none) ⟨[u], []⟩) _ _ _
      rw [hbind]
      refine wpAny_pure (wpAny_newFunctionEnv (fun y hy => L.cel y hy) (fun y hy => by rw [List.mem_singleton.mp hy]; exact hp) (fun g1 hns hsb => ⟨I2.nolimit.fresh _ hsb, ?_⟩) L.kind)
      show codeAny _ _ (.expr body (lamEnv X scope s2.heap.objs.size f c')) _ _
      have kp : ∀ b o, s2.heap.get? b = some o → g1.get? b = some o := fun b o e => hsb.extBut b o (Nat.ne_of_lt (Heap.lt_size e)) (Heap.get?_push_of_some _ e)
      have J : Inv (lamCxP X (X.A.deeper (envOfC qg sg s.heap.objs.size g cdg)) (envOfC qg sg s.heap.objs.size g cdg :: X.stack) s2 H2 (fun _ _ _ => False) scope f c' p) [] (σ ++ [some v]) H2 { s2 with heap := g1, toks := s2.toks + ([(p, u)] : List (Str × Value)).length } :=
        enterP I L hp rv I2.env0 hr.hd kc hns kp
      refine PySem.W.kla_codeExpr (wpAny_mono ((hbody _ _ s2 H2 (hr.deeper _)).run [] _ _ H2 Q J ht2) (fun v s' hq => ?_) fun e s' hq => hq)
      obtain ⟨w', H', J', rv, q⟩ := hq
      exact ⟨w', H', J'.os, J'.bare, J'.base, J'.hok, rv, q⟩
    refine wpAny_call (codeAny_mono rc fun r s' hq => ?_)
    cases r with
    | error e =>
      obtain ⟨_, _, _, _, _, _, _, _, _, _, _, _, z⟩ := (show L2.CX X.prog X.w _ H2 s2 (fun _ _ _ => False) e s' from hq)
      exact z.elim
    | ok fl =>
      cases fl with
      | ret u => exact I2.after hq
      | next => exact False.elim hq
      | brk => exact False.elim hq
      | cont => exact False.elim hq
end
/-- what a def makes of the lambda that it got as its last argument -/
def GivesM (X : Cx) (Ng : List Str) (qg : Str) (sg : Scope) (g : Addr) (cdg : Value) (bg : List Stmt) (i : Nat) (a q : Str) (TT : List V → (V → Hp → VK → Prop) → Hp → VK → Prop) : Prop :=
  ∀ (f c' : Addr) (LO : HO) (s : Shared) (H : Hp) (Q : VK) (us : List V) (tl : V → Hp → VK → Prop), us.length = i →
    (∀ (e : Expr) (te : TE) (p1 p2 : Pos), PE (cxOf C8.CX0 X.prog X.w X.K X.mg X.base Ng qg sg g cdg X.A X.stack s H C8.E0).nox e te →
      starEach [e] (cxOf C8.CX0 X.prog X.w X.K X.mg X.base Ng qg sg g cdg X.A X.stack s H C8.E0).nox.env = (false, eval e (cxOf C8.CX0 X.prog X.w X.K X.mg X.base Ng qg sg g cdg X.A X.stack s H C8.E0).nox.env) :: starEach [] (cxOf C8.CX0 X.prog X.w X.K X.mg X.base Ng qg sg g cdg X.A X.stack s H C8.E0).nox.env →
      PE (cxOf C8.CX0 X.prog X.w X.K X.mg X.base Ng qg sg g cdg X.A X.stack s H C8.E0).nox (.Call (.Name a p1) [e] [] p2)
        (fun σZ HZ Q => σZ[i]? = some (some (.ref f)) ∧ HZ f = some LO ∧ te σZ HZ fun v H1 => H1 f = some LO ∧ H1 c' = some (CodeO c' q) ∧ tl v H1 Q)) →
    H f = some LO → H c' = some (CodeO c' q) → TT us tl H Q →
    ∃ t, PSs (cxOf C8.CX0 X.prog X.w X.K X.mg X.base Ng qg sg g cdg X.A X.stack s H C8.E0).nox bg t ∧ t { nx := fun _ H' => Q .non H', rt := Q } (L2.start Ng (us ++ [.ref f])) H
def tMethL (C : Addr) (m : Str) (T : List (Addr × Str)) (q : Str) (params : Arguments) (body : Expr) (scope : Scope) (cl : List (Str × Addr)) (TT : List V → (V → Hp → VK → Prop) → Hp → VK → Prop) (to ti tb : TE) : TE := fun σ H Q => to σ H fun x H1 => ∃ (a dx : Addr) (fs : List (Str × V)), x = .ref a ∧ H1 a = some (.ins C dx fs) ∧ fs.lookup m = none ∧
  ti σ H1 fun w H2 => tLamMk T q params body scope cl σ H2 fun v H3 => ∃ f c' : Addr, v = .ref f ∧ H3 f = some (LamO f q params body scope cl c' .none) ∧ H3 c' = some (CodeO c' q) ∧ TT [.ref a, w] (fun v H' Q' => tb (σ ++ [some v]) H' Q') H3 Q
theorem x_methL {C : Addr} {m : Str} {T : List (Addr × Str)} {q : Str} {params : Arguments} {body : Expr} {scope : Scope} {cl : List (Str × Addr)} {TT : List V → (V → Hp → VK → Prop) → Hp → VK → Prop} {to ti tb : TE} {σ : L2.St} {H : Hp} {Q : VK} (h : to σ H fun x H1 => ∃ (a dx : Addr) (fs : List (Str × V)), x = .ref a ∧ H1 a = some (.ins C dx fs) ∧ fs.lookup m = none ∧
  ti σ H1 fun w H2 => tLamMk T q params body scope cl σ H2 fun v H3 => ∃ f c' : Addr, v = .ref f ∧ H3 f = some (LamO f q params body scope cl c' .none) ∧ H3 c' = some (CodeO c' q) ∧ TT [.ref a, w] (fun v H' Q' => tb (σ ++ [some v]) H' Q') H3 Q) : tMethL C m T q params body scope cl TT to ti tb σ H Q := h
theorem x_lamNew {T : List (Addr × Str)} {q : Str} {params : Arguments} {body : Expr} {scope : Scope} {cl : List (Str × Addr)} {TT : (V → Hp → VK → Prop) → Hp → VK → Prop} {tb : V → Hp → VK → Prop} {σ : L2.St} {H : Hp} {Q : VK} (hT : Tabs T H) (h : ∀ H3, ExtN H H3 → Tabs T H3 → TT tb H3 Q) :
    tLamMk T q params body scope cl σ H fun v H3 => ∃ f c' : Addr, v = .ref f ∧ H3 f = some (LamO f q params body scope cl c' .none) ∧ H3 c' = some (CodeO c' q) ∧ TT tb H3 Q := ⟨hT, fun f c' H1 e t a b => ⟨f, c', rfl, a, b, h H1 e t⟩⟩
section
variable {X : Cx}
/-- o.m(e, lambda p: body) -/
theorem pe_methL {T : List (Addr × Str)} {TT : List V → (V → Hp → VK → Prop) → Hp → VK → Prop} {m x qg a p a1 a2 : Str} {C g c P : Addr} {k : Nat} {pg : Arguments} {bg : List Stmt} {sg : Scope} {fd : FuncData} {Ng : List Str} {o e : Expr} {to ti tb : TE} {pl : Sem Bool}
    {params : Arguments} {body : Expr} {scope : Scope} {apos lpos pos : Pos} (ho : PE X o to) (cC : Cls X.K C) (hm : Meth X.K C m g) (F : FunD X.K x qg pg bg sg [] [] g fd) (hb : Binds X.K fd [a1, a2, a] []) (Sg : FnScope Ng [a1, a2, a] sg)
    (hG : ∀ cdg : Value, GivesM X Ng qg sg g cdg bg 2 a (X.env.qual ++ "<lambda>") TT) (he : PE X e ti)
    (TB : TabB X.base X.mg c P) (hcode : X.env.code = .ref c) (hmT : (P, X.env.qual ++ "<lambda>") ∈ T) (hu : ∀ p ∈ T, p.1 = P → p.2 = X.env.qual ++ "<lambda>")
    (hr : Room (k + 2) X.A) (L : LamS3 X.env.scope X.N scope) (hp : scope.names.lookup p = some .local)
    (hbody : ∀ (A : Around) (outer : List Env) (s : Shared) (H : Hp) (f c' : Addr), Room k (A.deeper (lamEnv X scope s.heap.objs.size f c')) → PE (lamCxP X A outer s H (fun _ _ _ => False) scope f c' p) body tb)
    (hNg : Ng[2]? = some a) (hva : Vis sg a) (hdef : defaultsOf params X.env = ([], []))
    (hbind : ∀ (q : Str) (cl : List (Str × Addr)) (pm cv ct u : Value), bindArgs (fdV q params body scope cl pm cv ct .none) ⟨[u], []⟩ = pure [(p, u)])
    (hd : (a == ("__debug__" : Str)) = false := by decide) (hcd : (a == ("__classdict__" : Str)) = false := by decide)
    (hst : starEach (e :: [.Lambda params body scope lpos]) X.env = (false, eval e X.env) :: starEach [.Lambda params body scope lpos] X.env := by rfl) (hpl : (backTo pos (starEach [.Lambda params body scope lpos] X.env)).any (·.1) = false := by rfl)
    (ht : eval (.Call (.Attribute o m apos) (e :: [.Lambda params body scope lpos]) [] pos) X.env = (do
      let ov ← eval o X.env
      standAt apos.atName
      let (f, first) ← holding [ov] (getMethod ov m pl)
      callWith pos f first (backTo pos (starEach (e :: [.Lambda params body scope lpos]) X.env)) (backToKw pos (keywordEach [] X.env))) := by rfl) :
    PE X (.Call (.Attribute o m apos) (e :: [.Lambda params body scope lpos]) [] pos) (tMethL C m T (X.env.qual ++ "<lambda>") params body scope (cloFrom X.env.cells scope.names []) TT to ti tb) := by
  obtain ⟨oc, od, dVg, kV, doc, pm, an, cdv, ctg, osl, rfl, lk, hcd', _, _⟩ := id F.ex
  refine ⟨fun pins s σ H Q I h => ?_⟩
  refine PySem.W.methodCall_KW (pl := pl) (thn (ho.run pins s σ H _ I h) fun u s1 ⟨x, H1, I1, rx, o', dx, fs, ex, ea, l, q⟩ => ?_) ht
  subst ex
  obtain rfl : u = Value.ref o' := rx
  refine getmeth_ok I1 ea cC hm l ?_
  have hA : PA X (e :: [.Lambda params body scope lpos]) (tCons ti (tCons (tLamMk T (X.env.qual ++ "<lambda>") params body scope (cloFrom X.env.cells scope.names [])) tNil)) := pa_cons he (pa_cons (pe_lam TB hcode hmT hu (fun ok => L.has ok) hdef) pa_nil) (hs := hst)
  refine PySem.W.callWith_K (first := [.ref o']) (h₀ := X.base) I.ok.mod.kin hm.kp (thn (hA.run pos pins s1 σ H1 (fun vs H3 => match vs with
    | [w, v] => ∃ f c' : Addr, v = .ref f ∧ H3 f = some (LamO f (X.env.qual ++ "<lambda>") params body scope (cloFrom X.env.cells scope.names []) c' .none) ∧ H3 c' = some (CodeO c' (X.env.qual ++ "<lambda>")) ∧ TT [.ref o', w] (fun v H' Q' => tb (σ ++ [some v]) H' Q') H3 Q
    | _ => False) I1 q) fun us s2 ⟨vs, H3, I3, r, q3⟩ => ⟨I3.kIn, ?_⟩) hst hpl
  obtain ⟨w, f, c', rfl, hfO, hco, hTT⟩ : ∃ (w : V) (f c' : Addr), vs = [w, .ref f] ∧ H3 f = some (LamO f (X.env.qual ++ "<lambda>") params body scope (cloFrom X.env.cells scope.names []) c' .none) ∧ H3 c' = some (CodeO c' (X.env.qual ++ "<lambda>")) ∧ TT [.ref o', w] (fun v H' Q' => tb (σ ++ [some v]) H' Q') H3 Q := match vs, q3 with
    | [w, v], ⟨f, c', e, x⟩ => ⟨w, f, c', by rw [e], x⟩
  have rc : codeAny (model X.prog X.w) X.A (.call (.ref g) ⟨.ref o' :: us, []⟩) (CR C8.CX0 X.stack X.prog X.w H3 s2 Q C8.E0) s2 := by
    have r2 : Vals (.ref o' :: [w, .ref f]) (.ref o' :: us) := .cons rfl r
    refine run_ofS (N := Ng) (ps := [a1, a2, a]) (us := .ref o' :: us) (vs := .ref o' :: [w, .ref f]) lk hcd' Sg hr I3.env0 (by
      have := hb s2 (.ref o' :: us) I3.kIn (by rw [List.append_nil]; exact r2.length.symm)
      rw [List.append_nil] at this
      exact this) r2 rfl fun hr' => ?_
    obtain ⟨t', ht', hq'⟩ := hG cdv f c' _ s2 H3 Q [.ref o', w] _ rfl (fun e te p1 p2 he hst => pe_actP (i := 2) (k := k) I3 (fun y c e => ⟨I3.freeC y c e, fun v z => z⟩) L hp hbind hr' (fun A outer s H hr2 => hbody A outer s H f c' hr2) he hst hNg hva hd hcd) hfO hco hTT
    exact ⟨t', ht'.nox, hq'⟩
  refine wpAny_call (codeAny_mono rc fun r s2 hq => ?_)
  cases r with
  | error e => exact (show False from hq).elim
  | ok fl =>
    cases fl with
    | ret u => exact I3.after hq
    | next => exact False.elim hq
    | brk => exact False.elim hq
    | cont => exact False.elim hq
end
end LamP

set_option Elab.async false
set_option linter.all false
set_option autoImplicit false
set_option maxRecDepth 100000
set_option pp.maxSteps 500
set_option maxHeartbeats 4000000
namespace K46
open PySem PySem.Spec PyProof.Rows L2 He ChH
/-! ### the text by places -/
def top (i : Nat) : Stmt := PySem.Challenge.pw_chaircarry_k46_whole_daybooks_for_all_st.main.body.getD i (.Pass ⟨0, 0, 0, 0⟩)
abbrev s_InvalidPlan_init : Stmt := inClass (top 3) 0
abbrev s_TooFewChairs_init : Stmt := inClass (top 4) 0
abbrev s_InvalidText_init : Stmt := inClass (top 7) 0
abbrev s_InvalidOperation_init : Stmt := inClass (top 9) 0
abbrev s_DaybookError_init : Stmt := inClass (top 10) 0
abbrev s_DecodeError_init : Stmt := inClass (top 11) 0
abbrev s_is_number : Stmt := top 16
abbrev s_is_step : Stmt := top 17
abbrev s_Plan_init : Stmt := inClass (top 18) 2
abbrev s_validate_number : Stmt := top 19
abbrev s_parse_integer : Stmt := top 22
abbrev s_moved : Stmt := top 24
abbrev s_number_of : Stmt := top 28
abbrev s_entry_of : Stmt := top 29
abbrev s_Daybook_init : Stmt := inClass (top 30) 0
abbrev s_Daybook_row_count : Stmt := inClass (top 30) 1
abbrev s_Daybook_numbers : Stmt := inClass (top 30) 2
abbrev s_Daybook_check : Stmt := inClass (top 30) 3
abbrev s_Daybook_filled : Stmt := inClass (top 30) 4
abbrev s_Daybook_first_start : Stmt := inClass (top 30) 5
abbrev s_Daybook_starts_for : Stmt := inClass (top 30) 6
abbrev s_Daybook_fitting_starts : Stmt := inClass (top 30) 7
abbrev s__law_mix : Stmt := top 32
abbrev s__law_next : Stmt := top 33
abbrev s__law_alike : Stmt := top 34
abbrev s__law_outcome : Stmt := top 35
abbrev s__law_step : Stmt := top 36
abbrev s__law_rows : Stmt := top 38
abbrev s__law_right : Stmt := top 39
abbrev s_law : Stmt := top 40
/-! ### what the head tells -/
def faL : List Fa := [.glo "ChairError", .glo "InvalidPlan", .glo "TooFewChairs", .glo "InvalidNumber", .glo "InvalidBooking", .glo "InvalidText", .glo "NotEnough", .glo "InvalidOperation", .glo "DaybookError", .glo "DecodeError", .str "RED" "red", .str "BLUE" "blue", .str "TURN" "turn", .glo "is_number", .glo "is_step", .glo "Plan", .glo "validate_number", .str "DIGITS" "0123456789", .glo "parse_integer", .glo "moved", .int "MAX_ROWS" 201, .str "UNKNOWN" "?", .glo "number_of", .glo "entry_of", .glo "Daybook", .glo "_law_mix", .glo "_law_next", .glo "_law_alike", .glo "_law_outcome", .glo "_law_step", .glo "_law_rows", .glo "_law_right", .glo "law", .free "ValueError", .free "abs", .free "bool", .free "dict", .free "enumerate", .free "int", .free "isinstance", .free "len", .free "list", .free "max", .free "min", .free "one", .free "property", .free "range", .free "sorted", .free "str", .free "tuple", .cls "Plan", .noat "Plan" "parts", .mkr "Plan", .cls "Daybook", .noat "Daybook" "chairs", .noat "Daybook" "entries", .mkr "Daybook", .meth "Daybook" "numbers", .meth "Daybook" "check", .meth "Daybook" "filled", .meth "Daybook" "first_start", .meth "Daybook" "starts_for", .meth "Daybook" "fitting_starts", .exc "InvalidNumber", .exm "InvalidPlan" "ChairError" true, .exm "InvalidNumber" "ChairError" true, .exm "DaybookError" "ChairError" true]
def xsL : List ChH.Fx := [rdB "Plan", cvB "Plan" "MAX_STEPS" (.int 60), cvB "Plan" "MAX_CHAIRS" (.int 1000000000000000000), prB "Daybook" "row_count", oexB "InvalidPlan", nfB "InvalidPlan" "index", xfF "InvalidPlan", oexB "DaybookError", nfB "DaybookError" "row", xfF "DaybookError", rdB "ChairError", viB "ChairError", ChH.excCB "InvalidPlan", ChH.kioB "InvalidPlan" (fun K => .ref (ga K "DaybookError")) false, ChH.kioB "InvalidPlan" (fun K => .ref (ga K "DecodeError")) false, ChH.kioB "InvalidPlan" (fun K => .ref (ga K "InvalidBooking")) false, ChH.kioB "InvalidPlan" (fun K => .ref (ga K "InvalidNumber")) false, ChH.kioB "InvalidPlan" (fun K => .ref (ga K "InvalidOperation")) false, ChH.kioB "InvalidPlan" (fun K => .ref (ga K "InvalidPlan")) true, ChH.kioB "InvalidPlan" (fun K => .ref (ga K "InvalidText")) false, ChH.kioB "InvalidPlan" (fun K => .ref (ga K "NotEnough")) false, ChH.kioB "InvalidPlan" (fun K => .ref (ga K "TooFewChairs")) false, ChH.kioB "InvalidPlan" (fun _ => .type "ValueError") true, ChH.excCB "InvalidNumber", ChH.kioB "InvalidNumber" (fun K => .ref (ga K "DaybookError")) false, ChH.kioB "InvalidNumber" (fun K => .ref (ga K "DecodeError")) false, ChH.kioB "InvalidNumber" (fun K => .ref (ga K "InvalidBooking")) false, ChH.kioB "InvalidNumber" (fun K => .ref (ga K "InvalidNumber")) true, ChH.kioB "InvalidNumber" (fun K => .ref (ga K "InvalidOperation")) false, ChH.kioB "InvalidNumber" (fun K => .ref (ga K "InvalidPlan")) false, ChH.kioB "InvalidNumber" (fun K => .ref (ga K "InvalidText")) false, ChH.kioB "InvalidNumber" (fun K => .ref (ga K "NotEnough")) false, ChH.kioB "InvalidNumber" (fun K => .ref (ga K "TooFewChairs")) false, ChH.kioB "InvalidNumber" (fun _ => .type "ValueError") true, ChH.excCB "DaybookError", ChH.kioB "DaybookError" (fun K => .ref (ga K "DaybookError")) true, ChH.kioB "DaybookError" (fun K => .ref (ga K "DecodeError")) false, ChH.kioB "DaybookError" (fun K => .ref (ga K "InvalidBooking")) false, ChH.kioB "DaybookError" (fun K => .ref (ga K "InvalidNumber")) false, ChH.kioB "DaybookError" (fun K => .ref (ga K "InvalidOperation")) false, ChH.kioB "DaybookError" (fun K => .ref (ga K "InvalidPlan")) false, ChH.kioB "DaybookError" (fun K => .ref (ga K "InvalidText")) false, ChH.kioB "DaybookError" (fun K => .ref (ga K "NotEnough")) false, ChH.kioB "DaybookError" (fun K => .ref (ga K "TooFewChairs")) false, ChH.kioB "DaybookError" (fun _ => .type "ValueError") true, ChH.tabFB (fun K => ga K "law"), ChH.tabFB (fun K => ma K (ga K "Daybook") "starts_for"), ChH.tneFB (fun K => ga K "law") (fun K => ma K (ga K "Daybook") "starts_for")]
def d_InvalidPlan_init : He5.DefA := ⟨fun K => ma K (ga K "InvalidPlan") "__init__", "__init__", "InvalidPlan.__init__", defArgs s_InvalidPlan_init, defBody s_InvalidPlan_init, defScope s_InvalidPlan_init, [], []⟩
def d_TooFewChairs_init : He5.DefA := ⟨fun K => ma K (ga K "TooFewChairs") "__init__", "__init__", "TooFewChairs.__init__", defArgs s_TooFewChairs_init, defBody s_TooFewChairs_init, defScope s_TooFewChairs_init, [], []⟩
def d_InvalidText_init : He5.DefA := ⟨fun K => ma K (ga K "InvalidText") "__init__", "__init__", "InvalidText.__init__", defArgs s_InvalidText_init, defBody s_InvalidText_init, defScope s_InvalidText_init, [], []⟩
def d_InvalidOperation_init : He5.DefA := ⟨fun K => ma K (ga K "InvalidOperation") "__init__", "__init__", "InvalidOperation.__init__", defArgs s_InvalidOperation_init, defBody s_InvalidOperation_init, defScope s_InvalidOperation_init, [], []⟩
def d_DaybookError_init : He5.DefA := ⟨fun K => ma K (ga K "DaybookError") "__init__", "__init__", "DaybookError.__init__", defArgs s_DaybookError_init, defBody s_DaybookError_init, defScope s_DaybookError_init, [], []⟩
def d_DecodeError_init : He5.DefA := ⟨fun K => ma K (ga K "DecodeError") "__init__", "__init__", "DecodeError.__init__", defArgs s_DecodeError_init, defBody s_DecodeError_init, defScope s_DecodeError_init, [], []⟩
def d_is_number : He5.DefA := ⟨fun K => ga K "is_number", "is_number", "is_number", defArgs s_is_number, defBody s_is_number, defScope s_is_number, [], []⟩
def d_is_step : He5.DefA := ⟨fun K => ga K "is_step", "is_step", "is_step", defArgs s_is_step, defBody s_is_step, defScope s_is_step, [], []⟩
def d_Plan_init : He5.DefA := ⟨fun K => ma K (ga K "Plan") "__init__", "__init__", "Plan.__init__", defArgs s_Plan_init, defBody s_Plan_init, defScope s_Plan_init, [], []⟩
def d_validate_number : He5.DefA := ⟨fun K => ga K "validate_number", "validate_number", "validate_number", defArgs s_validate_number, defBody s_validate_number, defScope s_validate_number, [], []⟩
def d_parse_integer : He5.DefA := ⟨fun K => ga K "parse_integer", "parse_integer", "parse_integer", defArgs s_parse_integer, defBody s_parse_integer, defScope s_parse_integer, [], []⟩
def d_moved : He5.DefA := ⟨fun K => ga K "moved", "moved", "moved", defArgs s_moved, defBody s_moved, defScope s_moved, [], []⟩
def d_number_of : He5.DefA := ⟨fun K => ga K "number_of", "number_of", "number_of", defArgs s_number_of, defBody s_number_of, defScope s_number_of, [], []⟩
def d_entry_of : He5.DefA := ⟨fun K => ga K "entry_of", "entry_of", "entry_of", defArgs s_entry_of, defBody s_entry_of, defScope s_entry_of, [], []⟩
def d_Daybook_init : He5.DefA := ⟨fun K => ma K (ga K "Daybook") "__init__", "__init__", "Daybook.__init__", defArgs s_Daybook_init, defBody s_Daybook_init, defScope s_Daybook_init, [], []⟩
def d_Daybook_row_count : He5.DefA := ⟨fun K => gp "Daybook" "row_count" K, "row_count", "Daybook.row_count", defArgs s_Daybook_row_count, defBody s_Daybook_row_count, defScope s_Daybook_row_count, [], []⟩
def d_Daybook_numbers : He5.DefA := ⟨fun K => ma K (ga K "Daybook") "numbers", "numbers", "Daybook.numbers", defArgs s_Daybook_numbers, defBody s_Daybook_numbers, defScope s_Daybook_numbers, [], []⟩
def d_Daybook_check : He5.DefA := ⟨fun K => ma K (ga K "Daybook") "check", "check", "Daybook.check", defArgs s_Daybook_check, defBody s_Daybook_check, defScope s_Daybook_check, [], []⟩
def d_Daybook_filled : He5.DefA := ⟨fun K => ma K (ga K "Daybook") "filled", "filled", "Daybook.filled", defArgs s_Daybook_filled, defBody s_Daybook_filled, defScope s_Daybook_filled, [], []⟩
def d_Daybook_first_start : He5.DefA := ⟨fun K => ma K (ga K "Daybook") "first_start", "first_start", "Daybook.first_start", defArgs s_Daybook_first_start, defBody s_Daybook_first_start, defScope s_Daybook_first_start, [], []⟩
def d_Daybook_starts_for : He5.DefA := ⟨fun K => ma K (ga K "Daybook") "starts_for", "starts_for", "Daybook.starts_for", defArgs s_Daybook_starts_for, defBody s_Daybook_starts_for, defScope s_Daybook_starts_for, [], []⟩
def d_Daybook_fitting_starts : He5.DefA := ⟨fun K => ma K (ga K "Daybook") "fitting_starts", "fitting_starts", "Daybook.fitting_starts", defArgs s_Daybook_fitting_starts, defBody s_Daybook_fitting_starts, defScope s_Daybook_fitting_starts, [], []⟩
def d__law_mix : He5.DefA := ⟨fun K => ga K "_law_mix", "_law_mix", "_law_mix", defArgs s__law_mix, defBody s__law_mix, defScope s__law_mix, [], []⟩
def d__law_next : He5.DefA := ⟨fun K => ga K "_law_next", "_law_next", "_law_next", defArgs s__law_next, defBody s__law_next, defScope s__law_next, [], []⟩
def d__law_alike : He5.DefA := ⟨fun K => ga K "_law_alike", "_law_alike", "_law_alike", defArgs s__law_alike, defBody s__law_alike, defScope s__law_alike, [], []⟩
def d__law_outcome : He5.DefA := ⟨fun K => ga K "_law_outcome", "_law_outcome", "_law_outcome", defArgs s__law_outcome, defBody s__law_outcome, defScope s__law_outcome, [], []⟩
def d__law_step : He5.DefA := ⟨fun K => ga K "_law_step", "_law_step", "_law_step", defArgs s__law_step, defBody s__law_step, defScope s__law_step, [], []⟩
def d__law_rows : He5.DefA := ⟨fun K => ga K "_law_rows", "_law_rows", "_law_rows", defArgs s__law_rows, defBody s__law_rows, defScope s__law_rows, [], []⟩
def d__law_right : He5.DefA := ⟨fun K => ga K "_law_right", "_law_right", "_law_right", defArgs s__law_right, defBody s__law_right, defScope s__law_right, [], []⟩
def d_law : He5.DefA := ⟨fun K => ga K "law", "law", "law", defArgs s_law, defBody s_law, defScope s_law, [], []⟩
def dfL : List He5.DefA := [d_InvalidPlan_init, d_TooFewChairs_init, d_InvalidText_init, d_InvalidOperation_init, d_DaybookError_init, d_DecodeError_init, d_is_number, d_is_step, d_Plan_init, d_validate_number, d_parse_integer, d_moved, d_number_of, d_entry_of, d_Daybook_init, d_Daybook_row_count, d_Daybook_numbers, d_Daybook_check, d_Daybook_filled, d_Daybook_first_start, d_Daybook_starts_for, d_Daybook_fitting_starts, d__law_mix, d__law_next, d__law_alike, d__law_outcome, d__law_step, d__law_rows, d__law_right, d_law]
def msL : ChH.MsF := [fun K => ma K (ga K "Daybook") "starts_for"]
structure Wd (K : PySem.W.Frag) (mg : Str → Option Value) : Prop where
  kin : ∃ h : Heap, K.In h ∧ h.Ns mainGlobals mg
  s : ChH.SaysC faL xsL dfL K
section
variable {K : PySem.W.Frag} {mg : Str → Option Value}
theorem Wd.glo (W : Wd K mg) {x : Str} (c : (Fa.glo x).ok K = true) : mg x = some (.ref (ga K x)) := let ⟨_, X, G⟩ := W.kin; He.glo_ok X G c
theorem Wd.free (W : Wd K mg) {x : Str} (c : (Fa.free x).ok K = true) : mg x = none := let ⟨_, X, G⟩ := W.kin; He.free_ok X G c
theorem Wd.str (W : Wd K mg) {x z : Str} (c : (Fa.str x z).ok K = true) : ∃ t, mg x = some (.str z t) := let ⟨_, X, G⟩ := W.kin; He.str_ok X G c
theorem Wd.int (W : Wd K mg) {x : Str} {z : Int} (c : (Fa.int x z).ok K = true) : ∃ t, mg x = some (.int z t) := let ⟨_, X, G⟩ := W.kin; He.int_ok X G c
theorem Wd.g_ChairError (W : Wd K mg) : mg "ChairError" = some (.ref (ga K "ChairError")) := W.glo (W.s.fact 0)
theorem Wd.g_InvalidPlan (W : Wd K mg) : mg "InvalidPlan" = some (.ref (ga K "InvalidPlan")) := W.glo (W.s.fact 1)
theorem Wd.g_TooFewChairs (W : Wd K mg) : mg "TooFewChairs" = some (.ref (ga K "TooFewChairs")) := W.glo (W.s.fact 2)
theorem Wd.g_InvalidNumber (W : Wd K mg) : mg "InvalidNumber" = some (.ref (ga K "InvalidNumber")) := W.glo (W.s.fact 3)
theorem Wd.g_InvalidBooking (W : Wd K mg) : mg "InvalidBooking" = some (.ref (ga K "InvalidBooking")) := W.glo (W.s.fact 4)
theorem Wd.g_InvalidText (W : Wd K mg) : mg "InvalidText" = some (.ref (ga K "InvalidText")) := W.glo (W.s.fact 5)
theorem Wd.g_NotEnough (W : Wd K mg) : mg "NotEnough" = some (.ref (ga K "NotEnough")) := W.glo (W.s.fact 6)
theorem Wd.g_InvalidOperation (W : Wd K mg) : mg "InvalidOperation" = some (.ref (ga K "InvalidOperation")) := W.glo (W.s.fact 7)
theorem Wd.g_DaybookError (W : Wd K mg) : mg "DaybookError" = some (.ref (ga K "DaybookError")) := W.glo (W.s.fact 8)
theorem Wd.g_DecodeError (W : Wd K mg) : mg "DecodeError" = some (.ref (ga K "DecodeError")) := W.glo (W.s.fact 9)
theorem Wd.t_RED (W : Wd K mg) : ∃ t, mg "RED" = some (.str "red" t) := W.str (W.s.fact 10)
theorem Wd.t_BLUE (W : Wd K mg) : ∃ t, mg "BLUE" = some (.str "blue" t) := W.str (W.s.fact 11)
theorem Wd.t_TURN (W : Wd K mg) : ∃ t, mg "TURN" = some (.str "turn" t) := W.str (W.s.fact 12)
theorem Wd.g_is_number (W : Wd K mg) : mg "is_number" = some (.ref (ga K "is_number")) := W.glo (W.s.fact 13)
theorem Wd.g_is_step (W : Wd K mg) : mg "is_step" = some (.ref (ga K "is_step")) := W.glo (W.s.fact 14)
theorem Wd.g_Plan (W : Wd K mg) : mg "Plan" = some (.ref (ga K "Plan")) := W.glo (W.s.fact 15)
theorem Wd.g_validate_number (W : Wd K mg) : mg "validate_number" = some (.ref (ga K "validate_number")) := W.glo (W.s.fact 16)
theorem Wd.t_DIGITS (W : Wd K mg) : ∃ t, mg "DIGITS" = some (.str "0123456789" t) := W.str (W.s.fact 17)
theorem Wd.g_parse_integer (W : Wd K mg) : mg "parse_integer" = some (.ref (ga K "parse_integer")) := W.glo (W.s.fact 18)
theorem Wd.g_moved (W : Wd K mg) : mg "moved" = some (.ref (ga K "moved")) := W.glo (W.s.fact 19)
theorem Wd.i_MAX_ROWS (W : Wd K mg) : ∃ t, mg "MAX_ROWS" = some (.int 201 t) := W.int (W.s.fact 20)
theorem Wd.t_UNKNOWN (W : Wd K mg) : ∃ t, mg "UNKNOWN" = some (.str "?" t) := W.str (W.s.fact 21)
theorem Wd.g_number_of (W : Wd K mg) : mg "number_of" = some (.ref (ga K "number_of")) := W.glo (W.s.fact 22)
theorem Wd.g_entry_of (W : Wd K mg) : mg "entry_of" = some (.ref (ga K "entry_of")) := W.glo (W.s.fact 23)
theorem Wd.g_Daybook (W : Wd K mg) : mg "Daybook" = some (.ref (ga K "Daybook")) := W.glo (W.s.fact 24)
theorem Wd.g__law_mix (W : Wd K mg) : mg "_law_mix" = some (.ref (ga K "_law_mix")) := W.glo (W.s.fact 25)
theorem Wd.g__law_next (W : Wd K mg) : mg "_law_next" = some (.ref (ga K "_law_next")) := W.glo (W.s.fact 26)
theorem Wd.g__law_alike (W : Wd K mg) : mg "_law_alike" = some (.ref (ga K "_law_alike")) := W.glo (W.s.fact 27)
theorem Wd.g__law_outcome (W : Wd K mg) : mg "_law_outcome" = some (.ref (ga K "_law_outcome")) := W.glo (W.s.fact 28)
theorem Wd.g__law_step (W : Wd K mg) : mg "_law_step" = some (.ref (ga K "_law_step")) := W.glo (W.s.fact 29)
theorem Wd.g__law_rows (W : Wd K mg) : mg "_law_rows" = some (.ref (ga K "_law_rows")) := W.glo (W.s.fact 30)
theorem Wd.g__law_right (W : Wd K mg) : mg "_law_right" = some (.ref (ga K "_law_right")) := W.glo (W.s.fact 31)
theorem Wd.g_law (W : Wd K mg) : mg "law" = some (.ref (ga K "law")) := W.glo (W.s.fact 32)
theorem Wd.f_ValueError (W : Wd K mg) : mg "ValueError" = none := W.free (W.s.fact 33)
theorem Wd.f_abs (W : Wd K mg) : mg "abs" = none := W.free (W.s.fact 34)
theorem Wd.f_bool (W : Wd K mg) : mg "bool" = none := W.free (W.s.fact 35)
theorem Wd.f_dict (W : Wd K mg) : mg "dict" = none := W.free (W.s.fact 36)
theorem Wd.f_enumerate (W : Wd K mg) : mg "enumerate" = none := W.free (W.s.fact 37)
theorem Wd.f_int (W : Wd K mg) : mg "int" = none := W.free (W.s.fact 38)
theorem Wd.f_isinstance (W : Wd K mg) : mg "isinstance" = none := W.free (W.s.fact 39)
theorem Wd.f_len (W : Wd K mg) : mg "len" = none := W.free (W.s.fact 40)
theorem Wd.f_list (W : Wd K mg) : mg "list" = none := W.free (W.s.fact 41)
theorem Wd.f_max (W : Wd K mg) : mg "max" = none := W.free (W.s.fact 42)
theorem Wd.f_min (W : Wd K mg) : mg "min" = none := W.free (W.s.fact 43)
theorem Wd.f_one (W : Wd K mg) : mg "one" = none := W.free (W.s.fact 44)
theorem Wd.f_property (W : Wd K mg) : mg "property" = none := W.free (W.s.fact 45)
theorem Wd.f_range (W : Wd K mg) : mg "range" = none := W.free (W.s.fact 46)
theorem Wd.f_sorted (W : Wd K mg) : mg "sorted" = none := W.free (W.s.fact 47)
theorem Wd.f_str (W : Wd K mg) : mg "str" = none := W.free (W.s.fact 48)
theorem Wd.f_tuple (W : Wd K mg) : mg "tuple" = none := W.free (W.s.fact 49)
theorem Wd.c_Plan (W : Wd K mg) : Cls K (ga K "Plan") := He.cls_ok (W.s.fact 50)
theorem Wd.n_Plan_parts (W : Wd K mg) : NoAttr K (ga K "Plan") "parts" := He.noat_ok (W.s.fact 51)
theorem Wd.mk_Plan (W : Wd K mg) : Mk K (ga K "Plan") (ma K (ga K "Plan") "__init__") := He.mkr_ok (W.s.fact 52)
theorem Wd.r_Plan (W : Wd K mg) : ClX.CRead K (ga K "Plan") (.type "type") := rd_ok (W.s.ex 0)
theorem Wd.v_Plan_MAX_STEPS (W : Wd K mg) : ∃ u, ClX.CVal K (ga K "Plan") (.type "type") "MAX_STEPS" (.int 60) u := cv_ok (W.s.ex 1)
theorem Wd.v_Plan_MAX_CHAIRS (W : Wd K mg) : ∃ u, ClX.CVal K (ga K "Plan") (.type "type") "MAX_CHAIRS" (.int 1000000000000000000) u := cv_ok (W.s.ex 2)
theorem Wd.c_Daybook (W : Wd K mg) : Cls K (ga K "Daybook") := He.cls_ok (W.s.fact 53)
theorem Wd.n_Daybook_chairs (W : Wd K mg) : NoAttr K (ga K "Daybook") "chairs" := He.noat_ok (W.s.fact 54)
theorem Wd.n_Daybook_entries (W : Wd K mg) : NoAttr K (ga K "Daybook") "entries" := He.noat_ok (W.s.fact 55)
theorem Wd.mk_Daybook (W : Wd K mg) : Mk K (ga K "Daybook") (ma K (ga K "Daybook") "__init__") := He.mkr_ok (W.s.fact 56)
theorem Wd.m_Daybook_numbers (W : Wd K mg) : Meth K (ga K "Daybook") "numbers" (ma K (ga K "Daybook") "numbers") := He.meth_ok (W.s.fact 57)
theorem Wd.m_Daybook_check (W : Wd K mg) : Meth K (ga K "Daybook") "check" (ma K (ga K "Daybook") "check") := He.meth_ok (W.s.fact 58)
theorem Wd.m_Daybook_filled (W : Wd K mg) : Meth K (ga K "Daybook") "filled" (ma K (ga K "Daybook") "filled") := He.meth_ok (W.s.fact 59)
theorem Wd.m_Daybook_first_start (W : Wd K mg) : Meth K (ga K "Daybook") "first_start" (ma K (ga K "Daybook") "first_start") := He.meth_ok (W.s.fact 60)
theorem Wd.m_Daybook_starts_for (W : Wd K mg) : Meth K (ga K "Daybook") "starts_for" (ma K (ga K "Daybook") "starts_for") := He.meth_ok (W.s.fact 61)
theorem Wd.m_Daybook_fitting_starts (W : Wd K mg) : Meth K (ga K "Daybook") "fitting_starts" (ma K (ga K "Daybook") "fitting_starts") := He.meth_ok (W.s.fact 62)
theorem Wd.p_Daybook_row_count (W : Wd K mg) : PropOf K (ga K "Daybook") "row_count" (ma K (ga K "Daybook") "row_count") (gp "Daybook" "row_count" K) := pr_ok (W.s.ex 3)
theorem Wd.ox_InvalidPlan (W : Wd K mg) : ChH.Oex K "InvalidPlan" := ChH.oex_ok (W.s.ex 4)
theorem Wd.xn_InvalidPlan (W : Wd K mg) : PySem.W.findIn K (.ref (ga K "InvalidPlan")) "index" = some none := ChH.nf_ok (W.s.ex 5)
theorem Wd.xf_InvalidPlan (W : Wd K mg) : L2.XfC K (ga K "InvalidPlan") := ChH.xf_ok (W.s.ex 6)
theorem Wd.x_InvalidNumber (W : Wd K mg) : PySem.W.excIn K (ga K "InvalidNumber") veBase "ValueError.__new__" = true ∧ PySem.W.keepIn K (.ref (ga K "InvalidNumber")) = true ∧ PySem.W.subIn K (.ref (ga K "InvalidNumber")) (.type "BaseException") = some true ∧ PySem.W.typeIn K (.ref (ga K "InvalidNumber")) = some (.type "type") := He.exc_ok (W.s.fact 63)
theorem Wd.ox_DaybookError (W : Wd K mg) : ChH.Oex K "DaybookError" := ChH.oex_ok (W.s.ex 7)
theorem Wd.xn_DaybookError (W : Wd K mg) : PySem.W.findIn K (.ref (ga K "DaybookError")) "row" = some none := ChH.nf_ok (W.s.ex 8)
theorem Wd.xf_DaybookError (W : Wd K mg) : L2.XfC K (ga K "DaybookError") := ChH.xf_ok (W.s.ex 9)
theorem Wd.r_ChairError (W : Wd K mg) : ClX.CRead K (ga K "ChairError") (.type "type") := rd_ok (W.s.ex 10)
theorem Wd.vi_ChairError (W : Wd K mg) : PySem.W.findCls K (.ref (ga K "ChairError")) (.type "type") "__init__" = some (.val (.builtin "ValueError.__init__")) := ChH.vi_ok (W.s.ex 11)
theorem Wd.xm_InvalidPlan_ChairError (W : Wd K mg) : PySem.W.exmOne K (.ref (ga K "InvalidPlan")) (.ref (ga K "ChairError")) = some true := He.exm_ok (W.s.fact 64)
theorem Wd.xm_InvalidNumber_ChairError (W : Wd K mg) : PySem.W.exmOne K (.ref (ga K "InvalidNumber")) (.ref (ga K "ChairError")) = some true := He.exm_ok (W.s.fact 65)
theorem Wd.xm_DaybookError_ChairError (W : Wd K mg) : PySem.W.exmOne K (.ref (ga K "DaybookError")) (.ref (ga K "ChairError")) = some true := He.exm_ok (W.s.fact 66)
theorem Wd.ec_InvalidPlan (W : Wd K mg) : L2.ExcC K (ga K "InvalidPlan") := ChH.excC_ok (W.s.ex 12)
theorem Wd.io_InvalidPlan_DaybookError (W : Wd K mg) : PySem.W.kitOne K (.ref (ga K "InvalidPlan")) (.ref (ga K "DaybookError")) = some false := ChH.kio_ok (W.s.ex 13)
theorem Wd.io_InvalidPlan_DecodeError (W : Wd K mg) : PySem.W.kitOne K (.ref (ga K "InvalidPlan")) (.ref (ga K "DecodeError")) = some false := ChH.kio_ok (W.s.ex 14)
theorem Wd.io_InvalidPlan_InvalidBooking (W : Wd K mg) : PySem.W.kitOne K (.ref (ga K "InvalidPlan")) (.ref (ga K "InvalidBooking")) = some false := ChH.kio_ok (W.s.ex 15)
theorem Wd.io_InvalidPlan_InvalidNumber (W : Wd K mg) : PySem.W.kitOne K (.ref (ga K "InvalidPlan")) (.ref (ga K "InvalidNumber")) = some false := ChH.kio_ok (W.s.ex 16)
theorem Wd.io_InvalidPlan_InvalidOperation (W : Wd K mg) : PySem.W.kitOne K (.ref (ga K "InvalidPlan")) (.ref (ga K "InvalidOperation")) = some false := ChH.kio_ok (W.s.ex 17)
theorem Wd.io_InvalidPlan_InvalidPlan (W : Wd K mg) : PySem.W.kitOne K (.ref (ga K "InvalidPlan")) (.ref (ga K "InvalidPlan")) = some true := ChH.kio_ok (W.s.ex 18)
theorem Wd.io_InvalidPlan_InvalidText (W : Wd K mg) : PySem.W.kitOne K (.ref (ga K "InvalidPlan")) (.ref (ga K "InvalidText")) = some false := ChH.kio_ok (W.s.ex 19)
theorem Wd.io_InvalidPlan_NotEnough (W : Wd K mg) : PySem.W.kitOne K (.ref (ga K "InvalidPlan")) (.ref (ga K "NotEnough")) = some false := ChH.kio_ok (W.s.ex 20)
theorem Wd.io_InvalidPlan_TooFewChairs (W : Wd K mg) : PySem.W.kitOne K (.ref (ga K "InvalidPlan")) (.ref (ga K "TooFewChairs")) = some false := ChH.kio_ok (W.s.ex 21)
theorem Wd.io_InvalidPlan_ValueError (W : Wd K mg) : PySem.W.kitOne K (.ref (ga K "InvalidPlan")) (.type "ValueError") = some true := ChH.kio_ok (W.s.ex 22)
theorem Wd.ec_InvalidNumber (W : Wd K mg) : L2.ExcC K (ga K "InvalidNumber") := ChH.excC_ok (W.s.ex 23)
theorem Wd.io_InvalidNumber_DaybookError (W : Wd K mg) : PySem.W.kitOne K (.ref (ga K "InvalidNumber")) (.ref (ga K "DaybookError")) = some false := ChH.kio_ok (W.s.ex 24)
theorem Wd.io_InvalidNumber_DecodeError (W : Wd K mg) : PySem.W.kitOne K (.ref (ga K "InvalidNumber")) (.ref (ga K "DecodeError")) = some false := ChH.kio_ok (W.s.ex 25)
theorem Wd.io_InvalidNumber_InvalidBooking (W : Wd K mg) : PySem.W.kitOne K (.ref (ga K "InvalidNumber")) (.ref (ga K "InvalidBooking")) = some false := ChH.kio_ok (W.s.ex 26)
theorem Wd.io_InvalidNumber_InvalidNumber (W : Wd K mg) : PySem.W.kitOne K (.ref (ga K "InvalidNumber")) (.ref (ga K "InvalidNumber")) = some true := ChH.kio_ok (W.s.ex 27)
theorem Wd.io_InvalidNumber_InvalidOperation (W : Wd K mg) : PySem.W.kitOne K (.ref (ga K "InvalidNumber")) (.ref (ga K "InvalidOperation")) = some false := ChH.kio_ok (W.s.ex 28)
theorem Wd.io_InvalidNumber_InvalidPlan (W : Wd K mg) : PySem.W.kitOne K (.ref (ga K "InvalidNumber")) (.ref (ga K "InvalidPlan")) = some false := ChH.kio_ok (W.s.ex 29)
theorem Wd.io_InvalidNumber_InvalidText (W : Wd K mg) : PySem.W.kitOne K (.ref (ga K "InvalidNumber")) (.ref (ga K "InvalidText")) = some false := ChH.kio_ok (W.s.ex 30)
theorem Wd.io_InvalidNumber_NotEnough (W : Wd K mg) : PySem.W.kitOne K (.ref (ga K "InvalidNumber")) (.ref (ga K "NotEnough")) = some false := ChH.kio_ok (W.s.ex 31)
theorem Wd.io_InvalidNumber_TooFewChairs (W : Wd K mg) : PySem.W.kitOne K (.ref (ga K "InvalidNumber")) (.ref (ga K "TooFewChairs")) = some false := ChH.kio_ok (W.s.ex 32)
theorem Wd.io_InvalidNumber_ValueError (W : Wd K mg) : PySem.W.kitOne K (.ref (ga K "InvalidNumber")) (.type "ValueError") = some true := ChH.kio_ok (W.s.ex 33)
theorem Wd.ec_DaybookError (W : Wd K mg) : L2.ExcC K (ga K "DaybookError") := ChH.excC_ok (W.s.ex 34)
theorem Wd.io_DaybookError_DaybookError (W : Wd K mg) : PySem.W.kitOne K (.ref (ga K "DaybookError")) (.ref (ga K "DaybookError")) = some true := ChH.kio_ok (W.s.ex 35)
theorem Wd.io_DaybookError_DecodeError (W : Wd K mg) : PySem.W.kitOne K (.ref (ga K "DaybookError")) (.ref (ga K "DecodeError")) = some false := ChH.kio_ok (W.s.ex 36)
theorem Wd.io_DaybookError_InvalidBooking (W : Wd K mg) : PySem.W.kitOne K (.ref (ga K "DaybookError")) (.ref (ga K "InvalidBooking")) = some false := ChH.kio_ok (W.s.ex 37)
theorem Wd.io_DaybookError_InvalidNumber (W : Wd K mg) : PySem.W.kitOne K (.ref (ga K "DaybookError")) (.ref (ga K "InvalidNumber")) = some false := ChH.kio_ok (W.s.ex 38)
theorem Wd.io_DaybookError_InvalidOperation (W : Wd K mg) : PySem.W.kitOne K (.ref (ga K "DaybookError")) (.ref (ga K "InvalidOperation")) = some false := ChH.kio_ok (W.s.ex 39)
theorem Wd.io_DaybookError_InvalidPlan (W : Wd K mg) : PySem.W.kitOne K (.ref (ga K "DaybookError")) (.ref (ga K "InvalidPlan")) = some false := ChH.kio_ok (W.s.ex 40)
theorem Wd.io_DaybookError_InvalidText (W : Wd K mg) : PySem.W.kitOne K (.ref (ga K "DaybookError")) (.ref (ga K "InvalidText")) = some false := ChH.kio_ok (W.s.ex 41)
theorem Wd.io_DaybookError_NotEnough (W : Wd K mg) : PySem.W.kitOne K (.ref (ga K "DaybookError")) (.ref (ga K "NotEnough")) = some false := ChH.kio_ok (W.s.ex 42)
theorem Wd.io_DaybookError_TooFewChairs (W : Wd K mg) : PySem.W.kitOne K (.ref (ga K "DaybookError")) (.ref (ga K "TooFewChairs")) = some false := ChH.kio_ok (W.s.ex 43)
theorem Wd.io_DaybookError_ValueError (W : Wd K mg) : PySem.W.kitOne K (.ref (ga K "DaybookError")) (.type "ValueError") = some true := ChH.kio_ok (W.s.ex 44)
theorem Wd.tb_law (W : Wd K mg) : ChH.TabOk K (ga K "law") := ChH.tabF_ok (f := fun K => ga K "law") (W.s.ex 45)
theorem Wd.tb_Daybook_starts_for (W : Wd K mg) : ChH.TabOk K (ma K (ga K "Daybook") "starts_for") := ChH.tabF_ok (f := fun K => ma K (ga K "Daybook") "starts_for") (W.s.ex 46)
theorem Wd.tn_law_Daybook_starts_for (W : Wd K mg) : ChH.tbA K (ga K "law") ≠ ChH.tbA K (ma K (ga K "Daybook") "starts_for") := ChH.tneF_ok (f := fun K => ga K "law") (g := fun K => ma K (ga K "Daybook") "starts_for") (W.s.ex 47)
theorem Wd.F_InvalidPlan_init (W : Wd K mg) : FunD K "__init__" "InvalidPlan.__init__" (defArgs s_InvalidPlan_init) (defBody s_InvalidPlan_init) (defScope s_InvalidPlan_init) [] [] (ma K (ga K "InvalidPlan") "__init__") (ChH.fdOf K (ma K (ga K "InvalidPlan") "__init__")) := W.s.df 0 (d := d_InvalidPlan_init)
theorem Wd.F_TooFewChairs_init (W : Wd K mg) : FunD K "__init__" "TooFewChairs.__init__" (defArgs s_TooFewChairs_init) (defBody s_TooFewChairs_init) (defScope s_TooFewChairs_init) [] [] (ma K (ga K "TooFewChairs") "__init__") (ChH.fdOf K (ma K (ga K "TooFewChairs") "__init__")) := W.s.df 1 (d := d_TooFewChairs_init)
theorem Wd.F_InvalidText_init (W : Wd K mg) : FunD K "__init__" "InvalidText.__init__" (defArgs s_InvalidText_init) (defBody s_InvalidText_init) (defScope s_InvalidText_init) [] [] (ma K (ga K "InvalidText") "__init__") (ChH.fdOf K (ma K (ga K "InvalidText") "__init__")) := W.s.df 2 (d := d_InvalidText_init)
theorem Wd.F_InvalidOperation_init (W : Wd K mg) : FunD K "__init__" "InvalidOperation.__init__" (defArgs s_InvalidOperation_init) (defBody s_InvalidOperation_init) (defScope s_InvalidOperation_init) [] [] (ma K (ga K "InvalidOperation") "__init__") (ChH.fdOf K (ma K (ga K "InvalidOperation") "__init__")) := W.s.df 3 (d := d_InvalidOperation_init)
theorem Wd.F_DaybookError_init (W : Wd K mg) : FunD K "__init__" "DaybookError.__init__" (defArgs s_DaybookError_init) (defBody s_DaybookError_init) (defScope s_DaybookError_init) [] [] (ma K (ga K "DaybookError") "__init__") (ChH.fdOf K (ma K (ga K "DaybookError") "__init__")) := W.s.df 4 (d := d_DaybookError_init)
theorem Wd.F_DecodeError_init (W : Wd K mg) : FunD K "__init__" "DecodeError.__init__" (defArgs s_DecodeError_init) (defBody s_DecodeError_init) (defScope s_DecodeError_init) [] [] (ma K (ga K "DecodeError") "__init__") (ChH.fdOf K (ma K (ga K "DecodeError") "__init__")) := W.s.df 5 (d := d_DecodeError_init)
theorem Wd.F_is_number (W : Wd K mg) : FunD K "is_number" "is_number" (defArgs s_is_number) (defBody s_is_number) (defScope s_is_number) [] [] (ga K "is_number") (ChH.fdOf K (ga K "is_number")) := W.s.df 6 (d := d_is_number)
theorem Wd.k_is_number (W : Wd K mg) : PySem.W.keepIn K (.ref (ga K "is_number")) = true := W.F_is_number.kp
theorem Wd.F_is_step (W : Wd K mg) : FunD K "is_step" "is_step" (defArgs s_is_step) (defBody s_is_step) (defScope s_is_step) [] [] (ga K "is_step") (ChH.fdOf K (ga K "is_step")) := W.s.df 7 (d := d_is_step)
theorem Wd.k_is_step (W : Wd K mg) : PySem.W.keepIn K (.ref (ga K "is_step")) = true := W.F_is_step.kp
theorem Wd.F_Plan_init (W : Wd K mg) : FunD K "__init__" "Plan.__init__" (defArgs s_Plan_init) (defBody s_Plan_init) (defScope s_Plan_init) [] [] (ma K (ga K "Plan") "__init__") (ChH.fdOf K (ma K (ga K "Plan") "__init__")) := W.s.df 8 (d := d_Plan_init)
theorem Wd.F_validate_number (W : Wd K mg) : FunD K "validate_number" "validate_number" (defArgs s_validate_number) (defBody s_validate_number) (defScope s_validate_number) [] [] (ga K "validate_number") (ChH.fdOf K (ga K "validate_number")) := W.s.df 9 (d := d_validate_number)
theorem Wd.k_validate_number (W : Wd K mg) : PySem.W.keepIn K (.ref (ga K "validate_number")) = true := W.F_validate_number.kp
theorem Wd.F_parse_integer (W : Wd K mg) : FunD K "parse_integer" "parse_integer" (defArgs s_parse_integer) (defBody s_parse_integer) (defScope s_parse_integer) [] [] (ga K "parse_integer") (ChH.fdOf K (ga K "parse_integer")) := W.s.df 10 (d := d_parse_integer)
theorem Wd.k_parse_integer (W : Wd K mg) : PySem.W.keepIn K (.ref (ga K "parse_integer")) = true := W.F_parse_integer.kp
theorem Wd.F_moved (W : Wd K mg) : FunD K "moved" "moved" (defArgs s_moved) (defBody s_moved) (defScope s_moved) [] [] (ga K "moved") (ChH.fdOf K (ga K "moved")) := W.s.df 11 (d := d_moved)
theorem Wd.k_moved (W : Wd K mg) : PySem.W.keepIn K (.ref (ga K "moved")) = true := W.F_moved.kp
theorem Wd.F_number_of (W : Wd K mg) : FunD K "number_of" "number_of" (defArgs s_number_of) (defBody s_number_of) (defScope s_number_of) [] [] (ga K "number_of") (ChH.fdOf K (ga K "number_of")) := W.s.df 12 (d := d_number_of)
theorem Wd.k_number_of (W : Wd K mg) : PySem.W.keepIn K (.ref (ga K "number_of")) = true := W.F_number_of.kp
theorem Wd.F_entry_of (W : Wd K mg) : FunD K "entry_of" "entry_of" (defArgs s_entry_of) (defBody s_entry_of) (defScope s_entry_of) [] [] (ga K "entry_of") (ChH.fdOf K (ga K "entry_of")) := W.s.df 13 (d := d_entry_of)
theorem Wd.k_entry_of (W : Wd K mg) : PySem.W.keepIn K (.ref (ga K "entry_of")) = true := W.F_entry_of.kp
theorem Wd.F_Daybook_init (W : Wd K mg) : FunD K "__init__" "Daybook.__init__" (defArgs s_Daybook_init) (defBody s_Daybook_init) (defScope s_Daybook_init) [] [] (ma K (ga K "Daybook") "__init__") (ChH.fdOf K (ma K (ga K "Daybook") "__init__")) := W.s.df 14 (d := d_Daybook_init)
theorem Wd.F_Daybook_row_count (W : Wd K mg) : FunD K "row_count" "Daybook.row_count" (defArgs s_Daybook_row_count) (defBody s_Daybook_row_count) (defScope s_Daybook_row_count) [] [] (gp "Daybook" "row_count" K) (ChH.fdOf K (gp "Daybook" "row_count" K)) := W.s.df 15 (d := d_Daybook_row_count)
theorem Wd.F_Daybook_numbers (W : Wd K mg) : FunD K "numbers" "Daybook.numbers" (defArgs s_Daybook_numbers) (defBody s_Daybook_numbers) (defScope s_Daybook_numbers) [] [] (ma K (ga K "Daybook") "numbers") (ChH.fdOf K (ma K (ga K "Daybook") "numbers")) := W.s.df 16 (d := d_Daybook_numbers)
theorem Wd.F_Daybook_check (W : Wd K mg) : FunD K "check" "Daybook.check" (defArgs s_Daybook_check) (defBody s_Daybook_check) (defScope s_Daybook_check) [] [] (ma K (ga K "Daybook") "check") (ChH.fdOf K (ma K (ga K "Daybook") "check")) := W.s.df 17 (d := d_Daybook_check)
theorem Wd.F_Daybook_filled (W : Wd K mg) : FunD K "filled" "Daybook.filled" (defArgs s_Daybook_filled) (defBody s_Daybook_filled) (defScope s_Daybook_filled) [] [] (ma K (ga K "Daybook") "filled") (ChH.fdOf K (ma K (ga K "Daybook") "filled")) := W.s.df 18 (d := d_Daybook_filled)
theorem Wd.F_Daybook_first_start (W : Wd K mg) : FunD K "first_start" "Daybook.first_start" (defArgs s_Daybook_first_start) (defBody s_Daybook_first_start) (defScope s_Daybook_first_start) [] [] (ma K (ga K "Daybook") "first_start") (ChH.fdOf K (ma K (ga K "Daybook") "first_start")) := W.s.df 19 (d := d_Daybook_first_start)
theorem Wd.F_Daybook_starts_for (W : Wd K mg) : FunD K "starts_for" "Daybook.starts_for" (defArgs s_Daybook_starts_for) (defBody s_Daybook_starts_for) (defScope s_Daybook_starts_for) [] [] (ma K (ga K "Daybook") "starts_for") (ChH.fdOf K (ma K (ga K "Daybook") "starts_for")) := W.s.df 20 (d := d_Daybook_starts_for)
theorem Wd.F_Daybook_fitting_starts (W : Wd K mg) : FunD K "fitting_starts" "Daybook.fitting_starts" (defArgs s_Daybook_fitting_starts) (defBody s_Daybook_fitting_starts) (defScope s_Daybook_fitting_starts) [] [] (ma K (ga K "Daybook") "fitting_starts") (ChH.fdOf K (ma K (ga K "Daybook") "fitting_starts")) := W.s.df 21 (d := d_Daybook_fitting_starts)
theorem Wd.F__law_mix (W : Wd K mg) : FunD K "_law_mix" "_law_mix" (defArgs s__law_mix) (defBody s__law_mix) (defScope s__law_mix) [] [] (ga K "_law_mix") (ChH.fdOf K (ga K "_law_mix")) := W.s.df 22 (d := d__law_mix)
theorem Wd.k__law_mix (W : Wd K mg) : PySem.W.keepIn K (.ref (ga K "_law_mix")) = true := W.F__law_mix.kp
theorem Wd.F__law_next (W : Wd K mg) : FunD K "_law_next" "_law_next" (defArgs s__law_next) (defBody s__law_next) (defScope s__law_next) [] [] (ga K "_law_next") (ChH.fdOf K (ga K "_law_next")) := W.s.df 23 (d := d__law_next)
theorem Wd.k__law_next (W : Wd K mg) : PySem.W.keepIn K (.ref (ga K "_law_next")) = true := W.F__law_next.kp
theorem Wd.F__law_alike (W : Wd K mg) : FunD K "_law_alike" "_law_alike" (defArgs s__law_alike) (defBody s__law_alike) (defScope s__law_alike) [] [] (ga K "_law_alike") (ChH.fdOf K (ga K "_law_alike")) := W.s.df 24 (d := d__law_alike)
theorem Wd.k__law_alike (W : Wd K mg) : PySem.W.keepIn K (.ref (ga K "_law_alike")) = true := W.F__law_alike.kp
theorem Wd.F__law_outcome (W : Wd K mg) : FunD K "_law_outcome" "_law_outcome" (defArgs s__law_outcome) (defBody s__law_outcome) (defScope s__law_outcome) [] [] (ga K "_law_outcome") (ChH.fdOf K (ga K "_law_outcome")) := W.s.df 25 (d := d__law_outcome)
theorem Wd.k__law_outcome (W : Wd K mg) : PySem.W.keepIn K (.ref (ga K "_law_outcome")) = true := W.F__law_outcome.kp
theorem Wd.F__law_step (W : Wd K mg) : FunD K "_law_step" "_law_step" (defArgs s__law_step) (defBody s__law_step) (defScope s__law_step) [] [] (ga K "_law_step") (ChH.fdOf K (ga K "_law_step")) := W.s.df 26 (d := d__law_step)
theorem Wd.k__law_step (W : Wd K mg) : PySem.W.keepIn K (.ref (ga K "_law_step")) = true := W.F__law_step.kp
theorem Wd.F__law_rows (W : Wd K mg) : FunD K "_law_rows" "_law_rows" (defArgs s__law_rows) (defBody s__law_rows) (defScope s__law_rows) [] [] (ga K "_law_rows") (ChH.fdOf K (ga K "_law_rows")) := W.s.df 27 (d := d__law_rows)
theorem Wd.k__law_rows (W : Wd K mg) : PySem.W.keepIn K (.ref (ga K "_law_rows")) = true := W.F__law_rows.kp
theorem Wd.F__law_right (W : Wd K mg) : FunD K "_law_right" "_law_right" (defArgs s__law_right) (defBody s__law_right) (defScope s__law_right) [] [] (ga K "_law_right") (ChH.fdOf K (ga K "_law_right")) := W.s.df 28 (d := d__law_right)
theorem Wd.k__law_right (W : Wd K mg) : PySem.W.keepIn K (.ref (ga K "_law_right")) = true := W.F__law_right.kp
theorem Wd.F_law (W : Wd K mg) : FunD K "law" "law" (defArgs s_law) (defBody s_law) (defScope s_law) [] [] (ga K "law") (ChH.fdOf K (ga K "law")) := W.s.df 29 (d := d_law)
theorem Wd.k_law (W : Wd K mg) : PySem.W.keepIn K (.ref (ga K "law")) = true := W.F_law.kp
end
/-! ### names -/
abbrev N_InvalidPlan_init : List Str := ["self", "index"]
theorem sc_InvalidPlan_init : FnScope N_InvalidPlan_init ["self", "index"] (defScope s_InvalidPlan_init) := ⟨rfl, rfl, rfl, by decide +kernel, rfl, by decide +kernel, by decide +kernel⟩
abbrev N_TooFewChairs_init : List Str := ["self", "index"]
theorem sc_TooFewChairs_init : FnScope N_TooFewChairs_init ["self", "index"] (defScope s_TooFewChairs_init) := ⟨rfl, rfl, rfl, by decide +kernel, rfl, by decide +kernel, by decide +kernel⟩
abbrev N_InvalidText_init : List Str := ["self", "row"]
theorem sc_InvalidText_init : FnScope N_InvalidText_init ["self", "row"] (defScope s_InvalidText_init) := ⟨rfl, rfl, rfl, by decide +kernel, rfl, by decide +kernel, by decide +kernel⟩
abbrev N_InvalidOperation_init : List Str := ["self", "index"]
theorem sc_InvalidOperation_init : FnScope N_InvalidOperation_init ["self", "index"] (defScope s_InvalidOperation_init) := ⟨rfl, rfl, rfl, by decide +kernel, rfl, by decide +kernel, by decide +kernel⟩
abbrev N_DaybookError_init : List Str := ["self", "row"]
theorem sc_DaybookError_init : FnScope N_DaybookError_init ["self", "row"] (defScope s_DaybookError_init) := ⟨rfl, rfl, rfl, by decide +kernel, rfl, by decide +kernel, by decide +kernel⟩
abbrev N_DecodeError_init : List Str := ["self", "offset"]
theorem sc_DecodeError_init : FnScope N_DecodeError_init ["self", "offset"] (defScope s_DecodeError_init) := ⟨rfl, rfl, rfl, by decide +kernel, rfl, by decide +kernel, by decide +kernel⟩
abbrev N_is_number : List Str := ["value"]
theorem sc_is_number : FnScope N_is_number ["value"] (defScope s_is_number) := ⟨rfl, rfl, rfl, by decide +kernel, rfl, by decide +kernel, by decide +kernel⟩
abbrev N_is_step : List Str := ["step"]
theorem sc_is_step : FnScope N_is_step ["step"] (defScope s_is_step) := ⟨rfl, rfl, rfl, by decide +kernel, rfl, by decide +kernel, by decide +kernel⟩
abbrev N_Plan_init : List Str := ["self", "steps", "index", "step"]
theorem sc_Plan_init : FnScope N_Plan_init ["self", "steps"] (defScope s_Plan_init) := ⟨rfl, rfl, rfl, by decide +kernel, rfl, by decide +kernel, by decide +kernel⟩
abbrev N_validate_number : List Str := ["number", "smallest", "largest"]
theorem sc_validate_number : FnScope N_validate_number ["number", "smallest", "largest"] (defScope s_validate_number) := ⟨rfl, rfl, rfl, by decide +kernel, rfl, by decide +kernel, by decide +kernel⟩
abbrev N_parse_integer : List Str := ["word", "digits", "digit"]
theorem sc_parse_integer : FnScope N_parse_integer ["word"] (defScope s_parse_integer) := ⟨rfl, rfl, rfl, by decide +kernel, rfl, by decide +kernel, by decide +kernel⟩
abbrev N_moved : List Str := ["chairs", "place", "side", "need"]
theorem sc_moved : FnScope N_moved ["chairs", "place", "side", "need"] (defScope s_moved) := ⟨rfl, rfl, rfl, by decide +kernel, rfl, by decide +kernel, by decide +kernel⟩
abbrev N_number_of : List Str := ["row", "word", "most", "number"]
theorem sc_number_of : FnScope N_number_of ["row", "word", "most"] (defScope s_number_of) := ⟨rfl, rfl, rfl, by decide +kernel, rfl, by decide +kernel, by decide +kernel⟩
abbrev N_entry_of : List Str := ["row", "words", "chairs", "need", "number", "needed"]
theorem sc_entry_of : FnScope N_entry_of ["row", "words", "chairs"] (defScope s_entry_of) := ⟨rfl, rfl, rfl, by decide +kernel, rfl, by decide +kernel, by decide +kernel⟩
abbrev N_Daybook_init : List Str := ["self", "text", "lines", "row", "line"]
theorem sc_Daybook_init : FnScope N_Daybook_init ["self", "text"] (defScope s_Daybook_init) := ⟨rfl, rfl, rfl, by decide +kernel, rfl, by decide +kernel, by decide +kernel⟩
abbrev N_Daybook_row_count : List Str := ["self"]
theorem sc_Daybook_row_count : FnScope N_Daybook_row_count ["self"] (defScope s_Daybook_row_count) := ⟨rfl, rfl, rfl, by decide +kernel, rfl, by decide +kernel, by decide +kernel⟩
abbrev N_Daybook_numbers : List Str := ["self", "start", "found", "place", "is_reversed", "entry", "side", "later"]
theorem sc_Daybook_numbers : FnScope N_Daybook_numbers ["self", "start"] (defScope s_Daybook_numbers) := ⟨rfl, rfl, rfl, by decide +kernel, rfl, by decide +kernel, by decide +kernel⟩
abbrev N_Daybook_check : List Str := ["self", "start", "index", "number", "entry"]
theorem sc_Daybook_check : FnScope N_Daybook_check ["self", "start"] (defScope s_Daybook_check) := ⟨rfl, rfl, rfl, by decide +kernel, rfl, by decide +kernel, by decide +kernel⟩
abbrev N_Daybook_filled : List Str := ["self", "start", "lines", "index", "number", "entry"]
theorem sc_Daybook_filled : FnScope N_Daybook_filled ["self", "start"] (defScope s_Daybook_filled) := ⟨rfl, rfl, rfl, by decide +kernel, rfl, by decide +kernel, by decide +kernel⟩
abbrev N_Daybook_first_start : List Str := ["self", "index", "test", "low", "high", "middle"]
theorem sc_Daybook_first_start : FnScope N_Daybook_first_start ["self", "index", "test"] (defScope s_Daybook_first_start) := ⟨rfl, rfl, rfl, by decide +kernel, rfl, by decide +kernel, by decide +kernel⟩
abbrev N_Daybook_starts_for : List Str := ["self", "index", "number", "is_rising", "low", "after"]
theorem sc_Daybook_starts_for : FnScope N_Daybook_starts_for ["self", "index", "number"] (defScope s_Daybook_starts_for) := ⟨rfl, rfl, rfl, by decide +kernel, rfl, by decide +kernel, by decide +kernel⟩
abbrev N_Daybook_fitting_starts : List Str := ["self", "low", "high", "index", "entry", "least", "greatest"]
theorem sc_Daybook_fitting_starts : FnScope N_Daybook_fitting_starts ["self"] (defScope s_Daybook_fitting_starts) := ⟨rfl, rfl, rfl, by decide +kernel, rfl, by decide +kernel, by decide +kernel⟩
abbrev N__law_mix : List Str := ["_law_script", "_law_seed", "_law_mixed", "_law_cell"]
theorem sc__law_mix : FnScope N__law_mix ["_law_script", "_law_seed"] (defScope s__law_mix) := ⟨rfl, rfl, rfl, by decide +kernel, rfl, by decide +kernel, by decide +kernel⟩
abbrev N__law_next : List Str := ["_law_h", "_law_limit", "_law_cell"]
theorem sc__law_next : FnScope N__law_next ["_law_h", "_law_limit"] (defScope s__law_next) := ⟨rfl, rfl, rfl, by decide +kernel, rfl, by decide +kernel, by decide +kernel⟩
abbrev N__law_alike : List Str := ["_law_found", "_law_due", "_law_k"]
theorem sc__law_alike : FnScope N__law_alike ["_law_found", "_law_due"] (defScope s__law_alike) := ⟨rfl, rfl, rfl, by decide +kernel, rfl, by decide +kernel, by decide +kernel⟩
abbrev N__law_outcome : List Str := ["_law_call", "e", "_law_kinds", "_law_words", "_law_word"]
theorem sc__law_outcome : FnScope N__law_outcome ["_law_call"] (defScope s__law_outcome) := ⟨rfl, rfl, rfl, by decide +kernel, rfl, by decide +kernel, by decide +kernel⟩
abbrev N__law_step : List Str := ["_law_chairs", "_law_place", "_law_turned", "_law_step_here", "_law_later"]
theorem sc__law_step : FnScope N__law_step ["_law_chairs", "_law_place", "_law_turned", "_law_step_here"] (defScope s__law_step) := ⟨rfl, rfl, rfl, by decide +kernel, rfl, by decide +kernel, by decide +kernel⟩
abbrev N__law_rows : List Str := ["_law_h", "_law_chairs", "_law_start", "_law_hidden", "_law_place", "_law_turned", "_law_rows_here", "_law_k", "_law_kind", "_law_room", "_law_number", "_law_need", "_law_count", "_law_found", "_law_row", "_law_way"]
theorem sc__law_rows : FnScope N__law_rows ["_law_h", "_law_chairs", "_law_start", "_law_hidden"] (defScope s__law_rows) := ⟨rfl, rfl, rfl, by decide +kernel, rfl, by decide +kernel, by decide +kernel⟩
abbrev N__law_right : List Str := ["_law_rows_here", "_law_chairs", "_law_start", "_law_place", "_law_turned", "_law_found", "_law_wrong", "_law_k", "_law_words", "_law_number"]
theorem sc__law_right : FnScope N__law_right ["_law_rows_here", "_law_chairs", "_law_start"] (defScope s__law_right) := ⟨rfl, rfl, rfl, by decide +kernel, rfl, by decide +kernel, by decide +kernel⟩
abbrev N_law : List Str := ["_law_script", "_law_h", "_law_turn", "_law_chairs", "_law_rows_here", "_law_good", "_law_start", "_law_found", "_law_wrong", "_law_due", "_law_wide", "_law_daybook", "_law_far", "_law_k", "_law_call"]
theorem sc_law : FnScope N_law ["_law_script"] (defScope s_law) := ⟨rfl, rfl, rfl, by decide +kernel, rfl, by decide +kernel, by decide +kernel⟩

end K46

set_option Elab.async false
set_option linter.all false
set_option autoImplicit false
set_option maxRecDepth 100000
set_option pp.maxSteps 500
set_option maxHeartbeats 0
namespace K46
open PySem PySem.Spec PyProof.Rows L2 He ChH
abbrev R : PySem.W.OpenRow := PySem.W.OpenLaw.row PySem.Challenge.rw_chaircarry_k46_whole_daybooks_for_all_st
abbrev hk : PySem.W.Hook := hookM 5 faL xsL dfL msL
def ob (s : PySem.W.SharedT) : He.AlD × Bool := obsMG 5 faL xsL dfL msL (HandSHeadRun.getT s)
theorem ob_eq (s : PySem.W.SharedT) : ob s = hk.obs s.abs := obsMG_eq (HandSHeadRun.getT_eq s)
def loose : List Str := (["_wall", "__name__", "_wall", "ChairError", "InvalidPlan", "TooFewChairs", "InvalidNumber", "InvalidBooking", "InvalidText", "NotEnough", "InvalidOperation", "DaybookError", "DecodeError", "RED", "BLUE", "TURN", "is_number", "is_step", "Plan", "validate_number"] : List Str) ++ (["DIGITS", "parse_integer", "moved", "MAX_ROWS", "UNKNOWN", "number_of", "entry_of", "Daybook", "_law_mix", "_law_next", "_law_alike", "_law_outcome", "_law_step", "_law_steps", "_law_rows", "_law_right"] : List Str)
theorem run (w : World) : HandSHeadRun.RunEq R (PySem.W.view R.prog [40]) hk ob 8000 loose w := by
  intro os
  kernel_rfl
end K46

set_option linter.all false
set_option autoImplicit false
set_option maxRecDepth 100000
set_option maxHeartbeats 4000000
namespace ChM
/-! ### a simulation of the two rooms -/
def play1 (p : Int × Int) : Stp → (Int × Int) × Int
  | .turn => ((p.2, p.1), 0)
  | .mt true n => ((p.1 + mx 0 (n - p.1), p.2 - mx 0 (n - p.1)), mx 0 (n - p.1))
  | .mt false n => ((p.1 - mx 0 (n - p.2), p.2 + mx 0 (n - p.2)), mx 0 (n - p.2))
def playS : Int × Int → List Stp → Int × Int
  | p, [] => p
  | p, s :: r => playS (play1 p s).1 r
def playC : Int × Int → List Stp → List Int
  | _, [] => []
  | p, s :: r => (play1 p s).2 :: playC (play1 p s).1 r
theorem playS_snoc : ∀ (l : List Stp) (p : Int × Int) (s : Stp), playS p (l ++ [s]) = (play1 (playS p l) s).1
  | [], _, _ => rfl
  | x :: r, p, s => playS_snoc r (play1 p x).1 s
theorem playC_snoc : ∀ (l : List Stp) (p : Int × Int) (s : Stp), playC p (l ++ [s]) = playC p l ++ [(play1 (playS p l) s).2]
  | [], _, _ => rfl
  | x :: r, p, s => congrArg (_ :: ·) (playC_snoc r (play1 p x).1 s)
theorem playC_len : ∀ (l : List Stp) (p : Int × Int), (playC p l).length = l.length
  | [], _ => rfl
  | x :: r, p => congrArg (· + 1) (playC_len r (play1 p x).1)
def sideAt : Int → List Stp → Int
  | s, [] => s
  | s, .turn :: r => sideAt (0 - s) r
  | s, .mt _ _ :: r => sideAt s r
theorem sides_len : ∀ (l : List Stp) (s : Int), (sides s l).length = l.length
  | [], _ => rfl
  | .turn :: r, s => congrArg (· + 1) (sides_len r (0 - s))
  | .mt _ _ :: r, s => congrArg (· + 1) (sides_len r s)
theorem sides_snoc : ∀ (l : List Stp) (s : Int) (x : Stp), sides s (l ++ [x]) = sides s l ++ sides (sideAt s l) [x]
  | [], _, _ => rfl
  | .turn :: r, s, x => by show (0, 0) :: sides (0 - s) (r ++ [x]) = (0, 0) :: sides (0 - s) r ++ _; rw [sides_snoc]; rfl
  | .mt b n :: r, s, x => by show (_, n) :: sides s (r ++ [x]) = (_, n) :: sides s r ++ _; rw [sides_snoc]; rfl
theorem sideAt_snoc : ∀ (l : List Stp) (s : Int) (x : Stp), sideAt s (l ++ [x]) = sideAt (sideAt s l) [x]
  | [], _, _ => rfl
  | .turn :: r, s, x => sideAt_snoc r (0 - s) x
  | .mt b n :: r, s, x => sideAt_snoc r s x
theorem turns_app (a b : List Stp) : turns (a ++ b) = turns a + turns b := by
  induction a with
  | nil => show turns b = 0 + turns b; omega
  | cons s r ih =>
    cases s with
    | turn => show turns (r ++ b) + 1 = turns r + 1 + turns b; omega
    | mt c n => exact ih
theorem turns_step {l : List Stp} {i : Nat} {s : Stp} (h : l[i]? = some s) : turns (l.take (i + 1)) = turns (l.take i) + (if s = .turn then 1 else 0) := by
  rw [List.take_add_one, h, turns_app]
  cases s <;> rfl
theorem turns_le : ∀ l : List Stp, turns l ≤ l.length
  | [] => Nat.le_refl _
  | .turn :: r => Nat.succ_le_succ (turns_le r)
  | .mt _ _ :: r => Nat.le_succ_of_le (turns_le r)
theorem sideAt_turns : ∀ (l : List Stp) (s : Int), sideAt s l = if turns l % 2 = 1 then 0 - s else s
  | [], s => rfl
  | .turn :: r, s => by
    show sideAt (0 - s) r = if (turns r + 1) % 2 = 1 then 0 - s else s
    rw [sideAt_turns r (0 - s)]
    by_cases h : turns r % 2 = 1
    · rw [if_pos h, if_neg (by omega)]
      omega
    · rw [if_neg h, if_pos (by omega)]
  | .mt _ _ :: r, s => sideAt_turns r s
theorem sideAt_turning (l : List Stp) : sideAt 1 l = if turning l then -1 else 1 := by
  rw [sideAt_turns]
  unfold turning
  by_cases h : turns l % 2 = 1
  · rw [h]
    rfl
  · rw [if_neg h, beq_false_of_ne h]
    rfl
/-- the place of the room that is red at first -/
def placeOf (s : Int) (p : Int × Int) : Int := if s = 1 then p.1 else p.2
theorem play_sim {c : Int} : ∀ (l : List Stp) (s : Int) (p : Int × Int), (s = 1 ∨ s = -1) → p.1 + p.2 = c →
    (playS p l).1 + (playS p l).2 = c ∧ placeOf (sideAt s l) (playS p l) = simP c (sides s l) (placeOf s p) ∧ (playC p l).sum = simC c (sides s l) (placeOf s p)
  | [], s, p, _, h => ⟨h, rfl, rfl⟩
  | .turn :: r, s, p, hs, h => by
    obtain ⟨a, b, d⟩ := play_sim r (0 - s) (p.2, p.1) (by omega) (by show p.2 + p.1 = c; omega)
    have e : placeOf (0 - s) (p.2, p.1) = placeOf s p := by
      unfold placeOf
      rcases hs with rfl | rfl
      · rw [if_neg (by decide), if_pos rfl]
      · rw [if_pos (by decide), if_neg (by decide)]
    have m : moved c (placeOf s p) 0 0 = placeOf s p := by
      unfold moved
      rw [if_neg (by decide), if_neg (by decide)]
    rw [e] at b d
    refine ⟨a, ?_, ?_⟩
    · show placeOf (sideAt (0 - s) r) (playS (p.2, p.1) r) = simP c (sides (0 - s) r) (moved c (placeOf s p) 0 0)
      rw [m, b]
    · show (0 :: playC (p.2, p.1) r).sum = absI (moved c (placeOf s p) 0 0 - placeOf s p) + simC c (sides (0 - s) r) (moved c (placeOf s p) 0 0)
      rw [m, List.sum_cons, d]
      unfold absI
      rw [if_neg (by omega)]
      omega
  | .mt true n :: r, s, p, hs, h => by
    have hm := mx_def 0 (n - p.1)
    obtain ⟨a, b, d⟩ := play_sim r s (p.1 + mx 0 (n - p.1), p.2 - mx 0 (n - p.1)) hs (by show p.1 + mx 0 (n - p.1) + (p.2 - mx 0 (n - p.1)) = c; omega)
    have m : moved c (placeOf s p) s n = placeOf s (p.1 + mx 0 (n - p.1), p.2 - mx 0 (n - p.1)) ∧ absI (moved c (placeOf s p) s n - placeOf s p) = mx 0 (n - p.1) := by
      unfold moved placeOf absI
      rcases hs with rfl | rfl
      · rw [if_pos rfl, if_pos rfl, if_pos rfl]
        have := mx_def p.1 n
        dsimp only
        split <;> omega
      · rw [if_neg (by decide), if_pos rfl, if_neg (by decide), if_neg (by decide)]
        have := mn_def p.2 (c - n)
        dsimp only
        split <;> omega
    refine ⟨a, ?_, ?_⟩
    · show placeOf (sideAt s r) _ = simP c (sides s r) (moved c (placeOf s p) s n)
      rw [m.1]
      exact b
    · show (mx 0 (n - p.1) :: playC _ r).sum = absI (moved c (placeOf s p) s n - placeOf s p) + simC c (sides s r) (moved c (placeOf s p) s n)
      rw [m.2, m.1, List.sum_cons, ← d]
      rfl
  | .mt false n :: r, s, p, hs, h => by
    have hm := mx_def 0 (n - p.2)
    obtain ⟨a, b, d⟩ := play_sim r s (p.1 - mx 0 (n - p.2), p.2 + mx 0 (n - p.2)) hs (by show p.1 - mx 0 (n - p.2) + (p.2 + mx 0 (n - p.2)) = c; omega)
    have m : moved c (placeOf s p) (0 - s) n = placeOf s (p.1 - mx 0 (n - p.2), p.2 + mx 0 (n - p.2)) ∧ absI (moved c (placeOf s p) (0 - s) n - placeOf s p) = mx 0 (n - p.2) := by
      unfold moved placeOf absI
      rcases hs with rfl | rfl
      · rw [if_neg (by decide), if_pos (by decide), if_pos rfl, if_pos rfl]
        have := mn_def p.1 (c - n)
        dsimp only
        split <;> omega
      · rw [if_pos (by decide), if_neg (by decide), if_neg (by decide)]
        have := mx_def p.2 n
        dsimp only
        split <;> omega
    refine ⟨a, ?_, ?_⟩
    · show placeOf (sideAt s r) _ = simP c (sides s r) (moved c (placeOf s p) (0 - s) n)
      rw [m.1]
      exact b
    · show (mx 0 (n - p.2) :: playC _ r).sum = absI (moved c (placeOf s p) (0 - s) n - placeOf s p) + simC c (sides s r) (moved c (placeOf s p) (0 - s) n)
      rw [m.2, m.1, List.sum_cons, ← d]
      rfl
/-- a summary is right -/
theorem summary_right {c x : Int} {l : List Stp} (hl : fitsS c l) (h0 : 0 ≤ x) (h1 : x ≤ c) :
    (playC (x, c - x) l).sum = (effOf c l).carried x ∧ (playS (x, c - x) l).1 = (effOf c l).fin x := by
  have hc : 0 ≤ c := by omega
  obtain ⟨o, oc, ot, f⟩ := effOf_ok hc hl
  obtain ⟨f1, f2⟩ := f x h0 h1
  obtain ⟨a, b, d⟩ := play_sim (c := c) l 1 (x, c - x) (.inl rfl) (by show x + (c - x) = c; omega)
  have e : placeOf 1 (x, c - x) = x := rfl
  rw [e] at b d
  refine ⟨by rw [d, f2], ?_⟩
  unfold Eff.fin
  rw [f1, ot, ← b, oc, sideAt_turning]
  unfold placeOf
  cases turning l with
  | true =>
    simp
    omega
  | false => simp
end ChM

set_option linter.all false
set_option autoImplicit false
set_option maxRecDepth 100000
set_option maxHeartbeats 4000000
namespace ChM
/-! ### effects one after another, rounds -/
def Eff.later (a b : Eff) : Eff := if a.tu then b.mir else b
def goal2 (x y : Option Int) : Option Int := match y with
  | none => x
  | some g => some g
def Eff.followed (a b : Eff) : Eff := mkE a.c ((a.atLeast (a.later b).lo).atMost (a.later b).hi).lo ((a.atLeast (a.later b).lo).atMost (a.later b).hi).hi (((a.atLeast (a.later b).lo).atMost (a.later b).hi).ex + (a.later b).ex) (goal2 ((a.atLeast (a.later b).lo).atMost (a.later b).hi).goal (a.later b).goal) (!decide (a.tu = b.tu))
theorem after_ok {a l : Eff} (ha : a.Ok) (hl : l.Ok) (hc : l.c = a.c) (t : Bool) :
    ∀ R, R = mkE a.c ((a.atLeast l.lo).atMost l.hi).lo ((a.atLeast l.lo).atMost l.hi).hi (((a.atLeast l.lo).atMost l.hi).ex + l.ex) (goal2 ((a.atLeast l.lo).atMost l.hi).goal l.goal) t →
    R.Ok ∧ ∀ x, R.place x = l.place (a.place x) ∧ R.carried x = a.carried x + l.carried (a.place x) := by
  intro R eR
  have l0 := hl.lo0
  have l1 := hl.lh
  have l2 := hl.hc
  have l3 := hl.ex0
  obtain ⟨o1, c1, t1, f1⟩ := atLeast_ok ha (n := l.lo) l0 (by omega)
  obtain ⟨o2, c2, t2, f2⟩ := atMost_ok o1 (m := l.hi) (by omega) (by omega)
  generalize hF : (a.atLeast l.lo).atMost l.hi = F at *
  have cF : F.c = a.c := c2.trans c1
  have pF : ∀ x, F.place x = mn (mx (a.place x) l.lo) l.hi := fun x => by rw [(f2 x).1, (f1 x).1]
  have kF : ∀ x, F.carried x = a.carried x + (mx (mx (l.lo - a.place x) (a.place x - l.hi)) 0) := fun x => by
    rw [(f2 x).2, (f1 x).1, (f1 x).2]
    have := mx_def (a.place x) l.lo
    have := mn_def (mx (a.place x) l.lo) l.hi
    have := mx_def (l.lo - a.place x) (a.place x - l.hi)
    have := mx_def (mx (l.lo - a.place x) (a.place x - l.hi)) 0
    omega
  have f0 := o2.lo0
  have g1 := o2.lh
  have g2 := o2.hc
  have g3 := o2.ex0
  have lc : ∀ x, l.carried x = mx (mx (l.lo - x) (x - l.hi)) 0 + l.ex := fun x => rfl
  have Fc : ∀ x, F.carried x = mx (mx (F.lo - x) (x - F.hi)) 0 + F.ex := fun x => rfl
  cases gl : l.goal with
  | none =>
    obtain ⟨e0, e1⟩ := hl.no gl
    rw [gl] at eR
    have eR2 : R = mkE a.c F.lo F.hi (F.ex + l.ex) F.goal t := eR
    rw [e0, Int.add_zero] at eR2
    have hR : R = { F with tu := t } := by
      rw [eR2, ← cF]
      exact mkE_self o2 t
    have lp : ∀ x, l.place x = mn (mx x l.lo) l.hi := fun x => place_none gl
    refine ⟨?_, fun x => ?_⟩
    · rw [hR]
      exact ⟨f0, g1, g2, g3, o2.no, o2.yes⟩
    · have q1 : R.place x = F.place x := by rw [hR]; rfl
      have q2 : R.carried x = F.carried x := by rw [hR]; rfl
      rw [q1, q2, pF, kF, lp, lc, e0]
      refine ⟨rfl, by omega⟩
  | some g =>
    obtain ⟨y0, y1⟩ := hl.yes g gl
    rw [gl] at eR
    have eR2 : R = mkE a.c F.lo F.hi (F.ex + l.ex) (some g) t := eR
    refine ⟨?_, fun x => ?_⟩
    · rw [eR2]
      exact Ok_some f0 g1 (by omega) (by omega) y0 (by omega)
    · have q1 : R.place x = g := by rw [eR2, mkE_some]; rfl
      have q2 : R.carried x = F.carried x + l.ex := by
        rw [eR2]
        unfold Eff.carried
        simp only [mkE_lo, mkE_hi, mkE_ex]
        omega
      rw [q1, q2, kF, place_some gl, lc]
      refine ⟨rfl, by omega⟩
theorem later_ok {a b : Eff} (hb : b.Ok) : (a.later b).Ok ∧ (a.later b).c = b.c := by
  obtain ⟨o, c, _, _⟩ := mir_ok hb
  unfold Eff.later
  split
  · exact ⟨o, c⟩
  · exact ⟨hb, rfl⟩
theorem fin_range {e : Eff} (h : e.Ok) {x : Int} (h0 : 0 ≤ x) (h1 : x ≤ e.c) : 0 ≤ e.fin x ∧ e.fin x ≤ e.c := by
  obtain ⟨a, b⟩ := place_range h h0 h1
  unfold Eff.fin
  split <;> omega
theorem carried_nonneg {e : Eff} (h : e.Ok) (x : Int) : 0 ≤ e.carried x := by
  have := h.ex0
  unfold Eff.carried
  have := mx_def (mx (e.lo - x) (x - e.hi)) 0
  omega
theorem followed_ok {a b : Eff} (ha : a.Ok) (hb : b.Ok) (hc : b.c = a.c) :
    (a.followed b).Ok ∧ (a.followed b).c = a.c ∧ (a.followed b).tu = !decide (a.tu = b.tu) ∧ ∀ x, (a.followed b).fin x = b.fin (a.fin x) ∧ (a.followed b).carried x = a.carried x + b.carried (a.fin x) := by
  obtain ⟨lo, lc⟩ := later_ok (a := a) hb
  obtain ⟨o, f⟩ := after_ok ha lo (lc.trans hc) (!decide (a.tu = b.tu)) (a.followed b) rfl
  have cc : (a.followed b).c = a.c := rfl
  have ct : (a.followed b).tu = !decide (a.tu = b.tu) := rfl
  refine ⟨o, cc, ct, fun x => ?_⟩
  obtain ⟨f1, f2⟩ := f x
  unfold Eff.fin
  rw [cc, ct, f1, f2]
  obtain ⟨_, _, _, m⟩ := mir_ok hb
  obtain ⟨m1, m2⟩ := m (a.place x)
  unfold Eff.later
  cases ta : a.tu with
  | true =>
    simp only [if_pos]
    rw [m1, m2, hc]
    refine ⟨?_, rfl⟩
    cases tb : b.tu
    · simp
      omega
    · simp
  | false =>
    simp only [Bool.false_eq_true, if_false, if_neg]
    cases tb : b.tu
    · simp
    · simp [hc]
/-- rounds of an effect -/
def runF (e : Eff) : Nat → Int → Int
  | 0, x => x
  | n + 1, x => runF e n (e.fin x)
def runC (e : Eff) : Nat → Int → Int
  | 0, _ => 0
  | n + 1, x => e.carried x + runC e n (e.fin x)
theorem runF_add (e : Eff) : ∀ (i j : Nat) (x : Int), runF e (i + j) x = runF e j (runF e i x)
  | 0, j, x => by rw [Nat.zero_add]; rfl
  | i + 1, j, x => by
    rw [show i + 1 + j = (i + j) + 1 by omega]
    exact runF_add e i j (e.fin x)
theorem runC_add (e : Eff) : ∀ (i j : Nat) (x : Int), runC e (i + j) x = runC e i x + runC e j (runF e i x)
  | 0, j, x => by
    rw [Nat.zero_add]
    show runC e j x = 0 + runC e j x
    omega
  | i + 1, j, x => by
    rw [show i + 1 + j = (i + j) + 1 by omega]
    show e.carried x + runC e (i + j) (e.fin x) = (e.carried x + runC e i (e.fin x)) + runC e j (runF e i (e.fin x))
    rw [runC_add e i j (e.fin x)]
    omega
theorem run_range {e : Eff} (h : e.Ok) : ∀ (n : Nat) {x : Int}, 0 ≤ x → x ≤ e.c → 0 ≤ runF e n x ∧ runF e n x ≤ e.c
  | 0, x, h0, h1 => ⟨h0, h1⟩
  | n + 1, x, h0, h1 => run_range h n (fin_range h h0 h1).1 (fin_range h h0 h1).2
structure IsPow (e : Eff) (n : Nat) (f : Eff) : Prop where
  ok : f.Ok
  c : f.c = e.c
  tu : f.tu = (e.tu && n % 2 == 1)
  fin : ∀ x, 0 ≤ x → x ≤ e.c → f.fin x = runF e n x
  car : ∀ x, 0 ≤ x → x ≤ e.c → f.carried x = runC e n x
theorem isPow_zero {e : Eff} (h : e.Ok) : IsPow e 0 (nothing e.c) := by
  have hc : 0 ≤ e.c := Int.le_trans h.lo0 (Int.le_trans h.lh h.hc)
  obtain ⟨o, f⟩ := nothing_ok hc
  refine ⟨o, rfl, by cases e.tu <;> rfl, fun x h0 h1 => ?_, fun x h0 h1 => (f x h0 h1).2⟩
  show (if false = true then _ else (nothing e.c).place x) = x
  rw [if_neg (by decide)]
  exact (f x h0 h1).1
theorem isPow_one {e : Eff} (h : e.Ok) : IsPow e 1 e := ⟨h, rfl, by cases e.tu <;> rfl, fun _ _ _ => rfl, fun x _ _ => by show _ = e.carried x + 0; omega⟩
theorem isPow_add {e a b : Eff} (h : e.Ok) {i j : Nat} (ha : IsPow e i a) (hb : IsPow e j b) : IsPow e (i + j) (a.followed b) := by
  obtain ⟨o, c, t, f⟩ := followed_ok ha.ok hb.ok (hb.c.trans ha.c.symm)
  refine ⟨o, c.trans ha.c, ?_, fun x h0 h1 => ?_, fun x h0 h1 => ?_⟩
  · rw [t, ha.tu, hb.tu]
    cases e.tu with
    | false => rfl
    | true =>
      have hi : i % 2 = 0 ∨ i % 2 = 1 := by omega
      have hj : j % 2 = 0 ∨ j % 2 = 1 := by omega
      have hij : (i + j) % 2 = (i % 2 + j % 2) % 2 := Nat.add_mod i j 2
      rw [hij]
      rcases hi with hi | hi <;> rcases hj with hj | hj <;> rw [hi, hj] <;> decide
  · obtain ⟨r0, r1⟩ := run_range h i h0 h1
    rw [(f x).1, ha.fin x h0 h1, hb.fin _ r0 r1, runF_add]
  · obtain ⟨r0, r1⟩ := run_range h i h0 h1
    rw [(f x).2, ha.fin x h0 h1, ha.car x h0 h1, hb.car _ r0 r1, runC_add]
/-! ### rounds of a plan are a longer plan -/
def times (l : List Stp) : Nat → List Stp
  | 0 => []
  | n + 1 => l ++ times l n
theorem playS_app : ∀ (a b : List Stp) (p : Int × Int), playS p (a ++ b) = playS (playS p a) b
  | [], _, _ => rfl
  | x :: r, b, p => playS_app r b (play1 p x).1
theorem playC_app : ∀ (a b : List Stp) (p : Int × Int), playC p (a ++ b) = playC p a ++ playC (playS p a) b
  | [], _, _ => rfl
  | x :: r, b, p => congrArg (_ :: ·) (playC_app r b (play1 p x).1)
theorem play_keep (l : List Stp) : ∀ (p : Int × Int), (playS p l).1 + (playS p l).2 = p.1 + p.2 := by
  induction l with
  | nil => exact fun p => rfl
  | cons s r ih =>
    intro p
    show (playS (play1 p s).1 r).1 + (playS (play1 p s).1 r).2 = _
    rw [ih]
    cases s with
    | turn => show p.2 + p.1 = _; omega
    | mt b n =>
      cases b
      · show p.1 - mx 0 (n - p.2) + (p.2 + mx 0 (n - p.2)) = _; omega
      · show p.1 + mx 0 (n - p.1) + (p.2 - mx 0 (n - p.1)) = _; omega
theorem play_pair {l : List Stp} {c x : Int} : playS (x, c - x) l = ((playS (x, c - x) l).1, c - (playS (x, c - x) l).1) := by
  have := play_keep l (x, c - x)
  have e : (x, c - x).1 + (x, c - x).2 = c := by show x + (c - x) = c; omega
  rw [e] at this
  generalize playS (x, c - x) l = p at this
  cases p with
  | mk u v =>
    show (u, v) = (u, c - u)
    rw [show v = c - u by show v = _; have : u + v = c := this; omega]
theorem rounds_right {c : Int} {l : List Stp} (hl : fitsS c l) : ∀ (n : Nat) {x : Int}, 0 ≤ x → x ≤ c →
    (playC (x, c - x) (times l n)).sum = runC (effOf c l) n x ∧ (playS (x, c - x) (times l n)).1 = runF (effOf c l) n x
  | 0, x, _, _ => ⟨rfl, rfl⟩
  | n + 1, x, h0, h1 => by
    obtain ⟨s1, s2⟩ := summary_right hl h0 h1
    obtain ⟨o, oc, _, _⟩ := effOf_ok (by omega : 0 ≤ c) hl
    have r := fin_range o h0 (by omega)
    obtain ⟨q1, q2⟩ := rounds_right hl n r.1 (by omega)
    show (playC (x, c - x) (l ++ times l n)).sum = _ ∧ (playS (x, c - x) (l ++ times l n)).1 = _
    rw [playS_app, playC_app, play_pair, s2, List.sum_append, q1, q2, s1]
    exact ⟨rfl, rfl⟩
end ChM

set_option linter.all false
set_option autoImplicit false
set_option maxRecDepth 100000
set_option maxHeartbeats 4000000
namespace ChM
/-! ### needs, two rounds -/
def mxL (l : List Int) : Int := l.foldr (fun a m => if a > m then a else m) 0
theorem mxL_ge : ∀ l : List Int, 0 ≤ mxL l ∧ ∀ y ∈ l, y ≤ mxL l
  | [] => ⟨Int.le_refl 0, fun y hy => nomatch hy⟩
  | a :: r => by
    obtain ⟨h0, h1⟩ := mxL_ge r
    have e : mxL (a :: r) = if a > mxL r then a else mxL r := rfl
    rw [e]
    refine ⟨by split <;> omega, fun y hy => ?_⟩
    rcases List.mem_cons.mp hy with z | z
    · subst z
      split <;> omega
    · have := h1 y z
      split <;> omega
theorem mxL_mem : ∀ l : List Int, mxL l ∈ l ++ [0]
  | [] => List.mem_singleton.mpr rfl
  | a :: r => by
    have e : mxL (a :: r) = if a > mxL r then a else mxL r := rfl
    rw [e]
    split
    · exact List.mem_cons_self
    · exact List.mem_cons_of_mem _ (mxL_mem r)
theorem mxL_one {l : List Int} {m : Int} (h : m ∈ l ++ [0]) (hm : ∀ y ∈ l ++ [0], y ≤ m) : m = mxL l := by
  have a := hm _ (mxL_mem l)
  obtain ⟨h0, h1⟩ := mxL_ge l
  rcases List.mem_append.mp h with z | z
  · have := h1 m z
    omega
  · have : m = 0 := List.mem_singleton.mp z
    omega
def needL (s : Int) (ps : List (Int × Int)) : List Int := (ps.filter fun p => p.1 = s).map (·.2)
theorem needL_snoc (s : Int) (ps : List (Int × Int)) (p : Int × Int) : needL s (ps ++ [p]) = needL s ps ++ (if p.1 = s then [p.2] else []) := by
  unfold needL
  rw [List.filter_append, List.map_append]
  by_cases h : p.1 = s
  · simp [h]
  · simp [h]
theorem needL_mem {s n : Int} {ps : List (Int × Int)} (h : (s, n) ∈ ps) : n ∈ needL s ps := List.mem_map.mpr ⟨(s, n), List.mem_filter.mpr ⟨h, by simp⟩, rfl⟩
def needsOf (l : List Stp) : Int × Int :=
  if turning l then (mx (mxL (needL 1 (sides 1 l))) (mxL (needL (-1) (sides 1 l))), mx (mxL (needL 1 (sides 1 l))) (mxL (needL (-1) (sides 1 l)))) else (mxL (needL 1 (sides 1 l)), mxL (needL (-1) (sides 1 l)))
def fewest (l : List Stp) : Int := mx (needsOf l).1 (needsOf l).2
def sparing (l : List Stp) : Int := (needsOf l).1 + (needsOf l).2
theorem sides_mem : ∀ (l : List Stp) (s : Int) (b : Bool) (n : Int), (s = 1 ∨ s = -1) → Stp.mt b n ∈ l → (1, n) ∈ sides s l ∨ (-1, n) ∈ sides s l
  | [], _, _, _, _, h => nomatch h
  | .turn :: r, s, b, n, hs, h => by
    rcases List.mem_cons.mp h with z | z
    · cases z
    · rcases sides_mem r (0 - s) b n (by omega) z with q | q
      · exact .inl (List.mem_cons_of_mem _ q)
      · exact .inr (List.mem_cons_of_mem _ q)
  | .mt c m :: r, s, b, n, hs, h => by
    rcases List.mem_cons.mp h with z | z
    · cases z
      have e : sides s (.mt c m :: r) = ((if c then s else 0 - s), m) :: sides s r := rfl
      rw [e]
      rcases hs with rfl | rfl <;> cases c
      · exact .inr List.mem_cons_self
      · exact .inl List.mem_cons_self
      · exact .inl List.mem_cons_self
      · exact .inr List.mem_cons_self
    · rcases sides_mem r s b n hs z with q | q
      · exact .inl (List.mem_cons_of_mem _ q)
      · exact .inr (List.mem_cons_of_mem _ q)
theorem fewest_ge (l : List Stp) : (∀ y ∈ needL 1 (sides 1 l), y ≤ fewest l) ∧ (∀ y ∈ needL (-1) (sides 1 l), y ≤ fewest l) ∧ 0 ≤ fewest l := by
  obtain ⟨a0, a1⟩ := mxL_ge (needL 1 (sides 1 l))
  obtain ⟨b0, b1⟩ := mxL_ge (needL (-1) (sides 1 l))
  unfold fewest needsOf
  have := mx_def (mxL (needL 1 (sides 1 l))) (mxL (needL (-1) (sides 1 l)))
  generalize mxL (needL 1 (sides 1 l)) = a at *
  generalize mxL (needL (-1) (sides 1 l)) = b at *
  split
  · have := mx_def (mx a b) (mx a b)
    refine ⟨fun y hy => ?_, fun y hy => ?_, ?_⟩
    · have := a1 y hy; show y ≤ mx (mx a b) (mx a b); omega
    · have := b1 y hy; show y ≤ mx (mx a b) (mx a b); omega
    · show 0 ≤ mx (mx a b) (mx a b); omega
  · refine ⟨fun y hy => ?_, fun y hy => ?_, ?_⟩
    · have := a1 y hy; show y ≤ mx a b; omega
    · have := b1 y hy; show y ≤ mx a b; omega
    · show 0 ≤ mx a b; omega
theorem fits_fewest {l : List Stp} {c : Int} (hg : ∀ b n, Stp.mt b n ∈ l → 0 ≤ n) (h : fewest l ≤ c) : fitsS c l := fun b n hm => by
  obtain ⟨a, d, _⟩ := fewest_ge l
  refine ⟨hg b n hm, ?_⟩
  rcases sides_mem l 1 b n (.inl rfl) hm with q | q
  · exact Int.le_trans (a n (needL_mem q)) h
  · exact Int.le_trans (d n (needL_mem q)) h
/-- two rounds in the long run -/
def twoR (c : Int) (l : List Stp) : Int := runC (effOf c l) 2 (runF (effOf c l) 2 0)
theorem two_any {e f : Eff} (he : e.Ok) (hp : IsPow e 2 f) {x : Int} (x0 : 0 ≤ x) (x1 : x ≤ e.c) : (match f.goal with | none => 0 | some g => f.carried g) = runC e 2 (runF e 2 x) := by
  have r := run_range he 2 x0 x1
  have ft : f.tu = false := by rw [hp.tu]; cases e.tu <;> rfl
  have fp : f.fin x = f.place x := by unfold Eff.fin; rw [ft]; rfl
  rw [← hp.car _ r.1 r.2, ← hp.fin x x0 x1, fp]
  cases g : f.goal with
  | some y =>
    rw [place_some g]
  | none =>
    obtain ⟨z, l⟩ := hp.ok.no g
    rw [place_none g]
    unfold Eff.carried
    rw [z]
    have := mx_def x f.lo
    have := mn_def (mx x f.lo) f.hi
    generalize mn (mx x f.lo) f.hi = p at *
    have := mx_def (f.lo - p) (p - f.hi)
    have := mx_def (mx (f.lo - p) (p - f.hi)) 0
    show (0 : Int) = mx (mx (f.lo - p) (p - f.hi)) 0 + 0
    omega
def halvesV (n : Int) : Int × Int := if n % 2 = 1 then (n, 2) else (n / 2, 1)
end ChM

set_option linter.all false
set_option autoImplicit false
set_option maxRecDepth 100000
set_option maxHeartbeats 4000000
namespace ChM
/-! ### ways of carrying, told by their places -/
def okAt (c : Int) (p : Int × Int) (y : Int) : Prop := (p.1 = 1 → p.2 ≤ y) ∧ (p.1 = -1 → y ≤ c - p.2)
def WayIn (c : Int) : List (Int × Int) → List Int → Prop
  | [], [] => True
  | p :: r, y :: ys => okAt c p y ∧ WayIn c r ys
  | _, _ => False
def lenW : Int → List Int → Int
  | _, [] => 0
  | x, y :: ys => absI (y - x) + lenW y ys
def endW : Int → List Int → Int
  | x, [] => x
  | _, y :: ys => endW y ys
theorem absI_spec (a : Int) : (absI a = a ∧ 0 ≤ a) ∨ (absI a = -a ∧ a < 0) := by
  unfold absI
  split <;> omega
theorem lenW_nonneg : ∀ (ys : List Int) (x : Int), 0 ≤ lenW x ys
  | [], _ => Int.le_refl 0
  | y :: ys, x => by
    have := lenW_nonneg ys y
    have := absI_spec (y - x)
    show 0 ≤ absI (y - x) + lenW y ys
    omega
theorem moved_between {c : Int} {q : Int × Int} {y p : Int} (hs : q.1 = 1 ∨ q.1 = -1 ∨ q.1 = 0) (h : okAt c q y) : absI (moved c p q.1 q.2 - p) + absI (y - moved c p q.1 q.2) = absI (y - p) := by
  obtain ⟨h1, h2⟩ := h
  have a1 := absI_spec (moved c p q.1 q.2 - p)
  have a2 := absI_spec (y - moved c p q.1 q.2)
  have a3 := absI_spec (y - p)
  have m : moved c p q.1 q.2 = if q.1 = 1 then mx p q.2 else if q.1 = -1 then mn p (c - q.2) else p := rfl
  rcases hs with s | s | s
  · rw [if_pos s] at m
    have := h1 s
    have := mx_def p q.2
    omega
  · rw [if_neg (by omega), if_pos s] at m
    have := h2 s
    have := mn_def p (c - q.2)
    omega
  · rw [if_neg (by omega), if_neg (by omega)] at m
    omega
/-- no way is shorter than the lazy one and the way that is left -/
theorem way_ge {c : Int} : ∀ (ps : List (Int × Int)) (ys : List Int) (p y : Int), fits c ps → WayIn c ps ys → simC c ps p + absI (endW y ys - simP c ps p) ≤ lenW y ys + absI (y - p)
  | [], [], p, y, _, _ => by
    show 0 + absI (y - p) ≤ 0 + absI (y - p)
    omega
  | [], _ :: _, _, _, _, h => nomatch (show False from h)
  | _ :: _, [], _, _, _, h => nomatch (show False from h)
  | q :: r, y1 :: ys, p, y, hf, ⟨h1, h2⟩ => by
    have ih := way_ge r ys (moved c p q.1 q.2) y1 (fun z hz => hf z (List.mem_cons_of_mem _ hz)) h2
    have b := moved_between (p := p) (hf q List.mem_cons_self).1 h1
    have a1 := absI_spec (y1 - p)
    have a2 := absI_spec (y1 - y)
    have a3 := absI_spec (y - p)
    show absI (moved c p q.1 q.2 - p) + simC c r (moved c p q.1 q.2) + absI (endW y1 ys - simP c r (moved c p q.1 q.2)) ≤ absI (y1 - y) + lenW y1 ys + absI (y - p)
    omega
def lazyW (c : Int) : List (Int × Int) → Int → List Int
  | [], _ => []
  | q :: r, x => moved c x q.1 q.2 :: lazyW c r (moved c x q.1 q.2)
theorem lazy_in {c : Int} : ∀ (ps : List (Int × Int)) (x : Int), WayIn c ps (lazyW c ps x) ∧ lenW x (lazyW c ps x) = simC c ps x ∧ endW x (lazyW c ps x) = simP c ps x
  | [], _ => ⟨trivial, rfl, rfl⟩
  | q :: r, x => by
    obtain ⟨a, b, d⟩ := lazy_in r (moved c x q.1 q.2)
    refine ⟨⟨⟨fun s => ?_, fun s => ?_⟩, a⟩, ?_, d⟩
    · unfold moved
      rw [if_pos s]
      have := mx_def x q.2
      omega
    · unfold moved
      rw [if_neg (by omega), if_pos s]
      have := mn_def x (c - q.2)
      omega
    · show absI (moved c x q.1 q.2 - x) + lenW (moved c x q.1 q.2) (lazyW c r (moved c x q.1 q.2)) = absI (moved c x q.1 q.2 - x) + simC c r (moved c x q.1 q.2)
      rw [b]
/-! ### two rounds -/
theorem sides_app : ∀ (l m : List Stp) (s : Int), sides s (l ++ m) = sides s l ++ sides (sideAt s l) m
  | [], _, _ => rfl
  | .turn :: r, m, s => by show (0, 0) :: sides (0 - s) (r ++ m) = (0, 0) :: (sides (0 - s) r ++ sides (sideAt (0 - s) r) m); rw [sides_app r m (0 - s)]
  | .mt b n :: r, m, s => by show (_, n) :: sides s (r ++ m) = (_, n) :: (sides s r ++ sides (sideAt s r) m); rw [sides_app r m s]
theorem times_fits {c : Int} {l : List Stp} (h : fitsS c l) : ∀ n, fitsS c (times l n)
  | 0 => fun b n hm => nomatch hm
  | n + 1 => fun b m hm => by
    rcases List.mem_append.mp hm with z | z
    · exact h b m z
    · exact times_fits h n b m z
theorem times_turns (l : List Stp) : ∀ n, turns (times l n) = n * turns l
  | 0 => (Nat.zero_mul _).symm
  | n + 1 => by
    show turns (l ++ times l n) = _
    rw [turns_app, times_turns l n, Nat.succ_mul]
    omega
def ps2 (l : List Stp) : List (Int × Int) := sides 1 (times l 2)
theorem two_eff2 {c : Int} {l : List Stp} (hc : 0 ≤ c) (hl : fitsS c l) :
    ∃ f : Eff, f.Ok ∧ f.c = c ∧ (∀ x, 0 ≤ x → x ≤ c → f.carried x = simC c (ps2 l) x ∧ f.place x = simP c (ps2 l) x ∧ runC (effOf c l) 2 x = f.carried x ∧ runF (effOf c l) 2 x = f.place x) := by
  have hf := times_fits hl 2
  obtain ⟨o, oc, ot, of⟩ := effOf_ok hc hf
  refine ⟨effOf c (times l 2), o, oc, fun x h0 h1 => ?_⟩
  obtain ⟨p, q⟩ := of x h0 h1
  obtain ⟨r1, r2⟩ := rounds_right hl 2 h0 h1
  obtain ⟨s1, s2⟩ := summary_right hf h0 h1
  have tf : (effOf c (times l 2)).tu = false := by
    rw [ot]
    unfold turning
    rw [times_turns]
    have : 2 * turns l % 2 = 0 := by omega
    rw [this]
    rfl
  have ff : (effOf c (times l 2)).fin x = (effOf c (times l 2)).place x := by unfold Eff.fin; rw [tf]; rfl
  refine ⟨q, p, ?_, ?_⟩
  · rw [← r1, ← s1]
  · rw [← r2, ← ff, ← s2]
theorem two_way {c : Int} {l : List Stp} (hc : 0 ≤ c) (hl : fitsS c l) : ∃ a ys, 0 ≤ a ∧ a ≤ c ∧ WayIn c (ps2 l) ys ∧ endW a ys = a ∧ lenW a ys = twoR c l := by
  obtain ⟨f, o, oc, h⟩ := two_eff2 hc hl
  obtain ⟨_, _, _, e2⟩ := h 0 (Int.le_refl 0) hc
  have r := place_range o (Int.le_refl 0) (by omega)
  rw [oc] at r
  obtain ⟨k1, k2, k3, _⟩ := h (f.place 0) r.1 r.2
  obtain ⟨w1, w2, w3⟩ := lazy_in (c := c) (ps2 l) (f.place 0)
  refine ⟨f.place 0, _, r.1, r.2, w1, ?_, ?_⟩
  · rw [w3, ← k2]
    cases g : f.goal with
    | some y => rw [place_some g, place_some g]
    | none =>
      have := (o.no g).2
      rw [place_none g, place_none g]
      have := mx_def 0 f.lo
      have := mn_def (mx 0 f.lo) f.hi
      have := mx_def (mn (mx 0 f.lo) f.hi) f.lo
      have := mn_def (mx (mn (mx 0 f.lo) f.hi) f.lo) f.hi
      omega
  · rw [w2, ← k1, ← k3, ← e2]
    rfl
theorem two_le {c : Int} {l : List Stp} (hc : 0 ≤ c) (hl : fitsS c l) {a : Int} {ys : List Int} (a0 : 0 ≤ a) (a1 : a ≤ c) (w : WayIn c (ps2 l) ys) (e : endW a ys = a) : twoR c l ≤ lenW a ys := by
  obtain ⟨f, o, oc, h⟩ := two_eff2 hc hl
  have hf : fits c (ps2 l) := sides_fits _ 1 (.inl rfl) hc (times_fits hl 2)
  have g := way_ge (ps2 l) ys a a hf w
  obtain ⟨k1, k2, _, _⟩ := h a a0 a1
  rw [e, ← k1, ← k2] at g
  obtain ⟨_, _, _, e2⟩ := h 0 (Int.le_refl 0) hc
  have r := place_range o (Int.le_refl 0) (by omega)
  rw [oc] at r
  obtain ⟨_, _, k3, _⟩ := h (f.place 0) r.1 r.2
  have tw : twoR c l = f.carried (f.place 0) := by
    unfold twoR
    rw [e2, k3]
  rw [tw]
  have z := absI_spec (a - a)
  have ab := absI_spec (a - f.place a)
  have n := lenW_nonneg ys a
  cases gg : f.goal with
  | none =>
    obtain ⟨ex, lt⟩ := o.no gg
    have c1 : f.carried (f.place 0) = mx (mx (f.lo - f.place 0) (f.place 0 - f.hi)) 0 + f.ex := rfl
    rw [c1, ex]
    rw [place_none gg]
    have := mx_def 0 f.lo
    have := mn_def (mx 0 f.lo) f.hi
    generalize mn (mx 0 f.lo) f.hi = q at *
    have := mx_def (f.lo - q) (q - f.hi)
    have := mx_def (mx (f.lo - q) (q - f.hi)) 0
    omega
  | some y =>
    rw [place_some gg] at ab ⊢
    rw [place_some gg] at g
    have c1 : f.carried y = mx (mx (f.lo - y) (y - f.hi)) 0 + f.ex := rfl
    have c2 : f.carried a = mx (mx (f.lo - a) (a - f.hi)) 0 + f.ex := rfl
    have := mx_def (f.lo - y) (y - f.hi)
    have := mx_def (mx (f.lo - y) (y - f.hi)) 0
    have := mx_def (f.lo - a) (a - f.hi)
    have := mx_def (mx (f.lo - a) (a - f.hi)) 0
    omega
theorem two_nonneg {c : Int} {l : List Stp} (hc : 0 ≤ c) (hl : fitsS c l) : 0 ≤ twoR c l := by
  obtain ⟨a, ys, _, _, _, _, e⟩ := two_way hc hl
  rw [← e]
  exact lenW_nonneg ys a
theorem wayIn_le {c d : Int} (h : c ≤ d) : ∀ (ps : List (Int × Int)) (ys : List Int), WayIn c ps ys → WayIn d ps ys
  | [], [], _ => trivial
  | [], _ :: _, h => nomatch (show False from h)
  | _ :: _, [], h => nomatch (show False from h)
  | _ :: r, _ :: ys, ⟨⟨a, b⟩, w⟩ => ⟨⟨a, fun s => by have := b s; omega⟩, wayIn_le h r ys w⟩
theorem fitsS_le {c d : Int} {l : List Stp} (h : fitsS c l) (e : c ≤ d) : fitsS d l := fun b n hm => ⟨(h b n hm).1, Int.le_trans (h b n hm).2 e⟩
theorem two_mono {c d : Int} {l : List Stp} (hc : 0 ≤ c) (hl : fitsS c l) (h : c ≤ d) : twoR d l ≤ twoR c l := by
  obtain ⟨a, ys, a0, a1, w, e, el⟩ := two_way hc hl
  rw [← el]
  exact two_le (by omega) (fitsS_le hl h) a0 (by omega) (wayIn_le h _ _ w) e
/-! ### savings never grow -/
def midL (k : Int) : List Int → List Int → List Int
  | y :: ys, z :: zs => (y + z + k) / 2 :: midL k ys zs
  | _, _ => []
theorem mid_in {c : Int} {k : Int} (hk : k = 0 ∨ k = 1) : ∀ (ps : List (Int × Int)) (ys zs : List Int), WayIn c ps ys → WayIn (c + 2) ps zs → WayIn (c + 1) ps (midL k ys zs)
  | [], [], [], _, _ => trivial
  | [], _ :: _, _, h, _ => nomatch (show False from h)
  | [], [], _ :: _, _, h => nomatch (show False from h)
  | _ :: _, [], _, h, _ => nomatch (show False from h)
  | _ :: _, _ :: _, [], _, h => nomatch (show False from h)
  | p :: r, y :: ys, z :: zs, ⟨⟨a1, b1⟩, w1⟩, ⟨⟨a2, b2⟩, w2⟩ => ⟨⟨fun s => by have := a1 s; have := a2 s; omega, fun s => by have := b1 s; have := b2 s; omega⟩, mid_in hk r ys zs w1 w2⟩
theorem mid_end {c d : Int} {k : Int} : ∀ (ps : List (Int × Int)) (ys zs : List Int) (a b : Int), WayIn c ps ys → WayIn d ps zs → endW ((a + b + k) / 2) (midL k ys zs) = (endW a ys + endW b zs + k) / 2
  | [], [], [], _, _, _, _ => rfl
  | [], _ :: _, _, _, _, h, _ => nomatch (show False from h)
  | [], [], _ :: _, _, _, _, h => nomatch (show False from h)
  | _ :: _, [], _, _, _, h, _ => nomatch (show False from h)
  | _ :: _, _ :: _, [], _, _, _, h => nomatch (show False from h)
  | p :: r, y :: ys, z :: zs, _, _, ⟨_, w1⟩, ⟨_, w2⟩ => mid_end r ys zs y z w1 w2
theorem mid_len {c d : Int} : ∀ (ps : List (Int × Int)) (ys zs : List Int) (a b : Int), WayIn c ps ys → WayIn d ps zs → lenW ((a + b + 0) / 2) (midL 0 ys zs) + lenW ((a + b + 1) / 2) (midL 1 ys zs) ≤ lenW a ys + lenW b zs
  | [], [], [], _, _, _, _ => Int.le_refl _
  | [], _ :: _, _, _, _, h, _ => nomatch (show False from h)
  | [], [], _ :: _, _, _, _, h => nomatch (show False from h)
  | _ :: _, [], _, _, _, h, _ => nomatch (show False from h)
  | _ :: _, _ :: _, [], _, _, _, h => nomatch (show False from h)
  | p :: r, y :: ys, z :: zs, a, b, ⟨_, w1⟩, ⟨_, w2⟩ => by
    have ih := mid_len r ys zs y z w1 w2
    have e1 := absI_spec ((y + z + 0) / 2 - (a + b + 0) / 2)
    have e2 := absI_spec ((y + z + 1) / 2 - (a + b + 1) / 2)
    have e3 := absI_spec (y - a)
    have e4 := absI_spec (z - b)
    show absI ((y + z + 0) / 2 - (a + b + 0) / 2) + lenW ((y + z + 0) / 2) (midL 0 ys zs) + (absI ((y + z + 1) / 2 - (a + b + 1) / 2) + lenW ((y + z + 1) / 2) (midL 1 ys zs)) ≤ absI (y - a) + lenW y ys + (absI (z - b) + lenW z zs)
    omega
theorem two_convex {c : Int} {l : List Stp} (hc : 0 ≤ c) (hl : fitsS c l) : 2 * twoR (c + 1) l ≤ twoR c l + twoR (c + 2) l := by
  obtain ⟨a, ys, a0, a1, w1, e1, l1⟩ := two_way hc hl
  obtain ⟨b, zs, b0, b1, w2, e2, l2⟩ := two_way (c := c + 2) (by omega) (fitsS_le hl (by omega))
  have hl1 : fitsS (c + 1) l := fitsS_le hl (by omega)
  have m := mid_len (ps2 l) ys zs a b w1 w2
  have x := two_le (c := c + 1) (by omega) hl1 (a := (a + b + 0) / 2) (by omega) (by omega) (mid_in (.inl rfl) _ _ _ w1 w2) (by rw [mid_end (ps2 l) ys zs a b w1 w2, e1, e2])
  have y := two_le (c := c + 1) (by omega) hl1 (a := (a + b + 1) / 2) (by omega) (by omega) (mid_in (.inr rfl) _ _ _ w1 w2) (by rw [mid_end (ps2 l) ys zs a b w1 w2, e1, e2])
  omega
def savR (c : Int) (l : List Stp) : Int := twoR c l - twoR (c + 1) l
theorem sav_step {c : Int} {l : List Stp} (hc : 0 ≤ c) (hl : fitsS c l) : savR (c + 1) l ≤ savR c l := by
  have := two_convex hc hl
  unfold savR
  rw [show c + 1 + 1 = c + 2 by omega]
  omega
theorem sav_anti {c : Int} {l : List Stp} (hc : 0 ≤ c) (hl : fitsS c l) : ∀ n : Nat, savR (c + n) l ≤ savR c l
  | 0 => by rw [show c + ((0 : Nat) : Int) = c by omega]; exact Int.le_refl _
  | n + 1 => by
    have := sav_anti hc hl n
    have := sav_step (c := c + n) (by omega) (fitsS_le hl (by omega))
    rw [show c + ((n + 1 : Nat) : Int) = c + n + 1 by omega]
    omega
theorem sav_le {c d : Int} {l : List Stp} (hc : 0 ≤ c) (hl : fitsS c l) (h : c ≤ d) : savR d l ≤ savR c l := by
  have := sav_anti hc hl (d - c).toNat
  rw [show c + ((d - c).toNat : Int) = d by omega] at this
  exact this
theorem sav_nonneg {c : Int} {l : List Stp} (hc : 0 ≤ c) (hl : fitsS c l) : 0 ≤ savR c l := by
  have := two_mono hc hl (show c ≤ c + 1 by omega)
  unfold savR
  omega
/-! ### needs in two rounds -/
theorem sides_neg : ∀ (l : List Stp) (s : Int), sides (0 - s) l = (sides s l).map fun p => (0 - p.1, p.2)
  | [], _ => rfl
  | .turn :: r, s => by
    show (0, 0) :: sides (0 - (0 - s)) r = (0 - 0, 0) :: (sides (0 - s) r).map _
    rw [sides_neg r (0 - s)]
    rfl
  | .mt b n :: r, s => by
    show ((if b then 0 - s else 0 - (0 - s)), n) :: sides (0 - s) r = (0 - (if b then s else 0 - s), n) :: (sides s r).map _
    rw [sides_neg r s]
    cases b <;> rfl
theorem ps2_eq (l : List Stp) : ps2 l = sides 1 l ++ (if turning l = true then (sides 1 l).map (fun p => (0 - p.1, p.2)) else sides 1 l) := by
  show sides 1 (l ++ (l ++ [])) = _
  rw [List.append_nil, sides_app, sideAt_turns]
  unfold turning
  by_cases h : turns l % 2 = 1
  · rw [if_pos h, sides_neg l 1, if_pos (by rw [h]; rfl)]
  · rw [if_neg h, if_neg (by intro z; exact h (by simpa using z))]
theorem needL_in {s n : Int} {ps : List (Int × Int)} (h : n ∈ needL s ps) : (s, n) ∈ ps := by
  unfold needL at h
  obtain ⟨p, hp, e⟩ := List.mem_map.mp h
  obtain ⟨h1, h2⟩ := List.mem_filter.mp hp
  have : p.1 = s := by simpa using h2
  cases p
  cases this
  cases e
  exact h1
theorem mxL_at (l : List Int) : mxL l = 0 ∨ mxL l ∈ l := by
  rcases List.mem_append.mp (mxL_mem l) with h | h
  · exact .inr h
  · exact .inl (List.mem_singleton.mp h)
theorem needs_two (l : List Stp) : (∀ n, (1, n) ∈ ps2 l → n ≤ (needsOf l).1) ∧ (∀ n, (-1, n) ∈ ps2 l → n ≤ (needsOf l).2) ∧ ((needsOf l).1 = 0 ∨ (1, (needsOf l).1) ∈ ps2 l) ∧ ((needsOf l).2 = 0 ∨ (-1, (needsOf l).2) ∈ ps2 l) ∧ 0 ≤ (needsOf l).1 ∧ 0 ≤ (needsOf l).2 := by
  obtain ⟨a0, a1⟩ := mxL_ge (needL 1 (sides 1 l))
  obtain ⟨b0, b1⟩ := mxL_ge (needL (-1) (sides 1 l))
  have am := mxL_at (needL 1 (sides 1 l))
  have bm := mxL_at (needL (-1) (sides 1 l))
  have u1 : ∀ n, (1, n) ∈ sides 1 l → n ≤ mxL (needL 1 (sides 1 l)) := fun n h => a1 n (needL_mem h)
  have u2 : ∀ n, (-1, n) ∈ sides 1 l → n ≤ mxL (needL (-1) (sides 1 l)) := fun n h => b1 n (needL_mem h)
  have am' : mxL (needL 1 (sides 1 l)) = 0 ∨ (1, mxL (needL 1 (sides 1 l))) ∈ sides 1 l := am.imp id needL_in
  have bm' : mxL (needL (-1) (sides 1 l)) = 0 ∨ (-1, mxL (needL (-1) (sides 1 l))) ∈ sides 1 l := bm.imp id needL_in
  rw [ps2_eq]
  unfold needsOf
  generalize mxL (needL 1 (sides 1 l)) = A at *
  generalize mxL (needL (-1) (sides 1 l)) = B at *
  by_cases h : turning l = true
  · rw [if_pos h, if_pos h]
    have fl : ∀ s n : Int, (s, n) ∈ (sides 1 l).map (fun p => (0 - p.1, p.2)) ↔ (0 - s, n) ∈ sides 1 l := fun s n => by
      constructor
      · intro q
        obtain ⟨p, hp, e⟩ := List.mem_map.mp q
        cases p with
        | mk u v =>
          cases e
          rw [show 0 - (0 - u) = u by omega]
          exact hp
      · intro q
        exact List.mem_map.mpr ⟨_, q, by show (0 - (0 - s), n) = (s, n); rw [show 0 - (0 - s) = s by omega]⟩
    have m := mx_def A B
    refine ⟨fun n hn => ?_, fun n hn => ?_, ?_, ?_, by show 0 ≤ mx A B; omega, by show 0 ≤ mx A B; omega⟩
    · show n ≤ mx A B
      rcases List.mem_append.mp hn with q | q
      · have := u1 n q; omega
      · have := u2 n ((fl 1 n).mp q); omega
    · show n ≤ mx A B
      rcases List.mem_append.mp hn with q | q
      · have := u2 n q; omega
      · have := u1 n ((fl (-1) n).mp q); omega
    · show mx A B = 0 ∨ (1, mx A B) ∈ _
      rcases m with ⟨e, _⟩ | ⟨e, _⟩ <;> rw [e]
      · exact am'.imp id fun q => List.mem_append_left _ q
      · exact bm'.imp id fun q => List.mem_append_right _ ((fl 1 B).mpr q)
    · show mx A B = 0 ∨ (-1, mx A B) ∈ _
      rcases m with ⟨e, _⟩ | ⟨e, _⟩ <;> rw [e]
      · exact am'.imp id fun q => List.mem_append_right _ ((fl (-1) A).mpr q)
      · exact bm'.imp id fun q => List.mem_append_left _ q
  · rw [if_neg h, if_neg h]
    refine ⟨fun n hn => ?_, fun n hn => ?_, am'.imp id fun q => List.mem_append_left _ q, bm'.imp id fun q => List.mem_append_left _ q, a0, b0⟩
    · rcases List.mem_append.mp hn with q | q <;> exact u1 n q
    · rcases List.mem_append.mp hn with q | q <;> exact u2 n q
theorem const_in {c a : Int} : ∀ (ps : List (Int × Int)), (∀ n, (1, n) ∈ ps → n ≤ a) → (∀ n, (-1, n) ∈ ps → a ≤ c - n) → ∃ ys, WayIn c ps ys ∧ endW a ys = a ∧ lenW a ys = 0
  | [], _, _ => ⟨[], trivial, rfl, rfl⟩
  | (s, n) :: r, h1, h2 => by
    obtain ⟨ys, w, e, z⟩ := const_in r (fun m hm => h1 m (List.mem_cons_of_mem _ hm)) (fun m hm => h2 m (List.mem_cons_of_mem _ hm))
    refine ⟨a :: ys, ⟨⟨fun q => ?_, fun q => ?_⟩, w⟩, e, ?_⟩
    · have q : s = 1 := q
      subst q
      exact h1 n List.mem_cons_self
    · have q : s = -1 := q
      subst q
      exact h2 n List.mem_cons_self
    · show absI (a - a) + lenW a ys = 0
      rw [z]
      have := absI_spec (a - a)
      omega
theorem const_of {c : Int} : ∀ (ps : List (Int × Int)) (ys : List Int) (a : Int), WayIn c ps ys → lenW a ys = 0 → (∀ n, (1, n) ∈ ps → n ≤ a) ∧ (∀ n, (-1, n) ∈ ps → a ≤ c - n)
  | [], [], _, _, _ => ⟨(fun n h => nomatch h), (fun n h => nomatch h)⟩
  | [], _ :: _, _, h, _ => nomatch (show False from h)
  | _ :: _, [], _, h, _ => nomatch (show False from h)
  | (s, m) :: r, y :: ys, a, ⟨⟨h1, h2⟩, w⟩, e => by
    have e : absI (y - a) + lenW y ys = 0 := e
    have n0 := lenW_nonneg ys y
    have ab := absI_spec (y - a)
    have ya : y = a := by omega
    subst ya
    obtain ⟨i1, i2⟩ := const_of r ys y w (by omega)
    refine ⟨fun n hn => ?_, fun n hn => ?_⟩
    · rcases List.mem_cons.mp hn with q | q
      · cases q; exact h1 rfl
      · exact i1 n q
    · rcases List.mem_cons.mp hn with q | q
      · cases q; exact h2 rfl
      · exact i2 n q
theorem spare_zero {c : Int} {l : List Stp} (hl : fitsS c l) (h : sparing l ≤ c) : twoR c l = 0 := by
  obtain ⟨n1, n2, _, _, p1, p2⟩ := needs_two l
  unfold sparing at h
  obtain ⟨ys, w, e, z⟩ := const_in (c := c) (a := (needsOf l).1) (ps2 l) n1 (fun n hn => by have := n2 n hn; omega)
  have a := two_le (by omega) hl p1 (by omega) w e
  have b := two_nonneg (c := c) (by omega) hl
  omega
theorem spare_pos {c : Int} {l : List Stp} (hc : 0 ≤ c) (hl : fitsS c l) (h : c < sparing l) : 0 < twoR c l := by
  obtain ⟨_, _, m1, m2, p1, p2⟩ := needs_two l
  have b := two_nonneg hc hl
  rcases Int.lt_or_le 0 (twoR c l) with q | q
  · exact q
  · exfalso
    obtain ⟨a, ys, a0, a1, w, _, el⟩ := two_way hc hl
    obtain ⟨i1, i2⟩ := const_of (ps2 l) ys a w (by omega)
    unfold sparing at h
    have u : (needsOf l).1 ≤ a := by
      rcases m1 with z | z
      · omega
      · exact i1 _ z
    have v : a ≤ c - (needsOf l).2 := by
      rcases m2 with z | z
      · omega
      · exact i2 _ z
    omega
/-! ### the fewest chairs -/
def needsL : List Stp → List Int
  | [] => []
  | .turn :: r => needsL r
  | .mt _ n :: r => n :: needsL r
theorem needsL_mem {n : Int} : ∀ {l : List Stp}, n ∈ needsL l ↔ ∃ b, Stp.mt b n ∈ l
  | [] => ⟨(fun h => nomatch h), (fun ⟨b, h⟩ => nomatch h)⟩
  | .turn :: r => ⟨fun h => by obtain ⟨b, q⟩ := (needsL_mem (l := r)).mp h; exact ⟨b, List.mem_cons_of_mem _ q⟩, fun ⟨b, h⟩ => by
    rcases List.mem_cons.mp h with q | q
    · cases q
    · exact (needsL_mem (l := r)).mpr ⟨b, q⟩⟩
  | .mt c m :: r => ⟨fun h => by
    rcases List.mem_cons.mp h with q | q
    · subst q; exact ⟨c, List.mem_cons_self⟩
    · obtain ⟨b, q⟩ := (needsL_mem (l := r)).mp q; exact ⟨b, List.mem_cons_of_mem _ q⟩, fun ⟨b, h⟩ => by
    rcases List.mem_cons.mp h with q | q
    · cases q; exact List.mem_cons_self
    · exact List.mem_cons_of_mem _ ((needsL_mem (l := r)).mpr ⟨b, q⟩)⟩
theorem sides_need : ∀ (l : List Stp) (s t n : Int), (t, n) ∈ sides s l → t ≠ 0 → n ∈ needsL l
  | [], _, _, _, h, _ => nomatch h
  | .turn :: r, s, t, n, h, ht => by
    rcases List.mem_cons.mp h with q | q
    · cases q; exact absurd rfl ht
    · exact sides_need r (0 - s) t n q ht
  | .mt b m :: r, s, t, n, h, ht => by
    rcases List.mem_cons.mp h with q | q
    · cases q; exact List.mem_cons_self
    · exact List.mem_cons_of_mem _ (sides_need r s t n q ht)
theorem fewest_is {l : List Stp} {m : Int} (hm : m ∈ needsL l ++ [0]) (hx : ∀ y ∈ needsL l ++ [0], y ≤ m) : fewest l = m := by
  obtain ⟨a, d, z⟩ := fewest_ge l
  have le : m ≤ fewest l := by
    rcases List.mem_append.mp hm with q | q
    · obtain ⟨b, hb⟩ := needsL_mem.mp q
      rcases sides_mem l 1 b m (.inl rfl) hb with y | y
      · exact a m (needL_mem y)
      · exact d m (needL_mem y)
    · have : m = 0 := List.mem_singleton.mp q
      omega
  have am := mxL_at (needL 1 (sides 1 l))
  have bm := mxL_at (needL (-1) (sides 1 l))
  have z0 := hx 0 (List.mem_append_right _ List.mem_cons_self)
  have ua : mxL (needL 1 (sides 1 l)) ≤ m := by
    rcases am with q | q
    · omega
    · exact hx _ (List.mem_append_left _ (sides_need l 1 1 _ (needL_in q) (by decide)))
  have ub : mxL (needL (-1) (sides 1 l)) ≤ m := by
    rcases bm with q | q
    · omega
    · exact hx _ (List.mem_append_left _ (sides_need l 1 (-1) _ (needL_in q) (by decide)))
  have ge : fewest l ≤ m := by
    unfold fewest needsOf
    have := mx_def (mxL (needL 1 (sides 1 l))) (mxL (needL (-1) (sides 1 l)))
    generalize mxL (needL 1 (sides 1 l)) = A at *
    generalize mxL (needL (-1) (sides 1 l)) = B at *
    split
    · have := mx_def (mx A B) (mx A B)
      show mx (mx A B) (mx A B) ≤ m
      omega
    · show mx A B ≤ m
      omega
  omega
theorem spare_le (l : List Stp) : sparing l ≤ 2 * fewest l := by
  unfold sparing fewest
  have := mx_def (needsOf l).1 (needsOf l).2
  omega
theorem spare_ge (l : List Stp) : fewest l ≤ sparing l := by
  obtain ⟨_, _, _, _, p1, p2⟩ := needs_two l
  unfold sparing fewest
  have := mx_def (needsOf l).1 (needsOf l).2
  omega
theorem few_fits {c : Int} {l : List Stp} (hc : 0 ≤ c) (hl : fitsS c l) : fewest l ≤ c := by
  have all : ∀ y ∈ needsL l, y ≤ c := fun y hy => by
    obtain ⟨b, hb⟩ := needsL_mem.mp hy
    exact (hl b y hb).2
  have u1 := mxL_at (needL 1 (sides 1 l))
  have u2 := mxL_at (needL (-1) (sides 1 l))
  have w1 : mxL (needL 1 (sides 1 l)) ≤ c := by
    rcases u1 with q | q
    · omega
    · exact all _ (sides_need l 1 1 _ (needL_in q) (by decide))
  have w2 : mxL (needL (-1) (sides 1 l)) ≤ c := by
    rcases u2 with q | q
    · omega
    · exact all _ (sides_need l 1 (-1) _ (needL_in q) (by decide))
  unfold fewest needsOf
  have := mx_def (mxL (needL 1 (sides 1 l))) (mxL (needL (-1) (sides 1 l)))
  generalize mxL (needL 1 (sides 1 l)) = A at *
  generalize mxL (needL (-1) (sides 1 l)) = B at *
  split
  · have := mx_def (mx A B) (mx A B)
    show mx (mx A B) (mx A B) ≤ c
    omega
  · show mx A B ≤ c
    omega
theorem halves_ok (n : Int) : ((halvesV n).2 = 2 ∧ n % 2 = 1 ∧ (halvesV n).1 = n) ∨ ((halvesV n).2 = 1 ∧ 2 * (halvesV n).1 = n) := by
  unfold halvesV
  by_cases h : n % 2 = 1
  · rw [if_pos h]; exact .inl ⟨rfl, h, rfl⟩
  · rw [if_neg h]; refine .inr ⟨rfl, ?_⟩; show 2 * (n / 2) = n; omega
theorem halves_back (n : Int) : (halvesV n).1 * 2 / (halvesV n).2 = n := by
  rcases halves_ok n with ⟨a, _, c⟩ | ⟨a, c⟩ <;> rw [a] <;> omega
/-! ### from any start, in the long run -/
theorem long_any {c : Int} {l : List Stp} (hc : 0 ≤ c) (hl : fitsS c l) {x : Int} (x0 : 0 ≤ x) (x1 : x ≤ c) (n : Nat) : runC (effOf c l) 2 (runF (effOf c l) (n + 2) x) = twoR c l := by
  obtain ⟨o, oc, _, _⟩ := effOf_ok hc hl
  have ip := isPow_add o (isPow_one o) (isPow_one o)
  have r := run_range o n x0 (by rw [oc]; exact x1)
  rw [runF_add]
  rw [← two_any o ip r.1 r.2]
  exact two_any o ip (Int.le_refl 0) (by omega)
/-! ### prices -/
def priceC (l : List Stp) (pr cr c : Int) : Int := 2 * pr * c + cr * twoR c l
theorem price_step (l : List Stp) (pr cr c : Int) : priceC l pr cr (c + 1) = priceC l pr cr c + 2 * pr - cr * savR c l := by
  unfold priceC savR
  rw [Int.mul_add, Int.mul_sub, Int.mul_one]
  omega
theorem price_up {l : List Stp} {pr cr b : Int} (h : ∀ j, b ≤ j → cr * savR j l ≤ 2 * pr) : ∀ n : Nat, priceC l pr cr b ≤ priceC l pr cr (b + n)
  | 0 => by rw [show b + ((0 : Nat) : Int) = b by omega]; exact Int.le_refl _
  | n + 1 => by
    have := price_up h n
    have := h (b + n) (by omega)
    rw [show b + ((n + 1 : Nat) : Int) = b + n + 1 by omega, price_step]
    omega
theorem price_down {l : List Stp} {pr cr b f : Int} (h : ∀ j, f ≤ j → j < b → 2 * pr < cr * savR j l) : ∀ n : Nat, f ≤ b - n → priceC l pr cr b + n ≤ priceC l pr cr (b - n)
  | 0, _ => by rw [show b - ((0 : Nat) : Int) = b by omega]; omega
  | n + 1, hf => by
    have := price_down h n (by omega)
    have := h (b - ((n + 1 : Nat) : Int)) hf (by omega)
    have e := price_step l pr cr (b - ((n + 1 : Nat) : Int))
    rw [show b - ((n + 1 : Nat) : Int) + 1 = b - n by omega] at e
    omega
theorem best_is {l : List Stp} {pr cr b : Int} (hg : ∀ b n, Stp.mt b n ∈ l → 0 ≤ n) (p0 : 0 ≤ pr) (c0 : 0 ≤ cr) (b0 : fewest l ≤ b) (b1 : b ≤ sparing l) (h1 : b = fewest l ∨ 2 * pr < cr * savR (b - 1) l) (h2 : b = sparing l ∨ cr * savR b l ≤ 2 * pr) {c : Int} (hc : fewest l ≤ c) :
    priceC l pr cr b ≤ priceC l pr cr c ∧ (c < b → priceC l pr cr b < priceC l pr cr c) := by
  have f0 := (fewest_ge l).2.2
  have fit : ∀ c, fewest l ≤ c → fitsS c l := fun c h => fits_fewest hg h
  have up : ∀ j, b ≤ j → cr * savR j l ≤ 2 * pr := fun j hj => by
    rcases h2 with e | e
    · have z : savR j l = 0 := by
        unfold savR
        rw [spare_zero (fit j (by omega)) (by omega), spare_zero (fit (j + 1) (by omega)) (by omega)]
        rfl
      rw [z, Int.mul_zero]
      omega
    · have := sav_le (by omega) (fit b b0) hj
      have := Int.mul_le_mul_of_nonneg_left this c0
      omega
  have dn : ∀ j, fewest l ≤ j → j < b → 2 * pr < cr * savR j l := fun j hj hb => by
    rcases h1 with e | e
    · omega
    · have := sav_le (by omega) (fit j hj) (show j ≤ b - 1 by omega)
      have := Int.mul_le_mul_of_nonneg_left this c0
      omega
  rcases Int.lt_or_le c b with q | q
  · have := price_down dn (b - c).toNat (by omega)
    rw [show b - ((b - c).toNat : Int) = c by omega] at this
    exact ⟨by omega, fun _ => by omega⟩
  · have := price_up up (c - b).toNat
    rw [show b + ((c - b).toNat : Int) = c by omega] at this
    exact ⟨this, fun z => by omega⟩
end ChM

set_option Elab.async false
set_option linter.all false
set_option autoImplicit false
set_option maxRecDepth 100000
set_option maxHeartbeats 4000000
/-! ### == of lists and tuples of numbers -/
namespace Ch
open PySem PySem.Spec PyProof.Rows L2 ChM
def Lay (n : Nat) (d : PyData) : Prop := d.canLay0 = true ∧ d.depth ≤ n
theorem lay_all {n : Nat} : ∀ {ds : List PyData}, (∀ d ∈ ds, Lay n d) → PyData.canLayAll0 ds = true ∧ PyData.depthAll ds ≤ n
  | [], _ => by simp [PyData.canLayAll0, PyData.depthAll]
  | d :: ds, h => by
    obtain ⟨a, b⟩ := lay_all (ds := ds) fun e he => h e (List.mem_cons_of_mem _ he)
    obtain ⟨c, e⟩ := h d List.mem_cons_self
    refine ⟨by simp [PyData.canLayAll0, a, c], ?_⟩
    simp only [PyData.depthAll]
    omega
theorem lay_list {n : Nat} {ds : List PyData} (h : ∀ d ∈ ds, Lay n d) : Lay (n + 1) (.list ds) := by
  obtain ⟨a, b⟩ := lay_all h
  refine ⟨by simp only [PyData.canLay0]; exact a, ?_⟩
  simp only [PyData.depth]
  omega
theorem lay_tup {n : Nat} {ds : List PyData} (h : ∀ d ∈ ds, Lay n d) : Lay (n + 1) (.tuple ds) := by
  obtain ⟨a, b⟩ := lay_all h
  refine ⟨by simp only [PyData.canLay0]; exact a, ?_⟩
  simp only [PyData.depth]
  omega
theorem lay_int (n : Nat) (i : Int) : Lay n (.int i) := ⟨by simp [PyData.canLay0], by simp [PyData.depth]⟩
theorem lay_str (n : Nat) (i : Str) (h : PyData.strOk i = true) : Lay n (.str i) := ⟨by simp only [PyData.canLay0]; exact h, by simp [PyData.depth]⟩
theorem lay_bool (n : Nat) (i : Bool) : Lay n (.bool i) := ⟨by simp [PyData.canLay0], by simp [PyData.depth]⟩
theorem lay_none (n : Nat) : Lay n .none := ⟨by simp [PyData.canLay0], by simp [PyData.depth]⟩
theorem Lay.shaped {n : Nat} {d : PyData} (h : Lay n d) (hn : n ≤ 64 := by decide) : SeqAt.shaped d = true := by
  show (d.canLay0 && decide (d.depth ≤ 64)) = true
  rw [Bool.and_eq_true]
  exact ⟨h.1, decide_eq_true (Nat.le_trans h.2 hn)⟩
theorem lay_map {α : Type} {n : Nat} {f : α → PyData} (h : ∀ a, Lay n (f a)) (xs : List α) : ∀ d ∈ xs.map f, Lay n d := fun d hd => by
  obtain ⟨a, _, rfl⟩ := List.mem_map.mp hd
  exact h a
theorem eqvAll_map {α : Type} [DecidableEq α] {f : α → PyData} (h : ∀ a b, PyData.eqv (f a) (f b) = decide (a = b)) : ∀ xs ys : List α, PyData.eqvAll (xs.map f) (ys.map f) = decide (xs = ys)
  | [], [] => by simp [PyData.eqvAll]
  | [], _ :: _ => by simp [PyData.eqvAll]
  | _ :: _, [] => by simp [PyData.eqvAll]
  | x :: xs, y :: ys => by
    simp only [List.map_cons, PyData.eqvAll]
    rw [h, eqvAll_map h xs ys]
    by_cases e : x = y <;> by_cases e2 : xs = ys <;> simp [e, e2]
theorem eqv_int (a b : Int) : PyData.eqv (.int a) (.int b) = decide (a = b) := by
  simp only [PyData.eqv]
  by_cases e : a = b <;> simp [e]
theorem eqv_str (a b : Str) : PyData.eqv (.str a) (.str b) = decide (a = b) := by
  simp only [PyData.eqv]
  by_cases e : a = b
  · simp [e]
  · rw [decide_eq_false e]
    exact beq_false_of_ne e
theorem dpAll_ints {K : PySem.W.Frag} {H : Hp} : ∀ ns : List Int, DpAll K H (ns.map V.int) (ns.map PyData.int)
  | [] => .nil
  | n :: ns => .cons (.int n) (dpAll_ints ns)
section
variable {H : Hp} {Q : VK} {K : PySem.W.Frag} {p q : Addr} {ns ms : List Int} {a b c d : Int}
theorem x_neL (h1 : SqL K H p (ns.map V.int)) (h2 : SqL K H q (ms.map V.int)) (k : Q (.bl (!decide (ns = ms))) H) : rNeU K (.ref p) (.ref q) H Q := by
  refine x_neDp (.lst h1 (dpAll_ints ns)) (.lst h2 (dpAll_ints ms)) (lay_list (lay_map (lay_int 0) ns)).shaped (lay_list (lay_map (lay_int 0) ms)).shaped ?_
  have e : PyData.eqv (.list (ns.map PyData.int)) (.list (ms.map PyData.int)) = decide (ns = ms) := by
    simp only [PyData.eqv]
    exact eqvAll_map eqv_int ns ms
  rw [e]
  exact k
theorem x_eqL (h1 : SqL K H p (ns.map V.int)) (h2 : SqL K H q (ms.map V.int)) (k : Q (.bl (decide (ns = ms))) H) : rEqU K (.ref p) (.ref q) H Q := by
  refine x_eqDp (.lst h1 (dpAll_ints ns)) (.lst h2 (dpAll_ints ms)) (lay_list (lay_map (lay_int 0) ns)).shaped (lay_list (lay_map (lay_int 0) ms)).shaped ?_
  have e : PyData.eqv (.list (ns.map PyData.int)) (.list (ms.map PyData.int)) = decide (ns = ms) := by
    simp only [PyData.eqv]
    exact eqvAll_map eqv_int ns ms
  rw [e]
  exact k
theorem x_neTu (h1 : SqT K H p (ns.map V.int)) (h2 : SqT K H q (ms.map V.int)) (k : Q (.bl (!decide (ns = ms))) H) : rNeU K (.ref p) (.ref q) H Q := by
  refine x_neDp (.tup h1 (dpAll_ints ns)) (.tup h2 (dpAll_ints ms)) (lay_tup (lay_map (lay_int 0) ns)).shaped (lay_tup (lay_map (lay_int 0) ms)).shaped ?_
  have e : PyData.eqv (.tuple (ns.map PyData.int)) (.tuple (ms.map PyData.int)) = decide (ns = ms) := by
    simp only [PyData.eqv]
    exact eqvAll_map eqv_int ns ms
  rw [e]
  exact k
theorem x_eqTu (h1 : SqT K H p (ns.map V.int)) (h2 : SqT K H q (ms.map V.int)) (k : Q (.bl (decide (ns = ms))) H) : rEqU K (.ref p) (.ref q) H Q := by
  refine x_eqDp (.tup h1 (dpAll_ints ns)) (.tup h2 (dpAll_ints ms)) (lay_tup (lay_map (lay_int 0) ns)).shaped (lay_tup (lay_map (lay_int 0) ms)).shaped ?_
  have e : PyData.eqv (.tuple (ns.map PyData.int)) (.tuple (ms.map PyData.int)) = decide (ns = ms) := by
    simp only [PyData.eqv]
    exact eqvAll_map eqv_int ns ms
  rw [e]
  exact k
/-- (a, b) != (c, d) -/
theorem x_neP (h1 : H p = some (.tup [.int a, .int b])) (h2 : H q = some (.tup [.int c, .int d])) (k : Q (.bl (!decide (a = c ∧ b = d))) H) : rNeU K (.ref p) (.ref q) H Q := by
  refine x_neTu (ns := [a, b]) (ms := [c, d]) (SqT.of h1) (SqT.of h2) ?_
  rw [show decide ([a, b] = [c, d]) = decide (a = c ∧ b = d) by simp]
  exact k
theorem x_eqP (h1 : H p = some (.tup [.int a, .int b])) (h2 : H q = some (.tup [.int c, .int d])) (k : Q (.bl (decide (a = c ∧ b = d))) H) : rEqU K (.ref p) (.ref q) H Q := by
  refine x_eqTu (ns := [a, b]) (ms := [c, d]) (SqT.of h1) (SqT.of h2) ?_
  rw [show decide ([a, b] = [c, d]) = decide (a = c ∧ b = d) by simp]
  exact k
/-- numbers or None -/
theorem x_neG {x y : Option Int} (k : Q (.bl (!decide (x = y))) H) : rNeU K (goalV x) (goalV y) H Q := by
  refine .inl ⟨by cases x <;> cases y <;> rfl, ?_⟩
  rw [show decide (goalV x = goalV y) = decide (x = y) by cases x <;> cases y <;> simp [goalV]]
  exact k
theorem x_eqG {x y : Option Int} (k : Q (.bl (decide (x = y))) H) : rEqU K (goalV x) (goalV y) H Q := by
  refine .inl ⟨by cases x <;> cases y <;> rfl, ?_⟩
  rw [show decide (goalV x = goalV y) = decide (x = y) by cases x <;> cases y <;> simp [goalV]]
  exact k
/-- slices -/
theorem x_sl {r : V → Option Int → Option Int → Hp → VK → Prop} {te : TE} {tl th : TO} {σ : L2.St} (k : te σ H fun x H1 => tl σ H1 fun l H2 => th σ H2 fun u H3 => r x l u H3 Q) : L2.tSl r te tl th σ H Q := k
theorem x_slL {xs : List V} {lo hi : Option Int} (h : SqL K H p xs) (k : ∀ q, H q = none → Q (.ref q) (upd H q (.lst (cutV xs lo hi)))) : rSlL K (.ref p) lo hi H Q := ⟨p, xs, rfl, h, k⟩
theorem x_noPart {σ : L2.St} {QO : Option Int → Hp → Prop} (k : QO none H) : tNoPart σ H QO := k
theorem x_part {σ : L2.St} {te : TE} {QO : Option Int → Hp → Prop} (k : te σ H fun x H1 => ∃ i, x = .int i ∧ QO (some i) H1) : tPart te σ H QO := k
theorem x_partI {i : Int} {R : Int → Prop} (k : R i) : ∃ j, V.int i = .int j ∧ R j := ⟨i, rfl, k⟩
theorem x_rep {xs : List V} {n : Int} (h : H p = some (.lst xs)) (h0 : -(2 ^ 63) ≤ n) (h1 : n < 2 ^ 63) (h2 : xs.length * n.toNat ≤ sizeLine) (k : ∀ q, H q = none → Q (.ref q) (upd H q (.lst (List.replicate n.toNat xs).flatten))) : rTimes (.ref p) (.int n) H Q := .inr (.inr ⟨p, n, xs, rfl, rfl, h, h0, h1, h2, k⟩)
end
/-- a slice of paired lists -/
theorem pr_cut {β : Type} {R : V → β → Prop} {xs : List V} {ys : List β} (lo hi : Option Int) (h : Paired R xs ys) : Paired R (cutV xs lo hi) ((ys.drop (HT.sIx xs.length 0 lo)).take (HT.sIx xs.length xs.length hi - HT.sIx xs.length 0 lo)) := pr_take _ (pr_drop _ h)
end Ch
/-! ### new objects, the heap behind them named -/
namespace Ch
open PySem PySem.Spec PyProof.Rows L2 ChM
section
variable {H : Hp} {Q : VK} {K : PySem.W.Frag} {p q : Addr} {xs ys : List V} {o : HO} {n : Nat} {R : Addr → Hp → Prop}
theorem n_new (h : n ≤ sizeLine) (k : ∀ p H', H p = none → Same H H' → H' p = some o → R p H') : n ≤ sizeLine ∧ ∀ p, H p = none → R p (upd H p o) := ⟨h, fun p hp => k p _ hp (Same.new hp) upd_same⟩
theorem n_new0 (k : ∀ p H', H p = none → Same H H' → H' p = some o → R p H') : ∀ p, H p = none → R p (upd H p o) := fun p hp => k p _ hp (Same.new hp) upd_same
theorem n_slL {lo hi : Option Int} (h : SqL K H p xs) (k : ∀ q H', H q = none → Same H H' → H' q = some (.lst (cutV xs lo hi)) → Q (.ref q) H') : rSlL K (.ref p) lo hi H Q := x_slL h fun q hq => k q _ hq (Same.new hq) upd_same
theorem n_plusL (h1 : H p = some (.lst xs)) (h2 : H q = some (.lst ys)) (h3 : xs.length + ys.length ≤ sizeLine) (k : ∀ r H', H r = none → Same H H' → H' r = some (.lst (xs ++ ys)) → Q (.ref r) H') : rPlus (.ref p) (.ref q) H Q := x_plusL h1 h2 h3 fun q hq => k q _ hq (Same.new hq) upd_same
theorem n_rep {i : Int} (h : H p = some (.lst xs)) (h0 : -(2 ^ 63) ≤ i) (h1 : i < 2 ^ 63) (h2 : xs.length * i.toNat ≤ sizeLine) (k : ∀ q H', H q = none → Same H H' → H' q = some (.lst (List.replicate i.toNat xs).flatten) → Q (.ref q) H') : rTimes (.ref p) (.int i) H Q := x_rep h h0 h1 h2 fun q hq => k q _ hq (Same.new hq) upd_same
theorem fits_sub {h : Int} {l l' : List Stp} (hl : fitsS h l) (hs : ∀ s ∈ l', s ∈ l) : fitsS h l' := fun b n hm => hl b n (hs _ hm)
theorem mem_cut {α : Type} {l : List α} {a b : Nat} {s : α} (h : s ∈ (l.drop a).take b) : s ∈ l := List.mem_of_mem_drop (List.mem_of_mem_take h)
theorem fits_app {h : Int} {l m : List Stp} (hl : fitsS h l) (hm : fitsS h m) : fitsS h (l ++ m) := fun b n hx => by
  rcases List.mem_append.mp hx with z | z
  · exact hl b n z
  · exact hm b n z
end
end Ch
namespace Ch
open PySem PySem.Spec PyProof.Rows L2
theorem nws {H H' : Hp} {p : Addr} {o : HO} (h : upd H p o = H') (hp : H p = none) : Same H H' ∧ H' p = some o := by
  subst h
  exact ⟨Same.new hp, upd_same⟩
end Ch
namespace Ch
open PySem PySem.Spec PyProof.Rows L2 ChM
theorem StepsAt.put {H : Hp} {p : Addr} {vs : List V} {l : List Stp} (s : Stp) (h : H p = some (.tup (stepV s))) (t : StepsAt H vs l) : StepsAt H (.ref p :: vs) (s :: l) := .cons ⟨p, rfl, h⟩ t
end Ch
/-! ### ways that meet -/
namespace Ch
open PySem PySem.Spec PyProof.Rows L2
section
variable {σ : L2.St} {H : Hp} {D : Ends} {t : TT} {t1 t2 : TS} {b : Bool}
/-- if: what is known of everything behind it -/
theorem x_ifM (R : L2.St → Hp → Prop) (hT : b = true → ∀ N : L2.St → Hp → Prop, (∀ σ' H', R σ' H' → N σ' H') → t1 { D with nx := N } σ H) (hF : b = false → ∀ N : L2.St → Hp → Prop, (∀ σ' H', R σ' H' → N σ' H') → t2 { D with nx := N } σ H) (h1 : ∀ σ' H', R σ' H' → D.nx σ' H') :
    if b = true then t1 D σ H else t2 D σ H := by
  cases b with
  | true => exact hT rfl _ h1
  | false => exact hF rfl _ h1
theorem x_ifMd {c : Prop} [Decidable c] (R : L2.St → Hp → Prop) (hT : c → ∀ N : L2.St → Hp → Prop, (∀ σ' H', R σ' H' → N σ' H') → t1 { D with nx := N } σ H) (hF : ¬ c → ∀ N : L2.St → Hp → Prop, (∀ σ' H', R σ' H' → N σ' H') → t2 { D with nx := N } σ H) (h1 : ∀ σ' H', R σ' H' → D.nx σ' H') :
    if decide c = true then t1 D σ H else t2 D σ H := x_ifM R (fun e => hT (of_decide_eq_true e)) (fun e => hF (of_decide_eq_false e)) h1
/-- an if that is passed by -/
theorem x_skip (R : Hp → Prop) (hf : ∀ QT : Bool → Hp → Prop, (∀ H', R H' → QT false H') → t σ H QT) (h1 : ∀ H', R H' → t2 D σ H') : tIfS t t1 t2 D σ H := hf _ fun H' r => h1 H' r
end
end Ch
namespace Ch
open PySem PySem.Spec PyProof.Rows L2
/-- c or e, true in any way -/
theorem x_orK {c : Prop} [Decidable c] {tb : TE} {σ : L2.St} {H : Hp} {k : VK} (hF : ¬ c → ∀ Q' : VK, Q' (.bl true) H → tb σ H Q') (h : k (.bl true) H) : if decide c = true then k (.bl true) H else tb σ H k := by
  by_cases e : c
  · rw [decide_eq_true e]
    exact h
  · rw [decide_eq_false e]
    exact hF e _ h
theorem x_aug {i : Nat} {te : TE} {ti : TIp} {D : Ends} {σ : L2.St} {H : Hp} {v : V} (h : σ[i]? = some (some v)) (k : te σ H fun y H1 => ti v y H1 fun z H2 => D.nx (σ.set i (some z)) H2) : tAug i te ti D σ H := ⟨v, h, k⟩
theorem x_ipI {f : Int → Int → Int} {i j : Int} {H : Hp} {Q : VK} (k : Q (.int (f i j)) H) : ipI f (.int i) (.int j) H Q := ⟨i, j, rfl, rfl, k⟩
end Ch

set_option Elab.async false
set_option linter.all false
set_option autoImplicit false
set_option maxRecDepth 100000
set_option maxHeartbeats 4000000
/-! ### max of a tuple of ints -/
namespace Ch
open PySem PySem.Spec PyProof.Rows L2
section
variable {prog : Program} {w : World} {A : Around} {E : Value → Shared → Prop} {s : Shared}
theorem max_intTup {l : Addr} {xs : Array (Int × Tok)} {Q : Value → Shared → Prop} (hh : A.handled = none) (hl : s.heap.IsTuple l (intItems xs)) (hne : 0 < xs.size)
    (h : ∀ v h' tk, (intItems xs)[argBest (fun i j => decide (numAt xs i > numAt xs j)) (xs.size - 1)]? = some v → (∀ b o, s.heap.get? b = some o → h'.get? b = some o) → Q v { s with heap := h', toks := tk }) :
    wpAny (model prog w) A (call (.builtin "max") [.ref l]) Q E s := by
  have hlt : l < s.heap.objs.size := by
    obtain ⟨o, ho, _⟩ := hl
    exact Heap.lt_size ho
  refine call_max_walk (wpAny_pyIter_tuple hl ?_)
  refine ⟨_, [_, l], [_], _, _, _, _, rfl, Walks.tuple (A := A.in1) hh _ l (Nat.ne_of_lt hlt) (intItems xs),
    ⟨⟨_, Heap.get?_push_size _ rfl, rfl, rfl⟩, hl.push _⟩, fun c hc => ?_, by simpa [intItems] using hne, CmpOf.ints_gt (numAt xs) (fun _ _ => intItems_at), fun v h' tk hP hk => ?_⟩
  · show c < (s.heap.push _).objs.size
    rw [Heap.size_push]
    rcases List.mem_cons.mp hc with rfl | hc
    · exact Nat.lt_succ_self _
    · rcases List.mem_cons.mp hc with rfl | hc
      · exact Nat.lt_succ_of_lt hlt
      · cases hc
  · refine h v h' tk (by simpa [intItems] using hP) fun b o e => hk b o (fun hm => ?_) (Heap.get?_push_of_some _ e)
    rcases List.mem_cons.mp hm with e1 | hm
    · exact absurd (e1 ▸ Heap.lt_size e) (Nat.lt_irrefl _)
    · cases hm
theorem maxT_raw {l : Addr} {its : List Value} {ns : List Int} {Q : Value → Shared → Prop} (hh : A.handled = none) (hl : s.heap.IsTuple l its.toArray) (hi : IntsAre its ns) (hne : 0 < ns.length)
    (h : ∀ h' tk M t', (∀ b o, s.heap.get? b = some o → h'.get? b = some o) → M ∈ ns → (∀ a, a ∈ ns → a ≤ M) → Q (.int M t') { s with heap := h', toks := tk }) : wpAny (model prog w) A (call (.builtin "max") [.ref l]) Q E s := by
  obtain ⟨xs, e⟩ := hi.allInts.items
  have hn : numsOf (intItems xs).toList = ns := by rw [← e]; exact hi.numsOf
  rw [nums_intItems] at hn
  subst hn
  rw [e] at hl
  have hsz : 0 < xs.size := by simpa using hne
  refine max_intTup hh hl hsz fun v h' tk hv hk => ?_
  obtain ⟨t, rfl⟩ := intItems_at hv
  obtain ⟨h1, h2⟩ := argBest_gt (numAt xs) (xs.size - 1)
  refine h h' tk _ t hk ?_ fun a ha => ?_
  · rw [numAt_eq]; exact PySem.getD_mem (by rw [List.length_map, Array.length_toList]; omega)
  · obtain ⟨j, hj, rfl⟩ := mem_getD ha
    rw [List.length_map, Array.length_toList] at hj
    rw [← numAt_eq]; exact h2 j (by omega)
end
def rMaxT (K : PySem.W.Frag) : List V → Hp → VK → Prop := fun vs H Q => ∃ (a : Addr) (ns : List Int), vs = [V.ref a] ∧ SqT K H a (ns.map V.int) ∧ 0 < ns.length ∧ ∀ m, m ∈ ns → (∀ y, y ∈ ns → y ≤ m) → Q (.int m) H
theorem cr_maxT {X : Cx} (hc : X.calm = true) : CallR X (.builtin "max") (rMaxT X.K) := by
  intro pins s σ H vs us Q I r h
  obtain ⟨a, ns, rfl, hs, hne, q⟩ := h
  obtain ⟨its, rv, hl, _⟩ := I.tuple hs
  rw [Vals.ref1 r]
  exact maxT_raw (I.ok.hd hc) hl rv.ints hne fun h' tk m t' hk h1 h2 => ⟨.int _, H, I.kept hk, ⟨_, rfl⟩, q m h1 h2⟩
theorem c_maxTK {X : Cx} (K : PySem.W.Frag) (hc : X.calm = true) (hK : X.K = K := by rfl) : CallR X (.builtin "max") (rMaxT K) := by subst hK; exact cr_maxT hc
theorem x_maxT {H : Hp} {Q : VK} {K : PySem.W.Frag} {p : Addr} {ns : List Int} (h : SqT K H p (ns.map V.int)) (h0 : 0 < ns.length) (k : ∀ m, m ∈ ns → (∀ y ∈ ns, y ≤ m) → Q (.int m) H) : rMaxT K [.ref p] H Q := ⟨p, ns, rfl, h, h0, k⟩
end Ch
/-! ### xs[i] op= e -/
namespace Ch
open PySem PySem.Spec PyProof.Rows L2
def rGetL (K : PySem.W.Frag) : V → V → Hp → VK → Prop := fun x y H Q => ∃ p xs i v, x = .ref p ∧ y = .int i ∧ SqL K H p xs ∧ 0 ≤ i ∧ atI xs i = some v ∧ Q v H
theorem get_list {X : Cx} : PGet X (rGetL X.K) := by
  intro pins s σ H x y v u Q I rx ry h
  obtain ⟨p, xs, i, z, rfl, rfl, hq, h0, he, q⟩ := h
  cases rx
  obtain ⟨t, rfl⟩ := ry
  obtain ⟨its, r, pl, hz⟩ := I.list hq
  obtain ⟨j, h1, h2, h3, h4, h5⟩ := atI_get he
  obtain ⟨w, ew, rw'⟩ := r.get h2
  have hl := r.length
  have hn := line63
  have hj : i.toNat = j := by
    rw [seqIndex_of h0 h5] at h1
    exact Option.some.inj h1
  exact wpAny_getItem_list pl.isList h0 (by omega) (by rw [hj]; simpa using ew) ⟨z, H, I, rw', q⟩
theorem get_listK {X : Cx} (K : PySem.W.Frag) (hK : X.K = K := by rfl) : PGet X (rGetL K) := by subst hK; exact get_list
section
variable {σ : L2.St} {H : Hp} {D : Ends} {K : PySem.W.Frag} {p : Addr} {xs : List V} {i : Int} {v : V} {Q : VK}
theorem x_augS {to ti te : TE} {tget : V → V → Hp → VK → Prop} {tip : TIp} {tset : TSet} (k : to σ H fun o H1 => ti σ H1 fun i H2 => tget o i H2 fun x H3 => te σ H3 fun y H4 => tip x y H4 fun z H5 => tset o i z H5 fun H6 => D.nx σ H6) : tAugS to ti te tget tip tset D σ H := k
theorem x_getL (h : SqL K H p xs) (h0 : 0 ≤ i) (e : atI xs i = some v) (k : Q v H) : rGetL K (.ref p) (.int i) H Q := ⟨p, xs, i, v, rfl, rfl, h, h0, e, k⟩
end
end Ch
/-! ### cls(*e), cls a local name -/
namespace Ch
open PySem PySem.Spec PyProof.Rows L2
def tMkV (i : Nat) (C : Addr) (sp : Sp) (E : XK) (t : TA) : TE := fun σ H Q => σ[i]? = some (some (.ref C)) ∧ tMk C sp E t σ H Q
theorem pe_mkSV {X : Cx} {CX : CXT} {k i : Nat} {f C : Addr} {sp : Sp} {E : XK} {x : Str} {np pos sp_ : Pos} {e : Expr} {ta : TE} (M : Mk X.K C f) (F : FnR X.prog X.w X.K X.mg X.base CX k f sp) (hr : Room (k + 1) X.A) (hx : Passes CX X E) (hN : X.N[i]? = some x) (hv : Vis X.env.scope x) (he : PE X e ta)
    (hd : (x == ("__debug__" : Str)) = false := by decide) (hcd : (x == ("__classdict__" : Str)) = false := by decide)
    (hst : starEach [.Starred e sp_] X.env = [(true, eval e X.env)] := by rfl) : PE X (.Call (.Name x np) [.Starred e sp_] [] pos) (tMkV i C sp E (tStarA X.K ta)) := by
  refine ⟨fun pins s σ H Q I h => ?_⟩
  obtain ⟨hs, h⟩ := h
  refine wpAny_Call_Name_kw (thn ((pe_var (pos := np) (i := i) hN hv hd hcd).run pins s σ H (fun v H1 => v = .ref C ∧ H1 = H) I ⟨.ref C, hs, rfl, rfl⟩) fun u s1 ⟨v, H1, I1, r1, ev, eH⟩ => ?_)
  subst ev
  rw [eH] at I1
  cases r1
  refine PySem.W.callWith_S (h₀ := X.base) I1.ok.mod.kin M.kp (thn (he.run pins s1 σ H _ I1 h) fun v s1 ⟨y, H1, I1, ry, a, xs, ey, hxs, q⟩ => ?_) hst
  subst ey
  obtain rfl : v = Value.ref a := ry
  exact StX.star_any I1 hxs fun us s2 I2 rv => ⟨I2.kIn, StX.run_makeR M F hr hx I2 rv q⟩
end Ch

set_option Elab.async false
set_option linter.all false
set_option autoImplicit false
set_option maxRecDepth 100000
set_option maxHeartbeats 4000000
/-! ### tuples and lists of the same plain values -/
namespace Ch
open PySem PySem.Spec PyProof.Rows L2 ChM
def pdV : V → PyData
  | .bl b => .bool b
  | .int i => .int i
  | .str z => .str z
  | _ => .none
def plV : V → Bool
  | .non => true
  | .bl _ => true
  | .int _ => true
  | .str z => PyData.strOk z
  | _ => false
theorem pdV_dp {K : PySem.W.Frag} {H : Hp} {v : V} (h : plV v = true) : Dp K H v (pdV v) := by
  cases v <;> first | exact .non | exact .bl _ | exact .int _ | exact .str _ | exact nomatch (show false = true from h)
theorem pdV_lay {v : V} (h : plV v = true) (n : Nat) : Lay n (pdV v) := by
  cases v <;> first | exact lay_none n | exact lay_bool n _ | exact lay_int n _ | exact lay_str n _ h | exact nomatch (show false = true from h)
theorem pdV_all {K : PySem.W.Frag} {H : Hp} : ∀ {vs : List V}, vs.all plV = true → DpAll K H vs (vs.map pdV)
  | [], _ => .nil
  | v :: vs, h => by
    rw [List.all_cons, Bool.and_eq_true] at h
    exact .cons (pdV_dp h.1) (pdV_all h.2)
theorem pdV_lays {vs : List V} (h : vs.all plV = true) : ∀ d ∈ vs.map pdV, Lay 0 d := fun d hd => by
  obtain ⟨v, hv, rfl⟩ := List.mem_map.mp hd
  exact pdV_lay (List.all_eq_true.mp h v hv) 0
theorem goalV_pl (g : Option Int) : plV (goalV g) = true := by cases g <;> rfl
section
variable {H : Hp} {Q : VK} {K : PySem.W.Frag} {p q : Addr} {vs : List V}
theorem x_neSame (h1 : SqT K H p vs) (h2 : SqT K H q vs) (hv : vs.all plV = true) (k : Q (.bl false) H) : rNeU K (.ref p) (.ref q) H Q := by
  have l := lay_tup (pdV_lays hv)
  refine x_neDp (.tup h1 (pdV_all hv)) (.tup h2 (pdV_all hv)) l.shaped l.shaped ?_
  rw [PySem.SeqAt.eqv_refl _ l.1]
  exact k
theorem x_neSameL (h1 : SqL K H p vs) (h2 : SqL K H q vs) (hv : vs.all plV = true) (k : Q (.bl false) H) : rNeU K (.ref p) (.ref q) H Q := by
  have l := lay_list (pdV_lays hv)
  refine x_neDp (.lst h1 (pdV_all hv)) (.lst h2 (pdV_all hv)) l.shaped l.shaped ?_
  rw [PySem.SeqAt.eqv_refl _ l.1]
  exact k
end
theorem x_cmeth {σ : L2.St} {H : Hp} {Q : VK} {C : Addr} {sp : Sp} {E : XK} {t : TA} (k : t σ H fun vs H1 => sp (.ref C :: vs) H1 Q E) : ClX.tCMeth C sp E (tC (.ref C)) t σ H Q := ⟨rfl, k⟩
/-- c and u, false in any way -/
theorem x_andM {b : Bool} {u : TT} {σ : L2.St} {H : Hp} {QT : Bool → Hp → Prop} (R : Hp → Prop) (hT : b = true → ∀ QT' : Bool → Hp → Prop, (∀ H', R H' → QT' false H') → u σ H QT') (hF : b = false → R H) (h1 : ∀ H', R H' → QT false H') :
    if b = true then u σ H QT else QT false H := by
  cases b with
  | true => exact hT rfl _ h1
  | false => exact h1 _ (hF rfl)
theorem x_andMd {c : Prop} [Decidable c] {u : TT} {σ : L2.St} {H : Hp} {QT : Bool → Hp → Prop} (R : Hp → Prop) (hT : c → ∀ QT' : Bool → Hp → Prop, (∀ H', R H' → QT' false H') → u σ H QT') (hF : ¬ c → R H) (h1 : ∀ H', R H' → QT false H') :
    if decide c = true then u σ H QT else QT false H := x_andM R (fun e => hT (of_decide_eq_true e)) (fun e => hF (of_decide_eq_false e)) h1
theorem x_neS {K : PySem.W.Frag} {H : Hp} {Q : VK} {i j : Str} (k : Q (.bl (!decide (i = j))) H) : rNeU K (.str i) (.str j) H Q := .inl ⟨rfl, by rw [show decide (V.str i = V.str j) = decide (i = j) by simp]; exact k⟩
theorem x_notinT {K : PySem.W.Frag} {H : Hp} {Q : VK} {x : V} {p : Addr} {xs : List V} (h : SqT K H p xs) (h1 : flatV x = true) (h2 : xs.all flatV = true) (k : Q (.bl (!inV x xs)) H) : rNotInU K x (.ref p) H Q := .inl ⟨p, xs, rfl, .inr h, h1, h2, k⟩
theorem x_notinL {K : PySem.W.Frag} {H : Hp} {Q : VK} {x : V} {p : Addr} {xs : List V} (h : SqL K H p xs) (h1 : flatV x = true) (h2 : xs.all flatV = true) (k : Q (.bl (!inV x xs)) H) : rNotInU K x (.ref p) H Q := .inl ⟨p, xs, rfl, .inl h, h1, h2, k⟩
/-- lists of the same tuples -/
theorem dp_rep {K : PySem.W.Frag} {H : Hp} {d : PyData} : ∀ {xs : List V}, (∀ x ∈ xs, Dp K H x d) → DpAll K H xs (List.replicate xs.length d)
  | [], _ => .nil
  | x :: xs, h => .cons (h x List.mem_cons_self) (dp_rep fun y hy => h y (List.mem_cons_of_mem _ hy))
theorem x_neTups {K : PySem.W.Frag} {H : Hp} {Q : VK} {p q : Addr} {xs ys vs : List V} (h1 : SqL K H p xs) (h2 : SqL K H q ys) (hl : xs.length = ys.length) (hx : ∀ x ∈ xs, ∃ a, x = .ref a ∧ H a = some (.tup vs)) (hy : ∀ y ∈ ys, ∃ a, y = .ref a ∧ H a = some (.tup vs)) (hv : vs.all plV = true)
    (k : Q (.bl false) H) : rNeU K (.ref p) (.ref q) H Q := by
  have one : ∀ x : V, (∃ a, x = .ref a ∧ H a = some (.tup vs)) → Dp K H x (.tuple (vs.map pdV)) := fun x ⟨a, e, h⟩ => by
    subst e
    exact .tup (SqT.of h) (pdV_all hv)
  have l : Lay 2 (.list (List.replicate xs.length (.tuple (vs.map pdV)))) := lay_list fun d hd => by
    rw [List.eq_of_mem_replicate hd]
    exact lay_tup (pdV_lays hv)
  refine x_neDp (.lst h1 (dp_rep fun x h => one x (hx x h))) (.lst h2 (by rw [hl]; exact dp_rep fun y h => one y (hy y h))) l.shaped l.shaped ?_
  rw [PySem.SeqAt.eqv_refl _ l.1]
  exact k
end Ch

set_option Elab.async false
set_option linter.all false
set_option autoImplicit false
set_option maxRecDepth 100000
set_option maxHeartbeats 4000000
/-! ### fields as targets of a tuple; objects that are written in place -/
namespace Ch
open PySem PySem.Spec PyProof.Rows L2 ChM
/-- o.f = v, in a row of targets -/
def gFldK (K : PySem.W.Frag) (to : TE) (f : Str) : TG := fun v σ H Q => to σ H fun x H1 => rSet K f v x H1 fun H2 => Q σ H2
theorem pg_fldK {X : Cx} {o : Expr} {f : Str} {to : TE} {pos : Pos} (K : PySem.W.Frag) (ho : PE X o to) (hK : X.K = K := by rfl) : PG X (.Attribute o f pos) (gFldK K to f) := by
  subst hK
  refine ⟨fun pins s σ H v u Q I r h => ?_⟩
  rw [assign_Attribute]
  refine wpAny_bind (wpAny_holding (thn (ho.run pins s σ H _ I h) fun ov s1 ⟨x, H1, I1, r1, a, C, dx, fs, ex, ea, c, n, l, q1⟩ => ?_))
  subst ex
  obtain rfl : ov = Value.ref a := r1
  refine wpAny_bind (wpAny_standAt (wpAny_bind (wpAny_holding (setattr_ok I1 ea c n l r fun s2 I2 => ?_))))
  exact wpAny_release ⟨σ, _, I2, q1⟩
theorem x_gfldK {K : PySem.W.Frag} {to : TE} {f : Str} {v : V} {σ : L2.St} {H : Hp} {Q : L2.St → Hp → Prop} (k : to σ H fun x H1 => rSet K f v x H1 fun H2 => Q σ H2) : gFldK K to f v σ H Q := k
/-- o.f op= e -/
theorem ps_augFK {X : Cx} {o value : Expr} {f : Str} {ta tv : TE} {op : Operator} {rd : V → V → Hp → VK → Prop} {tpos pos : Pos} (K : PySem.W.Frag) (ha : PE X o ta) (hv : PE X value tv) (hop : InOp X op rd) (hK : X.K = K := by rfl) : PS X (.AugAssign (.Attribute o f tpos) op value pos) (sFldAug K ta tv rd f) := by
  subst hK
  exact ps_fldaug ha hv hop
theorem x_augF {K : PySem.W.Frag} {ta tv : TE} {rd : V → V → Hp → VK → Prop} {f : Str} {D : Ends} {σ : L2.St} {H : Hp} {p C dx : Addr} {fs : List (Str × V)} {v : V}
    (h : ta σ H fun x H1 => ∃ a C dx fs v, x = .ref a ∧ H1 a = some (.ins C dx fs) ∧ Cls K C ∧ NoAttr K C f ∧ fs.lookup f = some v ∧ tv σ H1 fun y H2 => rd v y H2 fun z H3 => ∃ dx' fs', H3 a = some (.ins C dx' fs') ∧ fs'.length < 1000 ∧ D.nx σ (upd H3 a (.ins C dx' (putF f z fs')))) : sFldAug K ta tv rd f D σ H := h
theorem cut_to (xs : List V) (i : Nat) (h : i ≤ xs.length) : cutV xs none (some (i : Int)) = xs.take i := by
  unfold cutV
  rw [HT.sIx_none, HT.sIx_nat, List.drop_zero, Nat.sub_zero, Nat.min_eq_left h]
/-- t[:i], not the whole -/
theorem n_slTo {K : PySem.W.Frag} {H : Hp} {Q : VK} {p : Addr} {xs : List V} {i : Nat} (h : SqT K H p xs) (hi : i < xs.length) (k : ∀ q H', H q = none → Same H H' → H' q = some (.tup (xs.take i)) → Q (.ref q) H') : rSlT K (.ref p) none (some (i : Int)) H Q := by
  refine ⟨p, xs, rfl, h, fun z => ?_, fun q hq => ?_⟩
  · have z2 := z.2
    rw [HT.sIx_nat] at z2
    omega
  · rw [cut_to xs i (Nat.le_of_lt hi)]
    exact k q _ hq (Same.new hq) upd_same
/-- all but two objects -/
def Same2 (p q : Addr) (H H' : Hp) : Prop := ∀ b o, b ≠ p → b ≠ q → H b = some o → H' b = some o
theorem Same2.refl (p q : Addr) (H : Hp) : Same2 p q H H := fun _ _ _ _ h => h
theorem Same2.trans {p q : Addr} {H H1 H2 : Hp} (a : Same2 p q H H1) (b : Same2 p q H1 H2) : Same2 p q H H2 := fun c o n m h => b c o n m (a c o n m h)
theorem Same2.of {p q : Addr} {H H' : Hp} (s : Same H H') : Same2 p q H H' := fun c o _ _ h => s c o h
theorem Same2.upd1 {p q : Addr} {H : Hp} {o : HO} : Same2 p q H (upd H p o) := fun b u n _ h => by
  rw [upd_ne n]
  exact h
theorem Same2.upd2 {p q : Addr} {H : Hp} {o : HO} : Same2 p q H (upd H q o) := fun b u _ n h => by
  rw [upd_ne n]
  exact h
/-- a heap that knew neither -/
theorem Same2.base {p q st : Addr} {H0 H H' : Hp} (s : Same2 p q H H') (hp : H0 p = none) (hq : H0 q = none) (b : SameB st H0 H) : SameB st H0 H' := fun a o n e => s a o (ne_of_none e hp) (ne_of_none e hq) (b a o n e)
/-- the draws' state, told by a heap that is kept but for it -/
theorem StAt.base {K : PySem.W.Frag} {H0 H : Hp} {st a : Addr} {ns : List Int} (S0 : StAt K H0 st a ns) (b : SameB st H0 H) {pos m r : Int} (h : H st = some (.lst [.ref a, .int pos, .int m, .int r])) (h0 : 0 ≤ pos) : StAt K H st a ns :=
  ⟨⟨pos, m, r, h, h0⟩, fun H' s => S0.scr H' (b.trans s)⟩
theorem StAt.same2 {K : PySem.W.Frag} {H0 H H' : Hp} {st a p q : Addr} {ns : List Int} (S0 : StAt K H0 st a ns) (b : SameB st H0 H) (S : StAt K H st a ns) (s : Same2 p q H H') (hp : H0 p = none) (hq : H0 q = none) : StAt K H' st a ns := by
  obtain ⟨pos, m, r, h, h0⟩ := S.lst
  exact S0.base (s.base hp hq b) (s _ _ (S0.neN hp).symm (S0.neN hq).symm h) h0
end Ch

set_option Elab.async false
set_option linter.all false
set_option autoImplicit false
set_option maxRecDepth 100000
set_option maxHeartbeats 4000000
/-! ### what is known of a lambda that is kept -/
namespace LamV
open PySem PySem.Spec PyProof.Rows L2 LamX Ch
/-- f is a lambda of the def X, its body read by t -/
def LamAt (X : Cx) (k : Nat) (t : XK → TE) (f : Addr) (H : Hp) : Prop := ∃ (c' : Addr) (dV : Value) (params : Arguments) (body : Expr) (scope : Scope), H f = some (LamO f (X.env.qual ++ "<lambda>") params body scope (cloFrom X.env.cells scope.names []) c' dV) ∧
  H c' = some (CodeO c' (X.env.qual ++ "<lambda>")) ∧ LamS3 X.env.scope X.N scope ∧
  (∀ (A : Around) (outer : List Env) (s : Shared) (H : Hp) (E : XK), Room k (A.deeper (lamEnv X scope s.heap.objs.size f c')) → PE (lamCx X A outer s H E scope f c') body (t E)) ∧ DOk params body scope dV H
section
variable {X : Cx} {k : Nat} {t : XK → TE} {f : Addr} {H H' : Hp} {Q : VK} {T : List (Addr × Str)} {σ : L2.St}
theorem LamAt.keep (h : LamAt X k t f H) (kp : ∀ b o, (∀ ps, o ≠ .tbl ps) → (∀ xs, o ≠ .lst xs) → H b = some o → H' b = some o) : LamAt X k t f H' := by
  obtain ⟨c', dV, params, body, scope, h1, h2, h3, h4, h5⟩ := h
  refine ⟨c', dV, params, body, scope, kp _ _ (fun ps => lamO_tbl ps) (fun xs => lamO_lst xs) h1, kp _ _ (fun ps z => by unfold CodeO at z; cases z) (fun ps z => by unfold CodeO at z; cases z) h2, h3, h4, ?_⟩
  rcases h5 with h5 | ⟨D, d, p, e1, e2, e3⟩
  · exact .inl h5
  · exact .inr ⟨D, d, p, e1, kp _ _ (fun ps z => nomatch z) (fun ps z => nomatch z) e2, e3⟩
theorem LamAt.same (h : LamAt X k t f H) (s : Same H H') : LamAt X k t f H' := h.keep fun b o _ _ e => s b o e
theorem LamAt.ext (h : LamAt X k t f H) (s : ExtN H H') : LamAt X k t f H' := h.keep fun b o n _ e => s b o e n
theorem LamAt.draw {K : PySem.W.Frag} {st a : Addr} {ns : List Int} (h : LamAt X k t f H) (S : StAt K H st a ns) (s : SameB st H H') : LamAt X k t f H' := h.keep fun b o _ n e => s b o (S.ne e n) e
/-- lambda: body -/
theorem x_lamMk {params : Arguments} {body : Expr} {scope : Scope} (hT : Tabs T H) (L : LamS3 X.env.scope X.N scope)
    (hbody : ∀ (f c' : Addr) (A : Around) (outer : List Env) (s : Shared) (H : Hp) (E : XK), Room k (A.deeper (lamEnv X scope s.heap.objs.size f c')) → PE (lamCx X A outer s H E scope f c') body (t E))
    (hb : ∀ (q : Str) (cl : List (Str × Addr)) (pm cv ct : Value), bindArgs (fdV q params body scope cl pm cv ct .none) ⟨[], []⟩ = pure [])
    (kk : ∀ f H1, ExtN H H1 → Tabs T H1 → LamAt X k t f H1 → Q (.ref f) H1) : tLamMk T (X.env.qual ++ "<lambda>") params body scope (cloFrom X.env.cells scope.names []) σ H Q :=
  ⟨hT, fun f c' H1 e1 T1 h1 h2 => kk f H1 e1 T1 ⟨c', .none, params, body, scope, h1, h2, L, hbody f c', .inl ⟨rfl, hb⟩⟩⟩
/-- lambda p=d: body -/
theorem x_lamMk1 {params : Arguments} {body : Expr} {scope : Scope} {d : Int} (p : Str) (hT : Tabs T H) (L : LamS3 X.env.scope X.N scope)
    (hbody : ∀ (f c' : Addr) (A : Around) (outer : List Env) (s : Shared) (H : Hp) (E : XK), Room k (A.deeper (lamEnv X scope s.heap.objs.size f c')) → PE (lamCx X A outer s H E scope f c') body (t E))
    (hl : scope.names.lookup p = some .local) (hb : ∀ (D : Addr) (q : Str) (cl : List (Str × Addr)) (pm cv ct u : Value), ∃ kf : Option (Array Value) → Sem (List (Str × Value)), bindArgs (fdV q params body scope cl pm cv ct (.ref D)) ⟨[], []⟩ = seqItems? (.ref D) >>= kf ∧ kf (some #[u]) = pure [(p, u)])
    (kk : ∀ f H1, ExtN H H1 → Tabs T H1 → LamAt X k t f H1 → Q (.ref f) H1) : tLamMk1 T (X.env.qual ++ "<lambda>") params body scope (cloFrom X.env.cells scope.names []) d σ H Q :=
  ⟨hT, fun f c' D H1 e1 T1 h1 h2 h3 => kk f H1 e1 T1 ⟨c', .ref D, params, body, scope, h1, h2, L, hbody f c', .inr ⟨D, .int d, p, rfl, h3, hl, hb D⟩⟩⟩
/-- x(w) in a comprehension -/
theorem x_outI {i : Nat} {TT : (XK → Hp → VK → Prop) → Hp → VK → Prop} {σ0 : L2.St} (L : LamAt X k t f H) (hs : σ[i]? = some (some (.ref f))) (mono : ∀ tl tl' : XK → Hp → VK → Prop, (∀ E Q', tl E H Q' → tl' E H Q') → TT tl H Q → TT tl' H Q) (h : TT (fun E H' Q' => t E σ0 H' Q') H Q) : tOutI X k i TT σ0 σ H Q := by
  obtain ⟨c', dV, params, body, scope, h1, h2, h3, h4, h5⟩ := L
  exact ⟨f, c', dV, params, body, scope, t, hs, h1, h2, h3, h4, mono _ _ (fun E Q' z => ⟨h1, h5, z⟩) h⟩
/-- x(w) in the def itself -/
theorem x_outV {i : Nat} {TT : (XK → Hp → VK → Prop) → Hp → VK → Prop} (L : LamAt X k t f H) (hs : σ[i]? = some (some (.ref f))) (mono : ∀ tl tl' : XK → Hp → VK → Prop, (∀ E Q', tl E H Q' → tl' E H Q') → TT tl H Q → TT tl' H Q) (h : TT (fun E H' Q' => t E σ H' Q') H Q) : tOutV X k i TT σ H Q := by
  obtain ⟨c', dV, params, body, scope, h1, h2, h3, h4, h5⟩ := L
  exact ⟨f, c', dV, params, body, scope, t, hs, h1, h2, h3, h4, mono _ _ (fun E Q' z => ⟨h1, h5, z⟩) h⟩
end
end LamV

set_option linter.all false
set_option autoImplicit false
/-! ### a plan repeated, step by step -/
namespace ChM
theorem times_snoc (l : List Stp) : ∀ n, times l (n + 1) = times l n ++ l
  | 0 => by show l ++ [] = [] ++ l; simp
  | n + 1 => by
    show l ++ times l (n + 1) = (l ++ times l n) ++ l
    rw [times_snoc l n, List.append_assoc]
theorem times_len (l : List Stp) : ∀ n, (times l n).length = n * l.length
  | 0 => by simp [times]
  | n + 1 => by
    show (l ++ times l n).length = _
    rw [List.length_append, times_len l n, Nat.succ_mul]
    omega
theorem times_add (l : List Stp) : ∀ n m, times l (n + m) = times l n ++ times l m
  | 0, m => by rw [Nat.zero_add]; rfl
  | n + 1, m => by
    rw [show n + 1 + m = (n + m) + 1 by omega]
    show l ++ times l (n + m) = (l ++ times l n) ++ times l m
    rw [times_add l n m, List.append_assoc]
def preS (l : List Stp) (j : Nat) : List Stp := times l (j / l.length) ++ l.take (j % l.length)
theorem preS_succ {l : List Stp} (h0 : 0 < l.length) (j : Nat) {st : Stp} (h : l[j % l.length]? = some st) : preS l (j + 1) = preS l j ++ [st] := by
  have hm := Nat.mod_lt j h0
  have hd := Nat.div_add_mod j l.length
  have tk : l.take (j % l.length + 1) = l.take (j % l.length) ++ [st] := by rw [List.take_add_one, h]; rfl
  unfold preS
  by_cases q : j % l.length + 1 = l.length
  · have e1 : (j + 1) / l.length = j / l.length + 1 := by
      have : j + 1 = (j / l.length + 1) * l.length := by
        rw [Nat.succ_mul, Nat.mul_comm]
        omega
      rw [this, Nat.mul_div_cancel _ h0]
    have e2 : (j + 1) % l.length = 0 := by
      have : j + 1 = (j / l.length + 1) * l.length := by
        rw [Nat.succ_mul, Nat.mul_comm]
        omega
      rw [this, Nat.mul_mod_left]
    rw [e1, e2, times_snoc, List.take_zero, List.append_nil, List.append_assoc, ← tk, q, List.take_length]
  · have lt : j % l.length + 1 < l.length := by omega
    have e1 : (j + 1) / l.length = j / l.length ∧ (j + 1) % l.length = j % l.length + 1 := by
      have ej : j + 1 = (j % l.length + 1) + l.length * (j / l.length) := by omega
      constructor
      · rw [ej, Nat.add_mul_div_left _ _ h0, Nat.div_eq_of_lt lt, Nat.zero_add]
      · rw [ej, Nat.add_mul_mod_self_left, Nat.mod_eq_of_lt lt]
    rw [e1.1, e1.2, tk, List.append_assoc]
theorem preS_zero (l : List Stp) : preS l 0 = [] := by
  unfold preS
  rw [Nat.zero_div, Nat.zero_mod]
  rfl
theorem preS_round {l : List Stp} (h0 : 0 < l.length) (r i : Nat) : preS l (r * l.length + i) = times l r ++ preS l i := by
  unfold preS
  rw [show r * l.length + i = i + l.length * r by rw [Nat.mul_comm]; omega, Nat.add_mul_div_left _ _ h0, Nat.add_mul_mod_self_left, Nat.add_comm (i / l.length) r, times_add, List.append_assoc]
theorem times_take {l : List Stp} (h0 : 0 < l.length) : ∀ (m N : Nat), m ≤ N * l.length → (times l N).take m = preS l m
  | 0, N, _ => by rw [preS_zero, List.take_zero]
  | m + 1, N, h => by
    have ih := times_take h0 m N (by omega)
    have hm := Nat.mod_lt m h0
    obtain ⟨st, hst⟩ : ∃ st, l[m % l.length]? = some st := ⟨_, List.getElem?_eq_getElem hm⟩
    rw [preS_succ h0 m hst, List.take_add_one, ih]
    congr 1
    have hd := Nat.div_add_mod m l.length
    have hq : m / l.length < N := by
      refine Nat.div_lt_of_lt_mul ?_
      rw [Nat.mul_comm]
      omega
    obtain ⟨k, rfl⟩ : ∃ k, N = m / l.length + (k + 1) := ⟨N - m / l.length - 1, by omega⟩
    have e : times l (m / l.length + (k + 1)) = times l (m / l.length) ++ (l ++ times l k) := times_add l _ _
    have e2 : m = (times l (m / l.length)).length + m % l.length := by
      rw [times_len, Nat.mul_comm]
      omega
    have e3 : (times l (m / l.length + (k + 1)))[m]? = l[m % l.length]? := by
      rw [e, List.getElem?_append_right (by rw [times_len, Nat.mul_comm]; omega), times_len, Nat.mul_comm (m / l.length),
        show m - l.length * (m / l.length) = m % l.length by omega, List.getElem?_append_left hm]
    rw [e3, hst]
    rfl
/-- both rooms behind j steps -/
def runS (c : Int) (l : List Stp) (x : Int) (j : Nat) : Int × Int := playS (x, c - x) (preS l j)
/-- what step j (from 0) carries -/
def cntS (c : Int) (l : List Stp) (x : Int) (j : Nat) : Int := match l[j % l.length]? with
  | some st => (play1 (runS c l x j) st).2
  | none => 0
def plcS (c : Int) (l : List Stp) (x : Int) (j : Nat) : Int := placeOf (sideAt 1 (l.take (j % l.length))) (runS c l x j)
section
variable {c x : Int} {l : List Stp}
theorem runS_succ (h0 : 0 < l.length) (j : Nat) {st : Stp} (h : l[j % l.length]? = some st) : runS c l x (j + 1) = (play1 (runS c l x j) st).1 := by
  unfold runS
  rw [preS_succ h0 j h, playS_snoc]
theorem runS_sum (j : Nat) : (runS c l x j).1 + (runS c l x j).2 = c := by
  unfold runS
  rw [play_keep]
  show x + (c - x) = c
  omega
theorem sideAt_or : ∀ (l : List Stp) (s : Int), (s = 1 ∨ s = -1) → sideAt s l = 1 ∨ sideAt s l = -1
  | [], s, h => h
  | .turn :: r, s, h => sideAt_or r (0 - s) (by omega)
  | .mt _ _ :: r, s, h => sideAt_or r s h
theorem side_at {i : Nat} {st : Stp} (h : l[i]? = some st) : ∃ p, (sides 1 l)[i]? = some p ∧ sides (sideAt 1 (l.take i)) [st] = [p] := by
  have hi : i < l.length := (List.getElem?_eq_some_iff.mp h).1
  have e : l = l.take i ++ (st :: l.drop (i + 1)) := by
    have q : l[i] = st := (List.getElem?_eq_some_iff.mp h).2
    rw [← q, List.getElem_cons_drop, List.take_append_drop]
  obtain ⟨p, hp⟩ : ∃ p, sides (sideAt 1 (l.take i)) [st] = [p] := by
    cases st <;> exact ⟨_, rfl⟩
  refine ⟨p, ?_, hp⟩
  have q : sides 1 l = sides 1 (l.take i) ++ (sides (sideAt 1 (l.take i)) [st] ++ sides (sideAt (sideAt 1 (l.take i)) [st]) (l.drop (i + 1))) := by
    rw [← sides_app, ← sides_app]
    rw [List.singleton_append, ← e]
  rw [q, List.getElem?_append_right (by rw [sides_len, List.length_take]; omega), sides_len, List.length_take, show i - min i l.length = 0 by omega, hp]
  rfl
theorem cnt_step (h0 : 0 < l.length) {j : Nat} {p : Int × Int} (hp : (sides 1 l)[j % l.length]? = some p) :
    cntS c l x j = absI (moved c (plcS c l x j) p.1 p.2 - plcS c l x j) ∧
    plcS c l x (j + 1) = (if j % l.length + 1 = l.length then (if turning l = true then c - moved c (plcS c l x j) p.1 p.2 else moved c (plcS c l x j) p.1 p.2) else moved c (plcS c l x j) p.1 p.2) := by
  have hm := Nat.mod_lt j h0
  obtain ⟨st, hst⟩ : ∃ st, l[j % l.length]? = some st := ⟨_, List.getElem?_eq_getElem hm⟩
  obtain ⟨p', hp', hs⟩ := side_at hst
  rw [hp] at hp'
  cases hp'
  have so := sideAt_or (l.take (j % l.length)) 1 (.inl rfl)
  obtain ⟨_, g2, g3⟩ := play_sim (c := c) [st] (sideAt 1 (l.take (j % l.length))) (runS c l x j) so (runS_sum j)
  rw [hs] at g2 g3
  have g2' : placeOf (sideAt (sideAt 1 (l.take (j % l.length))) [st]) (play1 (runS c l x j) st).1 = moved c (plcS c l x j) p.1 p.2 := g2
  have g3' : (play1 (runS c l x j) st).2 + 0 = absI (moved c (plcS c l x j) p.1 p.2 - plcS c l x j) + 0 := g3
  rw [← runS_succ h0 j hst, ← sideAt_snoc] at g2'
  have tk : l.take (j % l.length + 1) = l.take (j % l.length) ++ [st] := by rw [List.take_add_one, hst]; rfl
  rw [← tk] at g2'
  refine ⟨?_, ?_⟩
  · unfold cntS
    rw [hst]
    show (play1 (runS c l x j) st).2 = _
    omega
  · by_cases q : j % l.length + 1 = l.length
    · rw [if_pos q]
      rw [q, List.take_length, sideAt_turning] at g2'
      have e2 : (j + 1) % l.length = 0 := by
        have hd := Nat.div_add_mod j l.length
        have : j + 1 = (j / l.length + 1) * l.length := by
          rw [Nat.succ_mul, Nat.mul_comm]
          omega
        rw [this, Nat.mul_mod_left]
      have e3 : plcS c l x (j + 1) = (runS c l x (j + 1)).1 := by
        unfold plcS
        rw [e2]
        rfl
      have hsum := runS_sum (c := c) (x := x) (l := l) (j + 1)
      by_cases t : turning l = true
      · rw [if_pos t] at g2' ⊢
        have : placeOf (-1) (runS c l x (j + 1)) = (runS c l x (j + 1)).2 := rfl
        rw [this] at g2'
        rw [e3, ← g2']
        omega
      · rw [if_neg t] at g2' ⊢
        rw [e3, ← g2']
        rfl
    · rw [if_neg q]
      have lt : j % l.length + 1 < l.length := by omega
      have e1 : (j + 1) % l.length = j % l.length + 1 := by
        have hd := Nat.div_add_mod j l.length
        have ej : j + 1 = (j % l.length + 1) + l.length * (j / l.length) := by omega
        rw [ej, Nat.add_mul_mod_self_left, Nat.mod_eq_of_lt lt]
      unfold plcS
      rw [e1]
      exact g2'
theorem runS_round (h0 : 0 < l.length) (hl : fitsS c l) (x0 : 0 ≤ x) (x1 : x ≤ c) (r i : Nat) : runS c l x (r * l.length + i) = runS c l (runF (effOf c l) r x) i := by
  unfold runS
  rw [preS_round h0, playS_app, play_pair, (rounds_right hl r x0 x1).2]
theorem cntS_round (h0 : 0 < l.length) (hl : fitsS c l) (x0 : 0 ≤ x) (x1 : x ≤ c) (r i : Nat) : cntS c l x (r * l.length + i) = cntS c l (runF (effOf c l) r x) i := by
  have e : (r * l.length + i) % l.length = i % l.length := by
    rw [show r * l.length + i = i + l.length * r by rw [Nat.mul_comm]; omega, Nat.add_mul_mod_self_left]
  unfold cntS
  rw [e, runS_round h0 hl x0 x1]
theorem plcS_round (h0 : 0 < l.length) (hl : fitsS c l) (x0 : 0 ≤ x) (x1 : x ≤ c) (r i : Nat) (hi : i < l.length) : plcS c l x (r * l.length + i) = simP c ((sides 1 l).take i) (runF (effOf c l) r x) := by
  have e : (r * l.length + i) % l.length = i := by
    rw [show r * l.length + i = i + l.length * r by rw [Nat.mul_comm]; omega, Nat.add_mul_mod_self_left, Nat.mod_eq_of_lt hi]
  unfold plcS
  rw [e, runS_round h0 hl x0 x1]
  obtain ⟨_, g2, _⟩ := play_sim (c := c) (l.take i) 1 (runF (effOf c l) r x, c - runF (effOf c l) r x) (.inl rfl) (by show _ + (c - _) = c; omega)
  have e2 : runS c l (runF (effOf c l) r x) i = playS (runF (effOf c l) r x, c - runF (effOf c l) r x) (l.take i) := by
    unfold runS preS
    rw [Nat.div_eq_of_lt hi, Nat.mod_eq_of_lt hi]
    rfl
  rw [e2, g2]
  congr 1
  have q : l = l.take i ++ l.drop i := (List.take_append_drop i l).symm
  have q2 : sides 1 l = sides 1 (l.take i) ++ sides (sideAt 1 (l.take i)) (l.drop i) := by
    rw [← sides_app, ← q]
  rw [q2, List.take_left' (by rw [sides_len, List.length_take]; omega)]
theorem cnts_play (h0 : 0 < l.length) : ∀ m : Nat, (List.range m).map (fun i => cntS c l x i) = playC (x, c - x) (preS l m)
  | 0 => by rw [preS_zero]; rfl
  | m + 1 => by
    have hm := Nat.mod_lt m h0
    obtain ⟨st, hst⟩ : ∃ st, l[m % l.length]? = some st := ⟨_, List.getElem?_eq_getElem hm⟩
    rw [List.range_succ, List.map_append, cnts_play h0 m, preS_succ h0 m hst, playC_snoc]
    congr 1
    show [cntS c l x m] = _
    unfold cntS
    rw [hst]
    rfl
end
end ChM

set_option Elab.async false
set_option linter.all false
set_option autoImplicit false
set_option maxRecDepth 100000
set_option maxHeartbeats 4000000
/-! ### what the laws' own texts share -/
namespace Ch
open PySem PySem.Spec PyProof.Rows L2 LamX ChM
theorem pick3 {u v x : V} {z : Int} (h0 : 0 ≤ z) (h1 : z < 3) : ∃ y, atI [u, v, x] z = some y ∧ (y = u ∨ y = v ∨ y = x) := by
  have : z = 0 ∨ z = 1 ∨ z = 2 := by omega
  rcases this with e | e | e
  · subst e; exact ⟨u, rfl, .inl rfl⟩
  · subst e; exact ⟨v, rfl, .inr (.inl rfl)⟩
  · subst e; exact ⟨x, rfl, .inr (.inr rfl)⟩
theorem x_rg2 {ta tb : TE} {σ : L2.St} {H : Hp} {R : Int → Int → Hp → Prop} (k : ta σ H fun x H1 => tb σ H1 fun y H2 => ∃ i j, x = .int i ∧ y = .int j ∧ R i j H2) : tRg2 ta tb σ H R := k
theorem steps_rep {H : Hp} {ps : List V} {l : List Stp} (h : StepsAt H ps l) : ∀ n : Nat, StepsAt H (List.replicate n ps).flatten (times l n)
  | 0 => .nil
  | n + 1 => by
    rw [List.replicate_succ, List.flatten_cons]
    exact pr_app h (steps_rep h n)
/-- if c: .., what is known of the slots and the heap behind it -/
theorem x_ifInv {c : Prop} [Decidable c] {t1 : TS} {D : Ends} {σ : L2.St} {H : Hp} (R : L2.St → Hp → Prop) (hF : ¬ c → R σ H) (hT : c → ∀ nx : L2.St → Hp → Prop, (∀ σ' H', R σ' H' → nx σ' H') → t1 { D with nx := nx } σ H)
    (h1 : ∀ σ' H', R σ' H' → D.nx σ' H') : if decide c = true then t1 D σ H else tNext D σ H := by
  by_cases h : c
  · rw [decide_eq_true h]
    exact hT h D.nx h1
  · rw [decide_eq_false h]
    exact h1 _ _ (hF h)
theorem cut_mid (xs : List V) {lo hi : Int} (h0 : 0 ≤ lo) (h1 : lo ≤ hi) (h2 : hi ≤ xs.length) : cutV xs (some lo) (some hi) = (xs.drop lo.toNat).take (hi - lo).toNat := by
  obtain ⟨a, rfl⟩ : ∃ a : Nat, lo = (a : Int) := ⟨lo.toNat, by omega⟩
  obtain ⟨b, rfl⟩ : ∃ b : Nat, hi = (b : Int) := ⟨hi.toNat, by omega⟩
  unfold cutV
  rw [HT.sIx_nat, HT.sIx_nat, Nat.min_eq_left (by omega), Nat.min_eq_left (by omega)]
  congr 1
  omega
theorem snoc_in {H H' : Hp} {D d : Addr} {ys vs : List V} {o : HO} (hD : H D = some (.lst ys)) (h : ∀ z ∈ ys, ∃ d, z = .ref d ∧ H d = some (.tup vs)) (s : Same H H') (e : H' d = some (.tup vs)) : ∀ z ∈ ys ++ [V.ref d], ∃ d, z = .ref d ∧ upd H' D o d = some (.tup vs) := fun z hz => by
  have key : ∀ d, H' d = some (.tup vs) → upd H' D o d = some (.tup vs) := fun d e => by
    rw [upd_ne fun q => ?_]
    · exact e
    · rw [q, s _ _ hD] at e
      cases e
  rcases List.mem_append.mp hz with hz | hz
  · obtain ⟨d', e', h'⟩ := h z hz
    exact ⟨d', e', key _ (s _ _ h')⟩
  · exact ⟨d, List.mem_singleton.mp hz, key _ e⟩
/-- what a law that makes lambdas holds on to: the draws' state, the tables, plans, lambdas -/
structure Bn (X : Cx) (k : Nat) (Ls : List (Addr × (XK → TE))) (C : Addr) (K : PySem.W.Frag) (T : List (Addr × Str)) (st a : Addr) (ns : List Int) (Ps : List (Addr × List Stp)) (H : Hp) : Prop where
  S : StAt K H st a ns
  T : Tabs T H
  P : ∀ p ∈ Ps, PlanAt C H p.1 p.2
  L : ∀ p ∈ Ls, LamV.LamAt X k p.2 p.1 H
section
variable {X : Cx} {k : Nat} {Ls : List (Addr × (XK → TE))} {C : Addr} {K : PySem.W.Frag} {T : List (Addr × Str)} {st a : Addr} {ns : List Int} {Ps : List (Addr × List Stp)} {H H' : Hp}
theorem Bn.same (b : Bn X k Ls C K T st a ns Ps H) (s : Same H H') : Bn X k Ls C K T st a ns Ps H' := ⟨b.S.mono s, tabs_same b.T s, fun p hp => (b.P p hp).mono s, fun p hp => (b.L p hp).same s⟩
theorem Bn.draw (b : Bn X k Ls C K T st a ns Ps H) (s : SameB st H H') (S' : StAt K H' st a ns) : Bn X k Ls C K T st a ns Ps H' := ⟨S', tabs_B b.T b.S s, fun p hp => PlanAt.monoB b.S s (b.P p hp), fun p hp => (b.L p hp).draw b.S s⟩
theorem Bn.ext (b : Bn X k Ls C K T st a ns Ps H) (e : ExtN H H') (T' : Tabs T H') : Bn X k Ls C K T st a ns Ps H' := ⟨ExtN.st e b.S, T', fun p hp => ExtN.plan e (b.P p hp), fun p hp => (b.L p hp).ext e⟩
theorem Bn.more (b : Bn X k Ls C K T st a ns Ps H) {p : Addr × (XK → TE)} (h : LamV.LamAt X k p.2 p.1 H) : Bn X k (p :: Ls) C K T st a ns Ps H := ⟨b.S, b.T, b.P, fun q hq => by
  rcases List.mem_cons.mp hq with z | z
  · rw [z]; exact h
  · exact b.L q z⟩
theorem Bn.plan (b : Bn X k Ls C K T st a ns Ps H) {x : Addr} {l : List Stp} (h : PlanAt C H x l) : Bn X k Ls C K T st a ns ((x, l) :: Ps) H := ⟨b.S, b.T, fun q hq => by
  rcases List.mem_cons.mp hq with z | z
  · rw [z]; exact h
  · exact b.P q z, b.L⟩
theorem Bn.forget (b : Bn X k Ls C K T st a ns Ps H) : Bn X k [] C K T st a ns Ps H := ⟨b.S, b.T, b.P, fun p hp => nomatch hp⟩
/-- xs.append(e) where xs is a list that came later than the state -/
theorem Bn.app (b : Bn X k Ls C K T st a ns Ps H) {H0 : Hp} {w : Addr} {xs ys : List V} (hw : H w = some (.lst xs)) (S0 : StAt K H0 st a ns) (h0 : H0 w = none) (s0 : ∀ b o, (∀ ps, o ≠ .tbl ps) → H0 b = some o → H b = some o) : Bn X k Ls C K T st a ns Ps (upd H w (.lst ys)) := by
  have kW : ∀ b o, (∀ xs, o ≠ .lst xs) → H b = some o → (upd H w (.lst ys)) b = some o := fun b o n e => by
    rw [upd_ne fun z => ?_]
    · exact e
    · rw [z, hw] at e
      exact n _ (Option.some.inj e).symm
  have eN : ExtN H0 (upd H w (.lst ys)) := fun b o e n => by
    rw [upd_ne (ne_of_none e h0)]
    exact s0 b o n e
  exact ⟨ExtN.st eN S0, tabs_keep b.T kW, fun p hp => by
    obtain ⟨dx, t, vs, h1, h2, h3⟩ := (b.P p hp).ex
    exact ⟨dx, t, vs, kW _ _ (fun xs z => nomatch z) h1, kW _ _ (fun xs z => nomatch z) h2, pr_im (fun _ _ ⟨p, e1, e2⟩ => ⟨p, e1, kW _ _ (fun xs z => nomatch z) e2⟩) h3⟩, fun p hp => (b.L p hp).keep fun b o _ n e => kW b o n e⟩
end
end Ch

set_option Elab.async false
set_option linter.all false
set_option autoImplicit false
set_option maxRecDepth 100000
set_option maxHeartbeats 4000000
/-! ### a comprehension whose elements look at the def around it -/
namespace LcI
open PySem PySem.Spec PyProof.Rows L2
section
variable {X : Cx}
theorem lcI_core {pins : List (Addr × Obj)} {s : Shared} {σ : L2.St} {H : Hp} {Q : VK} {use : Option (Value → Sem Unit)} {Qf : Value → Shared → Prop} {elt tg iter : Expr} {scope : Scope} {own : List (Str × Nat)} {pos pos' : Pos} {wi : TI} {g : TG} {te : L2.St → TE} (hc : X.calm = true) (hN : X.N.Nodup) (I : Inv X pins σ H s) (hi : PI X tg iter wi) (ok : BlkOk X.N X.env.scope scope own)
    (hg : ∀ (s : Shared) (H : Hp) (C : Addr) (cl : List (Str × Addr)) (fp : List Addr), PG (X.blk s H scope (compEnvC scope cl C X.env) fp) tg g)
    (he : ∀ (pins : List (Addr × Obj)) (s : Shared) (σ0 : L2.St) (H : Hp) (C : Addr) (cl : List (Str × Addr)) (fp : List Addr), Inv X pins σ0 H s → (∀ b ∈ fp, FpOk X pins H b) → PE (X.blk s H scope (compEnvC scope cl C X.env) fp) elt (te σ0))
    (hs : ∀ x, foldedSetIterable iter X.env x = pure x) (h : tLc wi g tYes (te σ) (own.map (·.2)) σ H Q)
    (hRR : ∀ D C s' m H', Inv X pins σ H' s' → Q (.ref D) H' → s'.heap.Ns C m → FpOk X pins H' C → compPost (model X.prog X.w) X.A X.xe use Qf (.ref D) C (.ok .next) s') :
    wpAny (model X.prog X.w) X.A (comprehension (.ListComp elt [⟨tg, iter, [], 0⟩] scope pos) scope X.env pos' (newList []) false (eval iter X.env) use) Qf X.xe s := by
  have caps : ∀ y ∈ scope.names, y.2 = .free → ∃ c, X.env.cells.lookup y.1 = some c := fun y hy e => (ok.free y hy e).elim (fun u => I.ok.has _ (.inl u)) fun u => I.ok.has _ (.inr u)
  refine wpAny_comprehension_free (use := use) rfl hs (closure_ok caps) ok.kind (fun y hy e => by rw [ok.uniq y hy, e])
    (thn (hi.run pins s σ H _ I h) fun v1 s1 k1 => thn k1 fun v2 s2 k2 => ?_)
  obtain ⟨it, fp, tn, J, H2, e2, I2, T, at2, fo2, q2⟩ := k2
  subst e2
  refine wpAny_newObj_type (newEnv_comp ?_) (by show 0 ≤ sizeLine; decide)
  have nD : H2 s2.heap.objs.size = none := I2.hok.fresh (Nat.le_refl _)
  obtain ⟨W, ⟨m0, w0⟩, turn⟩ := q2 s2.heap.objs.size nD
  -- behind the new list
  have I3 : Inv X pins σ (upd H2 s2.heap.objs.size (.lst [])) { s2 with heap := s2.heap.push { cls := .type "list", data := .seq ([] : List Value).toArray } } :=
    I2.laid (t' := s2.toks) (fun b o e => Heap.get?_push_of_some _ e) (Nat.le_refl _) ⟨Nat.zero_le _, [], 0, .nil, Heap.get?_push_size _ rfl⟩
  have fo3 : ∀ b ∈ fp, FpOk X pins (upd H2 s2.heap.objs.size (.lst [])) b ∧ b < (s2.heap.push { cls := .type "list", data := .seq ([] : List Value).toArray }).objs.size := fun b hb => by
    obtain ⟨o, eo, _⟩ := T.obj _ _ at2 b hb
    have lt := Heap.lt_size eo
    refine ⟨⟨?_, (fo2 b hb).2⟩, by rw [Heap.size_push]; exact Nat.lt_succ_of_lt lt⟩
    rw [upd_ne (Nat.ne_of_lt lt)]
    exact (fo2 b hb).1
  have at3 : tn 0 (s2.heap.push { cls := .type "list", data := .seq ([] : List Value).toArray }) := T.keep _ _ _ at2 fun b _ o e => Heap.get?_push_of_some _ e
  generalize s2.heap.objs.size = D at *
  generalize hs3 : ({ s2 with heap := s2.heap.push { cls := .type "list", data := .seq ([] : List Value).toArray } } : Shared) = s3 at I3
  have hh3 : s3.heap = s2.heap.push { cls := .type "list", data := .seq ([] : List Value).toArray } := by rw [← hs3]
  rw [← hh3] at fo3 at3
  have I4 := block_start I3 ok hN fo3
  have pg := hg s3 (upd H2 D (.lst [])) s3.heap.objs.size (cellsFrom (s3.heap.objs.size + 1) scope.names (cloFrom X.env.cells scope.names [])) fp
  have pe := he pins s3 σ (upd H2 D (.lst [])) s3.heap.objs.size (cellsFrom (s3.heap.objs.size + 1) scope.names (cloFrom X.env.cells scope.names [])) fp I3 fun b hb => (fo3 b hb).1
  have nofp : ∀ b ∈ fp, (upd H2 D (.lst [])) b = none := fun b hb => (fo3 b hb).1.1
  generalize hH3 : upd H2 D (.lst []) = H3 at I3 I4 pg pe w0 nofp fo3
  show codeAny _ _ (.compStart (.ListComp elt [⟨tg, iter, [], 0⟩] scope pos) 0 (.ref it) (.ref D)
    (compEnvC scope (cellsFrom (s3.heap.objs.size + 1) scope.names (cloFrom X.env.cells scope.names [])) s3.heap.objs.size X.env))
    (compPost (model X.prog X.w) X.A X.xe use Qf (.ref D) s3.heap.objs.size) { s3 with heap := pushCells (s3.heap.push { cls := .type "dict", data := .dict #[] }) scope.names }
  generalize hce : compEnvC scope (cellsFrom (s3.heap.objs.size + 1) scope.names (cloFrom X.env.cells scope.names [])) s3.heap.objs.size X.env = ce at I4 pg pe ⊢
  have eL : ce.locals = s3.heap.objs.size := by
    rw [← hce]
    rfl
  generalize hs4 : ({ s3 with heap := pushCells (s3.heap.push { cls := .type "dict", data := .dict #[] }) scope.names } : Shared) = s4 at I4 ⊢
  have at4 : tn 0 s4.heap := by
    rw [← hs4]
    exact T.keep _ _ _ at3 fun b _ o e => pushCells_keeps _ _ _ _ (Heap.get?_push_of_some _ e)
  have noPn : ∀ {p : Addr × Obj} {b : Addr}, p ∈ ([] : List (Addr × Obj)) ++ [] → p.1 ≠ b := fun hp => absurd hp (by simp)
  have foB : ∀ {τ : L2.St} {G : Hp} {t : Shared}, Inv (X.blk s3 H3 scope ce fp) [] τ G t → (∀ b ∈ fp, G b = none) → ∀ b ∈ fp, FpOk (X.blk s3 H3 scope ce fp) [] G b := fun J n b hb =>
    ⟨n b hb, (J.ok.exf b hb).1, J.ok.exfs b hb, .inl hb, (J.ok.exf b hb).2, fun p hp => noPn hp⟩
  have lp : codeAny (model X.prog X.w) X.A (.compLoop (.ListComp elt [⟨tg, iter, [], 0⟩] scope pos) 0 (.ref it) (.ref D) ce) (compPost (model X.prog X.w) X.A X.xe use Qf (.ref D) s3.heap.objs.size) s4 := by
    refine compLoop_any (fun n t => ∃ i G, Inv (X.blk s3 H3 scope ce fp) [] (wipe σ (own.map (·.2))) G t ∧ tn i t.heap ∧ (∀ b ∈ fp, G b = none) ∧ W i n G) ?_ m0 ⟨0, H3, I4, at4, nofp, w0⟩
    rintro n t0 ⟨i, G0, J0, a0, n0, w1⟩
    rcases turn i n G0 w1 with ⟨stp, fin⟩ | ⟨goes, Nx, hNx, step⟩
    · refine thnF (T.done (X.blk s3 H3 scope ce fp) rfl rfl rfl hc i [] t0 _ G0 (fun _ _ => False) J0 (foB J0 n0) a0 stp) fun r t1 ⟨er, J1⟩ => ?_
      subst er
      have home : Inv X pins σ G0 t1 := I3.call' (ch := fp) J1.os J1.base J1.hok J1.bare fun b hb =>
        let ⟨_, f1, _, f3, f4, f5⟩ := (fo3 b hb).1
        ⟨f3, f1, f4, f5⟩
      have nC : G0 s3.heap.objs.size = none := by
        have z := J1.free
        rw [show (X.blk s3 H3 scope ce fp).env.locals = s3.heap.objs.size from eL] at z
        exact z
      obtain ⟨m, hn, _⟩ := J1.loc
      rw [show (X.blk s3 H3 scope ce fp).env.locals = s3.heap.objs.size from eL] at hn
      exact hRR D _ t1 m G0 home fin hn (I3.fpOk (Nat.le_refl _) nC)
    · refine thnF (T.item (X.blk s3 H3 scope ce fp) rfl rfl rfl hc i [] t0 _ G0 (fun _ _ => False) J0 (foB J0 n0) a0 goes) fun r t1 ⟨u, er, kk⟩ => ?_
      subst er
      refine thnF kk fun _ t2 ⟨x, G2, J2, rx, y2, a2, n2⟩ => ?_
      have J2' := J2.pinned (foB J2 n2) (T.obj _ _ a2)
      refine thnF (pg.run _ t2 _ G2 x u _ J2' rx (step x G2 y2)) fun _ t3 ⟨τ, G3, J3, ew, q3⟩ => ?_
      refine wpAny_pure ?_
      have q3 : te σ τ G3 fun y H4 => ∃ acc, H4 D = some (.lst acc) ∧ acc.length < sizeLine ∧ Nx (upd H4 D (.lst (acc ++ [y]))) := q3
      show wpAny _ _ (eval elt ce) _ _ _
      refine thnF (pe.run _ t3 τ G3 _ J3 q3) fun z t4 ⟨yv, G4, J4, r4, acc, hD4, hz4, nx⟩ => ?_
      refine app_ok (X := X.blk s3 H3 scope ce fp) J4 hD4 hz4 r4 fun t5 J5 => ?_
      obtain ⟨m', lt, w'⟩ := hNx _ nx
      have pinned : ∀ b ∈ fp, ∀ o, t2.heap.get? b = some o → t5.heap.get? b = some o ∧ (upd G4 D (.lst (acc ++ [yv]))) b = none := fun b hb o e => by
        have z := J5.pin (b, o) (List.mem_append_right _ (List.mem_append_right _ (mem_pinsAt hb e)))
        exact ⟨z.1, z.2.1⟩
      have sl : (wipe σ (own.map (·.2))).length = τ.length := by rw [← ew, wipe_length]
      refine ⟨m', lt, i + 1, _, (J5.unpinned (pins := [])).weak sl (fun j v e => ?_), T.keep _ _ _ a2 fun b hb o e => (pinned b hb o e).1, fun b hb => ?_, w'⟩
      · rw [← ew] at e
        exact (wipe_some e).1
      · obtain ⟨o, e, _⟩ := T.obj _ _ a2 b hb
        exact (pinned b hb o e).2
  exact codeAny_compStart_list lp (T.self X.A 0 _ _ _ at4 lp)
theorem pe_lcI {elt tg iter : Expr} {scope : Scope} {own : List (Str × Nat)} {pos : Pos} {wi : TI} {g : TG} {te : L2.St → TE} (hc : X.calm = true) (hN : X.N.Nodup) (hi : PI X tg iter wi) (ok : BlkOk X.N X.env.scope scope own)
    (hg : ∀ (s : Shared) (H : Hp) (C : Addr) (cl : List (Str × Addr)) (fp : List Addr), PG (X.blk s H scope (compEnvC scope cl C X.env) fp) tg g)
    (he : ∀ (pins : List (Addr × Obj)) (s : Shared) (σ0 : L2.St) (H : Hp) (C : Addr) (cl : List (Str × Addr)) (fp : List Addr), Inv X pins σ0 H s → (∀ b ∈ fp, FpOk X pins H b) → PE (X.blk s H scope (compEnvC scope cl C X.env) fp) elt (te σ0))
    (hs : ∀ x, foldedSetIterable iter X.env x = pure x := by intro _; rfl) : PE X (.ListComp elt [⟨tg, iter, [], 0⟩] scope pos) (fun σ H Q => tLc wi g tYes (te σ) (own.map (·.2)) σ H Q) := by
  refine ⟨fun pins s σ H Q I h => ?_⟩
  rw [eval_ListComp]
  refine lcI_core hc hN I hi ok hg he hs h fun D C s' m H' I' q hn f => ⟨m, hn, fun h'' sb => ?_⟩
  obtain ⟨f0, f1, f2, f3, f4, f5⟩ := f
  exact ⟨.ref D, H', I'.turned (t' := s'.toks) (fun b o hb e => (sb.2 b hb).trans e) f0 f1 f3 f4 f5, rfl, q⟩
/-- name = [..] -/
theorem ps_lcI {i : Nat} {y : Str} {py : Pos} {elt tg iter : Expr} {scope : Scope} {own : List (Str × Nat)} {pos spos : Pos} {wi : TI} {g : TG} {te : L2.St → TE} (hc : X.calm = true) (hN : X.N.Nodup) (hy : X.N[i]? = some y) (hyl : X.env.scope.names.lookup y = some .local)
    (hsw : swapsWith (.ListComp elt [⟨tg, iter, [], 0⟩] scope pos) (some (.Name y py)) spos.line X.env = pure true) (hi : PI X tg iter wi) (ok : BlkOk X.N X.env.scope scope own)
    (hg : ∀ (s : Shared) (H : Hp) (C : Addr) (cl : List (Str × Addr)) (fp : List Addr), PG (X.blk s H scope (compEnvC scope cl C X.env) fp) tg g)
    (he : ∀ (pins : List (Addr × Obj)) (s : Shared) (σ0 : L2.St) (H : Hp) (C : Addr) (cl : List (Str × Addr)) (fp : List Addr), Inv X pins σ0 H s → (∀ b ∈ fp, FpOk X pins H b) → PE (X.blk s H scope (compEnvC scope cl C X.env) fp) elt (te σ0))
    (hs : ∀ x, foldedSetIterable iter X.env x = pure x := by intro _; rfl) :
    PS X (.Assign [.Name y py] (.ListComp elt [⟨tg, iter, [], 0⟩] scope pos) spos) (tAsg (fun σ H Q => tLc wi g tYes (te σ) (own.map (·.2)) σ H Q) (gName i)) := by
  refine ⟨fun pins s σ H D I h0 => ?_⟩
  rw [exec_Assign_Name_used _ _ _ _ hsw]
  refine wpAny_bind (wpAny_standAt (wpAny_bind ?_))
  show wpAny _ X.A (do let _ ← comprehension (.ListComp elt [⟨tg, iter, [], 0⟩] scope pos) scope X.env (firstIterPos [⟨tg, iter, [], 0⟩] pos) (newList []) false (eval iter X.env) (some (assign (.Name y py) X.env))) _ _ s
  have h : tLc wi g tYes (te σ) (own.map (·.2)) σ H (fun x H1 => gName i x σ H1 D.nx) := h0
  refine wpAny_bind (thn (lcI_core (Qf := fun _ s' => SP X pins D .next s') hc hN I hi ok hg he hs h fun L C s' m H' I' q hn f => ?_) fun _ s' hq => wpAny_pure (wpAny_pure hq))
  show wpAny _ _ (assign (.Name y py) X.env (.ref L)) _ _ _
  refine wpAny_assign_Name (store_ok2 (v := V.ref L) I' hN hy (.inl hyl) rfl (fun s2 I2 ⟨a, sb, ha⟩ => ?_) (.inr hyl))
  obtain ⟨f0, f1, f2, f3, f4, f5⟩ := f
  have haC : C ≠ a := by
    rcases ha with z | z
    · rw [z]; exact f1
    · exact fun e => f4 y a z e.symm
  refine ⟨m, hn.sameBut sb haC, fun h3 sb3 => ?_⟩
  exact ⟨_, H', I2.turned (t' := s2.toks) (fun b o hb e => (sb3.2 b hb).trans e) f0 f1 f3 f4 f5, q⟩
end
end LcI

set_option Elab.async false
set_option linter.all false
set_option autoImplicit false
set_option maxRecDepth 100000
set_option maxHeartbeats 4000000
/-! ### texts: numbers told, joined texts -/
namespace TxX
open PySem PySem.NumText PySem.Spec PyProof.Rows L2 Ch
def nt (n : Int) : Str := PySem.Str.ofString (toString n)
theorem nt_nat (m : Nat) : (nt (m : Int)).cps.toList = (Nat.toDigits 10 m).map Char.toNat := PySem.W.KIN.signs_num m
theorem digs (m : Nat) : AllDigits ((Nat.toDigits 10 m).map Char.toNat) := by
  intro c hc
  obtain ⟨ch, hch, e⟩ := List.mem_map.mp hc
  have r := PyProof.Rows.digit_range (Nat.isDigit_of_mem_toDigits (by decide) (by decide) hch)
  rw [← e]
  exact r
theorem digs_ne (m : Nat) : (Nat.toDigits 10 m).map Char.toNat ≠ [] := by
  intro e
  have h := toDigits_len_ge 10 m
  rw [List.map_eq_nil_iff.mp e] at h
  exact absurd h (by decide)
theorem nt_len {n : Int} (h0 : 0 ≤ n) (h : n < 10 ^ 20) : (nt n).length ≤ 20 := toString_length_le h0 (by decide) h
theorem nt_read {n : Int} (h0 : 0 ≤ n) (h : n < 10 ^ 20) : PySem.intText? (nt n) = some n := by
  have hl := nt_len h0 h
  obtain ⟨m, rfl⟩ := Int.eq_ofNat_of_zero_le h0
  have e := intText_digits (x := nt (m : Int)) (by rw [nt_nat]; exact digs m) (by rw [nt_nat]; exact digs_ne m) (by omega)
  rw [nt_nat, PySem.W.KIN.val_back] at e
  exact e
theorem ok_of {x : Str} (h : ∀ c ∈ x.cps.toList, c < 0x110000) : PyData.strOk x = true := by
  unfold PyData.strOk
  rw [← Array.all_toList, List.all_eq_true]
  exact fun c hc => decide_eq_true (h c hc)
theorem of_ok {x : Str} (h : PyData.strOk x = true) : ∀ c ∈ x.cps.toList, c < 0x110000 := by
  unfold PyData.strOk at h
  rw [← Array.all_toList, List.all_eq_true] at h
  exact fun c hc => of_decide_eq_true (h c hc)
theorem nt_ok {n : Int} (h0 : 0 ≤ n) : PyData.strOk (nt n) = true := by
  obtain ⟨m, rfl⟩ := Int.eq_ofNat_of_zero_le h0
  refine ok_of fun c hc => ?_
  rw [nt_nat] at hc
  have := digs m c hc
  omega
theorem app_ok {x y : Str} (hx : PyData.strOk x = true) (hy : PyData.strOk y = true) : PyData.strOk (x ++ y) = true := by
  refine ok_of fun c hc => ?_
  rw [PySem.Str.cps_append, Array.toList_append, List.mem_append] at hc
  exact hc.elim (of_ok hx c) (of_ok hy c)
theorem join_ok {y : Str} (hy : PyData.strOk y = true) : ∀ {l : List Str}, (∀ x ∈ l, PyData.strOk x = true) → PyData.strOk (Txt.join y l) = true := by
  intro l
  rw [TL.join_eq]
  induction l with
  | nil =>
    intro _
    rw [PyProof.Rows.join_nil]
    decide +kernel
  | cons x r ih =>
    intro h
    cases r with
    | nil => exact h x List.mem_cons_self
    | cons z r =>
      show PyData.strOk (x ++ y ++ Str.join y (z :: r)) = true
      exact app_ok (app_ok (h x List.mem_cons_self) hy) (ih fun w hw => h w (List.mem_cons_of_mem _ hw))
/-- small numbers, below nought too -/
theorem nt_small {n : Int} (h0 : -4 ≤ n) (h1 : n ≤ 4) : PySem.intText? (nt n) = some n ∧ (nt n).length ≤ 20 ∧ PyData.strOk (nt n) = true := by
  have : n = -4 ∨ n = -3 ∨ n = -2 ∨ n = -1 ∨ n = 0 ∨ n = 1 ∨ n = 2 ∨ n = 3 ∨ n = 4 := by omega
  rcases this with h | h | h | h | h | h | h | h | h <;> subst h <;> decide +kernel
/-! ### rules -/
section
variable {X : Cx} {K : PySem.W.Frag} {o e : Expr} {to te : TE} {σ : L2.St} {H : Hp} {Q : VK}
def rJoin (K : PySem.W.Frag) : V → List V → Hp → VK → Prop := fun x xs H Q => ∃ a p, ∃ ys : List Str, x = .str a ∧ xs = [.ref p] ∧ (SqL K H p (ys.map V.str) ∨ SqT K H p (ys.map V.str)) ∧ (ys.map (·.length)).sum + ys.length * a.length ≤ 16777216 ∧ Q (.str (Txt.join a ys)) H
theorem pe_joinK (K : PySem.W.Frag) {apos pos : Pos} (ho : PE X o to) (he : PE X e te) (hs : starEach [e] X.env = [(false, eval e X.env)] := by rfl) (hbase : attributeBase o "join" X.env (eval o X.env) = eval o X.env := by rfl) (hline : (apos.endLine == pos.line) = true := by rfl) (hK : X.K = K := by rfl) :
    PE X (.Call (.Attribute o "join" apos) [e] [] pos) (tM1 (rJoin K) to te) := by
  subst hK
  exact pe_join ho he hs hbase hline
theorem x_m1 {r : V → List V → Hp → VK → Prop} (k : to σ H fun x H1 => (∃ a, x = .str a) ∧ te σ H1 fun y H2 => r x [y] H2 Q) : tM1 r to te σ H Q := k
theorem x_joinL {a : Str} {p : Addr} {ys : List Str} (h : SqL K H p (ys.map V.str)) (hl : (ys.map (·.length)).sum + ys.length * a.length ≤ 16777216) (k : Q (.str (Txt.join a ys)) H) : rJoin K (.str a) [.ref p] H Q := ⟨a, p, ys, rfl, rfl, .inl h, hl, k⟩
def rStrI : List V → Hp → VK → Prop := fun xs H Q => ∃ i, xs = [.int i] ∧ i.natAbs.log2 < 1920 ∧ Q (.str (nt i)) H
theorem c_strI : CallR X (.type "str") rStrI := call_str_int
theorem log_ok {i : Int} (h : i.natAbs < 10 ^ 20) : i.natAbs.log2 < 1920 := by
  by_cases h0 : i.natAbs = 0
  · rw [h0]; decide
  · exact (Nat.log2_lt h0).mpr (Nat.lt_of_lt_of_le h (by decide))
theorem x_strI {i : Int} (h : i.natAbs < 10 ^ 20) (k : Q (.str (nt i)) H) : rStrI [.int i] H Q := ⟨i, rfl, log_ok h, k⟩
def rIntS : List V → Hp → VK → Prop := fun xs H Q => ∃ a n, xs = [.str a] ∧ PySem.intText? a = some n ∧ a.length ≤ 640 ∧ Q (.int n) H
theorem c_intS : CallR X (.type "int") rIntS := call_int_str
theorem x_intS {a : Str} {n : Int} (h : PySem.intText? a = some n) (hl : a.length ≤ 640) (k : Q (.int n) H) : rIntS [.str a] H Q := ⟨a, n, rfl, h, hl, k⟩
end
end TxX

set_option Elab.async false
set_option linter.all false
set_option autoImplicit false
set_option maxRecDepth 100000
set_option maxHeartbeats 4000000
/-! the match statement: readings of patterns, of cases, of the statement -/
namespace Ch
open PySem PySem.Spec PyProof.Rows L2
/-- a pattern's reading: a miss, or the values that its names get -/
abbrev TPat := V → Hp → (Option (List V) → Hp → Prop) → Prop
abbrev TPats := List V → Hp → (Option (List V) → Hp → Prop) → Prop
def RelB (ns : List Str) (b : Option (List V)) (r : Option (List (Str × Value))) : Prop :=
  match b, r with
  | none, none => True
  | some vs, some bs => bs.map (·.1) = ns ∧ Vals vs (bs.map (·.2))
  | _, _ => False
theorem RelB.miss {ns : List Str} : RelB ns none none := trivial
theorem RelB.nil : RelB [] (some []) (some []) := ⟨rfl, .nil⟩
/-- a pattern, the names that it binds (in order), its reading -/
structure PPt (X : Cx) (p : Pattern) (ns : List Str) (t : TPat) : Prop where
  run : ∀ (pins : List (Addr × Obj)) (s : Shared) (σ : L2.St) (H : Hp) (v : V) (u : Value) (Q : Option (List V) → Hp → Prop), Inv X pins σ H s → RelV v u → t v H Q →
    wpAny (model X.prog X.w) X.A (matchPattern p X.env u) (fun r s' => ∃ b H', Inv X pins σ H' s' ∧ RelB ns b r ∧ Q b H') X.xe s
/-- alternatives -/
structure POr (X : Cx) (ps : List Pattern) (t : TPat) : Prop where
  run : ∀ (pins : List (Addr × Obj)) (s : Shared) (σ : L2.St) (H : Hp) (v : V) (u : Value) (Q : Option (List V) → Hp → Prop), Inv X pins σ H s → RelV v u → t v H Q →
    wpAny (model X.prog X.w) X.A (matchFirst ps X.env u) (fun r s' => ∃ b H', Inv X pins σ H' s' ∧ RelB [] b r ∧ Q b H') X.xe s
/-- patterns in a row -/
structure PPts (X : Cx) (ps : List Pattern) (ns : List Str) (t : TPats) : Prop where
  run : ∀ (pins : List (Addr × Obj)) (s : Shared) (σ : L2.St) (H : Hp) (vs : List V) (us : List Value) (Q : Option (List V) → Hp → Prop), Inv X pins σ H s → Vals vs us → t vs H Q →
    wpAny (model X.prog X.w) X.A (matchEach ps X.env us) (fun r s' => ∃ b H', Inv X pins σ H' s' ∧ RelB ns b r ∧ Q b H') X.xe s
/-- the names of a case get their values -/
structure PNs (X : Cx) (ns : List Str) (t : TGs) : Prop where
  run : ∀ (pins : List (Addr × Obj)) (s : Shared) (σ : L2.St) (H : Hp) (vs : List V) (us : List Value) (Q : L2.St → Hp → Prop), Inv X pins σ H s → Vals vs us → t vs σ H Q →
    wpAny (model X.prog X.w) X.A (assignInOrder (ns.map (bindName X.env)) us) (fun _ s' => ∃ σ' H', Inv X pins σ' H' s' ∧ Q σ' H') X.xe s
/-- cases, tried in a row -/
structure PCs (X : Cx) (cs : List MatchCase) (t : V → TS) : Prop where
  run : ∀ (first : Bool) (pins : List (Addr × Obj)) (s : Shared) (σ : L2.St) (H : Hp) (D : Ends) (v : V) (u : Value), Inv X pins σ H s → RelV v u → t v D σ H →
    wpAny (model X.prog X.w) X.A (matchCases cs X.env u first) (SP X pins D) X.xe s

section
variable {X : Cx} {pos pos' : Pos}
/-! ### patterns -/
def qText (x : Str) : TPat := fun v H Q => ∃ y, v = .str y ∧ if y = x then Q (some []) H else Q none H
theorem qp_text {x : Str} {j} : PPt X (.MatchValue (.Constant (.str x) j pos) pos') [] (qText x) := by
  refine ⟨fun pins s σ H v u Q I r h => ?_⟩
  obtain ⟨y, e, h⟩ := h
  subst e
  obtain ⟨tk, rfl⟩ := r
  refine wpAny_matchPattern_Value (Calls.Constant_str ?_)
  refine eq_str ?_
  refine wpAny_truthy_bool ?_
  by_cases e : y = x
  · subst e
    rw [if_pos rfl] at h
    rw [if_pos (by simp)]
    exact ⟨some [], H, I.tok _, RelB.nil, h⟩
  · rw [if_neg e] at h
    rw [if_neg (by simpa using e)]
    exact ⟨none, H, I.tok _, RelB.miss, h⟩
def qCap : TPat := fun v H Q => Q (some [v]) H
theorem qp_cap {x : Str} : PPt X (.MatchAs none (some x) pos) [x] qCap := by
  refine ⟨fun pins s σ H v u Q I r h => ?_⟩
  exact wpAny_matchPattern_Capture ⟨some [v], H, I, ⟨rfl, .cons r .nil⟩, h⟩
def qAny : TPat := fun v H Q => Q (some []) H
theorem qp_any : PPt X (.MatchAs none none pos) [] qAny := by
  refine ⟨fun pins s σ H v u Q I r h => ?_⟩
  exact wpAny_matchPattern_Capture ⟨some [], H, I, RelB.nil, h⟩
def qMiss : TPat := fun v H Q => Q none H
theorem qo_nil : POr X [] qMiss := ⟨fun _ _ _ H _ _ _ I _ h => wpAny_matchFirst_nil ⟨none, H, I, RelB.miss, h⟩⟩
def qOr (t u : TPat) : TPat := fun v H Q => t v H fun b H1 => match b with | some l => Q (some l) H1 | none => u v H1 Q
theorem qo_cons {p : Pattern} {ps : List Pattern} {t u : TPat} (h1 : PPt X p [] t) (h2 : POr X ps u) : POr X (p :: ps) (qOr t u) := by
  refine ⟨fun pins s σ H v w Q I r h => ?_⟩
  refine wpAny_matchFirst_cons (thn (h1.run pins s σ H v w _ I r h) fun r' s1 ⟨b, H1, I1, rb, q1⟩ => ?_)
  cases b with
  | none =>
    cases r' with
    | none => exact h2.run pins s1 σ H1 v w Q I1 r q1
    | some _ => exact rb.elim
  | some l =>
    cases r' with
    | none => exact rb.elim
    | some bs => exact ⟨some l, H1, I1, rb, q1⟩
theorem qp_or {ps : List Pattern} {t : TPat} (h : POr X ps t) (hn : namesOfAll (ps.take 1) = [] := by rfl) : PPt X (.MatchOr ps pos) [] t := by
  refine ⟨fun pins s σ H v w Q I r q => ?_⟩
  refine wpAny_matchPattern_Or (thn (h.run pins s σ H v w Q I r q) fun r' s1 ⟨b, H1, I1, rb, q1⟩ => ?_)
  cases b with
  | none =>
    cases r' with
    | none => exact ⟨none, H1, I1, RelB.miss, q1⟩
    | some _ => exact rb.elim
  | some l =>
    cases r' with
    | none => exact rb.elim
    | some bs =>
      obtain ⟨e1, e2⟩ := rb
      have : bs = [] := by simpa using e1
      subst this
      cases e2
      rw [hn]
      exact ⟨some [], H1, I1, RelB.nil, q1⟩
/-! ### patterns in a row -/
def qNil : TPats := fun vs H Q => vs = [] ∧ Q (some []) H
def qCons (t : TPat) (u : TPats) : TPats := fun vs H Q => ∃ v r, vs = v :: r ∧ t v H fun b H1 => match b with
  | none => Q none H1
  | some l => u r H1 fun b' H2 => match b' with | none => Q none H2 | some l' => Q (some (l ++ l')) H2
theorem qps_nil : PPts X [] [] qNil := by
  refine ⟨fun pins s σ H vs us Q I r h => ?_⟩
  obtain ⟨e, h⟩ := h
  subst e
  cases r
  exact wpAny_matchEach_nil ⟨some [], H, I, RelB.nil, h⟩
theorem qps_cons {p : Pattern} {ps : List Pattern} {ns ms : List Str} {t : TPat} {u : TPats} (h1 : PPt X p ns t) (h2 : PPts X ps ms u) (hp : p.isStar = false := by rfl) : PPts X (p :: ps) (ns ++ ms) (qCons t u) := by
  refine ⟨fun pins s σ H vs us Q I r h => ?_⟩
  obtain ⟨v, vr, e, h⟩ := h
  subst e
  cases r with
  | cons ra rb =>
    refine wpAny_matchEach_cons (thn (h1.run pins s σ H _ _ _ I ra h) fun r' s1 ⟨b, H1, I1, rl, q1⟩ => ?_) hp
    cases b with
    | none =>
      cases r' with
      | none => exact ⟨none, H1, I1, RelB.miss, q1⟩
      | some _ => exact rl.elim
    | some l =>
      cases r' with
      | none => exact rl.elim
      | some bs =>
        refine thn (h2.run pins s1 σ H1 _ _ _ I1 rb q1) fun r2 s2 ⟨b2, H2, I2, rl2, q2⟩ => ?_
        cases b2 with
        | none =>
          cases r2 with
          | none => exact ⟨none, H2, I2, RelB.miss, q2⟩
          | some _ => exact rl2.elim
        | some l2 =>
          cases r2 with
          | none => exact rl2.elim
          | some bs2 => exact ⟨some (l ++ l2), H2, I2, ⟨by rw [List.map_append, rl.1, rl2.1], by rw [List.map_append]; exact Vals.append rl.2 rl2.2⟩, q2⟩
/-- [p1, .., pn] against a tuple -/
def qSeqT (K : PySem.W.Frag) (n : Nat) (t : TPats) : TPat := fun v H Q => ∃ a xs, v = .ref a ∧ SqT K H a xs ∧ if xs.length = n then t xs H Q else Q none H
theorem qp_seqT {ps : List Pattern} {ns : List Str} {t : TPats} {n : Nat} (hc : X.calm = true) (h : PPts X ps ns t) (hn : ps.length = n := by rfl)
    (hstar : ps.findIdx? (·.isStar) = none := by rfl) (hwild : (ps.all fun p => p.isWildcard || (p.isStar && p.names.isEmpty)) = false := by rfl) : PPt X (.MatchSequence ps pos) ns (qSeqT X.K n t) := by
  refine ⟨fun pins s σ H v u Q I r ⟨a, xs, e, hq, hw⟩ => ?_⟩
  subst e
  cases r
  obtain ⟨its, rv, ht, hz⟩ := I.tuple hq
  have el : its.length = xs.length := rv.length.symm
  have fit : ((its.toArray.size : Nat) : Int) < 2 ^ 63 := by
    rw [sizeLine_eq] at hz
    simp [el]
    omega
  by_cases q : xs.length = n
  · rw [if_pos q] at hw
    refine matchSeq_tuple_hit ht fit (by simp [el, q, hn]) ?_ hstar hwild
    rw [show ps.length = its.toArray.size by simp [el, q, hn]]
    refine unpackItems_tuple (s := { s with toks := s.toks + 1 + 1 }) (I.ok.hd hc) ht fun h' hx => ?_
    have I1 : Inv X pins σ H { s with toks := s.toks + 1 + 1, heap := h' } := I.kept (t' := s.toks + 1 + 1) fun b o e => hx b o (Nat.ne_of_lt (Heap.lt_size e)) e
    exact h.run pins _ σ H xs _ Q I1 (by simpa using rv) hw
  · rw [if_neg q] at hw
    exact matchSeq_tuple_miss ht fit (by simp [el, hn]; exact q) ⟨none, H, I.tok _, RelB.miss, hw⟩ hstar hwild
theorem qp_seqTK {ps : List Pattern} {ns : List Str} {t : TPats} {n : Nat} (K : PySem.W.Frag) (hc : X.calm = true) (h : PPts X ps ns t) (hn : ps.length = n := by rfl)
    (hstar : ps.findIdx? (·.isStar) = none := by rfl) (hwild : (ps.all fun p => p.isWildcard || (p.isStar && p.names.isEmpty)) = false := by rfl) (hK : X.K = K := by rfl) : PPt X (.MatchSequence ps pos) ns (qSeqT K n t) := by
  subst hK
  exact qp_seqT hc h hn hstar hwild
/-- [p1, .., pn] against a list -/
def qSeqL (n : Nat) (t : TPats) : TPat := fun v H Q => ∃ a xs, v = .ref a ∧ H a = some (.lst xs) ∧ if xs.length = n then t xs H Q else Q none H
theorem qp_seqL {ps : List Pattern} {ns : List Str} {t : TPats} {n : Nat} (hc : X.calm = true) (h : PPts X ps ns t) (hn : ps.length = n := by rfl)
    (hstar : ps.findIdx? (·.isStar) = none := by rfl) (hwild : (ps.all fun p => p.isWildcard || (p.isStar && p.names.isEmpty)) = false := by rfl) : PPt X (.MatchSequence ps pos) ns (qSeqL n t) := by
  refine ⟨fun pins s σ H v u Q I r ⟨a, xs, e, hq, hw⟩ => ?_⟩
  subst e
  cases r
  obtain ⟨hz, its, k, rv, el', ho⟩ := I.lstM hq
  have ht : s.heap.IsList a its.toArray := ⟨_, ho, rfl, _, rfl⟩
  have el : its.length = xs.length := el'.symm
  have fit : ((its.toArray.size : Nat) : Int) < 2 ^ 63 := by
    rw [sizeLine_eq] at hz
    simp [el]
    omega
  by_cases q : xs.length = n
  · rw [if_pos q] at hw
    refine matchSeq_list_hit ht fit (by simp [el, q, hn]) ?_ hstar hwild
    rw [show ps.length = its.toArray.size by simp [el, q, hn]]
    refine PySem.W.kun_itemsOf (s := { s with toks := s.toks + 1 + 1 }) (I.ok.hd hc) ht fun h' hx => ?_
    have I1 : Inv X pins σ H { s with toks := s.toks + 1 + 1, heap := h' } := I.kept (t' := s.toks + 1 + 1) fun b o e => hx b o (Nat.ne_of_lt (Heap.lt_size e)) e
    exact h.run pins _ σ H xs _ Q I1 (by simpa using rv) hw
  · rw [if_neg q] at hw
    exact matchSeq_list_miss ht fit (by simp [el, hn]; exact q) ⟨none, H, I.tok _, RelB.miss, hw⟩ hstar hwild
/-! ### names -/
theorem qn_nil : PNs X [] gNil := by
  refine ⟨fun pins s σ H vs us Q I r h => ?_⟩
  obtain ⟨e, h⟩ := h
  subst e
  cases r
  exact wpAny_assignInOrder_none ⟨σ, H, I, h⟩
theorem qn_cons {x : Str} {ns : List Str} {i : Nat} {t : TGs} (hN : X.N.Nodup) (hi : X.N[i]? = some x) (hx : Loc X.env.scope x) (h2 : PNs X ns t)
    (hf : X.fn x = true ∨ X.env.scope.names.lookup x = some .local := by first | exact .inl rfl | exact .inr rfl | assumption) : PNs X (x :: ns) (gCons (gName i) t) := by
  refine ⟨fun pins s σ H vs us Q I r h => ?_⟩
  obtain ⟨v, vr, e1, h⟩ := h
  subst e1
  cases r with
  | cons r rr =>
    refine wpAny_assignInOrder_more (wpAny_bindName (store_ok I hN hi hx r (fun s1 I1 => ?_) hf))
    exact h2.run pins s1 _ H _ _ Q I1 rr h
/-! ### cases -/
def cEnd : V → TS := fun _ D σ H => D.nx σ H
theorem qc_nil : PCs X [] cEnd := ⟨fun _ _ _ σ H _ _ _ I _ h => wpAny_matchCases_nil ⟨σ, H, I, h⟩⟩
def cCase (tp : TPat) (tn : TGs) (tb : TS) (tr : V → TS) : V → TS := fun v D σ H => tp v H fun b H1 => match b with
  | none => tr v D σ H1
  | some vs => tn vs σ H1 fun σ' H2 => tb D σ' H2
theorem qc_case {p : Pattern} {ns : List Str} {body : List Stmt} {rest : List MatchCase} {tp : TPat} {tn : TGs} {tb : TS} {tr : V → TS} (hp : PPt X p ns tp) (hn : PNs X ns tn) (hb : PSs X body tb) (hr : PCs X rest tr) :
    PCs X (⟨p, none, body⟩ :: rest) (cCase tp tn tb tr) := by
  refine ⟨fun first pins s σ H D v u I r h => ?_⟩
  refine wpAny_matchCases_cons (thn (hp.run pins s σ H v u _ I r h) fun r' s1 ⟨b, H1, I1, rb, q1⟩ => ?_)
  cases b with
  | none =>
    cases r' with
    | none => exact hr.run false pins s1 σ H1 D v u I1 r q1
    | some _ => exact rb.elim
  | some vs =>
    cases r' with
    | none => exact rb.elim
    | some bs =>
      obtain ⟨e1, e2⟩ := rb
      have e3 : (bs.map fun (n, _) => bindName X.env n) = ns.map (bindName X.env) := by
        rw [← e1, List.map_map]; rfl
      show wpAny _ _ (assignInOrder (bs.map fun (n, _) => bindName X.env n) (bs.map (·.2))) _ _ _
      rw [e3]
      exact thn (hn.run pins s1 σ H1 vs _ _ I1 e2 q1) fun _ s2 ⟨σ2, H2, I2, q2⟩ => hb.run pins s2 σ2 H2 D I2 q2
def cGuard (tp : TPat) (tn : TGs) (tg : TT) (tb : TS) (tr : V → TS) : V → TS := fun v D σ H => tp v H fun b H1 => match b with
  | none => tr v D σ H1
  | some vs => tn vs σ H1 fun σ' H2 => tg σ' H2 fun ok H3 => if ok = true then tb D σ' H3 else tr v D σ' H3
theorem qc_guard {p : Pattern} {g : Expr} {ns : List Str} {body : List Stmt} {rest : List MatchCase} {tp : TPat} {tn : TGs} {tg : TT} {tb : TS} {tr : V → TS} (hp : PPt X p ns tp) (hn : PNs X ns tn) (hg : PT X g tg) (hb : PSs X body tb) (hr : PCs X rest tr) :
    PCs X (⟨p, some g, body⟩ :: rest) (cGuard tp tn tg tb tr) := by
  refine ⟨fun first pins s σ H D v u I r h => ?_⟩
  refine wpAny_matchCases_cons (thn (hp.run pins s σ H v u _ I r h) fun r' s1 ⟨b, H1, I1, rb, q1⟩ => ?_)
  cases b with
  | none =>
    cases r' with
    | none => exact hr.run false pins s1 σ H1 D v u I1 r q1
    | some _ => exact rb.elim
  | some vs =>
    cases r' with
    | none => exact rb.elim
    | some bs =>
      obtain ⟨e1, e2⟩ := rb
      have e3 : (bs.map fun (n, _) => bindName X.env n) = ns.map (bindName X.env) := by
        rw [← e1, List.map_map]; rfl
      show wpAny _ _ (assignInOrder (bs.map fun (n, _) => bindName X.env n) (bs.map (·.2))) _ _ _
      rw [e3]
      refine thn (hn.run pins s1 σ H1 vs _ _ I1 e2 q1) fun _ s2 ⟨σ2, H2, I2, q2⟩ => ?_
      refine thn (hg.run pins s2 σ2 H2 _ I2 q2) fun ok s3 ⟨H3, I3, q3⟩ => ?_
      cases ok with
      | true => exact hb.run pins s3 σ2 H3 D I3 q3
      | false => exact hr.run false pins s3 σ2 H3 D v u I3 r q3
/-! ### the statement -/
def tMatch (te : TE) (tc : V → TS) : TS := fun D σ H => te σ H fun v H1 => tc v D σ H1
theorem ps_match {e : Expr} {cs : List MatchCase} {te : TE} {tc : V → TS} (he : PE X e te) (hc : PCs X cs tc) : PS X (.Match e cs pos) (tMatch te tc) := by
  refine ⟨fun pins s σ H D I h => ?_⟩
  exact wpAny_Match (thn (he.run pins s σ H _ I h) fun u s1 ⟨v, H1, I1, r1, q1⟩ => hc.run true pins s1 σ H1 D v u I1 r1 q1)
end
end Ch
/-! ### steps -/
namespace Ch
open PySem PySem.Spec PyProof.Rows L2
section
variable {K : PySem.W.Frag} {σ : L2.St} {H : Hp} {D : Ends} {te : TE} {tc tr : V → TS} {tp : TPat} {tn : TGs} {tg : TT} {tb : TS} {t : TPat} {u ts : TPats} {Q : Option (List V) → Hp → Prop} {v : V} {x y : Str} {a : Addr} {xs r : List V} {n : Nat}
theorem x_match (k : te σ H fun v H1 => tc v D σ H1) : tMatch te tc D σ H := k
theorem x_case (k : tp v H fun b H1 => match b with | none => tr v D σ H1 | some vs => tn vs σ H1 fun σ' H2 => tb D σ' H2) : cCase tp tn tb tr v D σ H := k
theorem x_cguard (k : tp v H fun b H1 => match b with | none => tr v D σ H1 | some vs => tn vs σ H1 fun σ' H2 => tg σ' H2 fun ok H3 => if ok = true then tb D σ' H3 else tr v D σ' H3) : cGuard tp tn tg tb tr v D σ H := k
theorem x_cend (k : D.nx σ H) : cEnd v D σ H := k
theorem x_seqTn (h : SqT K H a xs) (hl : xs.length ≠ n) (k : Q none H) : qSeqT K n ts (.ref a) H Q := ⟨a, xs, rfl, h, by rw [if_neg hl]; exact k⟩
theorem x_seqTy (h : SqT K H a xs) (hl : xs.length = n) (k : ts xs H Q) : qSeqT K n ts (.ref a) H Q := ⟨a, xs, rfl, h, by rw [if_pos hl]; exact k⟩
theorem x_qcons (k : t v H fun b H1 => match b with
    | none => Q none H1
    | some l => u r H1 fun b' H2 => match b' with | none => Q none H2 | some l' => Q (some (l ++ l')) H2) : qCons t u (v :: r) H Q := ⟨v, r, rfl, k⟩
theorem x_qnil (k : Q (some []) H) : qNil [] H Q := ⟨rfl, k⟩
theorem x_qcap (k : Q (some [v]) H) : qCap v H Q := k
theorem x_qany (k : Q (some []) H) : qAny v H Q := k
theorem x_qtxt (k : Q (some []) H) : qText x (.str x) H Q := ⟨x, rfl, by rw [if_pos rfl]; exact k⟩
theorem x_qtxtN (h : y ≠ x) (k : Q none H) : qText x (.str y) H Q := ⟨y, rfl, by rw [if_neg h]; exact k⟩
end
end Ch

set_option Elab.async false
set_option linter.all false
set_option autoImplicit false
set_option maxRecDepth 100000
set_option maxHeartbeats 4000000
/-! raising promises that also tell the exception's context (None): for a suite that works while it is handled -/
namespace Ch
open PySem PySem.Spec PyProof.Rows L2
section
variable {X : Cx}
theorem mk_endN {pins : List (Addr × Obj)} {σ : L2.St} {H1 H2 : Hp} {Q : XK} {hp hp2 h2 : Heap} {g1 g2 : Array GenState} {d1 d2 : Drawn} {t1 t2 : Nat} {os1 os2 : OsState} {a C d : Addr} {fs : List (Str × V)} (T : Raises X (.ref C)) (I1 : Inv X pins σ H1 ⟨hp, g1, d1, t1, os1⟩)
    (ha : hp.objs.size ≤ a) (k : ∀ b o, hp.get? b = some o → hp2.get? b = some o) (un : Un (frs X.stack) [] (upd H1 a (exo a C none)) H2 hp2 h2) (hok : HOk X.prog X.w H2 h2) (ho : os2 = os1) (hb : AllBare g2)
    (ea : H2 a = some (exo a C (some d))) (ed : H2 d = some (exd d fs)) (hd1 : H1 d = none) (q : Q (.ref C) (some d) (upd (L2.del H2 a) d (.xd fs))) : L2N.MkP X pins σ Q (.ref a) ⟨h2, g2, d2, t2, os2⟩ := by
  obtain ⟨t0, G, J, kG, ge, hoe, na⟩ := mk_end0 (d2 := d2) (t2 := t2) I1 ha k un hok ho hb ea ed hd1
  exact ⟨a, _, _, ⟨G, g2, d2, t2, os2⟩, _, .ref C, some d, rfl, J, kG, ge, hoe, ⟨rfl, rfl, fun vs e => by cases e; rfl⟩, rfl, rfl, na, rfl, hb, T, q⟩
end
theorem pmk_kwN {X : Cx} {CX : CXT} {x f : Str} {C fI : Addr} {k : Nat} {fd : FuncData} {kws : List Keyword} {tk : TA} {p pos : Pos} (T : OexC X.K C) (iC : PySem.W.findIn X.K (.ref C) "__init__" = some (some (.ref fI)))
    (tI : PySem.W.typeIn X.K (.ref fI) = some (.type "function")) (F1 : FnOk X.prog X.w X.K X.mg X.base CX k fI fd ["self", f] (spXI f C)) (hr : Room (k + 1) X.A)
    (hb : ∀ (s : Shared) (u v : Value), BindsTo s fd ⟨[u], [(f, v)]⟩ [("self", u), (f, v)]) (hx : Passes CX X (fun _ _ _ => False)) (hg : Gl X x) (hm : X.mg x = some (.ref C)) (hkw : PK X kws tk)
    (hall : (backToKw pos (keywordEach kws X.env)).all (·.1.isSome) = true := by rfl) (hks : (backToKw pos (keywordEach kws X.env)).filterMap (·.1) = [f] := by rfl) (hdb : (x == ("__debug__" : Str)) = false := by decide)
    (hpl : ((backTo pos (starEach [] X.env)).any (·.1) || (backToKw pos (keywordEach kws X.env)).any (·.1.isNone)) = false := by rfl)   : L2N.PMk X (.Call (.Name x p) [] kws pos) (tRx C f tk) := by
  intro pins s σ H Q I h
  obtain ⟨nm, q, N, bs, bm, sn, sub, ab, col, dd, k0, k1, k2, k3, k5, hC, hbm⟩ := T.cls
  refine wpAny_Call_Name_kw (ld_glob I hg hm ?_ hdb)
  refine PySem.W.callWith_KW0 (h₀ := X.base) I.ok.mod.kin T.kC hall ?_ hpl
  refine thn (hkw.run pos pins s σ H _ I h) fun ws s2 ⟨zs, H1, I1, rz, v, ez, hq⟩ => ⟨I1.kIn, ?_⟩
  rw [hks]
  subst ez
  cases rz with
  | @cons _ u _ ur ru rn =>
    cases rn
    show wpAny _ _ (call (.ref C) [] [(f, u)]) _ _ _
    obtain ⟨hp, g, dr, tk', os⟩ := s2
    have hsz : hp.objs.size ≤ hp.objs.size + 1 := Nat.le_succ _
    have hn : H1 (hp.objs.size + 1) = none := I1.hok.fresh hsz
    have kk : ∀ b o, hp.get? b = some o → ((hp.push (PySem.W.kdv_tup [])).push (PySem.HandSPX.excO C hp.objs.size)).get? b = some o := fun b o e => Heap.get?_push_of_some _ (Heap.get?_push_of_some _ e)
    have hget : ((hp.push (PySem.W.kdv_tup [])).push (PySem.HandSPX.excO C hp.objs.size)).get? (hp.objs.size + 1) = some (PySem.HandSPX.excO C hp.objs.size) := by heap_get
    have I2 : Inv X pins σ (upd H1 (hp.objs.size + 1) (exo (hp.objs.size + 1) C none)) ⟨(hp.push (PySem.W.kdv_tup [])).push (PySem.HandSPX.excO C hp.objs.size), g, dr, tk', os⟩ :=
      I1.laid (t' := tk') (a := hp.objs.size + 1) (o := exo (hp.objs.size + 1) C none) (h' := (hp.push (PySem.W.kdv_tup [])).push (PySem.HandSPX.excO C hp.objs.size)) kk hsz (exo_ok hget)
    have r2 : Vals [V.ref (hp.objs.size + 1), v] [Value.ref (hp.objs.size + 1), u] := .cons rfl (.cons ru .nil)
    have hsp : spXI f C [V.ref (hp.objs.size + 1), v] (upd H1 (hp.objs.size + 1) (exo (hp.objs.size + 1) C none))
        (fun w H2 => w = .non ∧ ∃ d, H1 d = none ∧ d ≠ hp.objs.size + 1 ∧ H2 = upd (upd (upd H1 (hp.objs.size + 1) (exo (hp.objs.size + 1) C none)) d (exd d [(f, v)])) (hp.objs.size + 1) (exo (hp.objs.size + 1) C (some d))) (fun _ _ _ => False) :=
      ⟨_, v, rfl, upd_same, fun d hd hne => ⟨rfl, d, by rw [upd_ne hne] at hd; exact hd, hne, rfl⟩⟩
    refine wpAny_call (ChZ.call_kw PySem.F.excBase_ValueError (fun Y => PySem.HandSPX.refsVE_contains Y bm hbm) (I1.kIn _ _ hC) (PySem.W.looks_findIn I1.kIn iC) (fun self => PySem.W.bind_fn I1.kIn self tI)
      (codeAny_mono (F1.run _ X.stack _ _ ⟨[Value.ref (hp.objs.size + 1)], [(f, u)]⟩ [Value.ref (hp.objs.size + 1), u] _ _ (fun _ _ _ => False) (hr.make C [] [(f, u)]) (I2.env0.make C [] [(f, u)]) (hb _ _ _) r2 hsp) fun r s' hq' => ?_))
    cases r with
    | error er => exact hx pins σ _ _ er s' I2 hq'
    | ok fl =>
      cases fl with
      | ret u' =>
        obtain ⟨w, H2, os2, bare2, un2, hok2, rv, ev, d, hd1, hda, eH⟩ := hq'
        subst ev
        have q2 := hq d hd1
        rw [← left_xd (C := C) hn hda, ← eH] at q2
        have ea : H2 (hp.objs.size + 1) = some (exo (hp.objs.size + 1) C (some d)) := by rw [eH, upd_same]
        have ed : H2 d = some (exd d [(f, v)]) := by rw [eH, upd_ne hda, upd_same]
        obtain ⟨h2, g2, d2, t2, os'⟩ := s'
        exact ⟨rv, mk_endN (raises_own T.exC T.tyC) I1 hsz kk un2 hok2 os2 bare2 ea ed hd1 q2⟩
      | next => exact False.elim hq'
      | brk => exact False.elim hq'
      | cont => exact False.elim hq'

theorem cxn_zc {P : Program} {w : World} {outer : List Env} {H : Hp} {s s' : Shared} {E : XK} {u : Value} (c : L2N.CX P w outer H s E u s') : L2.CX P w outer H s E u s' := by
  obtain ⟨a, B, H', cls, d, e, fl, hok, ub, na, os, ag, hE⟩ := c
  obtain ⟨f1, f2, f3, oe, vs, T, oT, ts, he, hz, r⟩ := fl
  exact ⟨a, B, H', cls, d, e, ⟨f1, f2, f3, oe, vs, T, oT, ts, he, hz.zc, r⟩, hok, ub, na, os, ag, hE⟩
theorem fnok_zc {P : Program} {w : World} {K : PySem.W.Frag} {mg : Str → Option Value} {base : Heap} {k : Nat} {f : Addr} {fd : FuncData} {ps : List Str} {sp : Sp} (F : FnOk P w K mg base (L2N.CX P w) k f fd ps sp) : FnOk P w K mg base (L2.CX P w) k f fd ps sp := by
  refine ⟨F.len, fun A outer s H args us vs Q E hr e0 hb r hs => codeAny_mono (F.run A outer s H args us vs Q E hr e0 hb r hs) fun z s' hq => ?_⟩
  cases z with
  | error er => exact cxn_zc hq
  | ok fl => cases fl <;> exact hq
theorem fnr_zc {P : Program} {w : World} {K : PySem.W.Frag} {mg : Str → Option Value} {base : Heap} {k : Nat} {f : Addr} {sp : Sp} (F : FnR P w K mg base (L2N.CX P w) k f sp) : FnR P w K mg base (L2.CX P w) k f sp := by
  refine fun A outer s H us vs Q E hr e0 r hs => codeAny_mono (F A outer s H us vs Q E hr e0 r hs) fun z s' hq => ?_
  cases z with
  | error er => exact cxn_zc hq
  | ok fl => cases fl <;> exact hq
end Ch

set_option Elab.async false
set_option linter.all false
set_option autoImplicit false
set_option maxRecDepth 100000
set_option maxHeartbeats 4000000
/-! texts: split, slices, numerals; lists: every second item; a star in a pattern -/
namespace StrX
open PySem PySem.NumText PySem.Spec PyProof.Rows L2 Ch TxX
/-! ### split, slices of texts -/
section
variable {X : Cx} {K : PySem.W.Frag} {o e : Expr} {to te : TE} {σ : L2.St} {H : Hp} {Q : VK}
def rSplit : V → List V → Hp → VK → Prop := fun x xs H Q => ∃ a b, x = .str a ∧ xs = [.str b] ∧ (b.length == 0) = false ∧ a.length + 2 ≤ sizeLine ∧ rNewStrs (Txt.split a b) H Q
theorem pe_splitK {apos pos : Pos} (ho : PE X o to) (he : PE X e te) (hs : starEach [e] X.env = [(false, eval e X.env)] := by rfl) (hbase : attributeBase o "split" X.env (eval o X.env) = eval o X.env := by rfl) (hline : (apos.endLine == pos.line) = true := by rfl) :
    PE X (.Call (.Attribute o "split" apos) [e] [] pos) (tM1 rSplit to te) := pe_split ho he hs hbase hline
theorem x_split {a b : Str} (hb : (b.length == 0) = false) (ha : a.length ≤ 100000) (k : ∀ p, H p = none → Q (.ref p) (upd H p (.lst ((Txt.split a b).map V.str)))) : rSplit (.str a) [.str b] H Q :=
  ⟨a, b, rfl, rfl, hb, by rw [sizeLine_eq]; omega, k⟩
theorem x_cutS {z : Str} {lo hi : Option Int} (hz : z.length ≤ 100000) (k : Q (.str (cutS z lo hi)) H) : rSlS (.str z) lo hi H Q := ⟨z, rfl, by rw [sizeLine_eq]; omega, k⟩
theorem x_ixS {z : Str} {i : Int} {c : Nat} (hz : z.length ≤ 100000) (h : atI z.cps.toList i = some c) (k : Q (.str ⟨#[c]⟩) H) : rIx K (.str z) (.int i) H Q := .inr (.inr ⟨z, i, c, rfl, rfl, by rw [sizeLine_eq]; omega, h, k⟩)
end
/-! ### every second item -/
def evens {α : Type} : List α → List α
  | [] => []
  | [a] => [a]
  | a :: _ :: r => a :: evens r
theorem evens_len {α : Type} : ∀ l : List α, (evens l).length = (l.length + 1) / 2
  | [] => by show 0 = (0 + 1) / 2; decide
  | [_] => by show 1 = (1 + 1) / 2; decide
  | a :: b :: r => by
    show (evens r).length + 1 = _
    rw [evens_len r, List.length_cons, List.length_cons]
    omega
theorem evens_map {α β : Type} (f : α → β) : ∀ l : List α, evens (l.map f) = (evens l).map f
  | [] => rfl
  | [_] => rfl
  | a :: b :: r => congrArg (f a :: ·) (evens_map f r)
theorem evens_mem {α : Type} {x : α} : ∀ {l : List α}, x ∈ evens l → x ∈ l
  | [], h => h
  | [_], h => h
  | a :: b :: r, h => by
    rcases List.mem_cons.mp h with z | z
    · rw [z]; exact List.mem_cons_self
    · exact List.mem_cons_of_mem _ (List.mem_cons_of_mem _ (evens_mem z))
theorem evens_drop {α : Type} {xs : List α} {a : Nat} {x : α} (h : xs[a]? = some x) : evens (xs.drop a) = x :: evens (xs.drop (a + 2)) := by
  obtain ⟨hl, e⟩ := List.getElem?_eq_some_iff.mp h
  rw [List.drop_eq_getElem_cons hl, e]
  by_cases h2 : a + 1 < xs.length
  · rw [List.drop_eq_getElem_cons h2]
    rfl
  · rw [List.drop_eq_nil_of_le (by omega), List.drop_eq_nil_of_le (by omega)]
    rfl
theorem every_two {α : Type} (xs : List α) : ∀ (k a : Nat), k = (xs.length - a + 1) / 2 → ((List.range k).map fun i => a + 2 * i).filterMap (fun i => xs[i]?) = evens (xs.drop a)
  | 0, a, h => by
    rw [List.drop_eq_nil_of_le (by omega)]
    rfl
  | k + 1, a, h => by
    have ha : a < xs.length := by omega
    rw [evens_drop (List.getElem?_eq_getElem ha), ← every_two xs k (a + 2) (by omega), List.range_succ_eq_map, List.map_cons, List.map_map, List.filterMap_cons]
    rw [show (xs[a + 2 * 0]?) = some xs[a] from List.getElem?_eq_getElem ha]
    dsimp only
    congr 2
    apply List.map_congr_left
    intro i _
    show a + 2 * (i + 1) = a + 2 + 2 * i
    omega
theorem range_two (a n : Nat) : sliceRange (a : Int) (n : Int) 2 = (List.range ((n - a + 1) / 2)).map fun i => a + 2 * i := by
  unfold sliceRange
  rw [if_pos (by decide)]
  have e : (if (a : Int) < n then ((n : Int) - a + 2 - 1) / 2 else 0).toNat = (n - a + 1) / 2 := by
    by_cases h : (a : Int) < n
    · rw [if_pos h]; omega
    · rw [if_neg h]; omega
  dsimp only
  rw [e]
  apply List.map_congr_left
  intro k _
  omega
theorem pick_two (items : Array Value) (a : Nat) (ha : a ≤ items.size) : slicePick items (some (a : Int)) none (some 2) = (evens (items.toList.drop a)).toArray := by
  have e : sliceBounds (some (a : Int)) none (some 2) items.size = ((a : Int), (items.size : Int), 2) := by
    simp only [sliceBounds, Option.getD_some]
    have h1 : ¬ ((a : Int) < 0) := by omega
    simp only [h1, if_false, show (2 : Int) > 0 by decide, if_true]
    congr 1
    omega
  unfold slicePick
  rw [e, range_two]
  have := every_two items.toList ((items.size - a + 1) / 2) a (by rw [Array.length_toList])
  rw [← this]
  congr 2
  funext x
  exact (Array.getElem?_toList ..).symm
theorem pick_few (items : Array Value) (a : Nat) (ha : items.size < a) : slicePick items (some (a : Int)) none (some 2) = (evens (items.toList.drop a)).toArray := by
  have e : sliceBounds (some (a : Int)) none (some 2) items.size = ((items.size : Int), (items.size : Int), 2) := by
    simp only [sliceBounds, Option.getD_some]
    have h1 : ¬ ((a : Int) < 0) := by omega
    simp only [h1, if_false, show (2 : Int) > 0 by decide, if_true]
    congr 1
    omega
  unfold slicePick
  rw [e, range_two, Nat.sub_self, List.drop_eq_nil_of_le (by rw [Array.length_toList]; omega)]
  rfl
theorem vals_evens : ∀ {xs : List V} {us : List Value}, Vals xs us → Vals (evens xs) (evens us)
  | [], _, .nil => .nil
  | [_], _, .cons a .nil => .cons a .nil
  | _ :: _ :: _, _, .cons a (.cons _ r) => .cons a (vals_evens r)
section
variable {X : Cx} {e : Expr} {te : TE} {lo hi : Option Expr} {st : Expr} {tl th tz : TO} {pos p2 : Pos}
def rSl2 (K : PySem.W.Frag) : V → Option Int → Option Int → Option Int → Hp → VK → Prop := fun x lo hi st H Q => ∃ (p : Addr) (xs : List V) (a : Nat), x = .ref p ∧ SqL K H p xs ∧ lo = some (a : Int) ∧ hi = none ∧ st = some 2 ∧ ∀ q, H q = none → Q (.ref q) (upd H q (.lst (evens (xs.drop a))))
def tSl2 (K : PySem.W.Frag) (te : TE) (tl th tz : TO) : TE := fun σ H Q => te σ H fun x H1 => tl σ H1 fun l H2 => th σ H2 fun u H3 => tz σ H3 fun z H4 => rSl2 K x l u z H4 Q
/-- a[lo:hi:step] of a list -/
theorem pe_slice2 (K : PySem.W.Frag) (he : PE X e te) (hl : PO X lo tl) (hu : PO X hi th) (hz : PO X (some st) tz) (hK : X.K = K := by rfl) : PE X (.Subscript e (.Slice lo hi (some st) p2) pos) (tSl2 K te tl th tz) := by
  subst hK
  refine ⟨fun pins s σ H Q I h => ?_⟩
  refine Subscript_ (thn (he.run pins s σ H _ I h) fun v s1 ⟨x, H1, I1, r1, q1⟩ => ?_)
  refine wpAny_Slice (thn (hl.run pins s1 σ H1 _ I1 q1) fun vl s2 ⟨l, H2, I2, pl, q2⟩ => thn (hu.run pins s2 σ H2 _ I2 q2) fun vu s3 ⟨u, H3, I3, pu, q3⟩ => thn (hz.run pins s3 σ H3 _ I3 q3) fun vz s4 ⟨z, H4, I4, pz, q4⟩ => ?_)
  obtain ⟨p, xs, a, rfl, hq, rfl, rfl, rfl, k⟩ := q4
  cases r1
  have I5 : Inv X pins σ H4 { s4 with heap := s4.heap.push { cls := .type "slice", data := .fields #[vl, vu, vz] } } := I4.kept (t' := s4.toks) fun b ob q => Heap.get?_push_of_some _ q
  obtain ⟨its, r, ⟨ob, m, eo, ec, ed, eq⟩, hsz⟩ := I5.list hq
  have hL : (s4.heap.push { cls := .type "slice", data := .fields #[vl, vu, vz] }).IsList p its.toArray := ⟨ob, eo, ec, m, eq⟩
  refine tail_any (ops := [.ref p, .ref s4.heap.objs.size]) hL.typeIs PySem.slot_list_getitem.lookup (wpAny_getItem_list_slice hL (Heap.IsSliceOf.new ..) pl pu pz (by decide) ?_ (by rw [List.size_toArray, ← r.length]; exact hsz)) (by with_unfolding_all rfl)
  have e2 : slicePick its.toArray (some (a : Int)) none (some 2) = (evens (its.drop a)).toArray := by
    by_cases h : a ≤ its.toArray.size
    · exact pick_two _ a h
    · exact pick_few _ a (by omega)
  rw [e2]
  refine ⟨.ref _, _, I5.laid (t' := s4.toks) (o := .lst (evens (xs.drop a))) (fun b ob q => Heap.get?_push_of_some _ q) (Nat.le_refl _) ?_, rfl, k _ (I5.hok.fresh (Nat.le_refl _))⟩
  refine ⟨?_, evens (its.drop a), 0, vals_evens (r.drop a), Heap.get?_push_size _ rfl⟩
  rw [evens_len, List.length_drop]
  rw [sizeLine_eq] at hsz ⊢
  omega
theorem x_sl2 {K : PySem.W.Frag} {σ : L2.St} {H : Hp} {Q : VK} (k : te σ H fun x H1 => tl σ H1 fun l H2 => th σ H2 fun u H3 => tz σ H3 fun z H4 => rSl2 K x l u z H4 Q) : tSl2 K te tl th tz σ H Q := k
theorem x_evens {K : PySem.W.Frag} {p : Addr} {xs : List V} (a : Nat) {H : Hp} {Q : VK} (h : SqL K H p xs) (k : ∀ q H', H q = none → Same H H' → H' q = some (.lst (evens (xs.drop a))) → Q (.ref q) H') : rSl2 K (.ref p) (some (a : Int)) none (some 2) H Q :=
  ⟨p, xs, a, rfl, h, rfl, rfl, rfl, fun q hq => k q _ hq (Same.new hq) upd_same⟩
end
/-! ### a star in a pattern, against a list -/
section
variable {prog : Program} {w : World} {A : Around} {E : Value → Shared → Prop} {s : Shared}
theorem star_list {t : Addr} {its : Array Value} {n i : Nat} {Q : List Value → Shared → Prop} (ht : s.heap.IsList t its) (hand : A.handled = none) (hin : i < n) (hle : n ≤ its.size + 1) (hsz : its.size ≤ 16384)
    (k : ∀ (g : Heap) (tk : Nat), (∀ b o, s.heap.get? b = some o → g.get? b = some o) → Q (its.toList.take i ++ [.ref g.objs.size] ++ (its.toList.drop i).drop (its.size + 1 - n)) { s with heap := g.push { cls := .type "list", data := .seq ((its.toList.drop i).take (its.size + 1 - n)).toArray }, toks := tk }) :
    wpAny (model prog w) A (unpackItems (.ref t) n (some i)) Q E s := by
  have tlt : t < s.heap.objs.size := by
    obtain ⟨o, ho, _⟩ := ht
    exact Heap.lt_size ho
  have tne : t ≠ s.heap.objs.size := Nat.ne_of_lt tlt
  unfold unpackItems
  refine wpAny_bind ?_
  unfold notIterableAtAll
  refine wpAny_bind (wpAny_specialOf ht.typeIs slot_list_iter.lookup (wpAny_pure ?_))
  simp only [Bool.false_eq_true, if_false]
  refine wpAny_bind (wpAny_holding (wpAny_pyIter_list ht (?_)))
  refine wpAny_bind (wpAny_holding (PySem.W.kun_draw tne i 0 _ _ ⟨_, Heap.get?_push_size _ rfl, rfl, rfl⟩ (ht.push _) (by omega) fun g1 it1 sb1 => ?_))
  have ht1 : g1.IsList t its := (ht.push _).extBut sb1.extBut tne
  rw [Nat.zero_add] at it1
  obtain ⟨oi, hoi, hoi2⟩ := id it1
  obtain ⟨ot, hot, _⟩ := id ht1
  rw [List.drop_zero]
  have lf : (its.toList.take i).length = i := by
    rw [List.length_take, Array.length_toList]
    omega
  have lr : (its.toList.drop i).length = its.size - i := by
    rw [List.length_drop, Array.length_toList]
  rw [if_neg (show ¬ ((its.toList.take i).length < i) by omega)]
  refine wpAny_bind (wpAny_holding (PySem.W.kun_collect (s := { s with heap := g1 }) (T := "list_iterator") (Or.inr (Or.inr (Or.inl rfl))) (Walks.list (A := A.in1) hand s.heap.objs.size t tne its) (fun _ _ st => st.1.typeIs) (k := i) (by omega) ⟨it1, ht1⟩ (Heap.lt_size hoi) (Heap.lt_size hot) (fun g2 tk kp => ?_) (by rw [sizeLine_eq]; omega)))
  have lm : (its.toList.drop i).length - (n - 1 - i) = its.size + 1 - n := by omega
  show wpAny _ _ (if (its.toList.drop i).length < n - 1 - i then _ else _) _ _ _
  rw [if_neg (by omega)]
  show wpAny _ _ (newList ((its.toList.drop i).take ((its.toList.drop i).length - (n - 1 - i))) >>= fun d => pure (its.toList.take i ++ [d] ++ (its.toList.drop i).drop ((its.toList.drop i).length - (n - 1 - i)))) _ _ _
  rw [lm]
  have keep : ∀ b o, s.heap.get? b = some o → g2.get? b = some o := fun b o e => by
    have hb : b ≠ s.heap.objs.size := Nat.ne_of_lt (Heap.lt_size e)
    exact kp b o hb (sb1.extBut b o hb (Heap.get?_push_of_some _ e))
  refine wpAny_bind (wpAny_newList (s := { s with heap := g2, toks := tk }) (wpAny_pure (k g2 tk keep)) ?_)
  rw [List.length_take, lr, sizeLine_eq]
  omega
end
section
variable {X : Cx} {pos : Pos}
theorem qps_star {x : Str} {p : Pos} {ps : List Pattern} {ms : List Str} {u : TPats} (h2 : PPts X ps ms u) : PPts X (.MatchStar (some x) p :: ps) ([x] ++ ms) (qCons qCap u) := by
  refine ⟨fun pins s σ H vs us Q I r h => ?_⟩
  obtain ⟨v, vr, e, h⟩ := h
  subst e
  cases r with
  | cons ra rb =>
    refine PySem.W.kun_each (thn (h2.run pins s σ H _ _ _ I rb h) fun r2 s2 ⟨b2, H2, I2, rl2, q2⟩ => ?_)
    cases b2 with
    | none =>
      cases r2 with
      | none => exact ⟨none, H2, I2, RelB.miss, q2⟩
      | some _ => exact rl2.elim
    | some l2 =>
      cases r2 with
      | none => exact rl2.elim
      | some bs2 => exact ⟨some ([v] ++ l2), H2, I2, ⟨by show x :: bs2.map (·.1) = [x] ++ ms; rw [rl2.1]; rfl, .cons ra rl2.2⟩, q2⟩
/-- [p1, *p2, ..] against a list -/
def qSeqS (n i : Nat) (t : TPats) : TPat := fun v H Q => ∃ a xs, v = .ref a ∧ H a = some (.lst xs) ∧ xs.length ≤ 16384 ∧ (xs.length + 1 < n → Q none H) ∧
  (n ≤ xs.length + 1 → ∀ d, H d = none → t (xs.take i ++ [.ref d] ++ (xs.drop i).drop (xs.length + 1 - n)) (upd H d (.lst ((xs.drop i).take (xs.length + 1 - n)))) Q)
theorem qp_seqS {ps : List Pattern} {ns : List Str} {t : TPats} {n i : Nat} (hc : X.calm = true) (h : PPts X ps ns t) (hn : ps.length = n := by rfl) (hstar : ps.findIdx? (·.isStar) = some i := by rfl)
    (hwild : (ps.all fun p => p.isWildcard || (p.isStar && p.names.isEmpty)) = false := by rfl) (hname : (ps[i]?.elim [] (·.names)).isEmpty = false := by rfl) (h1 : ps.length > 1 := by decide) (hin : i < n := by decide) : PPt X (.MatchSequence ps pos) ns (qSeqS n i t) := by
  refine ⟨fun pins s σ H v u Q I r ⟨a, xs, e, hq, hsz, hm, hy⟩ => ?_⟩
  subst e
  cases r
  obtain ⟨hz, its, k, rv, el', ho⟩ := I.lstM hq
  have ht : s.heap.IsList a its.toArray := ⟨_, ho, rfl, _, rfl⟩
  have el : its.length = xs.length := el'.symm
  have fit : ((its.toArray.size : Nat) : Int) < 2 ^ 63 := by
    simp [el]
    omega
  by_cases q : xs.length + 1 < n
  · exact PySem.W.kun_fewL ht fit hstar h1 (by rw [hn, List.size_toArray, el]; exact q) ⟨none, H, I.tok _, RelB.miss, hm q⟩
  · refine PySem.W.kun_seqL ht fit hstar hwild hname h1 (by rw [hn, List.size_toArray, el]; omega) ?_
    rw [hn]
    refine star_list (s := { s with toks := s.toks + 1 + 1 }) ht (I.ok.hd hc) hin (by rw [List.size_toArray, el]; omega) (by rw [List.size_toArray, el]; exact hsz) fun g tk keep => ?_
    have esz : its.toArray.size + 1 - n = xs.length + 1 - n := by rw [List.size_toArray, el]
    rw [esz]
    have I1 : Inv X pins σ H { s with heap := g, toks := tk } := I.kept (t' := tk) keep
    have hf : H g.objs.size = none := I1.hok.fresh (Nat.le_refl _)
    have I2 : Inv X pins σ (upd H g.objs.size (.lst ((xs.drop i).take (xs.length + 1 - n)))) { s with heap := g.push { cls := .type "list", data := .seq ((its.toArray.toList.drop i).take (xs.length + 1 - n)).toArray }, toks := tk } := by
      refine I1.laid (t' := tk) (fun b u e => Heap.get?_push_of_some _ e) (Nat.le_refl _) ⟨?_, (its.drop i).take (xs.length + 1 - n), 0, (rv.drop i).take _, Heap.get?_push_size _ rfl⟩
      rw [List.length_take, List.length_drop, sizeLine_eq]
      omega
    exact h.run pins _ σ _ _ _ Q I2 (Vals.append (Vals.append (rv.take i) (.cons (show L2.RelV (V.ref g.objs.size) (Value.ref g.objs.size) from rfl) .nil)) ((rv.drop i).drop _)) (hy (by omega) _ hf)
end
/-! ### a star def's exceptions, their context told -/
theorem cxUpN {P : Program} {w : World} : StX.CXUp (L2N.CX P w) := by
  rintro outer s H s2 H2 E e s' un kp ho ⟨a, B, H', cls, d, ea, fl, hok, ub, na, os, ag, he⟩
  refine ⟨a, B, H', cls, d, ea, fl, hok, ⟨fun b o q n hb => ub.keep b o (kp b o q) (un.free b o q n (by simp)) hb, fun b o q hb => ub.slot b o (kp b o q) hb, fun b o q n => ub.free b o (kp b o q) (un.free b o q n (by simp)),
    fun b o q hb => ub.there b o (kp b o q) hb, fun b xs q => ub.tups b xs (un.tups b xs q), fun b o xs q => ub.frzs b o xs (un.frzs b o xs q), fun b ps q => ?_⟩, na, os.trans ho, ag, he⟩
  obtain ⟨m1, e1⟩ := un.tbls b ps q
  obtain ⟨m2, e2⟩ := ub.tbls b _ e1
  exact ⟨m1 ++ m2, by rw [e2, Array.append_assoc]⟩
end StrX

set_option Elab.async false
set_option linter.all false
set_option autoImplicit false
set_option maxRecDepth 100000
set_option maxHeartbeats 4000000
/-! plain: numerals, texts cut and joined -/
namespace NumX
open PySem PySem.NumText PySem.Spec PyProof.Rows L2 TL TxX
theorem tl_cut1 (z : Str) : tl (cutS z none (some 1)) = (tl z).take 1 := by
  show ((tl z).drop (HT.sIx z.length 0 none)).take (HT.sIx z.length z.length (some 1) - HT.sIx z.length 0 none) = _
  rw [HT.sIx_none, List.drop_zero, show (some (1 : Int)) = some ((1 : Nat) : Int) from rfl, HT.sIx_nat, Nat.sub_zero, len_tl]
  by_cases h : 1 ≤ (tl z).length
  · rw [Nat.min_eq_left h]
  · rw [Nat.min_eq_right (by omega), List.take_of_length_le (by omega), List.take_of_length_le (by omega)]
theorem tl_cut2 (z : Str) : tl (cutS z (some 1) none) = (tl z).drop 1 := by
  show ((tl z).drop (HT.sIx z.length 0 (some 1))).take (HT.sIx z.length z.length none - HT.sIx z.length 0 (some 1)) = _
  rw [HT.sIx_none, show (some (1 : Int)) = some ((1 : Nat) : Int) from rfl, HT.sIx_nat, len_tl]
  by_cases h : 1 ≤ (tl z).length
  · rw [Nat.min_eq_left h, List.take_of_length_le (by rw [List.length_drop]; omega)]
  · rw [Nat.min_eq_right (by omega), List.drop_eq_nil_of_le (by omega), List.drop_eq_nil_of_le (by omega), List.take_nil]
/-- the digits of a word -/
def core (w : Str) : Str := if cutS w none (some 1) = "-" then cutS w (some 1) none else w
abbrev isDig (c : Nat) : Bool := decide (48 ≤ c) && decide (c ≤ 57)
def dgOk (w : Str) : Bool := (tl (core w)).all isDig
def pInt (w : Str) : Option Int :=
  if core w = "" ∨ dgOk w = false then none
  else if (1 < (core w).length ∧ (tl (core w))[0]? = some 48) ∨ w = "-0" then none
  else some (if core w = w then (digitsVal (tl (core w)) : Int) else 0 - (digitsVal (tl (core w)) : Int))
theorem core_len (w : Str) : (core w).length ≤ w.length := by
  unfold core
  by_cases h : cutS w none (some 1) = "-"
  · rw [if_pos h]; exact cutS_length _ _ _
  · rw [if_neg h]; exact Nat.le_refl _
theorem core_ok {w : Str} (h : PyData.strOk w = true) : PyData.strOk (core w) = true := by
  unfold core
  by_cases hc : cutS w none (some 1) = "-"
  · rw [if_pos hc]
    refine ok_of fun c hm => of_ok h c ?_
    have hm : c ∈ tl (cutS w (some 1) none) := hm
    rw [tl_cut2] at hm
    exact List.mem_of_mem_drop hm
  · rw [if_neg hc]
    exact h
theorem dg_all {w : Str} (h : dgOk w = true) : AllDigits (tl (core w)) := fun c hc => by
  have := List.all_eq_true.mp h c hc
  rw [Bool.and_eq_true] at this
  have h1 := of_decide_eq_true this.1
  have h2 := of_decide_eq_true this.2
  exact ⟨h1, h2⟩
theorem core_int {w : Str} (hw : w.length ≤ 600) (h : dgOk w = true) (hne : core w ≠ "") : PySem.intText? (core w) = some (digitsVal (tl (core w)) : Int) := by
  refine intText_digits (dg_all h) (fun e => hne (ext_tl (e.trans rfl))) ?_
  have := core_len w
  omega
theorem numL_head : ∀ (m : Nat), 1 < (numL m).length → (numL m)[0]? ≠ some 48 := by
  intro m
  induction m using Nat.strongRecOn with
  | _ m ih =>
    intro h
    by_cases h10 : m < 10
    · rw [numL_lt h10] at h
      exact absurd h (by show ¬ 1 < 1; decide)
    · have hm : 10 ≤ m := by omega
      have hn := numL_ne (m / 10)
      have hp : 0 < (numL (m / 10)).length := List.length_pos_iff.mpr hn
      rw [numL_step hm, List.getElem?_append_left hp]
      by_cases h1 : 1 < (numL (m / 10)).length
      · exact ih (m / 10) (by omega) h1
      · by_cases hd : m / 10 < 10
        · rw [numL_lt hd]
          show some (48 + m / 10) ≠ some 48
          intro e
          have := Option.some.inj e
          omega
        · have := numL_step (n := m / 10) (by omega)
          have hn2 := numL_ne (m / 10 / 10)
          have hp2 : 0 < (numL (m / 10 / 10)).length := List.length_pos_iff.mpr hn2
          rw [this, List.length_append] at h1
          exact absurd (by show 1 < _ + 1; omega) h1
theorem tl_nt (m : Nat) : tl (nt (m : Int)) = numL m := nt_nat m
theorem dash_tl : tl ("-" : Str) = [45] := rfl
theorem nt_core (m : Nat) : core (nt (m : Int)) = nt (m : Int) := by
  unfold core
  rw [if_neg]
  intro e
  have h1 := tl_cut1 (nt (m : Int))
  rw [e, dash_tl, tl_nt] at h1
  have hm : 45 ∈ (numL m).take 1 := by rw [← h1]; exact List.mem_singleton.mpr rfl
  exact numL_free (n := m) (s := 45) (.inl (by decide)) (List.mem_of_mem_take hm)
theorem pInt_nt {n : Int} (h : 0 ≤ n) : pInt (nt n) = some n := by
  obtain ⟨m, rfl⟩ := Int.eq_ofNat_of_zero_le h
  have hc := nt_core m
  have hd : dgOk (nt (m : Int)) = true := by
    unfold dgOk
    rw [hc, tl_nt, List.all_eq_true]
    intro c hm
    have := numL_digits m c hm
    rw [Bool.and_eq_true]
    exact ⟨decide_eq_true this.1, decide_eq_true this.2⟩
  unfold pInt
  rw [hc, if_neg, if_neg, if_pos rfl, tl_nt, numL_val]
  · rintro (⟨h1, h2⟩ | e)
    · rw [len_tl, tl_nt] at h1
      rw [tl_nt] at h2
      exact numL_head m h1 h2
    · have h1 : tl (nt (m : Int)) = [45, 48] := by rw [e]; rfl
      rw [tl_nt] at h1
      exact numL_free (n := m) (s := 45) (.inl (by decide)) (by rw [h1]; exact List.mem_cons_self)
  · rintro (e | e)
    · have h1 : tl (nt (m : Int)) = [] := by rw [e]; rfl
      rw [tl_nt] at h1
      exact numL_ne m h1
    · rw [hd] at e
      cases e
theorem pInt_small {n : Int} (h0 : -4 ≤ n) (h1 : n ≤ 4) : pInt (nt n) = some n := by
  by_cases h : 0 ≤ n
  · exact pInt_nt h
  · have : n = -1 ∨ n = -2 ∨ n = -3 ∨ n = -4 := by omega
    rcases this with e | e | e | e <;> subst e <;> decide +kernel
theorem nt_chars {n : Int} (h0 : -4 ≤ n) : ∀ c ∈ tl (nt n), c = 45 ∨ (48 ≤ c ∧ c ≤ 57) := by
  by_cases h : 0 ≤ n
  · obtain ⟨m, rfl⟩ := Int.eq_ofNat_of_zero_le h
    rw [tl_nt]
    exact fun c hc => .inr (numL_digits m c hc)
  · have : n = -1 ∨ n = -2 ∨ n = -3 ∨ n = -4 := by omega
    rcases this with e | e | e | e <;> subst e <;> decide +kernel
/-! ### texts cut and joined -/
def tot (l : List Str) : Nat := (l.map fun s => s.length + 1).sum
theorem tot_nil : tot [] = 0 := rfl
theorem tot_cons (a : Str) (l : List Str) : tot (a :: l) = a.length + 1 + tot l := by
  unfold tot
  rw [List.map_cons, List.sum_cons]
theorem tot_app (l m : List Str) : tot (l ++ m) = tot l + tot m := by
  unfold tot
  rw [List.map_append, List.sum_append]
theorem tot_mem {p : Str} : ∀ {l : List Str}, p ∈ l → p.length + 1 ≤ tot l
  | a :: l, h => by
    rw [tot_cons]
    rcases List.mem_cons.mp h with z | z
    · rw [z]; omega
    · have := tot_mem z
      omega
theorem tot_len : ∀ l : List Str, l.length ≤ tot l
  | [] => Nat.le_refl _
  | a :: l => by
    have := tot_len l
    rw [tot_cons, List.length_cons]
    omega
theorem tot_cut {l : List Str} {k : Nat} {p : Str} (h : l[k]? = some p) : tot (l.take k) + (p.length + 1) + tot (l.drop (k + 1)) = tot l := by
  obtain ⟨hk, e⟩ := List.getElem?_eq_some_iff.mp h
  have : l = l.take k ++ (p :: l.drop (k + 1)) := by
    rw [← e, ← List.drop_eq_getElem_cons hk, List.take_append_drop]
  conv => rhs; rw [this]
  rw [tot_app, tot_cons]
  omega
theorem joinL_len (s : Nat) : ∀ {l : List (List Nat)}, l ≠ [] → (joinL [s] l).length + 1 = (l.map fun p => p.length + 1).sum
  | [], h => absurd rfl h
  | [p], _ => by show p.length + 1 = p.length + 1 + 0; omega
  | p :: q :: r, _ => by
    show (p ++ ([s] ++ joinL [s] (q :: r))).length + 1 = p.length + 1 + ((q :: r).map fun p => p.length + 1).sum
    rw [← joinL_len s (l := q :: r) (by simp), List.length_append, List.length_append]
    show p.length + (1 + _) + 1 = _
    omega
theorem map_len (l : List Str) : ((l.map tl).map fun p => p.length + 1).sum = tot l := by
  unfold tot
  rw [List.map_map]
  congr 1
theorem join_len {y : Str} {s : Nat} (ey : tl y = [s]) {l : List Str} (h : l ≠ []) : (Txt.join y l).length + 1 = tot l := by
  rw [len_tl, join_eq, tl_join, ey, joinL_len s (fun e => h (List.map_eq_nil_iff.mp e)), map_len]
theorem join_le {y : Str} {s : Nat} (ey : tl y = [s]) (l : List Str) : (Txt.join y l).length ≤ tot l := by
  by_cases h : l = []
  · subst h
    rw [len_tl, join_eq, tl_join]
    exact Nat.le_refl _
  · have := join_len ey h
    omega
theorem pre1 (s c : Nat) (r : List Nat) : pre [s] (c :: r) = decide (c = s) := by
  unfold pre
  show (([c] : List Nat) == [s]) = _
  by_cases h : c = s
  · rw [h, decide_eq_true rfl]; simp
  · rw [decide_eq_false h]; simp [h]
theorem spl_tot (s : Nat) : ∀ (l acc : List Nat), ((spl [s] 0 acc l).map fun p => p.length + 1).sum = acc.length + l.length + 1
  | [], acc => by rw [spl_nil]; show acc.length + 1 + 0 = acc.length + 0 + 1; omega
  | c :: r, acc => by
    by_cases h : c = s
    · rw [spl_hit (by rw [pre1, decide_eq_true h]), List.map_cons, List.sum_cons, show ([s] : List Nat).length - 1 = 0 from rfl, spl_tot s r []]
      simp only [List.length_cons, List.length_nil]
      omega
    · rw [spl_miss (by rw [pre1, decide_eq_false h]), spl_tot s r, List.length_append]
      simp only [List.length_cons, List.length_nil]
      omega
theorem spl_chars (s : Nat) : ∀ (l acc p : List Nat), p ∈ spl [s] 0 acc l → ∀ c ∈ p, c ∈ acc ∨ c ∈ l
  | [], acc, p, h, c, hc => by
    rw [spl_nil] at h
    rw [List.mem_singleton.mp h] at hc
    exact .inl hc
  | d :: r, acc, p, h, c, hc => by
    by_cases hd : d = s
    · rw [spl_hit (by rw [pre1, decide_eq_true hd])] at h
      rcases List.mem_cons.mp h with z | z
      · rw [z] at hc; exact .inl hc
      · rcases spl_chars s r [] p z c hc with q | q
        · exact nomatch q
        · exact .inr (List.mem_cons_of_mem _ q)
    · rw [spl_miss (by rw [pre1, decide_eq_false hd])] at h
      rcases spl_chars s r _ p h c hc with q | q
      · rcases List.mem_append.mp q with z | z
        · exact .inl z
        · rw [List.mem_singleton.mp z]; exact .inr List.mem_cons_self
      · exact .inr (List.mem_cons_of_mem _ q)
section
variable {y : Str} {s : Nat} (ey : tl y = [s]) (hk : y.cps.all (· < 256) = true)
include ey hk
theorem split_tot (a : Str) : tot (Txt.split a y) = a.length + 1 := by
  rw [← map_len, split_spl a y (by rw [ey]; simp) (kind_ok hk), ey, spl_tot, len_tl]
  show 0 + _ + 1 = _
  omega
theorem split_ne (a : Str) : Txt.split a y ≠ [] := fun e => by
  have := split_tot ey hk a
  rw [e] at this
  exact absurd this (by show ¬ 0 = _; omega)
theorem split_ok {a : Str} (h : PyData.strOk a = true) : ∀ p ∈ Txt.split a y, PyData.strOk p = true := fun p hp => by
  refine ok_of fun c hc => of_ok h c ?_
  have hm : tl p ∈ (Txt.split a y).map tl := List.mem_map.mpr ⟨p, hp, rfl⟩
  rw [split_spl a y (by rw [ey]; simp) (kind_ok hk), ey] at hm
  exact (spl_chars s _ _ _ hm c hc).resolve_left fun z => nomatch z
end
theorem nl_tl : tl ("\n" : Str) = [10] := rfl
theorem sp_tl : tl (" " : Str) = [32] := rfl
theorem nl_k : ("\n" : Str).cps.all (· < 256) = true := by decide +kernel
theorem sp_k : (" " : Str).cps.all (· < 256) = true := by decide +kernel
/-- texts told: lines, words -/
def lns (t : Str) : List Str := if t = "" then [] else Txt.split t "\n"
def wds (t : Str) : List Str := Txt.split t " "
end NumX

set_option Elab.async false
set_option linter.all false
set_option autoImplicit false
set_option maxRecDepth 100000
set_option maxHeartbeats 4000000
/-! lists of texts: cut, joined -/
namespace LsX
open PySem PySem.Spec PyProof.Rows L2 Ch TxX StrX NumX
theorem sum_len : ∀ l : List Str, (l.map (·.length)).sum + l.length = tot l
  | [] => rfl
  | a :: r => by
    have := sum_len r
    rw [tot_cons, List.map_cons, List.sum_cons, List.length_cons]
    omega
/-- few signs in all, each text good -/
structure Gd (l : List Str) (n : Nat) : Prop where
  tt : tot l ≤ n
  ok : ∀ a ∈ l, PyData.strOk a = true
theorem Gd.le {l : List Str} {n m : Nat} (g : Gd l n) (h : n ≤ m) : Gd l m := ⟨Nat.le_trans g.tt h, g.ok⟩
theorem Gd.len {l : List Str} {n : Nat} (g : Gd l n) : l.length ≤ n := Nat.le_trans (tot_len l) g.tt
theorem Gd.mem {l : List Str} {n : Nat} {a : Str} (g : Gd l n) (h : a ∈ l) : a.length + 1 ≤ n ∧ PyData.strOk a = true := ⟨Nat.le_trans (tot_mem h) g.tt, g.ok a h⟩
theorem Gd.at {l : List Str} {n k : Nat} {a : Str} (g : Gd l n) (h : l[k]? = some a) : a.length + 1 ≤ n ∧ PyData.strOk a = true := g.mem (List.mem_of_getElem? h)
theorem Gd.app {l m : List Str} {i j : Nat} (g : Gd l i) (h : Gd m j) : Gd (l ++ m) (i + j) := ⟨by rw [tot_app]; exact Nat.add_le_add g.tt h.tt, fun a ha => (List.mem_append.mp ha).elim (g.ok a) (h.ok a)⟩
theorem Gd.one {a : Str} {n : Nat} (h : a.length + 1 ≤ n) (k : PyData.strOk a = true) : Gd [a] n := ⟨by rw [tot_cons]; exact h, fun b hb => by rw [List.mem_singleton.mp hb]; exact k⟩
theorem Gd.split {a y : Str} {s : Nat} (ey : TL.tl y = [s]) (hk : y.cps.all (· < 256) = true) (h : PyData.strOk a = true) : Gd (Txt.split a y) (a.length + 1) := ⟨by rw [split_tot ey hk]; exact Nat.le_refl _, split_ok ey hk h⟩
/-- p in place of the text at k -/
theorem Gd.put {l p : List Str} {n k d : Nat} {a : Str} (g : Gd l n) (h : l[k]? = some a) (hp : Gd p (a.length + 1 + d)) : Gd (l.take k ++ p ++ l.drop (k + 1)) (n + d) := by
  have h1 := tot_cut h
  have h2 := g.tt
  have h3 := hp.tt
  refine ⟨by rw [tot_app, tot_app]; omega, fun b hb => ?_⟩
  rcases List.mem_append.mp hb with z | z
  · rcases List.mem_append.mp z with z | z
    · exact g.ok b (List.mem_of_mem_take z)
    · exact hp.ok b z
  · exact g.ok b (List.mem_of_mem_drop z)
theorem Gd.cut {l : List Str} {n k : Nat} {a : Str} (g : Gd l n) (h : l[k]? = some a) : Gd (l.take k ++ l.drop (k + 1)) n := by
  have h1 := tot_cut h
  have h2 := g.tt
  refine ⟨by rw [tot_app]; omega, fun b hb => ?_⟩
  rcases List.mem_append.mp hb with z | z
  · exact g.ok b (List.mem_of_mem_take z)
  · exact g.ok b (List.mem_of_mem_drop z)
theorem Gd.ins {l p : List Str} {n d : Nat} (k : Nat) (g : Gd l n) (hp : Gd p d) : Gd (l.take k ++ p ++ l.drop k) (n + d) := by
  have h1 : tot (l.take k) + tot (l.drop k) = tot l := by rw [← tot_app, List.take_append_drop]
  have h2 := g.tt
  have h3 := hp.tt
  refine ⟨by rw [tot_app, tot_app]; omega, fun b hb => ?_⟩
  rcases List.mem_append.mp hb with z | z
  · rcases List.mem_append.mp z with z | z
    · exact g.ok b (List.mem_of_mem_take z)
    · exact hp.ok b z
  · exact g.ok b (List.mem_of_mem_drop z)
theorem Gd.join {y : Str} {s n : Nat} {l : List Str} (ey : TL.tl y = [s]) (hy : PyData.strOk y = true) (g : Gd l n) : (Txt.join y l).length ≤ n ∧ PyData.strOk (Txt.join y l) = true := ⟨Nat.le_trans (join_le ey l) g.tt, join_ok hy g.ok⟩
/-- a comprehension in a lambda: of the scope around only the names count -/
theorem blkOk_nm {N : List Str} {sc scope : Scope} {own : List (Str × Nat)} (sc' : Scope) (h : blkC N sc' scope own = true) (e : sc.names = sc'.names) : BlkOk N sc scope own := by
  have b := blkOk_by h
  exact ⟨b.kind, b.uniq, b.ix, fun y hy hf => by rw [e]; exact b.free y hy hf, b.own⟩
section
variable {K : PySem.W.Frag} {H : Hp} {Q : VK} {p q : Addr}
theorem cut_top (xs : List V) (i : Nat) (h : i ≤ xs.length) : cutV xs (some (i : Int)) none = xs.drop i := by
  unfold cutV
  rw [HT.sIx_nat, HT.sIx_none, Nat.min_eq_left h]
  exact List.take_of_length_le (by rw [List.length_drop]; exact Nat.le_refl _)
theorem n_to {xs : List Str} (i : Nat) {j : Int} (h : SqL K H p (xs.map V.str)) (hj : j = (i : Int)) (hi : i ≤ xs.length) (k : ∀ q H', H q = none → Same H H' → H' q = some (.lst ((xs.take i).map V.str)) → Q (.ref q) H') : rSlL K (.ref p) none (some j) H Q := by
  subst hj
  refine n_slL h fun q H' h1 h2 h3 => k q H' h1 h2 ?_
  rw [h3, cut_to _ _ (by rw [List.length_map]; exact hi), List.map_take]
theorem n_from {xs : List Str} (i : Nat) {j : Int} (h : SqL K H p (xs.map V.str)) (hj : j = (i : Int)) (hi : i ≤ xs.length) (k : ∀ q H', H q = none → Same H H' → H' q = some (.lst ((xs.drop i).map V.str)) → Q (.ref q) H') : rSlL K (.ref p) (some j) none H Q := by
  subst hj
  refine n_slL h fun q H' h1 h2 h3 => k q H' h1 h2 ?_
  rw [h3, cut_top _ _ (by rw [List.length_map]; exact hi), List.map_drop]
theorem n_plusS {xs ys : List Str} (h1 : H p = some (.lst (xs.map V.str))) (h2 : H q = some (.lst (ys.map V.str))) (h3 : xs.length + ys.length ≤ 100000) (k : ∀ r H', H r = none → Same H H' → H' r = some (.lst ((xs ++ ys).map V.str)) → Q (.ref r) H') : rPlus (.ref p) (.ref q) H Q :=
  n_plusL h1 h2 (by rw [List.length_map, List.length_map]; exact sz5 h3) fun r H' a b c => k r H' a b (by rw [c, List.map_append])
theorem x_joinG {a : Str} {ys : List Str} {n : Nat} {s : Nat} (ey : TL.tl a = [s]) (h : SqL K H p (ys.map V.str)) (g : Gd ys n) (hn : n ≤ 16777216) (k : Q (.str (Txt.join a ys)) H) : rJoin K (.str a) [.ref p] H Q := by
  refine x_joinL h ?_ k
  have h1 := sum_len ys
  have h2 := g.tt
  have h3 : a.length = 1 := by rw [TL.len_tl, ey]; rfl
  rw [h3]
  omega
theorem pickS (L : List Str) {z : Int} (h0 : 0 ≤ z) (h1 : z < L.length) : ∃ n, n ∈ L ∧ atI (L.map V.str) z = some (.str n) := by
  obtain ⟨j, rfl⟩ : ∃ j : Nat, z = j := ⟨z.toNat, by omega⟩
  have hj : j < L.length := by omega
  exact ⟨L[j], List.getElem_mem hj, atI_nat (by rw [List.getElem?_map, List.getElem?_eq_getElem hj]; rfl)⟩
theorem natOf {z : Int} {n : Nat} (h0 : 0 ≤ z) (h1 : z < (n : Int)) : ∃ i : Nat, z = (i : Int) ∧ i < n := ⟨z.toNat, by omega, by omega⟩
end
end LsX

set_option Elab.async false
set_option linter.all false
set_option autoImplicit false
set_option maxRecDepth 100000
set_option maxHeartbeats 4000000
/-! plain: daybooks, read and reckoned -/
namespace DbX
open PySem PySem.NumText PySem.Spec PyProof.Rows L2 Ch ChM TxX StrX NumX
def roomOk (z : Str) : Prop := z = "red" ∨ z = "blue"
instance (z : Str) : Decidable (roomOk z) := by unfold roomOk; exact inferInstance
abbrev big : Int := 1000000000000000000
/-- the number from 0 to m that a word writes -/
def numOf (m : Int) (w : Str) : Option Int := match pInt w with
  | some n => if 0 ≤ n ∧ n ≤ m then some n else none
  | none => none
/-- a number, or none that is known -/
def numU (w : Str) : Option (Option Int) := if w = "?" then some none else (numOf big w).map some
/-- an entry: a turn, or a row with its room, its need, its number -/
inductive En where
  | tn
  | row (b : Bool) (nd nu : Option Int)
def mkEn (r : Str) (nd : Option (Option Int)) (nu : Option (Option Int)) : Option En := match nd, nu with
  | some nd, some nu => some (.row (decide (r = "red")) nd nu)
  | _, _ => none
def rdEn (c : Int) (ws : List Str) : Option En :=
  if ws = [("turn" : Str)] then some .tn
  else match ws with
  | [r, a, x, b] => if roomOk r ∧ x = "carried" then mkEn r ((numOf c a).map some) (numU b) else none
  | [r, x, b] => if roomOk r ∧ x = "has" then mkEn r (some none) (numU b) else none
  | _ => none
/-- the number of chairs in the first row -/
def hdC (ws : List Str) : Option Int := match ws with
  | [x, a] => if x = "chairs" then numOf big a else none
  | _ => none
def badFrom (c : Int) : Nat → List (List Str) → Option Nat
  | _, [] => none
  | k, ws :: r => if k = 201 ∨ rdEn c ws = none then some k else badFrom c (k + 1) r
/-- the first bad row -/
def bad (L : List (List Str)) : Option Nat := match L with
  | [] => some 0
  | w0 :: r => match hdC w0 with
    | none => some 0
    | some c => badFrom c 1 r
/-- the rows of a text -/
def rowsOf (t : Str) : List (List Str) := (Txt.split t "\n").map wds
/-- a good daybook -/
def good (L : List (List Str)) (c : Int) (es : List En) : Prop := ∃ w0 r, L = w0 :: r ∧ hdC w0 = some c ∧ r.map (rdEn c) = es.map some ∧ r.length ≤ 200
theorem badFrom_none {c : Int} : ∀ {r : List (List Str)} {k : Nat}, k ≤ 201 → badFrom c k r = none → (∃ es : List En, r.map (rdEn c) = es.map some) ∧ k + r.length ≤ 201
  | [], k, hk, _ => ⟨⟨[], rfl⟩, by show k + 0 ≤ 201; omega⟩
  | ws :: r, k, hk, h => by
    unfold badFrom at h
    by_cases hc : k = 201 ∨ rdEn c ws = none
    · rw [if_pos hc] at h; cases h
    · rw [if_neg hc] at h
      have hk2 : k ≠ 201 := fun z => hc (.inl z)
      obtain ⟨⟨es, e⟩, hl⟩ := badFrom_none (r := r) (k := k + 1) (by omega) h
      cases hr : rdEn c ws with
      | none => exact absurd (.inr hr) hc
      | some en => exact ⟨⟨en :: es, by rw [List.map_cons, List.map_cons, hr, e]⟩, by rw [List.length_cons]; omega⟩
theorem numOf_rng {m : Int} {w : Str} {n : Int} (h : numOf m w = some n) : 0 ≤ n ∧ n ≤ m := by
  unfold numOf at h
  cases hp : pInt w with
  | none => rw [hp] at h; cases h
  | some k =>
    rw [hp] at h
    replace h : (if 0 ≤ k ∧ k ≤ m then some k else none) = some n := h
    by_cases hk : 0 ≤ k ∧ k ≤ m
    · rw [if_pos hk] at h; cases h; exact hk
    · rw [if_neg hk] at h; cases h
/-! ### the right numbers -/
def side (b v : Bool) : Bool := b != v
def stepQ (c p : Int) (s : Bool) (n : Int) : Int := moved c p (if s then 1 else -1) n
def numsF (c : Int) : Int → Bool → List En → List (Option Int)
  | _, _, [] => []
  | p, v, .tn :: r => none :: numsF c p (!v) r
  | p, v, .row b none _ :: r => some (if side b v then p else c - p) :: numsF c p v r
  | p, v, .row b (some n) _ :: r => some (if stepQ c p (side b v) n - p < 0 then -(stepQ c p (side b v) n - p) else stepQ c p (side b v) n - p) :: numsF c (stepQ c p (side b v) n) v r
theorem numsF_len (c : Int) : ∀ (es : List En) (p : Int) (v : Bool), (numsF c p v es).length = es.length
  | [], _, _ => rfl
  | .tn :: r, p, v => congrArg (· + 1) (numsF_len c r p (!v))
  | .row b none _ :: r, p, v => congrArg (· + 1) (numsF_len c r p v)
  | .row b (some n) _ :: r, p, v => congrArg (· + 1) (numsF_len c r _ v)
/-- place and side behind some entries -/
def plF (c : Int) : Int → Bool → List En → Int × Bool
  | p, v, [] => (p, v)
  | p, v, .tn :: r => plF c p (!v) r
  | p, v, .row b none _ :: r => plF c p v r
  | p, v, .row b (some n) _ :: r => plF c (stepQ c p (side b v) n) v r
theorem plF_app (c : Int) : ∀ (es fs : List En) (p : Int) (v : Bool), plF c p v (es ++ fs) = plF c (plF c p v es).1 (plF c p v es).2 fs
  | [], _, _, _ => rfl
  | .tn :: r, fs, p, v => plF_app c r fs p (!v)
  | .row b none _ :: r, fs, p, v => plF_app c r fs p v
  | .row b (some n) _ :: r, fs, p, v => plF_app c r fs _ v
theorem numsF_app (c : Int) : ∀ (es fs : List En) (p : Int) (v : Bool), numsF c p v (es ++ fs) = numsF c p v es ++ numsF c (plF c p v es).1 (plF c p v es).2 fs
  | [], _, _, _ => rfl
  | .tn :: r, fs, p, v => congrArg (_ :: ·) (numsF_app c r fs p (!v))
  | .row b none _ :: r, fs, p, v => congrArg (_ :: ·) (numsF_app c r fs p v)
  | .row b (some n) _ :: r, fs, p, v => congrArg (_ :: ·) (numsF_app c r fs _ v)
/-- a row's number -/
theorem numsF_row (c : Int) : ∀ {es : List En} {i : Nat} {b : Bool} {nd nu : Option Int} (p : Int) (v : Bool), es[i]? = some (.row b nd nu) → ∃ n, (numsF c p v es)[i]? = some (some n)
  | .tn :: r, i + 1, b, nd, nu, p, v, h => numsF_row c (es := r) (i := i) p (!v) h
  | .row b' none _ :: r, i + 1, b, nd, nu, p, v, h => numsF_row c (es := r) (i := i) p v h
  | .row b' (some n) _ :: r, i + 1, b, nd, nu, p, v, h => numsF_row c (es := r) (i := i) _ v h
  | .row b' none _ :: r, 0, b, nd, nu, p, v, h => ⟨_, rfl⟩
  | .row b' (some n) _ :: r, 0, b, nd, nu, p, v, h => ⟨_, rfl⟩
/-! ### words that write numbers, told another way -/
def isNum (m : Int) (w : Str) : Prop := w ≠ "" ∧ (TL.tl w).all isDig = true ∧ ¬ (1 < w.length ∧ (TL.tl w)[0]? = some 48) ∧ (digitsVal (TL.tl w) : Int) ≤ m
theorem core_dash {w : Str} (h : cutS w none (some 1) = "-") : ∃ r, TL.tl w = 45 :: r ∧ TL.tl (core w) = r := by
  have h1 := tl_cut1 w
  rw [h, dash_tl] at h1
  have h2 := tl_cut2 w
  unfold NumX.core
  rw [if_pos h, h2]
  cases e : TL.tl w with
  | nil => rw [e] at h1; cases h1
  | cons a r =>
    rw [e] at h1
    have : a = 45 := (List.cons.inj h1).1.symm
    exact ⟨r, by rw [this], rfl⟩
theorem core_self {w : Str} (h : (TL.tl w).all isDig = true) : core w = w := by
  unfold NumX.core
  rw [if_neg]
  intro e
  obtain ⟨r, e1, _⟩ := core_dash e
  rw [e1, List.all_cons] at h
  exact absurd h (by show ¬ ((decide (48 ≤ 45) && decide (45 ≤ 57)) && _) = true; simp)
theorem dv_pos : ∀ {l : List Nat}, (∀ c ∈ l, 48 ≤ c ∧ c ≤ 57) → l ≠ [] → (l.length = 1 ∨ l[0]? ≠ some 48) → l ≠ [48] → 0 < digitsVal l := by
  intro l hl hne h1 h2
  match l, hl, hne, h1, h2 with
  | a :: r, hl, _, h1, h2 =>
    have ha := hl a List.mem_cons_self
    have h48 : a ≠ 48 := by
      intro e
      subst e
      rcases h1 with h1 | h1
      · cases r with
        | nil => exact h2 rfl
        | cons _ _ => exact absurd h1 (by rw [List.length_cons, List.length_cons]; omega)
      · exact h1 rfl
    have gen : ∀ (r : List Nat) (k : Nat), 0 < k → 0 < r.foldl (fun n c => n * 10 + (c - 48)) k := by
      intro r
      induction r with
      | nil => exact fun k hk => hk
      | cons c r ih => exact fun k hk => ih _ (by show 0 < k * 10 + (c - 48); omega)
    exact gen r (0 * 10 + (a - 48)) (by omega)
theorem numOf_pos {m : Int} {w : Str} (h : isNum m w) : numOf m w = some (digitsVal (TL.tl w) : Int) := by
  obtain ⟨h1, h2, h3, h4⟩ := h
  have hc := core_self h2
  have hp : pInt w = some (digitsVal (TL.tl w) : Int) := by
    unfold pInt
    rw [hc]
    rw [if_neg (fun z => z.elim h1 fun e => by unfold dgOk at e; rw [hc, h2] at e; cases e), if_neg, if_pos rfl]
    rintro (z | z)
    · exact h3 z
    · have : (TL.tl w).all isDig = false := by rw [z]; decide +kernel
      rw [h2] at this
      cases this
  unfold numOf
  rw [hp]
  exact if_pos ⟨by omega, h4⟩
theorem numOf_neg {m : Int} {w : Str} (h : ¬ isNum m w) : numOf m w = none := by
  unfold numOf
  cases hp : pInt w with
  | none => rfl
  | some n =>
    refine if_neg fun hn => h ?_
    unfold pInt at hp
    by_cases c1 : core w = "" ∨ dgOk w = false
    · rw [if_pos c1] at hp; cases hp
    rw [if_neg c1] at hp
    by_cases c2 : (1 < (core w).length ∧ (TL.tl (core w))[0]? = some 48) ∨ w = "-0"
    · rw [if_pos c2] at hp; cases hp
    rw [if_neg c2] at hp
    have hd : dgOk w = true := by
      cases e : dgOk w
      · exact absurd (.inr e) c1
      · rfl
    by_cases c3 : core w = w
    · rw [if_pos c3, c3] at hp
      rw [c3] at c2
      unfold dgOk at hd
      rw [c3] at hd c1
      have := Option.some.inj hp
      exact ⟨fun z => c1 (.inl z), hd, fun z => c2 (.inl z), by omega⟩
    · rw [if_neg c3] at hp
      exfalso
      have hcut : cutS w none (some 1) = "-" := by
        by_cases e : cutS w none (some 1) = "-"
        · exact e
        · exact absurd (if_neg e) c3
      obtain ⟨r, e1, e2⟩ := core_dash hcut
      have hall := dg_all hd
      have hne : TL.tl (core w) ≠ [] := fun e => c1 (.inl (TL.ext_tl (e.trans rfl)))
      have hpos := dv_pos (l := TL.tl (core w)) (fun c hc => hall c hc) hne (by
        by_cases e : (TL.tl (core w)).length = 1
        · exact .inl e
        · refine .inr fun z => c2 (.inl ⟨?_, z⟩)
          rw [TL.len_tl]
          have : 0 < (TL.tl (core w)).length := List.length_pos_iff.mpr hne
          omega) (fun e => c2 (.inr (TL.ext_tl (by rw [e1, ← e2, e]; rfl))))
      have := Option.some.inj hp
      have := hn.1
      omega
end DbX

set_option Elab.async false
set_option linter.all false
set_option autoImplicit false
set_option maxRecDepth 100000
set_option maxHeartbeats 4000000
/-! plain: daybooks for all starts -/
namespace DbX
open PySem PySem.Spec PyProof.Rows L2 Ch ChM
def numAt (c p : Int) (v : Bool) (es : List En) (i : Nat) : Int := ((((numsF c p v es)[i]?).getD none).getD 0)
theorem stepQ_up {c p p' n : Int} {s : Bool} (h : p ≤ p') : stepQ c p s n ≤ stepQ c p' s n := by
  unfold stepQ moved
  cases s
  · rw [if_neg (by decide), if_pos (by decide), if_neg (by decide), if_pos (by decide)]
    unfold mn
    split <;> split <;> omega
  · rw [if_pos (by decide), if_pos (by decide)]
    unfold mx
    split <;> split <;> omega
theorem num_mono (c : Int) : ∀ (es : List En) (i : Nat) (v : Bool), (∃ b nd nu, es[i]? = some (.row b nd nu)) → (∀ p p', p ≤ p' → numAt c p v es i ≤ numAt c p' v es i) ∨ ∀ p p', p ≤ p' → numAt c p' v es i ≤ numAt c p v es i
  | [], i, v, ⟨b, nd, nu, h⟩ => nomatch h
  | .tn :: r, 0, v, ⟨b, nd, nu, h⟩ => nomatch h
  | .tn :: r, i + 1, v, h => num_mono c r i (!v) h
  | .row b none _ :: r, i + 1, v, h => num_mono c r i v h
  | .row b (some n) _ :: r, i + 1, v, h => (num_mono c r i v h).imp (fun m p p' hp => m _ _ (stepQ_up hp)) fun m p p' hp => m _ _ (stepQ_up hp)
  | .row b none _ :: r, 0, v, _ => by
    cases hs : side b v
    · right
      intro p p' hp
      show (if side b v then p' else c - p') ≤ (if side b v then p else c - p)
      rw [hs, if_neg Bool.false_ne_true, if_neg Bool.false_ne_true]
      omega
    · left
      intro p p' hp
      show (if side b v then p else c - p) ≤ (if side b v then p' else c - p')
      rw [hs, if_pos rfl, if_pos rfl]
      exact hp
  | .row b (some n) _ :: r, 0, v, _ => by
    have key : ∀ p, numAt c p v (.row b (some n) none :: r) 0 = if stepQ c p (side b v) n - p < 0 then -(stepQ c p (side b v) n - p) else stepQ c p (side b v) n - p := fun p => rfl
    show (∀ p p', p ≤ p' → numAt c p v (.row b (some n) none :: r) 0 ≤ numAt c p' v (.row b (some n) none :: r) 0) ∨ ∀ p p', p ≤ p' → numAt c p' v (.row b (some n) none :: r) 0 ≤ numAt c p v (.row b (some n) none :: r) 0
    cases hs : side b v
    · left
      intro p p' hp
      rw [key, key, hs]
      unfold stepQ moved
      rw [if_neg (show ¬ (if false = true then (1 : Int) else -1) = 1 by decide), if_pos (show (if false = true then (1 : Int) else -1) = -1 by decide), if_neg (show ¬ (if false = true then (1 : Int) else -1) = 1 by decide), if_pos (show (if false = true then (1 : Int) else -1) = -1 by decide)]
      unfold mn
      split <;> split <;> split <;> split <;> omega
    · right
      intro p p' hp
      rw [key, key, hs]
      unfold stepQ moved
      rw [if_pos (show (if true = true then (1 : Int) else -1) = 1 by decide), if_pos (show (if true = true then (1 : Int) else -1) = 1 by decide)]
      unfold mx
      split <;> split <;> split <;> split <;> omega
/-! ### the first wrong row -/
def isWrong (e : En) (n : Option Int) : Bool := match e with
  | .row _ _ (some k) => decide (some k ≠ n)
  | _ => false
def firstW : Nat → List En → List (Option Int) → Option Nat
  | k, e :: es, n :: ns => if isWrong e n = true then some k else firstW (k + 1) es ns
  | _, _, _ => none
theorem firstW_none : ∀ {es : List En} {ns : List (Option Int)} {k : Nat}, es.length = ns.length → (firstW k es ns = none ↔ ∀ (j : Nat) (e : En) (n : Option Int), es[j]? = some e → ns[j]? = some n → isWrong e n = false)
  | [], [], k, _ => ⟨fun _ j e n h => (nomatch h), fun _ => rfl⟩
  | [], _ :: _, _, h => nomatch h
  | _ :: _, [], _, h => nomatch h
  | e :: es, n :: ns, k, h => by
    have ih := firstW_none (es := es) (ns := ns) (k := k + 1) (Nat.succ.inj h)
    show (if isWrong e n = true then some k else firstW (k + 1) es ns) = none ↔ _
    by_cases hw : isWrong e n = true
    · rw [if_pos hw]
      refine ⟨fun z => (nomatch z), fun z => ?_⟩
      have := z 0 e n rfl rfl
      rw [hw] at this
      cases this
    · rw [if_neg hw, ih]
      refine ⟨fun z j e' n' h1 h2 => ?_, fun z j e' n' h1 h2 => z (j + 1) e' n' h1 h2⟩
      cases j with
      | zero => cases h1; cases h2; exact Bool.eq_false_iff.mpr hw
      | succ j => exact z j e' n' h1 h2
/-- a row with the right number -/
def fillE (e : En) (n : Option Int) : En := match e with
  | .tn => .tn
  | .row b nd _ => .row b nd n
/-- all rows -/
def fillL (c : Int) (es : List En) (x : Int) : List En := List.zipWith fillE es (numsF c x false es)
def wrongOf (c : Int) (es : List En) (x : Int) : Option Nat := firstW 1 es (numsF c x false es)
theorem fill_snoc {c x p : Int} {v : Bool} {es : List En} {i : Nat} {en : En} {q : Option Int} (hpv : plF c x false (es.take i) = (p, v)) (hen : es[i]? = some en) (hq : numsF c p v [en] = [q]) :
    List.zipWith fillE (es.take (i + 1)) (numsF c x false (es.take (i + 1))) = List.zipWith fillE (es.take i) (numsF c x false (es.take i)) ++ [fillE en q] := by
  have htk : es.take (i + 1) = es.take i ++ [en] := by rw [List.take_add_one, hen]; rfl
  rw [htk, numsF_app, hpv, hq, List.zipWith_append (by rw [numsF_len])]
  rfl
end DbX

set_option Elab.async false
set_option linter.all false
set_option autoImplicit false
set_option maxRecDepth 100000
set_option pp.maxSteps 500
set_option maxHeartbeats 4000000


namespace K46
open PySem PySem.Spec PyProof.Rows L2 He ChH Ch ChM
local macro_rules | `(tactic| walk_at "x1") => `(tactic| first
  | ((with_reducible apply x_var); exact rfl)
  | with_reducible refine x_c ?_
  | with_reducible refine x_op ?_
  | with_reducible refine x_seq ?_
  | with_reducible refine x_asg ?_
  | with_reducible refine x_gname ?_
  | with_reducible refine x_cons ?_
  | with_reducible refine x_nil ?_
  | with_reducible refine x_fld ?_
  | with_reducible refine x_ret ?_
  | with_reducible refine x_ifS ?_
  | with_reducible refine x_test ?_
  | with_reducible refine x_ex ?_
  | with_reducible refine x_call ?_
  | with_reducible refine x_mk ?_
  | with_reducible refine x_meth ?_
  | with_reducible refine x_prop ?_
  | with_reducible refine x_cb ?_
  | with_reducible refine x_tup ?_
  | with_reducible refine x_lst ?_
  | with_reducible refine x_drop ?_
  | with_reducible refine x_for ?_
  | with_reducible refine x_iL ?_
  | with_reducible refine x_iT ?_
  | with_reducible refine x_iE ?_
  | with_reducible refine x_iU ?_
  | with_reducible refine x_iR1 ?_
  | with_reducible refine x_iR2 ?_
  | with_reducible refine x_gcons ?_
  | with_reducible refine x_gnil ?_
  | with_reducible refine x_par ?_
  | with_reducible refine x_lstRg ?_
  | with_reducible refine x_rg1 ?_
  | with_reducible refine x_rg1At ?_
  | with_reducible refine x_par3 ?_
  | with_reducible refine x_bm ?_
  | with_reducible refine x_bm0 ?_
  | with_reducible refine x_gSub ?_
  | with_reducible refine x_lc ?_
  | with_reducible refine x_yes ?_
  | with_reducible refine x_setf ?_
  | with_reducible refine x_next ?_
  | with_reducible refine x_B ?_
  | with_reducible refine x_and ?_
  | with_reducible refine x_or ?_
  | with_reducible refine x_not ?_
  | with_reducible refine x_andV ?_
  | with_reducible refine x_orV ?_
  | with_reducible refine x_notV ?_
  | with_reducible refine x_ifE ?_
  | with_reducible refine x_chain ?_
  | with_reducible refine x_chain3 ?_
  | with_reducible refine x_un ?_
  | with_reducible refine x_isNe ?_
  | with_reducible refine x_notNe ?_
  | with_reducible refine x_starA ?_
  | with_reducible refine x_plusI ?_
  | with_reducible refine x_minus ?_
  | with_reducible refine x_lt ?_
  | with_reducible refine x_le ?_
  | with_reducible refine x_gt ?_
  | with_reducible refine x_ge ?_
  | with_reducible refine x_eqI ?_
  | with_reducible refine x_neI ?_
  | with_reducible refine x_eqS ?_
  | with_reducible refine x_eqB ?_
  | with_reducible refine x_neB ?_
  | with_reducible refine x_int ?_
  | with_reducible refine x_intB ?_
  | with_reducible refine x_max2 ?_
  | with_reducible refine x_min2 ?_
  | with_reducible refine x_max3 ?_
  | with_reducible refine x_abs ?_
  | with_reducible refine x_neg ?_
  | with_reducible refine x_isi_ii ?_
  | with_reducible refine x_isi_ib ?_
  | with_reducible refine x_T ?_
  | with_reducible refine x_nT ?_
  | with_reducible refine x_nF ?_
  | with_reducible refine x_F ?_)
local macro_rules | `(tactic| walk_at "x") => `(tactic| repeat walk_at "x1")

section
variable {P : Program} {w : World} {K : PySem.W.Frag} {mg : Str → Option Value} {base : Heap}
def spNum : Sp := fun vs H Q _ => ∃ n : Int, vs = [.int n] ∧ Q (.bl (decide (0 ≤ n ∧ n ≤ 1000000000000000000))) H
theorem ok_is_number (W : Wd K mg) : FnR P w K mg base CX0 1 (ga K "is_number") spNum := by
  refine (def_ok W.F_is_number sc_is_number (fun _ _ _ _ _ _ us hl => match us, hl with | [_], _ => rfl) (fun vs H Q E ⟨n, e, _⟩ => by rw [e]; rfl) fun cdv A outer s H vs Q E hr ⟨n, e, k⟩ => ?_).2
  subst e
  refine ⟨_, PSs.nox (pss_one (ps_ret (pe_and (pe_callB (c_isiK K) (by rfl) W.f_isinstance (by decide +kernel) (pa_cons (pv 0) (pa_cons (pe_bltn (v := .ty "int") (by rfl) W.f_int (by decide +kernel) rfl) pa_nil))) (pe_and (pe_not (pe_callB (c_isiK K) (by rfl) W.f_isinstance (by decide +kernel) (pa_cons (pv 0) (pa_cons (pe_bltn (v := .ty "bool") (by rfl) W.f_bool (by decide +kernel) rfl) pa_nil)))) (pe_one (pe_chain op_leI op_leI pe_int (pv 0) (pe_cv W.g_Plan W.r_Plan W.v_Plan_MAX_CHAIRS rfl))))))), ?_⟩
  walk_at "x"
  refine x_ifd (fun h => ?_) fun h => ?_
  · walk_at "x"
    rw [show decide (n ≤ 1000000000000000000) = decide (0 ≤ n ∧ n ≤ 1000000000000000000) by simp [h]]
    exact k
  · rw [show decide (0 ≤ n ∧ n ≤ 1000000000000000000) = false by simp [h]] at k
    exact k
def spStep : Sp := fun vs H Q _ => ∃ (p : Addr) (s : Stp), vs = [.ref p] ∧ H p = some (.tup (stepV s)) ∧ goodS s ∧ ∀ H', Same H H' → Q (.bl true) H'
theorem ok_is_step (W : Wd K mg) : FnR P w K mg base CX0 2 (ga K "is_step") spStep := by
  refine (def_ok W.F_is_step sc_is_step (fun _ _ _ _ _ _ us hl => match us, hl with | [_], _ => rfl) (fun vs H Q E ⟨p, s, e, _⟩ => by rw [e]; rfl) fun cdv A outer s H vs Q E hr ⟨p, st, e, hp, hg, k⟩ => ?_).2
  subst e
  refine ⟨_, PSs.nox (pss_cons (ps_if (pt_cmpR (op_eqK K hr.units) (pv 0) (pe_tup (pa_cons (pe_gs W.t_TURN rfl) pa_nil)) (nomark _)) (pss_one (ps_ret pe_bl)) pss_nil) (pss_one (ps_ret (pe_and (pe_cmpR (op_eqK K hr.units) (pe_callB (c_lenK K) (by rfl) W.f_len (by decide +kernel) (pa_cons (pv 0) pa_nil)) pe_int (nomark _)) (pe_and (pe_cmpR (op_inK K) (pe_ix (ix_K K) (pv 0) pe_int (fun _ _ => rfl)) (pe_tup (pa_cons (pe_gs W.t_RED rfl) (pa_cons (pe_gs W.t_BLUE rfl) pa_nil))) rfl) (pe_one (pe_callR (ok_is_number W) (hr.mono (by decide)) W.g_is_number W.k_is_number pass0 rfl (pa_cons (pe_ix (ix_K K) (pv 0) pe_int (fun _ _ => rfl)) pa_nil)))))))), ?_⟩
  walk_at "x"
  refine ⟨sz rfl, fun t ht => eq_turn (up hp ht) upd_same ?_⟩
  walk_at "x"
  refine x_ifd (fun e => ?_) fun e => ?_
  · walk_at "x"
    exact k _ (Same.new ht)
  · walk_at "x"
    cases st with
    | turn => exact absurd rfl e
    | mt b n =>
      obtain ⟨n0, n1⟩ := hg b n rfl
      refine x_lenT (SqT.of (up hp ht)) ?_
      walk_at "x"
      refine x_T ?_
      walk_at "x"
      refine x_ixT (SqT.of (up hp ht)) (i := 0) rfl ?_
      walk_at "x"
      refine ⟨sz rfl, fun u hu => x_inT (SqT.of upd_same) rfl rfl ?_⟩
      rw [show inV (V.str (roomS b)) [V.str "red", V.str "blue"] = true by cases b <;> decide +kernel]
      walk_at "x"
      refine x_ixT (SqT.of (up (up hp ht) hu)) (i := 1) rfl ?_
      walk_at "x"
      refine ⟨n, rfl, ?_⟩
      rw [decide_eq_true ⟨n0, n1⟩]
      exact k _ ((Same.new ht).trans (Same.new hu))
/-! ### Plan -/
abbrev CP (K : PySem.W.Frag) : Addr := ga K "Plan"
/-- __init__ on the tuple of the steps -/
def spPI (K : PySem.W.Frag) : Sp := fun vs H Q _ => ∃ (x t dx : Addr) (ps : List V) (l : List Stp), vs = [.ref x, .ref t] ∧ H x = some (.ins (CP K) dx []) ∧ H t = some (.tup ps) ∧ StepsAt H ps l ∧ goodP l ∧
  ∀ H', (∀ b o, b ≠ x → H b = some o → H' b = some o) → H' x = some (.ins (CP K) dx [("parts", .ref t)]) → Q .non H'
theorem ok_Plan_init (W : Wd K mg) : FnR P w K mg base CX0 3 (ma K (ga K "Plan") "__init__") (fun vs H Q E => ∃ ws rest, vs = ws ++ rest ∧ ws.length = ["self"].length ∧ rest.length ≤ sizeLine ∧ ∀ p, H p = none → spPI K (ws ++ [V.ref p]) (upd H p (.tup rest)) Q E) := by
  refine star_ok (ps := ["self"]) (pv := "steps") (sp := spPI K) W.F_Plan_init sc_Plan_init StX.cxUp_none (fun _ _ _ _ _ _ us rest hl => match us, rest, hl with | [_], [], _ => rfl | [_], _ :: _, _ => rfl) fun cdv A outer s H vs Q E hr ⟨x, t, dx, ps, l, e, hx, ht, hs, hg, k⟩ => ?_
  subst e
  have hl : ps.length = l.length := pr_len hs
  have h60 := hg.2
  refine ⟨_, PSs.nox (pss_cons (ps_for PassesOwn.never rfl (pi_enumTK K W.f_enumerate (pa_cons (pv 1) pa_nil)) (pg_tupK (n := 2) K rfl (pgs_cons (pg_name (i := 2) sc_Plan_init.nd rfl (Or.inl rfl)) (pgs_cons (pg_name (i := 3) sc_Plan_init.nd rfl (Or.inl rfl)) pgs_nil))) (pss_one (ps_if (PW.pt (pw_or (pt_cmpR (op_eqK K hr.units) (pv 2) (pe_cv W.g_Plan W.r_Plan W.v_Plan_MAX_STEPS rfl) (nomark _)) (pw_or1 (pt_not (pt_val (pe_callR (ok_is_step W) (hr.mono (by decide)) W.g_is_step W.k_is_step pass0 rfl (pa_cons (pv 3) pa_nil))))))) (pss_one ps_never) pss_nil))) (pss_one (ps_fldK K (pv 0) (pv 1)))), ?_⟩
  walk_at "x"
  refine x_iUAt (SqT.of ht) (x_loop walk_enumT (fun i σ H2 => (∃ a b, σ = [some (.ref x), some (.ref t), a, b]) ∧ Same H H2) ⟨⟨_, _, rfl⟩, Same.refl H⟩ (fun i σ H2 _ ⟨_, s2⟩ => SqT.of (s2 _ _ ht)) ?_ ?_)
  · rintro i y σ H2 H3 hi ⟨⟨a, b, rfl⟩, s2⟩ ⟨T, v1, v2, rfl, hT, rfl, e1, e2⟩
    cases e1
    have hi' : i < 60 := by omega
    obtain ⟨st, hst, p, rfl, hp⟩ := pr_at hs e2
    refine x_gTup upd_same rfl ?_
    walk_at "x"
    refine x_ifd (fun e => ?_) fun e => ?_
    · omega
    walk_at "x"
    have hp2 := up (u := .tup [.int (i : Nat), .ref p]) (s2 _ _ hp) hT
    refine ⟨p, st, rfl, hp2, hg.1 st (List.mem_of_getElem? hst), fun H4 s4 => ?_⟩
    walk_at "x"
    exact ⟨⟨_, _, rfl⟩, (s2.trans (Same.new hT)).trans s4⟩
  · rintro σ H2 ⟨⟨a, b, rfl⟩, s2⟩
    walk_at "x"
    refine x_setAt (s2 _ _ hx) W.c_Plan W.n_Plan_parts (by decide) ?_
    refine k _ (fun b o hb e => by rw [upd_ne hb]; exact s2 _ _ e) ?_
    rw [upd_same]
    rfl
/-- Plan(..) made -/
theorem mk_plan {vs : List V} {l : List Stp} {H : Hp} {kk : Addr → Hp → Prop} {E : XK} (hs : StepsAt H vs l) (hg : goodP l) (k : ∀ x H', H x = none → Same H H' → PlanAt (CP K) H' x l → kk x H') :
    ∀ x dx, H x = none → H dx = none → dx ≠ x → ∃ ws rest, V.ref x :: vs = ws ++ rest ∧ ws.length = ["self"].length ∧ rest.length ≤ sizeLine ∧
      ∀ p, (upd (upd H dx (.own x)) x (.ins (CP K) dx [])) p = none → spPI K (ws ++ [V.ref p]) (upd (upd (upd H dx (.own x)) x (.ins (CP K) dx [])) p (.tup rest)) (fun v H2 => v = .non ∧ kk x H2) E := by
  intro x dx hx hdx hne
  have hl : vs.length = l.length := pr_len hs
  have h60 := hg.2
  refine ⟨[.ref x], vs, rfl, rfl, sz5 (by omega), fun p hp => ?_⟩
  have s1 : Same H (upd (upd H dx (.own x)) x (.ins (CP K) dx [])) := Same.mut (Same.new hdx) hx
  have s2 := s1.trans (Same.new (o := .tup vs) hp)
  refine ⟨x, p, dx, vs, l, rfl, up upd_same hp, upd_same, hs.mono s2, hg, fun H' kp hx' => ⟨rfl, ?_⟩⟩
  have hpx : p ≠ x := by
    intro e
    rw [e, upd_same] at hp
    cases hp
  refine k x H' hx (fun b o e => kp b o (ne_of_none e hx) (s2 b o e)) ⟨dx, p, vs, hx', kp p _ hpx upd_same, ?_⟩
  refine pr_im ?_ (hs.mono s2)
  rintro v st ⟨q, e1, e2⟩
  refine ⟨q, e1, kp q _ ?_ e2⟩
  rintro rfl
  rw [upd_ne hpx.symm, upd_same] at e2
  cases e2
end
end K46

set_option Elab.async false
set_option linter.all false
set_option autoImplicit false
set_option maxRecDepth 100000
set_option pp.maxSteps 500
set_option maxHeartbeats 4000000
namespace K46
open PySem PySem.Spec PyProof.Rows L2 He ChH Ch ChM
local macro_rules | `(tactic| walk_at "x1") => `(tactic| first
  | ((with_reducible apply x_var); exact rfl)
  | with_reducible refine x_c ?_
  | with_reducible refine x_op ?_
  | with_reducible refine x_seq ?_
  | with_reducible refine x_asg ?_
  | with_reducible refine x_gname ?_
  | with_reducible refine x_cons ?_
  | with_reducible refine x_nil ?_
  | with_reducible refine x_fld ?_
  | with_reducible refine x_ret ?_
  | with_reducible refine x_ifS ?_
  | with_reducible refine x_test ?_
  | with_reducible refine x_ex ?_
  | with_reducible refine x_call ?_
  | with_reducible refine x_mk ?_
  | with_reducible refine x_meth ?_
  | with_reducible refine x_prop ?_
  | with_reducible refine x_cb ?_
  | with_reducible refine x_tup ?_
  | with_reducible refine x_lst ?_
  | with_reducible refine x_drop ?_
  | with_reducible refine x_for ?_
  | with_reducible refine x_iL ?_
  | with_reducible refine x_iT ?_
  | with_reducible refine x_iE ?_
  | with_reducible refine x_iU ?_
  | with_reducible refine x_iR1 ?_
  | with_reducible refine x_iR2 ?_
  | with_reducible refine x_gcons ?_
  | with_reducible refine x_gnil ?_
  | with_reducible refine x_par ?_
  | with_reducible refine x_lstRg ?_
  | with_reducible refine x_rg1 ?_
  | with_reducible refine x_rg1At ?_
  | with_reducible refine x_par3 ?_
  | with_reducible refine x_bm ?_
  | with_reducible refine x_bm0 ?_
  | with_reducible refine x_gSub ?_
  | with_reducible refine x_lc ?_
  | with_reducible refine x_yes ?_
  | with_reducible refine x_setf ?_
  | with_reducible refine x_next ?_
  | with_reducible refine x_B ?_
  | with_reducible refine x_and ?_
  | with_reducible refine x_or ?_
  | with_reducible refine x_not ?_
  | with_reducible refine x_andV ?_
  | with_reducible refine x_orV ?_
  | with_reducible refine x_notV ?_
  | with_reducible refine x_ifE ?_
  | with_reducible refine x_chain ?_
  | with_reducible refine x_chain3 ?_
  | with_reducible refine x_un ?_
  | with_reducible refine x_isNe ?_
  | with_reducible refine x_notNe ?_
  | with_reducible refine x_starA ?_
  | with_reducible refine x_plusI ?_
  | with_reducible refine x_minus ?_
  | with_reducible refine x_lt ?_
  | with_reducible refine x_le ?_
  | with_reducible refine x_gt ?_
  | with_reducible refine x_ge ?_
  | with_reducible refine x_eqI ?_
  | with_reducible refine x_neI ?_
  | with_reducible refine x_eqS ?_
  | with_reducible refine x_eqB ?_
  | with_reducible refine x_neB ?_
  | with_reducible refine x_int ?_
  | with_reducible refine x_intB ?_
  | with_reducible refine x_max2 ?_
  | with_reducible refine x_min2 ?_
  | with_reducible refine x_max3 ?_
  | with_reducible refine x_abs ?_
  | with_reducible refine x_neg ?_
  | with_reducible refine x_isi_ii ?_
  | with_reducible refine x_isi_ib ?_
  | with_reducible refine x_T ?_
  | with_reducible refine x_nT ?_
  | with_reducible refine x_nF ?_
  | with_reducible refine x_F ?_)
local macro_rules | `(tactic| walk_at "x") => `(tactic| repeat walk_at "x1")

section
variable {P : Program} {w : World} {K : PySem.W.Frag} {mg : Str → Option Value} {base : Heap}
theorem kb_InvalidPlan (W : Wd K mg) : ∀ (s : Shared) (u v : Value), BindsTo s (fdOf K (ma K (ga K "InvalidPlan") "__init__")) ⟨[u], [("index", v)]⟩ [("self", u), ("index", v)] := kbind1 (k := "index") W.F_InvalidPlan_init (fun _ _ _ _ _ _ _ _ => rfl)
theorem okx_InvalidPlan_init (W : Wd K mg) : FnOk P w K mg base CX0 2 (ma K (ga K "InvalidPlan") "__init__") (fdOf K (ma K (ga K "InvalidPlan") "__init__")) ["self", "index"] (spXI "index" (ga K "InvalidPlan")) := by
  refine W.F_InvalidPlan_init.ok sc_InvalidPlan_init (fun vs H Q E ⟨a, v, e, _⟩ => by rw [e]; rfl) fun cdv A outer s H vs Q E hr ⟨a, v, e, ha, k⟩ => ?_
  subst e
  refine ⟨_, PSs.nox (pss_cons (ps_expr (pe_cinit rfl W.g_ChairError W.r_ChairError W.vi_ChairError (pa_cons (pv 0) (pa_cons pe_str pa_nil)))) (pss_one (ps_ost (pv 0) (pv 1)))), ?_⟩
  walk_at "x"
  refine x_vei ?_
  walk_at "x"
  refine ⟨a, _, _, rfl, (by show 1 ≤ 1000; decide), (W.ox_InvalidPlan).T, ha, ?_⟩
  with_reducible refine x_ost ?_
  walk_at "x"
  exact ⟨a, _, rfl, (W.ox_InvalidPlan).T, W.xn_InvalidPlan, .inl ⟨ha, fun dx h1 h2 => k dx h1 h2⟩⟩
theorem kb_DaybookError (W : Wd K mg) : ∀ (s : Shared) (u v : Value), BindsTo s (fdOf K (ma K (ga K "DaybookError") "__init__")) ⟨[u], [("row", v)]⟩ [("self", u), ("row", v)] := kbind1 (k := "row") W.F_DaybookError_init (fun _ _ _ _ _ _ _ _ => rfl)
theorem okx_DaybookError_init (W : Wd K mg) : FnOk P w K mg base CX0 2 (ma K (ga K "DaybookError") "__init__") (fdOf K (ma K (ga K "DaybookError") "__init__")) ["self", "row"] (spXI "row" (ga K "DaybookError")) := by
  refine W.F_DaybookError_init.ok sc_DaybookError_init (fun vs H Q E ⟨a, v, e, _⟩ => by rw [e]; rfl) fun cdv A outer s H vs Q E hr ⟨a, v, e, ha, k⟩ => ?_
  subst e
  refine ⟨_, PSs.nox (pss_cons (ps_expr (pe_cinit rfl W.g_ChairError W.r_ChairError W.vi_ChairError (pa_cons (pv 0) (pa_cons pe_str pa_nil)))) (pss_one (ps_ost (pv 0) (pv 1)))), ?_⟩
  walk_at "x"
  refine x_vei ?_
  walk_at "x"
  refine ⟨a, _, _, rfl, (by show 1 ≤ 1000; decide), (W.ox_DaybookError).T, ha, ?_⟩
  with_reducible refine x_ost ?_
  walk_at "x"
  exact ⟨a, _, rfl, (W.ox_DaybookError).T, W.xn_DaybookError, .inl ⟨ha, fun dx h1 h2 => k dx h1 h2⟩⟩
def spVN (K : PySem.W.Frag) : Sp := fun vs H Q E => ∃ a b c : Int, vs = [.int a, .int b, .int c] ∧ (b ≤ a ∧ a ≤ c → Q .non H) ∧ (¬ (b ≤ a ∧ a ≤ c) → E (.ref (ga K "InvalidNumber")) none H)
theorem okx_validate_number (W : Wd K mg) : FnR P w K mg base (CX P w) 1 (ga K "validate_number") (spVN K) := by
  refine (def_ok W.F_validate_number sc_validate_number (fun _ _ _ _ _ _ us hl => match us, hl with | [_, _, _], _ => rfl) (fun vs H Q E ⟨a, b, c, e, _⟩ => by rw [e]; rfl) fun cdv A outer s H vs Q E hr ⟨a, b, c, e, k1, k2⟩ => ?_).2
  subst e
  refine ⟨_, (pss_one (ps_if (pt_not (pt_chain op_leI op_leI (pv 1) (pv 0) (pv 2))) (pss_one (ps_raise rfl (takes_of rfl rfl rfl rfl) (pmk_own PySem.F.excBase_ValueError (W.x_InvalidNumber).1 W.g_InvalidNumber (W.x_InvalidNumber).2.1 (raises_own (W.x_InvalidNumber).2.2.1 (W.x_InvalidNumber).2.2.2) rfl))) pss_nil)), ?_⟩
  walk_at "x"
  refine x_ifd (fun h1 => ?_) fun h1 => ?_
  · walk_at "x"
    refine x_ifnd (fun h2 => ?_) fun h2 => ?_
    · exact k2 fun z => h2 z.2
    · exact k1 ⟨h1, h2⟩
  · walk_at "x"
    exact k2 fun z => h1 z.1
/-- the first step that needs too many -/
def badAt (c : Int) (l : List Stp) (i : Nat) : Prop := (∃ b n, l[i]? = some (.mt b n) ∧ c < n) ∧ ∀ j, j < i → ∀ b n, l[j]? = some (.mt b n) → n ≤ c
theorem sides_at : ∀ (l : List Stp) (s : Int) (i : Nat) (p : Int × Int), (sides s l)[i]? = some p → (l[i]? = some .turn ∧ p = (0, 0)) ∨ ∃ b n, l[i]? = some (.mt b n) ∧ p.2 = n
  | [], _, _, _, h => nomatch h
  | .turn :: r, s, 0, p, h => .inl ⟨rfl, (Option.some.inj h).symm⟩
  | .mt b n :: r, s, 0, p, h => .inr ⟨b, n, rfl, by cases h; rfl⟩
  | .turn :: r, s, i + 1, p, h => sides_at r (0 - s) i p h
  | .mt b n :: r, s, i + 1, p, h => sides_at r s i p h
theorem badAt_ex {c : Int} : ∀ (l : List Stp), (∀ b n, Stp.mt b n ∈ l → 0 ≤ n) → ¬ fitsS c l → ∃ i, badAt c l i
  | [], _, h => absurd (show fitsS c [] from fun b n hm => nomatch hm) h
  | .turn :: r, hg, h => by
    obtain ⟨i, ⟨b, n, e1, e2⟩, e3⟩ := badAt_ex r (fun b n hm => hg b n (List.mem_cons_of_mem _ hm)) fun z => h fun b n hm => by
      rcases List.mem_cons.mp hm with q | q
      · cases q
      · exact z b n q
    refine ⟨i + 1, ⟨b, n, e1, e2⟩, fun j hj b n hb => ?_⟩
    cases j with
    | zero => cases hb
    | succ j => exact e3 j (by omega) b n hb
  | .mt b0 n0 :: r, hg, h => by
    by_cases q : n0 ≤ c
    · obtain ⟨i, ⟨b, n, e1, e2⟩, e3⟩ := badAt_ex r (fun b n hm => hg b n (List.mem_cons_of_mem _ hm)) fun z => h fun b n hm => by
        rcases List.mem_cons.mp hm with y | y
        · cases y
          exact ⟨hg b0 n0 List.mem_cons_self, q⟩
        · exact z b n y
      refine ⟨i + 1, ⟨b, n, e1, e2⟩, fun j hj b n hb => ?_⟩
      cases j with
      | zero => cases hb; exact q
      | succ j => exact e3 j (by omega) b n hb
    · exact ⟨0, ⟨b0, n0, rfl, by omega⟩, fun j hj => by omega⟩
end
end K46

set_option Elab.async false
set_option linter.all false
set_option autoImplicit false
set_option maxRecDepth 100000
set_option pp.maxSteps 500
set_option maxHeartbeats 4000000
namespace K46
open PySem PySem.Spec PyProof.Rows L2 He ChH Ch ChM
local macro_rules | `(tactic| walk_at "x1") => `(tactic| first
  | ((with_reducible apply x_var); exact rfl)
  | with_reducible refine x_c ?_
  | with_reducible refine x_op ?_
  | with_reducible refine x_seq ?_
  | with_reducible refine x_asg ?_
  | with_reducible refine x_gname ?_
  | with_reducible refine x_cons ?_
  | with_reducible refine x_nil ?_
  | with_reducible refine x_fld ?_
  | with_reducible refine x_ret ?_
  | with_reducible refine x_ifS ?_
  | with_reducible refine x_test ?_
  | with_reducible refine x_ex ?_
  | with_reducible refine x_call ?_
  | with_reducible refine x_mk ?_
  | with_reducible refine x_meth ?_
  | with_reducible refine x_prop ?_
  | with_reducible refine x_cb ?_
  | with_reducible refine x_tup ?_
  | with_reducible refine x_lst ?_
  | with_reducible refine x_drop ?_
  | with_reducible refine x_for ?_
  | with_reducible refine x_iL ?_
  | with_reducible refine x_iT ?_
  | with_reducible refine x_iE ?_
  | with_reducible refine x_iU ?_
  | with_reducible refine x_iR1 ?_
  | with_reducible refine x_iR2 ?_
  | with_reducible refine x_gcons ?_
  | with_reducible refine x_gnil ?_
  | with_reducible refine x_par ?_
  | with_reducible refine x_lstRg ?_
  | with_reducible refine x_rg1 ?_
  | with_reducible refine x_rg1At ?_
  | with_reducible refine x_par3 ?_
  | with_reducible refine x_bm ?_
  | with_reducible refine x_bm0 ?_
  | with_reducible refine x_gSub ?_
  | with_reducible refine x_lc ?_
  | with_reducible refine x_yes ?_
  | with_reducible refine x_setf ?_
  | with_reducible refine x_next ?_
  | with_reducible refine x_B ?_
  | with_reducible refine x_and ?_
  | with_reducible refine x_or ?_
  | with_reducible refine x_not ?_
  | with_reducible refine x_andV ?_
  | with_reducible refine x_orV ?_
  | with_reducible refine x_notV ?_
  | with_reducible refine x_ifE ?_
  | with_reducible refine x_chain ?_
  | with_reducible refine x_chain3 ?_
  | with_reducible refine x_un ?_
  | with_reducible refine x_isNe ?_
  | with_reducible refine x_notNe ?_
  | with_reducible refine x_starA ?_
  | with_reducible refine x_plusI ?_
  | with_reducible refine x_minus ?_
  | with_reducible refine x_lt ?_
  | with_reducible refine x_le ?_
  | with_reducible refine x_gt ?_
  | with_reducible refine x_ge ?_
  | with_reducible refine x_eqI ?_
  | with_reducible refine x_neI ?_
  | with_reducible refine x_eqS ?_
  | with_reducible refine x_eqB ?_
  | with_reducible refine x_neB ?_
  | with_reducible refine x_int ?_
  | with_reducible refine x_intB ?_
  | with_reducible refine x_max2 ?_
  | with_reducible refine x_min2 ?_
  | with_reducible refine x_max3 ?_
  | with_reducible refine x_abs ?_
  | with_reducible refine x_neg ?_
  | with_reducible refine x_isi_ii ?_
  | with_reducible refine x_isi_ib ?_
  | with_reducible refine x_T ?_
  | with_reducible refine x_nT ?_
  | with_reducible refine x_nF ?_
  | with_reducible refine x_F ?_)
local macro_rules | `(tactic| walk_at "x") => `(tactic| repeat walk_at "x1")

section
variable {P : Program} {w : World} {K : PySem.W.Frag} {mg : Str → Option Value} {base : Heap}
theorem pick2 {u v : V} {z : Int} (h0 : 0 ≤ z) (h1 : z < 2) : ∃ y, atI [u, v] z = some y ∧ ((z = 0 ∧ y = u) ∨ (z = 1 ∧ y = v)) := by
  have : z = 0 ∨ z = 1 := by omega
  rcases this with rfl | rfl
  · exact ⟨u, rfl, .inl ⟨rfl, rfl⟩⟩
  · exact ⟨v, rfl, .inr ⟨rfl, rfl⟩⟩
end
end K46

set_option Elab.async false
set_option linter.all false
set_option autoImplicit false
set_option maxRecDepth 100000
set_option pp.maxSteps 500
set_option maxHeartbeats 4000000
namespace K46
open PySem PySem.Spec PyProof.Rows L2 He ChH Ch ChM
local macro_rules | `(tactic| walk_at "x1") => `(tactic| first
  | ((with_reducible apply x_var); exact rfl)
  | with_reducible refine x_c ?_
  | with_reducible refine x_op ?_
  | with_reducible refine x_seq ?_
  | with_reducible refine x_asg ?_
  | with_reducible refine x_gname ?_
  | with_reducible refine x_cons ?_
  | with_reducible refine x_nil ?_
  | with_reducible refine x_fld ?_
  | with_reducible refine x_ret ?_
  | with_reducible refine x_ifS ?_
  | with_reducible refine x_test ?_
  | with_reducible refine x_ex ?_
  | with_reducible refine x_call ?_
  | with_reducible refine x_mk ?_
  | with_reducible refine x_meth ?_
  | with_reducible refine x_prop ?_
  | with_reducible refine x_cb ?_
  | with_reducible refine x_tup ?_
  | with_reducible refine x_lst ?_
  | with_reducible refine x_drop ?_
  | with_reducible refine x_for ?_
  | with_reducible refine x_iL ?_
  | with_reducible refine x_iT ?_
  | with_reducible refine x_iE ?_
  | with_reducible refine x_iU ?_
  | with_reducible refine x_iR1 ?_
  | with_reducible refine x_iR2 ?_
  | with_reducible refine x_gcons ?_
  | with_reducible refine x_gnil ?_
  | with_reducible refine x_par ?_
  | with_reducible refine x_lstRg ?_
  | with_reducible refine x_rg1 ?_
  | with_reducible refine x_rg1At ?_
  | with_reducible refine x_par3 ?_
  | with_reducible refine x_bm ?_
  | with_reducible refine x_bm0 ?_
  | with_reducible refine x_gSub ?_
  | with_reducible refine x_lc ?_
  | with_reducible refine x_yes ?_
  | with_reducible refine x_setf ?_
  | with_reducible refine x_next ?_
  | with_reducible refine x_B ?_
  | with_reducible refine x_and ?_
  | with_reducible refine x_or ?_
  | with_reducible refine x_not ?_
  | with_reducible refine x_andV ?_
  | with_reducible refine x_orV ?_
  | with_reducible refine x_notV ?_
  | with_reducible refine x_ifE ?_
  | with_reducible refine x_chain ?_
  | with_reducible refine x_chain3 ?_
  | with_reducible refine x_un ?_
  | with_reducible refine x_isNe ?_
  | with_reducible refine x_notNe ?_
  | with_reducible refine x_starA ?_
  | with_reducible refine x_plusI ?_
  | with_reducible refine x_minus ?_
  | with_reducible refine x_lt ?_
  | with_reducible refine x_le ?_
  | with_reducible refine x_gt ?_
  | with_reducible refine x_ge ?_
  | with_reducible refine x_eqI ?_
  | with_reducible refine x_neI ?_
  | with_reducible refine x_eqS ?_
  | with_reducible refine x_eqB ?_
  | with_reducible refine x_neB ?_
  | with_reducible refine x_int ?_
  | with_reducible refine x_intB ?_
  | with_reducible refine x_max2 ?_
  | with_reducible refine x_min2 ?_
  | with_reducible refine x_max3 ?_
  | with_reducible refine x_abs ?_
  | with_reducible refine x_neg ?_
  | with_reducible refine x_isi_ii ?_
  | with_reducible refine x_isi_ib ?_
  | with_reducible refine x_T ?_
  | with_reducible refine x_nT ?_
  | with_reducible refine x_nF ?_
  | with_reducible refine x_F ?_)
local macro_rules | `(tactic| walk_at "x") => `(tactic| repeat walk_at "x1")

local macro_rules | `(tactic| walk_at "q1") => `(tactic| first
  | walk_at "x1"
  | with_reducible refine x_sl ?_
  | with_reducible refine x_cmeth ?_
  | with_reducible refine x_noPart ?_
  | with_reducible refine x_part ?_
  | with_reducible refine x_partI ?_)
local macro_rules | `(tactic| walk_at "q") => `(tactic| repeat walk_at "q1")

section
variable {P : Program} {w : World} {K : PySem.W.Frag} {mg : Str → Option Value} {base : Heap}
theorem divW {i j : Int} (h : 0 < j) (h2 : j ≤ 2000000000000000000) : CDivW i j := wide_div (b := 62) h (by omega) (by decide) (by decide)
theorem ip_mul {X : Cx} : PIp X .Mult (rI CMul fun i j => .int (i * j)) := fun pins s σ H x y v u Q I r1 r2 h => iop_mul pins s σ H x y v u Q I r1 r2 h
/-- the draws' state: a number, the cells that are left, an index -/
structure Dr (H : Hp) (h q : Addr) : Prop where
  ex : ∃ (m ix : Int) (ns : List Int), H h = some (.lst [.int m, .ref q, .int ix]) ∧ H q = some (.lst (ns.map V.int)) ∧ 0 ≤ ix ∧ ns.length ≤ 1000
  ne : q ≠ h
theorem Dr.mono {H H' : Hp} {h q : Addr} (d : Dr H h q) (s : Same H H') : Dr H' h q := by
  obtain ⟨m, ix, ns, e1, e2, e3, e4⟩ := d.ex
  exact ⟨⟨m, ix, ns, s _ _ e1, s _ _ e2, e3, e4⟩, d.ne⟩
def spMx (K : PySem.W.Frag) : Sp := fun vs H Q _ => ∃ (a : Addr) (ns : List Int) (sd : Int), vs = [.ref a, .int sd] ∧ SqL K H a (ns.map V.int) ∧ ns.length ≤ 1000 ∧ ∀ h q H', H h = none → H q = none → Same H H' → Dr H' h q → Q (.ref h) H'
theorem ok__law_mix (W : Wd K mg) : FnR P w K mg base CX0 1 (ga K "_law_mix") (spMx K) := by
  refine (def_ok W.F__law_mix sc__law_mix (fun _ _ _ _ _ _ us hl => match us, hl with | [_, _], _ => rfl) (fun vs H Q E ⟨a, ns, sd, ev, _⟩ => by rw [ev]; rfl) fun cdv A outer s H vs Q E hr ⟨a, ns, sd, ev, hs, hl, k⟩ => ?_).2
  subst ev
  refine ⟨_, PSs.nox (pss_cons (ps_set (i := 2) sc__law_mix.nd rfl (Or.inl rfl) (pv 1)) (pss_cons (ps_for PassesOwn.never rfl (pi_listK K (pv 0)) (pg_name (i := 3) sc__law_mix.nd rfl (Or.inl rfl)) (pss_one (ps_set (i := 2) sc__law_mix.nd rfl (Or.inl rfl) (pe_op op_modP (pe_op op_plus (pe_op op_plus (pe_op op_times (pv 2) pe_int) (pe_op op_modP (pv 3) pe_int)) pe_int) pe_int)))) (pss_one (ps_ret (pe_lst (pa_cons (pv 2) (pa_cons (pe_callTy (c_listK K) (by rfl) W.f_list (by decide +kernel) (pa_cons (pv 0) pa_nil)) (pa_cons pe_int pa_nil)))))))), ?_⟩
  walk_at "q"
  refine x_iLAt hs (x_loop walk_list (fun i σ H2 => H2 = H ∧ ∃ z b, σ = [some (.ref a), some (.int sd), some (.int z), b]) ⟨rfl, _, _, rfl⟩ (fun i σ H2 _ ⟨e, _⟩ => by rw [e]; exact hs) ?_ ?_)
  · rintro i y σ H2 H3 hi ⟨rfl, z, b, rfl⟩ ⟨rfl, ey⟩
    rw [List.getElem?_map] at ey
    obtain ⟨n, _, rfl⟩ := Option.map_eq_some_iff.mp ey
    walk_at "q"
    refine x_timesI (.inr ⟨by decide, by decide⟩) ?_
    walk_at "q"
    refine x_mod (by decide) ?_
    walk_at "q"
    refine x_mod (by decide) ?_
    walk_at "q"
    exact ⟨rfl, _, _, rfl⟩
  · rintro σ H2 ⟨rfl, z, b, rfl⟩
    walk_at "q"
    refine x_listL hs fun q hq => ?_
    generalize hN1 : upd _ q _ = H1; obtain ⟨s1, e1⟩ := nws hN1 hq
    walk_at "q"
    refine ⟨sz rfl, fun h hh => ?_⟩; generalize hN3 : upd _ h _ = H3; obtain ⟨s3, e3⟩ := nws hN3 hh
    exact k h q _ (s1.free hh) hq (s1.trans s3) ⟨⟨z, 0, ns, e3, s3 _ _ e1, Int.le_refl _, hl⟩, ne_of_none e1 hh⟩
/-- a number below a limit -/
def spNx (K : PySem.W.Frag) : Sp := fun vs H Q _ => ∃ (h q : Addr) (c : Int), vs = [.ref h, .int c] ∧ Dr H h q ∧ 0 < c ∧ c ≤ 2000000000000000000 ∧ ∀ z H', 0 ≤ z → z < c → Same2 h q H H' → Dr H' h q → Q (.int z) H'
theorem ok__law_next (W : Wd K mg) : FnR P w K mg base CX0 1 (ga K "_law_next") (spNx K) := by
  refine (def_ok W.F__law_next sc__law_next (fun _ _ _ _ _ _ us hl => match us, hl with | [_, _], _ => rfl) (fun vs H Q E ⟨h, q, c, ev, _⟩ => by rw [ev]; rfl) fun cdv A outer s H vs Q E hr ⟨h, q, c, ev, D, c0, c1, k⟩ => ?_).2
  subst ev
  obtain ⟨⟨m, ix, ns, eh, eq, ix0, nl⟩, nq⟩ := D
  refine ⟨_, PSs.nox (pss_cons (ps_set (i := 2) sc__law_next.nd rfl (Or.inl rfl) (pe_ix (ix_K K) (pe_op op_plus (pe_ix (ix_K K) (pv 0) pe_int (fun _ _ => rfl)) (pe_lst (pa_cons pe_int pa_nil))) (pe_op op_modP (pe_ix (ix_K K) (pv 0) pe_int (fun _ _ => rfl)) (pe_callB (c_max2 rfl) (by rfl) W.f_max (by decide +kernel) (pa_cons pe_int (pa_cons (pe_callB (c_lenK K) (by rfl) W.f_len (by decide +kernel) (pa_cons (pe_ix (ix_K K) (pv 0) pe_int (fun _ _ => rfl)) pa_nil)) pa_nil)))) (fun _ _ => rfl))) (pss_cons (ps_if (pt_cmpR op_geI (pv 2) (pe_op op_powP pe_int pe_int) (nomark _)) (pss_cons (ps_asg (pe_op op_divP (pv 2) (pv 1)) (pg_sub (pe_ix (ix_K K) (pv 0) pe_int (fun _ _ => rfl)) (pe_op op_modP (pe_ix (ix_K K) (pv 0) pe_int (fun _ _ => rfl)) (pe_callB (c_lenK K) (by rfl) W.f_len (by decide +kernel) (pa_cons (pe_ix (ix_K K) (pv 0) pe_int (fun _ _ => rfl)) pa_nil))) set_list)) (pss_one (ps_ret (pe_op op_modP (pv 2) (pv 1))))) pss_nil) (pss_cons (ps_asg (pe_op op_modP (pe_op op_plus (pe_op op_plus (pe_op op_times (pe_ix (ix_K K) (pv 0) pe_int (fun _ _ => rfl)) pe_int) (pe_op op_times (pv 2) pe_int)) pe_int) pe_int) (pg_sub (pv 0) pe_int set_list)) (pss_cons (ps_asg (pe_op op_plus (pe_ix (ix_K K) (pv 0) pe_int (fun _ _ => rfl)) pe_int) (pg_sub (pv 0) pe_int set_list)) (pss_one (ps_ret (pe_op op_modP (pe_op op_divP (pe_ix (ix_K K) (pv 0) pe_int (fun _ _ => rfl)) pe_int) (pv 1)))))))), ?_⟩
  walk_at "q"
  refine x_ixL (SqL.of eh) (i := 1) rfl ?_
  walk_at "q"
  refine ⟨sz rfl, fun t1 ht1 => ?_⟩; generalize hN1 : upd _ t1 _ = H1; obtain ⟨s1, e1⟩ := nws hN1 ht1
  refine n_plusL (s1 _ _ eq) e1 (sz5 (by rw [List.length_map]; show ns.length + 1 ≤ _; omega)) fun t2 H2 ht2 s2 e2 => ?_
  have s12 := s1.trans s2
  have eh2 := s12 _ _ eh
  have eq2 := s12 _ _ eq
  walk_at "q"
  refine x_ixL (SqL.of eh2) (i := 2) rfl ?_
  walk_at "q"
  refine x_ixL (SqL.of eh2) (i := 1) rfl ?_
  walk_at "q"
  refine x_lenL (SqL.of eq2) ?_
  rw [List.length_map]
  walk_at "q"
  have L0 : 0 < (if ((ns.length : Nat) : Int) > 1 then ((ns.length : Nat) : Int) else 1) := by split <;> omega
  refine x_mod L0 ?_
  obtain ⟨j, hj, n, hn, hz⟩ : ∃ j : Nat, ix % (if ((ns.length : Nat) : Int) > 1 then ((ns.length : Nat) : Int) else 1) = j ∧ ∃ n : Int, (ns ++ [0])[j]? = some n ∧ (ns.length ≠ 0 → ns[j]? = some n ∧ ix % (ns.length : Nat) = j) ∧ (ns.length = 0 → n = 0) := by
    have a0 := Int.emod_nonneg ix (Int.ne_of_gt L0)
    have a1 := Int.emod_lt_of_pos ix L0
    refine ⟨(ix % _).toNat, (Int.toNat_of_nonneg a0).symm, ?_⟩
    generalize hw : ix % (if ((ns.length : Nat) : Int) > 1 then ((ns.length : Nat) : Int) else 1) = w at a0 a1
    by_cases z : ns.length = 0
    · have e : ns = [] := List.eq_nil_of_length_eq_zero z
      subst e
      have : w = 0 := by
        rw [if_neg (by decide)] at a1
        omega
      subst this
      exact ⟨0, rfl, fun q => absurd rfl q, fun _ => rfl⟩
    · have eL : (if ((ns.length : Nat) : Int) > 1 then ((ns.length : Nat) : Int) else 1) = (ns.length : Nat) := by
        split <;> omega
      rw [eL] at a1 hw
      have hlt : w.toNat < ns.length := by omega
      refine ⟨ns[w.toNat], ?_, fun _ => ⟨List.getElem?_eq_getElem hlt, ?_⟩, fun q => absurd q z⟩
      · rw [List.getElem?_append_left hlt, List.getElem?_eq_getElem hlt]
      · rw [hw]; omega
  rw [hj]
  refine x_ixL (v := .int n) (SqL.of e2) (atI_nat (by
    have e3 : (ns.map V.int ++ [V.int 0])[j]? = some (V.int n) := by
      rw [show ns.map V.int ++ [V.int 0] = (ns ++ [0]).map V.int by rw [List.map_append]; rfl, List.getElem?_map, hn]
      rfl
    exact e3)) ?_
  walk_at "q"
  have e18 : (10 : Int) ^ ((18 : Int).toNat) = 1000000000000000000 := by decide
  refine x_pow ⟨by decide, by decide, by decide⟩ ?_
  rw [e18]
  walk_at "q"
  refine x_ifd (fun hb => ?_) fun hb => ?_
  · have nz : ns.length ≠ 0 := fun z => by
      have := hz.2 z
      omega
    obtain ⟨hnj, hij⟩ := hz.1 nz
    have hlt := (List.getElem?_eq_some_iff.mp hnj).1
    walk_at "q"
    refine x_div (divW c0 c1) ?_
    walk_at "q"
    refine x_ixL (SqL.of eh2) (i := 1) rfl ?_
    walk_at "q"
    refine x_ixL (SqL.of eh2) (i := 2) rfl ?_
    walk_at "q"
    refine x_ixL (SqL.of eh2) (i := 1) rfl ?_
    walk_at "q"
    refine x_lenL (SqL.of eq2) ?_
    rw [List.length_map]
    refine x_mod (by omega) ?_
    rw [hij]
    refine x_setL (j := j) eq2 (by rw [List.length_map]; unfold ixN; rw [if_pos (by omega), if_pos (by omega), Int.toNat_natCast]) ?_
    walk_at "q"
    refine x_mod c0 ?_
    refine k _ _ (Int.emod_nonneg _ (by omega)) (Int.emod_lt_of_pos _ c0) ((Same2.of s12).trans Same2.upd2) ⟨⟨m, ix, ns.set j (n / c), ?_, ?_, ix0, by rw [List.length_set]; exact nl⟩, nq⟩
    · rw [upd_ne nq.symm]; exact eh2
    · rw [upd_same, List.map_set]
  · walk_at "q"
    refine x_ixL (SqL.of eh2) (i := 0) rfl ?_
    walk_at "q"
    refine x_timesI (.inr ⟨by decide, by decide⟩) ?_
    walk_at "q"
    refine x_timesI (.inr ⟨by decide, by decide⟩) ?_
    walk_at "q"
    refine x_mod (by decide) ?_
    walk_at "q"
    refine x_setL eh2 rfl ?_
    walk_at "q"
    refine x_ixL (SqL.of upd_same) (i := 2) rfl ?_
    walk_at "q"
    refine x_setL upd_same rfl ?_
    walk_at "q"
    refine x_ixL (SqL.of upd_same) (i := 0) rfl ?_
    walk_at "q"
    refine x_div (divW (by decide) (by decide)) ?_
    walk_at "q"
    refine x_mod c0 ?_
    refine k _ _ (Int.emod_nonneg _ (by omega)) (Int.emod_lt_of_pos _ c0) (((Same2.of s12).trans Same2.upd1).trans Same2.upd1) ⟨⟨_, ix + 1, ns, upd_same, ?_, by omega, nl⟩, nq⟩
    rw [upd_ne nq, upd_ne nq]
    exact eq2
theorem Dr.tup {H H' : Hp} {h q p : Addr} {xs : List V} (d : Dr H h q) (s : Same2 h q H H') (e : H p = some (.tup xs)) : H' p = some (.tup xs) := by
  obtain ⟨m, ix, ns, e1, e2, _, _⟩ := d.ex
  exact s _ _ (fun z => by rw [z, e1] at e; cases e) (fun z => by rw [z, e2] at e; cases e) e
theorem Dr.steps {H H' : Hp} {h q : Addr} {vs : List V} {l : List Stp} (d : Dr H h q) (s : Same2 h q H H') (hs : StepsAt H vs l) : StepsAt H' vs l := pr_im (fun _ _ ⟨p, e1, e2⟩ => ⟨p, e1, d.tup s e2⟩) hs
theorem Dr.other {H : Hp} {h q r : Addr} {o : HO} (d : Dr H h q) (n : r ≠ h) (m : r ≠ q) : Dr (upd H r o) h q := by
  obtain ⟨a, ix, ns, e1, e2, e3, e4⟩ := d.ex
  exact ⟨⟨a, ix, ns, by rw [upd_ne n.symm]; exact e1, by rw [upd_ne m.symm]; exact e2, e3, e4⟩, d.ne⟩
theorem Dr.neN {H : Hp} {h q r : Addr} (d : Dr H h q) (e : H r = none) : r ≠ h ∧ r ≠ q := by
  obtain ⟨a, ix, ns, e1, e2, _, _⟩ := d.ex
  exact ⟨(ne_of_none e1 e).symm, (ne_of_none e2 e).symm⟩
theorem Same2.mut {h q r : Addr} {H H' : Hp} {o : HO} (s : Same2 h q H H') (e : H r = none) : Same2 h q H (upd H' r o) := fun b u n m hb => by
  rw [upd_ne (ne_of_none hb e)]
  exact s b u n m hb
/-- steps that are drawn -/
def spSs (K : PySem.W.Frag) : Sp := fun vs H Q _ => ∃ (h q : Addr) (c m : Int), vs = [.ref h, .int c, .int m] ∧ Dr H h q ∧ 0 ≤ c ∧ c ≤ 1000000000000000000 ∧ 0 ≤ m ∧ m ≤ 100 ∧
  ∀ r H' ps l, H r = none → r ≠ h → r ≠ q → Same2 h q H H' → Dr H' h q → H' r = some (.lst ps) → StepsAt H' ps l → (l.length : Int) ≤ m → fitsS c l → Q (.ref r) H'
end
end K46

set_option Elab.async false
set_option linter.all false
set_option autoImplicit false
set_option maxRecDepth 100000
set_option pp.maxSteps 500
set_option maxHeartbeats 4000000
namespace K46
open PySem PySem.Spec PyProof.Rows L2 He ChH Ch LamX
local macro_rules | `(tactic| walk_at "x1") => `(tactic| first
  | ((with_reducible apply x_var); exact rfl)
  | with_reducible refine x_c ?_
  | with_reducible refine x_op ?_
  | with_reducible refine x_seq ?_
  | with_reducible refine x_asg ?_
  | with_reducible refine x_gname ?_
  | with_reducible refine x_cons ?_
  | with_reducible refine x_nil ?_
  | with_reducible refine x_fld ?_
  | with_reducible refine x_ret ?_
  | with_reducible refine x_ifS ?_
  | with_reducible refine x_test ?_
  | with_reducible refine x_ex ?_
  | with_reducible refine x_call ?_
  | with_reducible refine x_mk ?_
  | with_reducible refine x_meth ?_
  | with_reducible refine x_prop ?_
  | with_reducible refine x_cb ?_
  | with_reducible refine x_tup ?_
  | with_reducible refine x_lst ?_
  | with_reducible refine x_drop ?_
  | with_reducible refine x_for ?_
  | with_reducible refine x_iL ?_
  | with_reducible refine x_iT ?_
  | with_reducible refine x_iE ?_
  | with_reducible refine x_iU ?_
  | with_reducible refine x_iR1 ?_
  | with_reducible refine x_iR2 ?_
  | with_reducible refine x_gcons ?_
  | with_reducible refine x_gnil ?_
  | with_reducible refine x_par ?_
  | with_reducible refine x_lstRg ?_
  | with_reducible refine x_rg1 ?_
  | with_reducible refine x_rg1At ?_
  | with_reducible refine x_par3 ?_
  | with_reducible refine x_bm ?_
  | with_reducible refine x_bm0 ?_
  | with_reducible refine x_gSub ?_
  | with_reducible refine x_lc ?_
  | with_reducible refine x_yes ?_
  | with_reducible refine x_setf ?_
  | with_reducible refine x_next ?_
  | with_reducible refine x_B ?_
  | with_reducible refine x_and ?_
  | with_reducible refine x_or ?_
  | with_reducible refine x_not ?_
  | with_reducible refine x_andV ?_
  | with_reducible refine x_orV ?_
  | with_reducible refine x_notV ?_
  | with_reducible refine x_ifE ?_
  | with_reducible refine x_chain ?_
  | with_reducible refine x_chain3 ?_
  | with_reducible refine x_un ?_
  | with_reducible refine x_isNe ?_
  | with_reducible refine x_notNe ?_
  | with_reducible refine x_starA ?_
  | with_reducible refine x_plusI ?_
  | with_reducible refine x_minus ?_
  | with_reducible refine x_lt ?_
  | with_reducible refine x_le ?_
  | with_reducible refine x_gt ?_
  | with_reducible refine x_ge ?_
  | with_reducible refine x_eqI ?_
  | with_reducible refine x_neI ?_
  | with_reducible refine x_eqS ?_
  | with_reducible refine x_eqB ?_
  | with_reducible refine x_neB ?_
  | with_reducible refine x_int ?_
  | with_reducible refine x_intB ?_
  | with_reducible refine x_max2 ?_
  | with_reducible refine x_min2 ?_
  | with_reducible refine x_max3 ?_
  | with_reducible refine x_abs ?_
  | with_reducible refine x_neg ?_
  | with_reducible refine x_isi_ii ?_
  | with_reducible refine x_isi_ib ?_
  | with_reducible refine x_T ?_
  | with_reducible refine x_nT ?_
  | with_reducible refine x_nF ?_
  | with_reducible refine x_F ?_)
local macro_rules | `(tactic| walk_at "x") => `(tactic| repeat walk_at "x1")

local macro_rules | `(tactic| walk_at "q1") => `(tactic| first
  | walk_at "x1"
  | with_reducible refine x_sl ?_
  | with_reducible refine x_cmeth ?_
  | with_reducible refine x_noPart ?_
  | with_reducible refine x_part ?_
  | with_reducible refine x_partI ?_)
local macro_rules | `(tactic| walk_at "q") => `(tactic| repeat walk_at "q1")

/-! ### _law_outcome and what it got -/
/-- what an error is: which of the nine kinds -/
structure OutC (K : PySem.W.Frag) (C : Addr) (i : Nat) : Prop where
  T : ExcC K C
  xm : PySem.W.exmOne K (.ref C) (.ref (ga K "ChairError")) = some true
  ve : PySem.W.kitOne K (.ref C) (.type "ValueError") = some true
  k0 : PySem.W.kitOne K (.ref C) (.ref (ga K "DaybookError")) = some (decide (i = 0))
  k1 : PySem.W.kitOne K (.ref C) (.ref (ga K "DecodeError")) = some (decide (i = 1))
  k2 : PySem.W.kitOne K (.ref C) (.ref (ga K "InvalidBooking")) = some (decide (i = 2))
  k3 : PySem.W.kitOne K (.ref C) (.ref (ga K "InvalidNumber")) = some (decide (i = 3))
  k4 : PySem.W.kitOne K (.ref C) (.ref (ga K "InvalidOperation")) = some (decide (i = 4))
  k5 : PySem.W.kitOne K (.ref C) (.ref (ga K "InvalidPlan")) = some (decide (i = 5))
  k6 : PySem.W.kitOne K (.ref C) (.ref (ga K "InvalidText")) = some (decide (i = 6))
  k7 : PySem.W.kitOne K (.ref C) (.ref (ga K "NotEnough")) = some (decide (i = 7))
  k8 : PySem.W.kitOne K (.ref C) (.ref (ga K "TooFewChairs")) = some (decide (i = 8))
def outW (i : Nat) : Str := match i with
  | 0 => "daybook" | 1 => "code" | 2 => "booking" | 3 => "number" | 4 => "operation" | 5 => "plan" | 6 => "text" | 7 => "enough" | _ => "few"
def outF (i : Nat) : Str := match i with
  | 0 => "row" | 1 => "offset" | 6 => "row" | _ => "index"
def L9 (i : Nat) : List V := [.bl (decide (i = 0)), .bl (decide (i = 1)), .bl (decide (i = 2)), .bl (decide (i = 3)), .bl (decide (i = 4)), .bl (decide (i = 5)), .bl (decide (i = 6)), .bl (decide (i = 7)), .bl (decide (i = 8))]
theorem lt9 {i : Nat} (h : i < 9) : i = 0 ∨ i = 1 ∨ i = 2 ∨ i = 3 ∨ i = 4 ∨ i = 5 ∨ i = 6 ∨ i = 7 ∨ i = 8 := by omega
theorem l9_cnt {i : Nat} (h : i < 9) : (L9 i).countP (fun z => eqV z (.bl true)) = 1 := by
  rcases lt9 h with h | h | h | h | h | h | h | h | h <;> subst h <;> decide
theorem l9_at {i : Nat} (h : i < 9) : (L9 i)[i]? = some (.bl true) := by
  rcases lt9 h with h | h | h | h | h | h | h | h | h <;> subst h <;> rfl
theorem l9_no {i : Nat} (h : i < 9) (m : Nat) (z' : V) (hm : m < i) (e : (L9 i)[m]? = some z') : eqV z' (.bl true) = false := by
  have hm9 : m < 9 := by omega
  have ne : ¬ i = m := by omega
  have : (L9 i)[m]? = some (.bl (decide (i = m))) := by
    rcases lt9 hm9 with h | h | h | h | h | h | h | h | h <;> subst h <;> rfl
  rw [this, decide_eq_false ne] at e
  cases e
  rfl
theorem w9_at {i : Nat} (h : i < 9) : ([.str "daybook", .str "code", .str "booking", .str "number", .str "operation", .str "plan", .str "text", .str "enough", .str "few"] : List V)[i]? = some (.str (outW i)) := by
  rcases lt9 h with h | h | h | h | h | h | h | h | h <;> subst h <;> rfl
theorem in9a {i : Nat} (h : i < 9) : inV (.str (outW i)) [.str "operation", .str "plan", .str "few"] = decide (i = 4 ∨ i = 5 ∨ i = 8) := by
  rcases lt9 h with h | h | h | h | h | h | h | h | h <;> subst h <;> decide
theorem in9b {i : Nat} (h : i < 9) : inV (.str (outW i)) [.str "daybook", .str "text"] = decide (i = 0 ∨ i = 6) := by
  rcases lt9 h with h | h | h | h | h | h | h | h | h <;> subst h <;> decide
theorem is9 {i : Nat} (h : i < 9) : decide (outW i = "code") = decide (i = 1) := by
  rcases lt9 h with h | h | h | h | h | h | h | h | h <;> subst h <;> decide
/-- an error that tells nothing more -/
def outN (K : PySem.W.Frag) (Q : VK) (cls : Value) (d : Option Addr) (H' : Hp) : Prop := ∃ C i, cls = .ref C ∧ OutC K C i ∧ (i = 2 ∨ i = 3 ∨ i = 7) ∧ d = none ∧ ∀ t H2, H' t = none → Same H' H2 → H2 t = some (.tup [.str (outW i)]) → Q (.ref t) H2
/-- an error with a field -/
def outX (K : PySem.W.Frag) (Q : VK) (cls : Value) (d : Option Addr) (H' : Hp) : Prop := ∃ C i dd v, cls = .ref C ∧ OutC K C i ∧ (i = 0 ∨ i = 1 ∨ i = 4 ∨ i = 5 ∨ i = 6 ∨ i = 8) ∧ XfC K C ∧ PySem.W.findIn K (.ref C) (outF i) = some none ∧ d = some dd ∧ H' dd = some (.xd [(outF i, v)]) ∧
  ∀ t H2, H' t = none → Same H' H2 → H2 t = some (.tup [.str (outW i), v]) → Q (.ref t) H2
def TTo (K : PySem.W.Frag) : (XK → Hp → VK → Prop) → Hp → VK → Prop := fun tl H Q => tl (fun cls d H' => outN K Q cls d H' ∨ outX K Q cls d H') H fun v H1 => [V.str "value", v].length ≤ sizeLine ∧ ∀ t, H1 t = none → Q (.ref t) (upd H1 t (.tup [.str "value", v]))
theorem x_TTo {K : PySem.W.Frag} {tl : XK → Hp → VK → Prop} {H : Hp} {Q : VK} (k : tl (fun cls d H' => outN K Q cls d H' ∨ outX K Q cls d H') H fun v H1 => [V.str "value", v].length ≤ sizeLine ∧ ∀ t, H1 t = none → Q (.ref t) (upd H1 t (.tup [.str "value", v]))) : TTo K tl H Q := k
theorem law_outcome_gives {X : Cx} {cdg : Value} {q : Str} (W : Wd X.K X.mg) (hrr : Room 3 X.A) : GivesTo X N__law_outcome "_law_outcome" (defScope s__law_outcome) (ga X.K "_law_outcome") cdg (defBody s__law_outcome) "_law_call" q (TTo X.K) := by
  intro f c' s H Q tl act hc h
  have hu : (cxOf C8.CX0 X.prog X.w X.K X.mg X.base N__law_outcome "_law_outcome" (defScope s__law_outcome) (ga X.K "_law_outcome") cdg X.A X.stack s H C8.E0).nox.A.units + 64 < cLine := (hrr.deeper _).units
  refine ⟨_, pss_one (ps_try_cl (X := (cxOf C8.CX0 X.prog X.w X.K X.mg X.base N__law_outcome "_law_outcome" (defScope s__law_outcome) (ga X.K "_law_outcome") cdg X.A X.stack s H C8.E0).nox)
      (tb := fun W D σ H => ∃ Ech : XK, (∀ cls d σ' H', σ'.length = 5 → Ech cls d H' → W cls d σ' H') ∧ σ[0]? = some (some (.ref f)) ∧ H c' = some (CodeO c' q) ∧ tl Ech H fun v H1 => [V.str "value", v].length ≤ sizeLine ∧ ∀ t, H1 t = none → D.rt (.ref t) (upd H1 t (.tup [.str "value", v])))
      rfl rfl sc__law_outcome.nd L2.takes0 (fun W pn xe tk _ => ?_)
      (.as (i := 1) (c := .ref (ga X.K "ChairError")) rfl rfl ⟨rfl, by decide, .inl W.g_ChairError⟩ (fun a oe cls d pn hz hf => (pss_cons (ps_set (i := 2) sc__law_outcome.nd rfl (Or.inl rfl) (pe_lst (pa_cons (pe_callB (call_isXK X.K hz hf) (by rfl) W.f_isinstance (by decide +kernel) (pa_cons (pv 1) (pa_cons (pe_gr W.g_DaybookError rfl) pa_nil))) (pa_cons (pe_callB (call_isXK X.K hz hf) (by rfl) W.f_isinstance (by decide +kernel) (pa_cons (pv 1) (pa_cons (pe_gr W.g_DecodeError rfl) pa_nil))) (pa_cons (pe_callB (call_isXK X.K hz hf) (by rfl) W.f_isinstance (by decide +kernel) (pa_cons (pv 1) (pa_cons (pe_gr W.g_InvalidBooking rfl) pa_nil))) pa_nil))))) (pss_cons (ps_expr (pe_bmK X.K PySem.F.plainAttrs_list PySem.F.slot_list_extend PySem.F.type_list_extend mt_extend (pv 2) (pa_cons (pe_lst (pa_cons (pe_callB (call_isXK X.K hz hf) (by rfl) W.f_isinstance (by decide +kernel) (pa_cons (pv 1) (pa_cons (pe_gr W.g_InvalidNumber rfl) pa_nil))) (pa_cons (pe_callB (call_isXK X.K hz hf) (by rfl) W.f_isinstance (by decide +kernel) (pa_cons (pv 1) (pa_cons (pe_gr W.g_InvalidOperation rfl) pa_nil))) (pa_cons (pe_callB (call_isXK X.K hz hf) (by rfl) W.f_isinstance (by decide +kernel) (pa_cons (pv 1) (pa_cons (pe_gr W.g_InvalidPlan rfl) pa_nil))) pa_nil)))) pa_nil))) (pss_cons (ps_expr (pe_bmK X.K PySem.F.plainAttrs_list PySem.F.slot_list_extend PySem.F.type_list_extend mt_extend (pv 2) (pa_cons (pe_lst (pa_cons (pe_callB (call_isXK X.K hz hf) (by rfl) W.f_isinstance (by decide +kernel) (pa_cons (pv 1) (pa_cons (pe_gr W.g_InvalidText rfl) pa_nil))) (pa_cons (pe_callB (call_isXK X.K hz hf) (by rfl) W.f_isinstance (by decide +kernel) (pa_cons (pv 1) (pa_cons (pe_gr W.g_NotEnough rfl) pa_nil))) (pa_cons (pe_callB (call_isXK X.K hz hf) (by rfl) W.f_isinstance (by decide +kernel) (pa_cons (pv 1) (pa_cons (pe_gr W.g_TooFewChairs rfl) pa_nil))) pa_nil)))) pa_nil))) (pss_cons (ps_if (PW.pt (pw_or (pt_cmpR (op_neK X.K hu) (pe_bmK X.K PySem.F.plainAttrs_list PySem.F.slot_list_count PySem.F.type_list_count (mt_countK X.K) (pv 2) (pa_cons pe_bl pa_nil)) pe_int (nomark _)) (pw_or1 (pt_not (pt_val (pe_callB (call_isXK X.K hz hf) (by rfl) W.f_isinstance (by decide +kernel) (pa_cons (pv 1) (pa_cons (pe_bltn (v := .ty "ValueError") (by rfl) W.f_ValueError (by decide +kernel) rfl) pa_nil)))))))) (pss_one (ps_ret (pe_tup (pa_cons pe_str pa_nil)))) pss_nil) (pss_cons (ps_set (i := 3) sc__law_outcome.nd rfl (Or.inl rfl) (pe_lst (pa_cons pe_str (pa_cons pe_str (pa_cons pe_str (pa_cons pe_str (pa_cons pe_str (pa_cons pe_str (pa_cons pe_str (pa_cons pe_str (pa_cons pe_str pa_nil))))))))))) (pss_cons (ps_set (i := 4) sc__law_outcome.nd rfl (Or.inl rfl) (pe_ix (ix_K X.K) (pv 3) (pe_bmK X.K PySem.F.plainAttrs_list PySem.F.slot_list_index PySem.F.type_list_index (mt_indexK X.K) (pv 2) (pa_cons pe_bl pa_nil)) (fun _ _ => rfl))) (pss_cons (ps_if (pt_cmpR (op_inK X.K) (pv 4) (pe_tup (pa_cons pe_str (pa_cons pe_str (pa_cons pe_str pa_nil)))) rfl) (pss_one (ps_ret (pe_tup (pa_cons (pv 4) (pa_cons (pe_xfAK X.K hz hf (pv 1)) pa_nil))))) pss_nil) (pss_cons (ps_if (pt_cmpR (op_inK X.K) (pv 4) (pe_tup (pa_cons pe_str (pa_cons pe_str pa_nil))) rfl) (pss_one (ps_ret (pe_tup (pa_cons (pv 4) (pa_cons (pe_xfAK X.K hz hf (pv 1)) pa_nil))))) pss_nil) (pss_one (ps_ret (pe_ifExp (pt_cmpR (op_eqK X.K hu) (pv 4) pe_str (nomark _)) (pe_tup (pa_cons (pv 4) (pa_cons (pe_xfAK X.K hz hf (pv 1)) pa_nil))) (pe_tup (pa_cons (pv 4) pa_nil)))))))))))))) .nil)), ?_⟩
  · refine ⟨fun pins s' σ H' D I h' => ?_⟩
    obtain ⟨Ech, hW, h1, h2, h3⟩ := h'
    exact L2.PSs.run (t := tRet (tTup (tCons (tC (.str "value")) (tCons (fun σZ HZ Q => σZ[0]? = some (some (V.ref f)) ∧ HZ c' = some (CodeO c' q) ∧ tl Ech HZ Q) tNil)))) (pss_one (ps_ret (pe_tup (pa_cons pe_str (pa_cons (act _ pn xe Ech _ _ (takes_len tk) fun cls d σ' H' he hl => hW cls d σ' H' hl he) pa_nil))))) pins s' σ H' D I ⟨h1, h2, h3⟩
  · refine ⟨fun cls d H' => outN X.K Q cls d H' ∨ outX X.K Q cls d H', fun cls d σ' H' hl hE => ?_, rfl, hc, h⟩
    obtain ⟨u0, u1, u2, u3, u4, rfl⟩ : ∃ u0 u1 u2 u3 u4, σ' = [u0, u1, u2, u3, u4] := match σ', hl with | [u0, u1, u2, u3, u4], _ => ⟨u0, u1, u2, u3, u4, rfl⟩
    have hC : ∃ C i, cls = .ref C ∧ OutC X.K C i ∧ DxAt H' d ∧ i < 9 ∧ (((i = 2 ∨ i = 3 ∨ i = 7) ∧ ∀ t H2, H' t = none → Same H' H2 → H2 t = some (.tup [.str (outW i)]) → Q (.ref t) H2) ∨
        ((i = 0 ∨ i = 1 ∨ i = 4 ∨ i = 5 ∨ i = 6 ∨ i = 8) ∧ XfC X.K C ∧ PySem.W.findIn X.K (.ref C) (outF i) = some none ∧ ∃ dd v, d = some dd ∧ H' dd = some (.xd [(outF i, v)]) ∧ ∀ t H2, H' t = none → Same H' H2 → H2 t = some (.tup [.str (outW i), v]) → Q (.ref t) H2)) := by
      rcases hE with ⟨C, i, e1, O, hi, e2, kk⟩ | ⟨C, i, dd, v, e1, O, hi, hx, hno, e2, e3, kk⟩
      · exact ⟨C, i, e1, O, .inl e2, by omega, .inl ⟨hi, kk⟩⟩
      · exact ⟨C, i, e1, O, .inr ⟨dd, _, e2, e3⟩, by omega, .inr ⟨hi, hx, hno, dd, v, e2, e3, kk⟩⟩
    obtain ⟨C, i, e1, O, hd, hi, hF⟩ := hC
    clear hE
    subst e1
    refine ⟨true, O.xm, fun _ a ha => ?_, fun z => nomatch z⟩
    unfold Cl.run
    dsimp only
    walk_at "q"
    refine x_isX O.T hd (.own _) O.k0 ?_
    walk_at "q"
    refine x_isX O.T hd (.own _) O.k1 ?_
    walk_at "q"
    refine x_isX O.T hd (.own _) O.k2 ?_
    walk_at "q"
    refine ⟨sz rfl, fun t1 ht1 => ?_⟩; generalize hN1 : upd _ t1 _ = H1; obtain ⟨s1, e1⟩ := nws hN1 ht1
    have hd1 := hd.mono s1
    walk_at "q"
    refine ⟨ty_lst e1, ?_⟩
    walk_at "q"
    refine x_isX O.T hd1 (.own _) O.k3 ?_
    walk_at "q"
    refine x_isX O.T hd1 (.own _) O.k4 ?_
    walk_at "q"
    refine x_isX O.T hd1 (.own _) O.k5 ?_
    walk_at "q"
    refine ⟨sz rfl, fun t2 ht2 => ?_⟩; generalize hN2 : upd _ t2 _ = H2; obtain ⟨s2, e2⟩ := nws hN2 ht2
    walk_at "q"
    refine ⟨t1, t2, _, _, rfl, rfl, s2 _ _ e1, e2, sz5 (Nat.le_of_ble_eq_true rfl), ?_⟩
    have s3 : Same H' (upd H2 t1 (.lst ([.bl (decide (i = 0)), .bl (decide (i = 1)), .bl (decide (i = 2))] ++ [.bl (decide (i = 3)), .bl (decide (i = 4)), .bl (decide (i = 5))]))) := Same.mut (s1.trans s2) ht1
    have e3 : (upd H2 t1 (.lst ([.bl (decide (i = 0)), .bl (decide (i = 1)), .bl (decide (i = 2))] ++ [.bl (decide (i = 3)), .bl (decide (i = 4)), .bl (decide (i = 5))]))) t1 = some (.lst ([.bl (decide (i = 0)), .bl (decide (i = 1)), .bl (decide (i = 2))] ++ [.bl (decide (i = 3)), .bl (decide (i = 4)), .bl (decide (i = 5))])) := upd_same
    generalize upd H2 t1 _ = H3 at s3 e3 ⊢
    have hd3 := hd.mono s3
    walk_at "q"
    refine ⟨ty_lst e3, ?_⟩
    walk_at "q"
    refine x_isX O.T hd3 (.own _) O.k6 ?_
    walk_at "q"
    refine x_isX O.T hd3 (.own _) O.k7 ?_
    walk_at "q"
    refine x_isX O.T hd3 (.own _) O.k8 ?_
    walk_at "q"
    refine ⟨sz rfl, fun t4 ht4 => ?_⟩; generalize hN4 : upd _ t4 _ = H4; obtain ⟨s4, e4⟩ := nws hN4 ht4
    walk_at "q"
    refine ⟨t1, t4, _, _, rfl, rfl, s4 _ _ e3, e4, sz5 (Nat.le_of_ble_eq_true rfl), ?_⟩
    have s5 : Same H' (upd H4 t1 (.lst ([.bl (decide (i = 0)), .bl (decide (i = 1)), .bl (decide (i = 2)), .bl (decide (i = 3)), .bl (decide (i = 4)), .bl (decide (i = 5)), .bl (decide (i = 6)), .bl (decide (i = 7)), .bl (decide (i = 8))]))) := Same.mut (s3.trans s4) ht1
    have e5 : (upd H4 t1 (.lst (L9 i))) t1 = some (.lst (L9 i)) := upd_same
    show tNext _ _ (upd H4 t1 (.lst (L9 i)))
    have s5 : Same H' (upd H4 t1 (.lst (L9 i))) := s5
    generalize upd H4 t1 _ = H5 at s5 e5 ⊢
    have hd5 := hd.mono s5
    walk_at "q"
    refine ⟨ty_lst e5, ?_⟩
    walk_at "q"
    refine ⟨t1, L9 i, .bl true, rfl, rfl, SqL.of e5, rfl, rfl, ?_⟩
    rw [l9_cnt hi]
    walk_at "q"
    rw [show decide (((1 : Nat) : Int) = 1) = true from rfl]
    walk_at "q"
    refine x_isX O.T hd5 (.ty _) O.ve ?_
    walk_at "q"
    refine ⟨sz rfl, fun t6 ht6 => ?_⟩; generalize hN6 : upd _ t6 _ = H6; obtain ⟨s6, e6⟩ := nws hN6 ht6
    walk_at "q"
    refine ⟨ty_lst (s6 _ _ e5), ?_⟩
    walk_at "q"
    refine ⟨t1, L9 i, .bl true, i, .bl true, rfl, rfl, SqL.of (s6 _ _ e5), rfl, rfl, l9_at hi, rfl, l9_no hi, ?_⟩
    refine x_ixL (SqL.of e6) (atI_nat (w9_at hi)) ?_
    walk_at "q"
    refine ⟨sz rfl, fun t7 ht7 => ?_⟩; generalize hN7 : upd _ t7 _ = H7; obtain ⟨s7, e7⟩ := nws hN7 ht7
    refine x_inT (SqT.of e7) rfl rfl ?_
    rw [in9a hi]
    walk_at "q"
    have sF := s5.trans (s6.trans s7)
    have lk : ∀ (f : Str) (v : V), List.lookup f [(f, v)] = some v := fun f v => by simp
    refine x_ifd (fun ha9 => ?_) fun ha9 => ?_
    · rcases hF with ⟨hi', _⟩ | ⟨hi', hx, hno, dd, v, e2', e3', kk⟩
      · omega
      have ef : outF i = "index" := by rcases ha9 with h | h | h <;> subst h <;> rfl
      rw [ef] at hno e3'
      walk_at "q"
      refine x_xa hx hno (x_xf ?_)
      walk_at "q"
      refine ⟨rfl, rfl, dd, _, v, e2', sF _ _ e3', lk _ _, ?_⟩
      walk_at "q"
      refine ⟨sz rfl, fun t8 ht8 => ?_⟩; generalize hN8 : upd _ t8 _ = H8; obtain ⟨s8, e8⟩ := nws hN8 ht8
      exact kk t8 H8 (sF.free ht8) (sF.trans s8) e8
    · walk_at "q"
      refine ⟨sz rfl, fun t8 ht8 => ?_⟩; generalize hN8 : upd _ t8 _ = H8; obtain ⟨s8, e8⟩ := nws hN8 ht8
      refine x_inT (SqT.of e8) rfl rfl ?_
      rw [in9b hi]
      walk_at "q"
      have sG := sF.trans s8
      refine x_ifd (fun hb9 => ?_) fun hb9 => ?_
      · rcases hF with ⟨hi', _⟩ | ⟨hi', hx, hno, dd, v, e2', e3', kk⟩
        · omega
        have ef : outF i = "row" := by rcases hb9 with h | h <;> subst h <;> rfl
        rw [ef] at hno e3'
        walk_at "q"
        refine x_xa hx hno (x_xf ?_)
        walk_at "q"
        refine ⟨rfl, rfl, dd, _, v, e2', sG _ _ e3', lk _ _, ?_⟩
        walk_at "q"
        refine ⟨sz rfl, fun t9 ht9 => ?_⟩; generalize hN9 : upd _ t9 _ = H9; obtain ⟨s9, e9⟩ := nws hN9 ht9
        exact kk t9 H9 (sG.free ht9) (sG.trans s9) e9
      · walk_at "q"
        rw [is9 hi]
        refine x_ifd (fun hc9 => ?_) fun hc9 => ?_
        · rcases hF with ⟨hi', _⟩ | ⟨hi', hx, hno, dd, v, e2', e3', kk⟩
          · omega
          have ef : outF i = "offset" := by subst hc9; rfl
          rw [ef] at hno e3'
          walk_at "q"
          refine x_xa hx hno (x_xf ?_)
          walk_at "q"
          refine ⟨rfl, rfl, dd, _, v, e2', sG _ _ e3', lk _ _, ?_⟩
          walk_at "q"
          refine ⟨sz rfl, fun t9 ht9 => ?_⟩; generalize hN9 : upd _ t9 _ = H9; obtain ⟨s9, e9⟩ := nws hN9 ht9
          exact kk t9 H9 (sG.free ht9) (sG.trans s9) e9
        · rcases hF with ⟨hi', kk⟩ | ⟨hi', _⟩
          · walk_at "q"
            refine ⟨sz rfl, fun t9 ht9 => ?_⟩; generalize hN9 : upd _ t9 _ = H9; obtain ⟨s9, e9⟩ := nws hN9 ht9
            exact kk t9 H9 (sG.free ht9) (sG.trans s9) e9
          · omega
theorem law_outcome_givesK {X : Cx} {cdg : Value} {q : Str} (K : PySem.W.Frag) (W : Wd K X.mg) (hrr : Room 3 X.A) (hK : X.K = K := by rfl) : GivesTo X N__law_outcome "_law_outcome" (defScope s__law_outcome) (ga K "_law_outcome") cdg (defBody s__law_outcome) "_law_call" q (TTo K) := by
  subst hK
  exact law_outcome_gives W hrr
end K46

set_option Elab.async false
set_option linter.all false
set_option autoImplicit false
set_option maxRecDepth 100000
set_option pp.maxSteps 500
set_option maxHeartbeats 4000000
namespace K46
open PySem PySem.Spec PyProof.Rows L2 He ChH Ch ChM LamX
/-! ### laws of part 2: draws and lambdas -/
section
variable {P : Program} {w : World} {K : PySem.W.Frag} {mg : Str → Option Value} {base : Heap} {H H' : Hp}
/-- a def that may raise, where it does not -/
theorem fn_calm {k : Nat} {f : Addr} {sp : Sp} (F : FnR P w K mg base (CX P w) k f sp) : FnR P w K mg base CX0 k f (fun vs H Q _ => sp vs H Q fun _ _ _ => False) := by
  intro A outer s H us vs Q E hr e0 r hs
  refine codeAny_mono (F A outer s H us vs Q (fun _ _ _ => False) hr e0 r hs) fun z s' hq => ?_
  cases z with
  | error er =>
    obtain ⟨_, _, _, _, _, _, _, _, _, _, _, _, z⟩ := (show CX P w outer H s (fun _ _ _ => False) er s' from hq)
    exact z.elim
  | ok fl => cases fl <;> exact hq
theorem Dr.ext {h q : Addr} (d : Dr H h q) (e : ExtN H H') : Dr H' h q := by
  obtain ⟨m, ix, ns, e1, e2, e3, e4⟩ := d.ex
  exact ⟨⟨m, ix, ns, ExtN.lst e e1, ExtN.lst e e2, e3, e4⟩, d.ne⟩
theorem Dr.keep {h q b : Addr} {o : HO} (d : Dr H h q) (s : Same2 h q H H') (n : ∀ xs, o ≠ .lst xs) (e : H b = some o) : H' b = some o := by
  obtain ⟨m, ix, ns, e1, e2, _, _⟩ := d.ex
  exact s _ _ (fun z => by rw [z, e1] at e; exact n _ (Option.some.inj e).symm) (fun z => by rw [z, e2] at e; exact n _ (Option.some.inj e).symm) e
theorem Dr.tabs {T : List (Addr × Str)} {h q : Addr} (d : Dr H h q) (t : Tabs T H) (s : Same2 h q H H') : Tabs T H' := tabs_keep t fun b o n e => d.keep s n e
theorem Dr.plan {C p h q : Addr} {l : List Stp} (d : Dr H h q) (hp : PlanAt C H p l) (s : Same2 h q H H') : PlanAt C H' p l := by
  obtain ⟨dx, t, vs, h1, h2, h3⟩ := hp.ex
  exact ⟨dx, t, vs, d.keep s (fun xs z => nomatch z) h1, d.keep s (fun xs z => nomatch z) h2, d.steps s h3⟩
theorem pickI (L : List Int) {z : Int} (h0 : 0 ≤ z) (h1 : z < L.length) : ∃ n, n ∈ L ∧ atI (L.map V.int) z = some (.int n) := by
  obtain ⟨j, rfl⟩ : ∃ j : Nat, z = j := ⟨z.toNat, by omega⟩
  have hj : j < L.length := by omega
  exact ⟨L[j], List.getElem_mem hj, atI_nat (by rw [List.getElem?_map, List.getElem?_eq_getElem hj]; rfl)⟩
theorem pickV (L : List V) {z : Int} (h0 : 0 ≤ z) (h1 : z < L.length) : ∃ v, v ∈ L ∧ atI L z = some v := by
  obtain ⟨j, rfl⟩ : ∃ j : Nat, z = j := ⟨z.toNat, by omega⟩
  have hj : j < L.length := by omega
  exact ⟨L[j], List.getElem_mem hj, atI_nat (List.getElem?_eq_getElem hj)⟩
theorem seq2 {h q a : Addr} {xs : List V} (e : Same2 h q H H') (n1 : a ≠ h) (n2 : a ≠ q) (h1 : H a = some (.lst xs)) : H' a = some (.lst xs) := e a _ n1 n2 h1
theorem dp_steps {K : PySem.W.Frag} {H : Hp} : ∀ {vs : List V} {l : List Stp}, StepsAt H vs l → DpAll K H vs (l.map stepD)
  | _, _, .nil => .nil
  | _, _, .cons ⟨p, e, h⟩ t => by
    subst e
    exact .cons (step_dp h) (dp_steps t)
theorem lay_step (s : Stp) : Lay 1 (stepD s) := by
  cases s with
  | turn => exact lay_tup fun d hd => by rw [List.mem_singleton.mp hd]; exact lay_str 0 _ (by decide +kernel)
  | mt b n =>
    refine lay_tup fun d hd => ?_
    rcases List.mem_cons.mp hd with e | hd
    · rw [e]; cases b <;> exact lay_str 0 _ (by decide +kernel)
    · rw [List.mem_singleton.mp hd]; exact lay_int 0 _
theorem x_neSteps {K : PySem.W.Frag} {H : Hp} {Q : VK} {p q : Addr} {vs us : List V} {l : List Stp} (h1 : SqT K H p vs) (hp : StepsAt H vs l) (h2 : SqT K H q us) (hq : StepsAt H us l) (k : Q (.bl false) H) : rNeU K (.ref p) (.ref q) H Q := by
  have l1 : Lay 2 (.tuple (l.map stepD)) := lay_tup fun d hd => by
    obtain ⟨s, _, e⟩ := List.mem_map.mp hd
    rw [← e]
    exact lay_step s
  refine x_neDp (.tup h1 (dp_steps hp)) (.tup h2 (dp_steps hq)) l1.shaped l1.shaped ?_
  rw [PySem.SeqAt.eqv_refl _ l1.1]
  exact k
theorem x_eqSame {K : PySem.W.Frag} {H : Hp} {Q : VK} {p q : Addr} {vs : List V} (h1 : SqT K H p vs) (h2 : SqT K H q vs) (hv : vs.all plV = true) (k : Q (.bl true) H) : rEqU K (.ref p) (.ref q) H Q := by
  have l := lay_tup (pdV_lays hv)
  refine x_eqDp (.tup h1 (pdV_all hv)) (.tup h2 (pdV_all hv)) l.shaped l.shaped ?_
  rw [PySem.SeqAt.eqv_refl _ l.1]
  exact k
theorem x_seqR {t1 t2 : TS} {D : Ends} {σ : L2.St} {H : Hp} (R : L2.St → Hp → Prop) (h1 : ∀ σ' H', R σ' H' → t2 D σ' H') (h2 : ∀ nx : L2.St → Hp → Prop, (∀ σ' H', R σ' H' → nx σ' H') → t1 { D with nx := nx } σ H) : tSeq t1 t2 D σ H := h2 _ h1
theorem cut_from (xs : List V) (i : Nat) (h : i ≤ xs.length) : cutV xs (some (i : Int)) none = xs.drop i := by
  unfold cutV
  rw [HT.sIx_nat, HT.sIx_none, Nat.min_eq_left h]
  exact List.take_of_length_le (by rw [List.length_drop]; exact Nat.le_refl _)
theorem cut_last (xs : List V) (h : 0 < xs.length) : cutV xs none (some (-1)) = xs.take (xs.length - 1) := by
  unfold cutV
  rw [HT.sIx_none, List.drop_zero]
  congr 1
  show (if (-1 : Int) < 0 then ((-1 : Int) + (xs.length : Int)).toNat else min (-1 : Int).toNat xs.length) - 0 = _
  rw [if_pos (by decide)]
  omega
def lamQ : Str := (envOfC "law" (defScope s_law) 0 0 .none).qual ++ "<lambda>"
end
section
variable {K : PySem.W.Frag} {mg : Str → Option Value}
theorem oc_Number (W : Wd K mg) : OutC K (ga K "InvalidNumber") 3 := ⟨W.ec_InvalidNumber, W.xm_InvalidNumber_ChairError, W.io_InvalidNumber_ValueError, W.io_InvalidNumber_DaybookError, W.io_InvalidNumber_DecodeError, W.io_InvalidNumber_InvalidBooking, W.io_InvalidNumber_InvalidNumber, W.io_InvalidNumber_InvalidOperation, W.io_InvalidNumber_InvalidPlan, W.io_InvalidNumber_InvalidText, W.io_InvalidNumber_NotEnough, W.io_InvalidNumber_TooFewChairs⟩
end
end K46

set_option Elab.async false
set_option linter.all false
set_option autoImplicit false
set_option maxRecDepth 100000
set_option pp.maxSteps 500
set_option maxHeartbeats 4000000
namespace K46
open PySem PySem.Spec PyProof.Rows L2 He ChH Ch TxX StrX NumX
local macro_rules | `(tactic| walk_at "x1") => `(tactic| first
  | ((with_reducible apply x_var); exact rfl)
  | with_reducible refine x_c ?_
  | with_reducible refine x_op ?_
  | with_reducible refine x_seq ?_
  | with_reducible refine x_asg ?_
  | with_reducible refine x_gname ?_
  | with_reducible refine x_cons ?_
  | with_reducible refine x_nil ?_
  | with_reducible refine x_fld ?_
  | with_reducible refine x_ret ?_
  | with_reducible refine x_ifS ?_
  | with_reducible refine x_test ?_
  | with_reducible refine x_ex ?_
  | with_reducible refine x_call ?_
  | with_reducible refine x_mk ?_
  | with_reducible refine x_meth ?_
  | with_reducible refine x_prop ?_
  | with_reducible refine x_cb ?_
  | with_reducible refine x_tup ?_
  | with_reducible refine x_lst ?_
  | with_reducible refine x_drop ?_
  | with_reducible refine x_for ?_
  | with_reducible refine x_iL ?_
  | with_reducible refine x_iT ?_
  | with_reducible refine x_iE ?_
  | with_reducible refine x_iU ?_
  | with_reducible refine x_iR1 ?_
  | with_reducible refine x_iR2 ?_
  | with_reducible refine x_gcons ?_
  | with_reducible refine x_gnil ?_
  | with_reducible refine x_par ?_
  | with_reducible refine x_lstRg ?_
  | with_reducible refine x_rg1 ?_
  | with_reducible refine x_rg1At ?_
  | with_reducible refine x_par3 ?_
  | with_reducible refine x_bm ?_
  | with_reducible refine x_bm0 ?_
  | with_reducible refine x_gSub ?_
  | with_reducible refine x_lc ?_
  | with_reducible refine x_yes ?_
  | with_reducible refine x_setf ?_
  | with_reducible refine x_next ?_
  | with_reducible refine x_B ?_
  | with_reducible refine x_and ?_
  | with_reducible refine x_or ?_
  | with_reducible refine x_not ?_
  | with_reducible refine x_andV ?_
  | with_reducible refine x_orV ?_
  | with_reducible refine x_notV ?_
  | with_reducible refine x_ifE ?_
  | with_reducible refine x_chain ?_
  | with_reducible refine x_chain3 ?_
  | with_reducible refine x_un ?_
  | with_reducible refine x_isNe ?_
  | with_reducible refine x_notNe ?_
  | with_reducible refine x_starA ?_
  | with_reducible refine x_plusI ?_
  | with_reducible refine x_minus ?_
  | with_reducible refine x_lt ?_
  | with_reducible refine x_le ?_
  | with_reducible refine x_gt ?_
  | with_reducible refine x_ge ?_
  | with_reducible refine x_eqI ?_
  | with_reducible refine x_neI ?_
  | with_reducible refine x_eqS ?_
  | with_reducible refine x_eqB ?_
  | with_reducible refine x_neB ?_
  | with_reducible refine x_int ?_
  | with_reducible refine x_intB ?_
  | with_reducible refine x_max2 ?_
  | with_reducible refine x_min2 ?_
  | with_reducible refine x_max3 ?_
  | with_reducible refine x_abs ?_
  | with_reducible refine x_neg ?_
  | with_reducible refine x_isi_ii ?_
  | with_reducible refine x_isi_ib ?_
  | with_reducible refine x_T ?_
  | with_reducible refine x_nT ?_
  | with_reducible refine x_nF ?_
  | with_reducible refine x_F ?_)
local macro_rules | `(tactic| walk_at "x") => `(tactic| repeat walk_at "x1")

local macro_rules | `(tactic| walk_at "q1") => `(tactic| first
  | walk_at "x1"
  | with_reducible refine x_sl ?_
  | with_reducible refine x_cmeth ?_
  | with_reducible refine x_noPart ?_
  | with_reducible refine x_part ?_
  | with_reducible refine x_partI ?_)
local macro_rules | `(tactic| walk_at "q") => `(tactic| repeat walk_at "q1")

section
variable {P : Program} {w : World} {K : PySem.W.Frag} {mg : Str → Option Value} {base : Heap}
theorem x_iteV {c : Prop} [Decidable c] {te tf : TE} {σ : L2.St} {H : Hp} {Q : VK} (v : V) (h1 : c → ∀ Q' : VK, Q' v H → te σ H Q') (h2 : ¬ c → ∀ Q' : VK, Q' v H → tf σ H Q') (k : Q v H) : if decide c = true then te σ H Q else tf σ H Q := x_ifd (fun h => h1 h _ k) fun h => h2 h _ k
theorem x_ifBS {tt : TT} {ta tb : TS} {D : Ends} {σ : L2.St} {H : Hp} (b : Bool) (h : ∀ QT : Bool → Hp → Prop, (∀ H', Same H H' → QT b H') → tt σ H QT) (k : ∀ H', Same H H' → if b = true then ta D σ H' else tb D σ H') : tIfS tt ta tb D σ H := x_ifS (h _ k)
theorem x_iStr {te : TE} {σ : L2.St} {H : Hp} {R : It → Hp → Prop} (k : te σ H fun v H1 => ∃ x, v = .str x ∧ R (Its x) H1) : iStr te σ H R := k
theorem x_lenS {z : Str} {H : Hp} {Q : VK} (hz : z.length ≤ 100000) (k : Q (.int z.length) H) : rLn K [.str z] H Q := ⟨.str z, z.length, rfl, ⟨by rw [sizeLine_eq]; omega, rfl⟩, k⟩
def optV : Option Int → V
  | none => .non
  | some n => .int n
/-- the characters of a text, as texts -/
def chs (z : Str) : List Str := (TL.tl z).map fun c => (⟨#[c]⟩ : Str)
/-- those that are no digits -/
def bads (l : List Nat) : List V := (l.filter fun c => !isDig c).map fun c => V.str ⟨#[c]⟩
theorem bads_snoc (l : List Nat) (c : Nat) : bads (l ++ [c]) = bads l ++ (if isDig c = true then [] else [V.str ⟨#[c]⟩]) := by
  unfold bads
  rw [List.filter_append, List.map_append]
  congr 1
  cases h : isDig c
  · rw [List.filter_cons, h]; rfl
  · rw [List.filter_cons, h]; rfl
theorem bads_pl {l : List Nat} (h : ∀ c ∈ l, c < 0x110000) : (bads l).all plV = true := by
  rw [List.all_eq_true]
  intro v hv
  obtain ⟨c, hc, rfl⟩ := List.mem_map.mp hv
  refine ok_of fun d hd => ?_
  rw [List.mem_singleton.mp hd]
  exact h c (List.mem_filter.mp hc).1
theorem bads_nil (l : List Nat) : (bads l).isEmpty = l.all isDig := by
  induction l with
  | nil => rfl
  | cons c l ih =>
    unfold bads at ih ⊢
    rw [List.filter_cons, List.all_cons]
    cases h : isDig c
    · rw [if_pos (by rfl)]; rfl
    · rw [if_neg (by simp)]
      rw [Bool.true_and]
      exact ih
theorem x_neNilS {H : Hp} {Q : VK} {p q : Addr} {xs : List V} (h1 : SqL K H p xs) (hx : xs.all plV = true) (h2 : SqL K H q []) (k : Q (.bl (!xs.isEmpty)) H) : rNeU K (.ref p) (.ref q) H Q := by
  have l := lay_list (pdV_lays hx)
  refine x_neDp (.lst h1 (pdV_all hx)) (.lst h2 .nil) l.shaped (by decide) ?_
  cases xs with
  | nil => exact k
  | cons d ds => exact k
theorem digs_in (c : Nat) : decide (c ∈ ("0123456789" : Str).cps.toList) = isDig c := by
  rw [show ("0123456789" : Str).cps.toList = [48, 49, 50, 51, 52, 53, 54, 55, 56, 57] from rfl]
  by_cases h : 48 ≤ c ∧ c ≤ 57
  · rw [decide_eq_true (by simp only [List.mem_cons, List.not_mem_nil, or_false]; omega)]
    show true = (decide _ && decide _)
    rw [decide_eq_true h.1, decide_eq_true h.2]
    rfl
  · rw [decide_eq_false (by simp only [List.mem_cons, List.not_mem_nil, or_false]; omega)]
    show false = (decide _ && decide _)
    by_cases h1 : 48 ≤ c
    · rw [decide_eq_false (p := c ≤ 57) (fun z => h ⟨h1, z⟩), Bool.and_false]
    · rw [decide_eq_false h1, Bool.false_and]
theorem lt1 (a b : Nat) : decide (([a] : List Nat) < [b]) = decide (a < b) := by
  by_cases h : a < b
  · rw [decide_eq_true h]
    exact decide_eq_true (List.Lex.rel h)
  · rw [decide_eq_false h]
    refine decide_eq_false fun z => ?_
    cases z with
    | rel z => exact h z
    | cons z => exact nomatch z
def spPIn : Sp := fun vs H Q _ => ∃ z : Str, vs = [.str z] ∧ z.length ≤ 600 ∧ PyData.strOk z = true ∧ ∀ H', Same H H' → Q (optV (pInt z)) H'
theorem ok_parse_integer (W : Wd K mg) : FnR P w K mg base CX0 1 (ga K "parse_integer") spPIn := by
  refine (def_ok W.F_parse_integer sc_parse_integer (fun _ _ _ _ _ _ us hl => match us, hl with | [_], _ => rfl) (fun vs H Q E ⟨z, e, _⟩ => by rw [e]; rfl) fun cdv A outer s H vs Q E hr ⟨z, e, hz, hok, k⟩ => ?_).2
  subst e
  refine ⟨_, PSs.nox (pss_cons (ps_set (i := 1) sc_parse_integer.nd rfl (Or.inl rfl) (pe_ifExp (pt_cmpR (op_eqK K hr.units) (pe_slice sl_str (pv 0) po_none (po_some pe_int)) pe_str (nomark _)) (pe_slice sl_str (pv 0) (po_some pe_int) po_none) (pv 0))) (pss_cons (ps_if (PW.pt (pw_or (pt_cmpR (op_eqK K hr.units) (pv 1) pe_str (nomark _)) (pw_or1 (pt_cmpR (op_neK K hr.units) (pe_lc (own := [("digit", 2)]) (g := gName 2) rfl sc_parse_integer.nd (pi_str (pv 1)) (blkOk_by (own := [("digit", 2)]) (N := N_parse_integer) (sc := defScope s_parse_integer) (by decide +kernel)) (fun _ _ _ _ _ => (pg_name (i := 2) sc_parse_integer.nd rfl (Or.inl rfl))) (fun _ _ _ _ _ => (pts_one (pt_cmpR op_notIn_sign (pv 2) (pe_gs W.t_DIGITS rfl) rfl))) (fun _ _ _ _ _ => (pv 2))) (pe_lst pa_nil) (nomark _))))) (pss_one (ps_ret pe_non)) pss_nil) (pss_cons (ps_if (PW.pt (pw_or (PW.pt (pw_and (pt_cmpR op_gtI (pe_callB (c_lenK K) (by rfl) W.f_len (by decide +kernel) (pa_cons (pv 1) pa_nil)) pe_int (nomark _)) (pw_and1 (pt_cmpR (op_eqK K hr.units) (pe_ix (ix_K K) (pv 1) pe_int (fun _ _ => rfl)) pe_str (nomark _))))) (pw_or1 (pt_cmpR (op_eqK K hr.units) (pv 0) pe_str (nomark _))))) (pss_one (ps_ret pe_non)) pss_nil) (pss_one (ps_ret (pe_ifExp (pt_cmpR (op_eqK K hr.units) (pv 1) (pv 0) (nomark _)) (pe_callTy TxX.c_intS (by rfl) W.f_int (by decide +kernel) (pa_cons (pv 1) pa_nil)) (pe_op op_minus pe_int (pe_callTy TxX.c_intS (by rfl) W.f_int (by decide +kernel) (pa_cons (pv 1) pa_nil))))))))), ?_⟩
  have hcl := core_len z
  have hco := core_ok hok
  walk_at "q"
  refine x_cutS (by omega) ?_
  walk_at "q"
  refine x_iteV (.str (core z)) (fun h Q' k' => ?_) (fun h Q' k' => ?_) ?_
  · walk_at "q"
    refine x_cutS (by omega) ?_
    rw [show core z = cutS z (some 1) none from if_pos h] at k'
    exact k'
  · walk_at "q"
    rw [show core z = z from if_neg h] at k'
    exact k'
  with_reducible refine x_gname ?_
  with_reducible refine x_seq ?_
  refine x_ifBS (decide (core z = "" ∨ dgOk z = false)) (fun QT hq => ?_) fun H1 s1 => ?_
  · walk_at "q"
    refine x_ifd (fun h0 => ?_) fun h0 => ?_
    · rw [decide_eq_true (Or.inl h0)] at hq
      exact hq _ (Same.refl _)
    walk_at "q"
    refine x_iStr ?_
    walk_at "q"
    refine ⟨core z, rfl, ?_⟩
    refine x_lcA walk_str (fun i acc _ => acc = bads ((TL.tl (core z)).take i)) (fun _ _ _ _ _ _ _ h => h) (fun _ _ => rfl) (by show (core z).length ≤ _; omega) (fun _ _ => trivial) ?_ ?_
    · rintro i y acc H3 H4 NT NF hT hF hi s3 rfl ⟨rfl, c, hc, rfl⟩
      have hc' : (TL.tl (core z))[i]? = some c := by rw [← hc]; exact Array.getElem?_toList ..
      have hb : bads ((TL.tl (core z)).take (i + 1)) = bads ((TL.tl (core z)).take i) ++ (if isDig c = true then [] else [V.str ⟨#[c]⟩]) := by
        rw [List.take_add_one, hc']; exact bads_snoc _ _
      walk_at "q"
      refine ⟨rfl, ?_⟩
      walk_at "q"
      refine ⟨c, _, rfl, rfl, ?_⟩
      rw [digs_in]
      walk_at "q"
      cases hd : isDig c
      · rw [hd] at hb
        show tVar 2 _ _ NT
        walk_at "q"
        exact hT _ _ (Same.refl _) hb.symm
      · rw [hd] at hb
        exact hF _ (Same.refl _) (by rw [hb]; exact (List.append_nil _).symm)
    rintro L acc H6 hL s6 hL2 rfl hdl
    rw [List.take_of_length_le (by show (TL.tl (core z)).length ≤ _; rw [← TL.len_tl]; exact Nat.le_refl _)] at hL2
    walk_at "q"
    refine ⟨sz rfl, fun u1 hu1 => ?_⟩; generalize hN1 : upd _ u1 _ = H7; obtain ⟨s7, e7⟩ := nws hN1 hu1
    refine x_neNilS (SqL.of (s7 _ _ hL2)) (bads_pl (of_ok hco)) (SqL.of e7) ?_
    rw [bads_nil, show (TL.tl (core z)).all isDig = dgOk z from rfl]
    walk_at "q"
    have hb : (!dgOk z) = decide (core z = "" ∨ dgOk z = false) := by
      cases dgOk z
      · exact (decide_eq_true (Or.inr rfl)).symm
      · exact (decide_eq_false fun x => x.elim h0 fun e => nomatch e).symm
    rw [hb]
    exact hq _ (s6.trans s7)
  refine x_ifd (fun h0 => ?_) fun h0 => ?_
  · walk_at "q"
    have := k _ s1
    rw [show pInt z = none from if_pos h0] at this
    exact this
  have hdg : dgOk z = true := by
    cases h : dgOk z
    · exact absurd (Or.inr h) h0
    · rfl
  have hne : core z ≠ "" := fun e => h0 (.inl e)
  have hpos : 0 < (TL.tl (core z)).length := by
    rw [← TL.len_tl]
    cases h : (core z).length with
    | zero => exact absurd ((TL.len0_tl (core z)).mp h) fun e => hne (TL.ext_tl (e.trans rfl))
    | succ n => omega
  obtain ⟨c0, hc0⟩ : ∃ c, (TL.tl (core z))[0]? = some c := ⟨_, List.getElem?_eq_getElem hpos⟩
  have hint := core_int hz hdg hne
  have h1s : ∀ c : Nat, ((⟨#[c]⟩ : Str) = "0") ↔ c = 48 := fun c => ⟨fun e => by
    have := congrArg TL.tl e
    exact (List.cons.inj (this : [c] = [48])).1, fun e => by rw [e]; rfl⟩
  with_reducible refine x_next ?_
  with_reducible refine x_seq ?_
  refine x_ifBS (decide ((1 < (core z).length ∧ (TL.tl (core z))[0]? = some 48) ∨ z = "-0")) (fun QT hq => ?_) fun H2 s2 => ?_
  · have rest : ∀ QT : Bool → Hp → Prop, (∀ H', Same H1 H' → QT (decide ((1 < (core z).length ∧ (TL.tl (core z))[0]? = some 48) ∨ z = "-0")) H') → ¬ (1 < (core z).length ∧ (TL.tl (core z))[0]? = some 48) → QT (decide (z = "-0")) H1 := fun QT hq hn => by
      have := hq _ (Same.refl _)
      rw [show decide ((1 < (core z).length ∧ (TL.tl (core z))[0]? = some 48) ∨ z = "-0") = decide (z = "-0") from decide_eq_decide.mpr ⟨fun x => x.resolve_left hn, .inr⟩] at this
      exact this
    walk_at "q"
    refine x_lenS (by omega) ?_
    walk_at "q"
    refine x_ifd (fun h1 => ?_) fun h1 => ?_
    · walk_at "q"
      refine x_ixS (by omega) (atI_nat hc0) ?_
      walk_at "q"
      refine x_ifd (fun h2 => ?_) fun h2 => ?_
      · rw [decide_eq_true (Or.inl ⟨by omega, by rw [hc0, (h1s c0).mp h2]⟩)] at hq
        exact hq _ (Same.refl _)
      · walk_at "q"
        exact rest QT hq fun x => h2 ((h1s c0).mpr (Option.some.inj (hc0.symm.trans x.2)))
    · walk_at "q"
      exact rest QT hq fun x => h1 (by omega)
  refine x_ifd (fun h3 => ?_) fun h3 => ?_
  · walk_at "q"
    have := k _ (s1.trans s2)
    rw [show pInt z = none from (if_neg h0).trans (if_pos h3)] at this
    exact this
  have hp : pInt z = some (if core z = z then (PySem.NumText.digitsVal (TL.tl (core z)) : Int) else 0 - (PySem.NumText.digitsVal (TL.tl (core z)) : Int)) := (if_neg h0).trans (if_neg h3)
  have kk := k _ (s1.trans s2)
  rw [hp] at kk
  walk_at "q"
  refine x_ifd (fun h4 => ?_) fun h4 => ?_
  · rw [if_pos h4] at kk
    walk_at "q"
    exact x_intS hint (by omega) kk
  · rw [if_neg h4] at kk
    walk_at "q"
    refine x_intS hint (by omega) ?_
    walk_at "q"
    exact kk
end
end K46

set_option Elab.async false
set_option linter.all false
set_option autoImplicit false
set_option maxRecDepth 100000
set_option pp.maxSteps 500
set_option maxHeartbeats 4000000
namespace K46
open PySem PySem.Spec PyProof.Rows L2 He ChH Ch ChM TxX StrX NumX LsX DbX
local macro_rules | `(tactic| walk_at "x1") => `(tactic| first
  | ((with_reducible apply x_var); exact rfl)
  | with_reducible refine x_c ?_
  | with_reducible refine x_op ?_
  | with_reducible refine x_seq ?_
  | with_reducible refine x_asg ?_
  | with_reducible refine x_gname ?_
  | with_reducible refine x_cons ?_
  | with_reducible refine x_nil ?_
  | with_reducible refine x_fld ?_
  | with_reducible refine x_ret ?_
  | with_reducible refine x_ifS ?_
  | with_reducible refine x_test ?_
  | with_reducible refine x_ex ?_
  | with_reducible refine x_call ?_
  | with_reducible refine x_mk ?_
  | with_reducible refine x_meth ?_
  | with_reducible refine x_prop ?_
  | with_reducible refine x_cb ?_
  | with_reducible refine x_tup ?_
  | with_reducible refine x_lst ?_
  | with_reducible refine x_drop ?_
  | with_reducible refine x_for ?_
  | with_reducible refine x_iL ?_
  | with_reducible refine x_iT ?_
  | with_reducible refine x_iE ?_
  | with_reducible refine x_iU ?_
  | with_reducible refine x_iR1 ?_
  | with_reducible refine x_iR2 ?_
  | with_reducible refine x_gcons ?_
  | with_reducible refine x_gnil ?_
  | with_reducible refine x_par ?_
  | with_reducible refine x_lstRg ?_
  | with_reducible refine x_rg1 ?_
  | with_reducible refine x_rg1At ?_
  | with_reducible refine x_par3 ?_
  | with_reducible refine x_bm ?_
  | with_reducible refine x_bm0 ?_
  | with_reducible refine x_gSub ?_
  | with_reducible refine x_lc ?_
  | with_reducible refine x_yes ?_
  | with_reducible refine x_setf ?_
  | with_reducible refine x_next ?_
  | with_reducible refine x_B ?_
  | with_reducible refine x_and ?_
  | with_reducible refine x_or ?_
  | with_reducible refine x_not ?_
  | with_reducible refine x_andV ?_
  | with_reducible refine x_orV ?_
  | with_reducible refine x_notV ?_
  | with_reducible refine x_ifE ?_
  | with_reducible refine x_chain ?_
  | with_reducible refine x_chain3 ?_
  | with_reducible refine x_un ?_
  | with_reducible refine x_isNe ?_
  | with_reducible refine x_notNe ?_
  | with_reducible refine x_starA ?_
  | with_reducible refine x_plusI ?_
  | with_reducible refine x_minus ?_
  | with_reducible refine x_lt ?_
  | with_reducible refine x_le ?_
  | with_reducible refine x_gt ?_
  | with_reducible refine x_ge ?_
  | with_reducible refine x_eqI ?_
  | with_reducible refine x_neI ?_
  | with_reducible refine x_eqS ?_
  | with_reducible refine x_eqB ?_
  | with_reducible refine x_neB ?_
  | with_reducible refine x_int ?_
  | with_reducible refine x_intB ?_
  | with_reducible refine x_max2 ?_
  | with_reducible refine x_min2 ?_
  | with_reducible refine x_max3 ?_
  | with_reducible refine x_abs ?_
  | with_reducible refine x_neg ?_
  | with_reducible refine x_isi_ii ?_
  | with_reducible refine x_isi_ib ?_
  | with_reducible refine x_T ?_
  | with_reducible refine x_nT ?_
  | with_reducible refine x_nF ?_
  | with_reducible refine x_F ?_)
local macro_rules | `(tactic| walk_at "x") => `(tactic| repeat walk_at "x1")

local macro_rules | `(tactic| walk_at "q1") => `(tactic| first
  | walk_at "x1"
  | with_reducible refine x_sl ?_
  | with_reducible refine x_cmeth ?_
  | with_reducible refine x_noPart ?_
  | with_reducible refine x_part ?_
  | with_reducible refine x_partI ?_)
local macro_rules | `(tactic| walk_at "q") => `(tactic| repeat walk_at "q1")

local macro_rules | `(tactic| walk_at "q1") => `(tactic| first
  | with_reducible refine TxX.x_m1 ?_
  | with_reducible refine x_match ?_
  | with_reducible refine x_cend ?_
  | with_reducible refine x_gcons ?_
  | with_reducible refine x_gname ?_
  | with_reducible refine x_gnil ?_)
/-! ### entries in the heap -/
def enV (b : Bool) (nd nu : Option Int) : List V := [.str (roomS b), optV nd, optV nu]
def EnAt (H : Hp) (v : V) (e : En) : Prop := (e = .tn ∧ v = .non) ∨ ∃ b nd nu T, e = .row b nd nu ∧ v = .ref T ∧ H T = some (.tup (enV b nd nu))
abbrev EnsAt (H : Hp) (vs : List V) (es : List En) : Prop := Paired (EnAt H) vs es
theorem EnAt.keep {H H' : Hp} {v : V} {e : En} (h : EnAt H v e) (k : ∀ a xs, H a = some (.tup xs) → H' a = some (.tup xs)) : EnAt H' v e := by
  rcases h with h | ⟨b, nd, nu, T, e1, e2, e3⟩
  · exact .inl h
  · exact .inr ⟨b, nd, nu, T, e1, e2, k _ _ e3⟩
theorem EnsAt.keep {H H' : Hp} {vs : List V} {es : List En} (h : EnsAt H vs es) (k : ∀ a xs, H a = some (.tup xs) → H' a = some (.tup xs)) : EnsAt H' vs es := pr_im (fun _ _ z => z.keep k) h
/-- a word of a row -/
def okW (a : Str) : Prop := a.length ≤ 600 ∧ PyData.strOk a = true
/-- a text that may be read -/
def okD (t : Str) : Prop := t.length ≤ 2000 ∧ PyData.strOk t = true ∧ ∀ l ∈ Txt.split t "\n", l.length ≤ 600
theorem okD_rows {t : Str} (h : okD t) : (rowsOf t).length ≤ 2001 ∧ rowsOf t ≠ [] ∧ ∀ ws ∈ rowsOf t, ws ≠ [] ∧ ws.length ≤ 601 ∧ ∀ a ∈ ws, okW a := by
  have G := Gd.split nl_tl nl_k h.2.1
  refine ⟨?_, fun z => split_ne nl_tl nl_k t (List.map_eq_nil_iff.mp z), fun ws hw => ?_⟩
  · have := G.len
    have := h.1
    unfold rowsOf
    rw [List.length_map]
    omega
  · obtain ⟨l, hl, rfl⟩ := List.mem_map.mp hw
    have hl6 := h.2.2 l hl
    have g := Gd.split sp_tl sp_k (G.mem hl).2
    refine ⟨split_ne sp_tl sp_k l, Nat.le_trans g.len (by omega), fun a ha => ?_⟩
    have := g.mem ha
    exact ⟨by omega, this.2⟩
theorem room_dec {r : Str} (h : roomOk r) : roomS (decide (r = "red")) = r := by
  rcases h with h | h <;> subst h <;> rfl
section
variable {P : Program} {w : World} {K : PySem.W.Frag} {mg : Str → Option Value} {base : Heap}
theorem ok_moved (W : Wd K mg) : FnR P w K mg base CX0 1 (ga K "moved") (fun vs H Q _ => ∃ c x s n : Int, vs = [.int c, .int x, .int s, .int n] ∧ Q (.int (moved c x s n)) H) := by
  refine (def_ok W.F_moved sc_moved (fun _ _ _ _ _ _ us hl => match us, hl with | [_, _, _, _], _ => rfl) (fun vs H Q E ⟨c, x, s, n, e, _⟩ => by rw [e]; rfl) fun cdv A outer s' H vs Q E hr ⟨c, x, s, n, e, k⟩ => ?_).2
  subst e
  refine ⟨_, PSs.nox (pss_cons (ps_if (pt_cmpR (op_eqK K hr.units) (pv 2) pe_int (nomark _)) (pss_one (ps_ret (pe_callB (c_max2 rfl) (by rfl) W.f_max (by decide +kernel) (pa_cons (pv 1) (pa_cons (pv 3) pa_nil))))) pss_nil) (pss_one (ps_ret (pe_ifExp (pt_cmpR (op_eqK K hr.units) (pv 2) (pe_un un_neg pe_int) (nomark _)) (pe_callB (c_min2 rfl) (by rfl) W.f_min (by decide +kernel) (pa_cons (pv 1) (pa_cons (pe_op op_minus (pv 0) (pv 3)) pa_nil))) (pv 1))))), ?_⟩
  unfold moved at k
  walk_at "q"
  refine x_ifd (fun h => ?_) fun h => ?_
  · rw [if_pos h] at k
    walk_at "q"
    exact k
  · rw [if_neg h] at k
    walk_at "q"
    refine x_ifd (fun h => ?_) fun h => ?_
    · rw [if_pos h] at k
      walk_at "q"
      exact k
    · rw [if_neg h] at k
      walk_at "q"
      exact k
/-! ### number_of -/
abbrev dbE (K : PySem.W.Frag) (H : Hp) (k : Int) (E : XK) : Prop := ∀ d H', H d = none → Same H H' → H' d = some (.xd [("row", .int k)]) → E (.ref (ga K "DaybookError")) (some d) H'
theorem dbE.up {H H1 : Hp} {k : Int} {E : XK} (h : dbE K H k E) (s : Same H H1) : dbE K H1 k E := fun d H' hd s' e => h d H' (s.free hd) (s.trans s') e
def spNO (K : PySem.W.Frag) : Sp := fun vs H Q E => ∃ (k m : Int) (z : Str), vs = [.int k, .str z, .int m] ∧ okW z ∧ (∀ n, DbX.numOf m z = some n → ∀ H', Same H H' → Q (.int n) H') ∧ (DbX.numOf m z = none → dbE K H k E)
theorem okx_number_of (W : Wd K mg) : FnR P w K mg base (CX P w) 4 (ga K "number_of") (spNO K) := by
  refine (def_ok W.F_number_of sc_number_of (fun _ _ _ _ _ _ us hl => match us, hl with | [_, _, _], _ => rfl) (fun vs H Q E ⟨k, m, z, e, _⟩ => by rw [e]; rfl) fun cdv A outer s H vs Q E hr ⟨k, m, z, e, hz, kk, kE⟩ => ?_).2
  subst e
  refine ⟨_, (pss_cons (ps_set (i := 3) sc_number_of.nd rfl (Or.inl rfl) (pe_callR (ok_parse_integer W) (hr.mono (by decide)) W.g_parse_integer W.k_parse_integer pass0 rfl (pa_cons (pv 1) pa_nil))) (pss_cons (ps_if (PW.pt (pw_or (pt_cmp (pc_isN (pv 3))) (pw_or1 (pt_not (pt_chain op_leI op_leI pe_int (pv 3) (pv 2)))))) (pss_one (ps_raise rfl (takes_of rfl rfl rfl rfl) (pmk_kw (W.ox_DaybookError).T (W.ox_DaybookError).iC (W.ox_DaybookError).tI (okx_DaybookError_init W) (hr.mono (by decide)) (kb_DaybookError W) pass0 rfl W.g_DaybookError (pk_cons (pv 0) pk_nil)))) pss_nil) (pss_one (ps_ret (pv 3))))), ?_⟩
  walk_at "q"
  refine ⟨z, rfl, hz.1, hz.2, fun H1 s1 => ?_⟩
  have fail : DbX.numOf m z = none → ∀ d, H1 d = none → E (.ref (ga K "DaybookError")) (some d) (upd H1 d (.xd [("row", .int k)])) := fun h d hd => (kE h).up s1 d _ hd (Same.new hd) upd_same
  unfold DbX.numOf at kk fail
  walk_at "q"
  cases hp : pInt z with
  | none =>
    rw [hp] at fail
    refine x_ifd (fun _ => ?_) (fun x => absurd rfl x)
    walk_at "q"
    refine x_rx ?_
    walk_at "q"
    exact ⟨_, rfl, fail rfl⟩
  | some n =>
    rw [hp] at fail kk
    rw [show optV (some n) = V.int n from rfl]
    refine x_ifd (fun x => nomatch x) fun _ => ?_
    walk_at "q"
    have bad : ¬ (0 ≤ n ∧ n ≤ m) → ∀ d, H1 d = none → E (.ref (ga K "DaybookError")) (some d) (upd H1 d (.xd [("row", .int k)])) := fun h => fail (if_neg h)
    refine x_ifd (fun h0 => ?_) fun h0 => ?_
    · walk_at "q"
      refine x_ifnd (fun h1 => ?_) fun h1 => ?_
      · walk_at "q"
        refine x_rx ?_
        walk_at "q"
        exact ⟨_, rfl, bad fun x => h1 x.2⟩
      · walk_at "q"
        exact kk n (if_pos ⟨h0, h1⟩) _ s1
    · walk_at "q"
      refine x_rx ?_
      walk_at "q"
      exact ⟨_, rfl, bad fun x => h0 x.1⟩
/-! ### entry_of -/
theorem p_tn {H : Hp} {L : Addr} {ws : List Str} {Q : Option (List V) → Hp → Prop} (h : H L = some (.lst (ws.map V.str))) (hy : ws = [("turn" : Str)] → Q (some []) H) (hn : ws ≠ [("turn" : Str)] → Q none H) : qSeqL 1 (qCons (qText "turn") qNil) (.ref L) H Q := by
  by_cases hl : ws.length = 1
  · obtain ⟨a, rfl⟩ := List.length_eq_one_iff.mp hl
    refine ⟨L, _, rfl, h, by rw [List.length_map, if_pos hl]; refine x_qcons ⟨a, rfl, ?_⟩; by_cases e : a = "turn"; rw [if_pos e]; exact x_qnil (hy (by rw [e])); rw [if_neg e]; exact hn fun z => e (List.cons.inj z).1⟩
  · exact ⟨L, _, rfl, h, by rw [List.length_map, if_neg hl]; exact hn fun z => hl (by rw [z]; rfl)⟩
theorem q_rm {H : Hp} {y : Str} {Q : Option (List V) → Hp → Prop} (hy : roomOk y → Q (some []) H) (hn : ¬ roomOk y → Q none H) : qOr (qText "red") (qOr (qText "blue") qMiss) (.str y) H Q := by
  refine ⟨y, rfl, ?_⟩
  by_cases h : y = "red"
  · rw [if_pos h]; exact hy (.inl h)
  rw [if_neg h]
  refine ⟨y, rfl, ?_⟩
  by_cases h2 : y = "blue"
  · rw [if_pos h2]; exact hy (.inr h2)
  rw [if_neg h2]
  exact hn fun x => x.elim h h2
theorem q_tx {H : Hp} {x y : Str} {Q : Option (List V) → Hp → Prop} (hy : y = x → Q (some []) H) (hn : y ≠ x → Q none H) : qText x (.str y) H Q := ⟨y, rfl, by by_cases h : y = x; rw [if_pos h]; exact hy h; rw [if_neg h]; exact hn h⟩
theorem p_4 {H : Hp} {L : Addr} {ws : List Str} {Q : Option (List V) → Hp → Prop} (h : H L = some (.lst (ws.map V.str))) (hy : ∀ r a t, ws = [r, a, ("carried" : Str), t] → roomOk r → Q (some [.str a, .str t]) H) (hn : (∀ r a x t, ws = [r, a, x, t] → ¬ (roomOk r ∧ x = "carried")) → Q none H) :
    qSeqL 4 (qCons (qOr (qText "red") (qOr (qText "blue") qMiss)) (qCons qCap (qCons (qText "carried") (qCons qCap qNil)))) (.ref L) H Q := by
  by_cases hl : ws.length = 4
  · match ws, hl with
    | [r, a, x, t], hl =>
      refine ⟨L, _, rfl, h, ?_⟩
      rw [List.length_map, if_pos hl]
      refine x_qcons (q_rm (fun hr => x_qcons (x_qcap (x_qcons (q_tx (fun hx => x_qcons (x_qcap (x_qnil ?_))) fun hx => hn fun r' a' x' t' e => ?_)))) fun hr => hn fun r' a' x' t' e => ?_)
      · exact hy r a t (by rw [hx]) hr
      · cases e; exact fun z => hx z.2
      · cases e; exact fun z => hr z.1
  · refine ⟨L, _, rfl, h, ?_⟩
    rw [List.length_map, if_neg hl]
    exact hn fun r a x t e => absurd (by rw [e]; rfl) hl
theorem p_3 {H : Hp} {L : Addr} {ws : List Str} {Q : Option (List V) → Hp → Prop} (h : H L = some (.lst (ws.map V.str))) (hy : ∀ r t, ws = [r, ("has" : Str), t] → roomOk r → Q (some [.str t]) H) (hn : (∀ r x t, ws = [r, x, t] → ¬ (roomOk r ∧ x = "has")) → Q none H) :
    qSeqL 3 (qCons (qOr (qText "red") (qOr (qText "blue") qMiss)) (qCons (qText "has") (qCons qCap qNil))) (.ref L) H Q := by
  by_cases hl : ws.length = 3
  · match ws, hl with
    | [r, x, t], hl =>
      refine ⟨L, _, rfl, h, ?_⟩
      rw [List.length_map, if_pos hl]
      refine x_qcons (q_rm (fun hr => x_qcons (q_tx (fun hx => x_qcons (x_qcap (x_qnil ?_))) fun hx => hn fun r' x' t' e => ?_)) fun hr => hn fun r' x' t' e => ?_)
      · exact hy r t (by rw [hx]) hr
      · cases e; exact fun z => hx z.2
      · cases e; exact fun z => hr z.1
  · refine ⟨L, _, rfl, h, ?_⟩
    rw [List.length_map, if_neg hl]
    exact hn fun r x t e => absurd (by rw [e]; rfl) hl
/-- the known number of a row, or none -/
theorem x_numU {te tk : TE} {σ : L2.St} {H : Hp} {Q : VK} {z : Str} (R : V → Hp → Prop) (hu : z = "?" → R .non H) (hk : z ≠ "?" → ∀ Q' : VK, (∀ v H', R v H' → Q' v H') → tk σ H Q') (ht : te σ H = fun Q' => Q' .non H) (k : ∀ v H', R v H' → Q v H') : if decide (z = "?") = true then te σ H Q else tk σ H Q := by
  by_cases h : z = "?"
  · rw [decide_eq_true h, if_pos rfl, ht]
    exact k _ _ (hu h)
  · rw [decide_eq_false h, if_neg Bool.false_ne_true]
    exact hk h _ k
def spEO (K : PySem.W.Frag) : Sp := fun vs H Q E => ∃ (k c : Int) (L : Addr) (ws : List Str), vs = [.int k, .ref L, .int c] ∧ H L = some (.lst (ws.map V.str)) ∧ (∀ a ∈ ws, okW a) ∧ (∀ e, rdEn c ws = some e → ∀ v H', Same H H' → EnAt H' v e → Q v H') ∧ (rdEn c ws = none → dbE K H k E)
theorem okx_entry_of (W : Wd K mg) : FnR P w K mg base (CX P w) 6 (ga K "entry_of") (spEO K) := by
  refine (def_ok W.F_entry_of sc_entry_of (fun _ _ _ _ _ _ us hl => match us, hl with | [_, _, _], _ => rfl) (fun vs H Q E ⟨k, c, L, ws, e, _⟩ => by rw [e]; rfl) fun cdv A outer s H vs Q E hr ⟨k, c, L, ws, e, hL, hw, kk, kE⟩ => ?_).2
  subst e
  refine ⟨_, (pss_cons (ps_match (pv 1) (qc_case (qp_seqL rfl (qps_cons qp_text qps_nil)) qn_nil (pss_one (ps_ret pe_non)) (qc_case (qp_seqL rfl (qps_cons (qp_or (qo_cons qp_text (qo_cons qp_text qo_nil))) (qps_cons qp_cap (qps_cons qp_text (qps_cons qp_cap qps_nil))))) (qn_cons (i := 3) sc_entry_of.nd rfl (Or.inl rfl) (qn_cons (i := 4) sc_entry_of.nd rfl (Or.inl rfl) qn_nil)) (pss_cons (ps_set (i := 5) sc_entry_of.nd rfl (Or.inl rfl) (pe_callR (okx_number_of W) (hr.mono (by decide)) W.g_number_of W.k_number_of (passes_call (takes_of rfl rfl rfl rfl) (fun _ _ _ _ h => h)) rfl (pa_cons (pv 0) (pa_cons (pv 3) (pa_cons (pv 2) pa_nil))))) (pss_one (ps_ret (pe_tup (pa_cons (pe_ix (ix_K K) (pv 1) pe_int (fun _ _ => rfl)) (pa_cons (pv 5) (pa_cons (pe_ifExp (pt_cmpR (op_eqK K hr.units) (pv 4) (pe_gs W.t_UNKNOWN rfl) (nomark _)) pe_non (pe_callR (okx_number_of W) (hr.mono (by decide)) W.g_number_of W.k_number_of (passes_call (takes_of rfl rfl rfl rfl) (fun _ _ _ _ h => h)) rfl (pa_cons (pv 0) (pa_cons (pv 4) (pa_cons (pe_cv W.g_Plan W.r_Plan W.v_Plan_MAX_CHAIRS rfl) pa_nil))))) pa_nil))))))) (qc_case (qp_seqL rfl (qps_cons (qp_or (qo_cons qp_text (qo_cons qp_text qo_nil))) (qps_cons qp_text (qps_cons qp_cap qps_nil)))) (qn_cons (i := 4) sc_entry_of.nd rfl (Or.inl rfl) qn_nil) (pss_one (ps_ret (pe_tup (pa_cons (pe_ix (ix_K K) (pv 1) pe_int (fun _ _ => rfl)) (pa_cons pe_non (pa_cons (pe_ifExp (pt_cmpR (op_eqK K hr.units) (pv 4) (pe_gs W.t_UNKNOWN rfl) (nomark _)) pe_non (pe_callR (okx_number_of W) (hr.mono (by decide)) W.g_number_of W.k_number_of (passes_call (takes_of rfl rfl rfl rfl) (fun _ _ _ _ h => h)) rfl (pa_cons (pv 0) (pa_cons (pv 4) (pa_cons (pe_cv W.g_Plan W.r_Plan W.v_Plan_MAX_CHAIRS rfl) pa_nil))))) pa_nil)))))) qc_nil)))) (pss_one (ps_raise rfl (takes_of rfl rfl rfl rfl) (pmk_kw (W.ox_DaybookError).T (W.ox_DaybookError).iC (W.ox_DaybookError).tI (okx_DaybookError_init W) (hr.mono (by decide)) (kb_DaybookError W) pass0 rfl W.g_DaybookError (pk_cons (pv 0) pk_nil))))), ?_⟩
  obtain ⟨q1, hq1⟩ := W.t_UNKNOWN
  -- the row's number is read last
  walk_at "q"
  refine x_case (p_tn hL (fun e => ?_) fun hn1 => ?_)
  · subst e
    dsimp only
    walk_at "q"
    exact kk .tn (if_pos rfl) _ _ (Same.refl _) (.inl ⟨rfl, rfl⟩)
  dsimp only
  refine x_case (p_4 hL (fun r a t e hr => ?_) fun hn4 => ?_)
  · subst e
    dsimp only
    have hrd : rdEn c [r, a, ("carried" : Str), t] = mkEn r ((DbX.numOf c a).map some) (numU t) := (if_neg hn1).trans (if_pos ⟨hr, rfl⟩)
    have ha := hw a (List.mem_cons_of_mem _ List.mem_cons_self)
    have ht := hw t (List.mem_cons_of_mem _ (List.mem_cons_of_mem _ (List.mem_cons_of_mem _ List.mem_cons_self)))
    walk_at "q"
    refine ⟨k, c, a, rfl, ha, fun n hn H1 s1 => ?_, fun hno => kE (by rw [hrd, hno]; rfl)⟩
    walk_at "q"
    refine x_ixL (SqL.of (s1 _ _ hL)) (i := ((0 : Nat) : Int)) (v := .str r) (atI_nat rfl) ?_
    walk_at "q"
    refine x_ifSetd (fun v H' => Same H1 H' ∧ ∃ nu, v = optV nu ∧ numU t = some nu) (fun hq Q' k' => ?_) (fun hq Q' k' => ?_) fun v H2 ⟨s2, nu, ev, hnu⟩ => ?_
    · walk_at "q"
      exact k' _ _ ⟨Same.refl _, none, rfl, if_pos hq⟩
    · have hnu : numU t = (DbX.numOf big t).map some := if_neg hq
      walk_at "q"
      refine ⟨k, big, t, rfl, ht, fun m hm H2 s2 => k' _ _ ⟨s2, some m, rfl, by rw [hnu, hm]; rfl⟩, fun hno => (kE ?_).up s1⟩
      rw [hrd, hnu, hno]
      first | rfl | (rw [hn]; rfl)
    subst ev
    walk_at "q"
    refine ⟨sz rfl, fun T hT => ?_⟩; generalize hN : upd _ T _ = H3; obtain ⟨s3, e3⟩ := nws hN hT
    refine kk (.row (decide (r = "red")) (some n) nu) ?_ _ _ (s1.trans (s2.trans s3)) (.inr ⟨_, _, _, T, rfl, rfl, ?_⟩)
    · rw [hrd, hnu]
      first | rfl | (rw [hn]; rfl)
    · rw [e3]
      show some (HO.tup [V.str r, _, optV nu]) = some (HO.tup [V.str (roomS _), _, optV nu])
      rw [room_dec hr]
      rfl
  dsimp only
  refine x_case (p_3 hL (fun r t e hr => ?_) fun hn3 => ?_)
  · subst e
    dsimp only
    have hrd : rdEn c [r, ("has" : Str), t] = mkEn r (some none) (numU t) := (if_neg hn1).trans (if_pos ⟨hr, rfl⟩)
    have ht := hw t (List.mem_cons_of_mem _ (List.mem_cons_of_mem _ List.mem_cons_self))
    obtain ⟨H1, s1, hH1⟩ : ∃ H1, Same H H1 ∧ H1 = H := ⟨H, Same.refl _, rfl⟩
    subst hH1
    walk_at "q"
    refine x_ixL (SqL.of (s1 _ _ hL)) (i := ((0 : Nat) : Int)) (v := .str r) (atI_nat rfl) ?_
    walk_at "q"
    refine x_ifSetd (fun v H' => Same H1 H' ∧ ∃ nu, v = optV nu ∧ numU t = some nu) (fun hq Q' k' => ?_) (fun hq Q' k' => ?_) fun v H2 ⟨s2, nu, ev, hnu⟩ => ?_
    · walk_at "q"
      exact k' _ _ ⟨Same.refl _, none, rfl, if_pos hq⟩
    · have hnu : numU t = (DbX.numOf big t).map some := if_neg hq
      walk_at "q"
      refine ⟨k, big, t, rfl, ht, fun m hm H2 s2 => k' _ _ ⟨s2, some m, rfl, by rw [hnu, hm]; rfl⟩, fun hno => (kE ?_).up s1⟩
      rw [hrd, hnu, hno]
      first | rfl | (rw [hn]; rfl)
    subst ev
    walk_at "q"
    refine ⟨sz rfl, fun T hT => ?_⟩; generalize hN : upd _ T _ = H3; obtain ⟨s3, e3⟩ := nws hN hT
    refine kk (.row (decide (r = "red")) none nu) ?_ _ _ (s1.trans (s2.trans s3)) (.inr ⟨_, _, _, T, rfl, rfl, ?_⟩)
    · rw [hrd, hnu]
      first | rfl | (rw [hn]; rfl)
    · rw [e3]
      show some (HO.tup [V.str r, _, optV nu]) = some (HO.tup [V.str (roomS _), _, optV nu])
      rw [room_dec hr]
      rfl
  dsimp only
  have hbad : rdEn c ws = none := by
    refine (if_neg hn1).trans ?_
    match ws, hn4, hn3 with
    | [], _, _ => rfl
    | [a], _, _ => rfl
    | [a, b], _, _ => rfl
    | [r, x, t], _, h3 => exact if_neg (h3 r x t rfl)
    | [r, a, x, t], h4, _ => exact if_neg (h4 r a x t rfl)
    | _ :: _ :: _ :: _ :: _ :: _, _, _ => rfl
  walk_at "q"
  dsimp only
  refine x_rx ?_
  walk_at "q"
  exact ⟨_, rfl, fun d hd => kE hbad d _ hd (Same.new hd) upd_same⟩
/-! ### Daybook -/
theorem nwm {H H' : Hp} {p : Addr} {o : HO} (h : upd H p o = H') : (∀ b u, b ≠ p → H b = some u → H' b = some u) ∧ H' p = some o := by
  subst h
  exact ⟨fun b u n e => by rw [upd_ne n]; exact e, upd_same⟩
abbrev dbF (c : Int) (L : Addr) : List (Str × V) := [("chairs", .int c), ("entries", .ref L)]
/-- a daybook -/
structure DbAt (K : PySem.W.Frag) (H : Hp) (o : Addr) (c : Int) (es : List En) : Prop where
  ex : ∃ (dx L : Addr) (ps : List V), H o = some (.ins (ga K "Daybook") dx (dbF c L)) ∧ H L = some (.lst ps) ∧ EnsAt H ps es
theorem DbAt.mono {H H' : Hp} {o : Addr} {c : Int} {es : List En} (h : DbAt K H o c es) (s : Same H H') : DbAt K H' o c es := by
  obtain ⟨dx, L, ps, e1, e2, e3⟩ := h.ex
  exact ⟨⟨dx, L, ps, s _ _ e1, s _ _ e2, e3.keep fun a xs e => s _ _ e⟩⟩
def spDI (K : PySem.W.Frag) : Sp := fun vs H Q E => ∃ (x dx : Addr) (t : Str), vs = [.ref x, .str t] ∧ H x = some (.ins (ga K "Daybook") dx []) ∧ okD t ∧
  (∀ c es, good (rowsOf t) c es → ∀ H', (∀ b u, b ≠ x → H b = some u → H' b = some u) → DbAt K H' x c es → Q .non H') ∧
  (∀ k : Nat, bad (rowsOf t) = some k → ∀ d H', H d = none → (∀ b u, b ≠ x → H b = some u → H' b = some u) → H' d = some (.xd [("row", .int (k : Int))]) → E (.ref (ga K "DaybookError")) (some d) H')
theorem okx_Daybook_init (W : Wd K mg) : FnR P w K mg base (CX P w) 8 (ma K (ga K "Daybook") "__init__") (spDI K) := by
  refine (def_ok W.F_Daybook_init sc_Daybook_init (fun _ _ _ _ _ _ us hl => match us, hl with | [_, _], _ => rfl) (fun vs H Q E ⟨x, dx, t, e, _⟩ => by rw [e]; rfl) fun cdv A outer s H vs Q E hr ⟨x, dx, t, e, hx, hok, kk, kE⟩ => ?_).2
  subst e
  refine ⟨_, (pss_cons (ps_setLc (i := 2) (own := [("line", 4)]) (g := gName 4) (tt := tYes) rfl sc_Daybook_init.nd rfl rfl (sw_true rfl rfl rfl (by decide +kernel)) (pi_listK K (StrX.pe_splitK (pv 1) pe_str)) (blkOk_by (own := [("line", 4)]) (N := N_Daybook_init) (sc := defScope s_Daybook_init) (by decide +kernel)) (fun _ _ _ _ _ => (pg_name (i := 4) sc_Daybook_init.nd rfl (Or.inl rfl))) (fun _ _ _ _ _ => pts_nil) (fun _ _ _ _ _ => (StrX.pe_splitK (pv 4) pe_str))) (pss_cons (ps_if (PW.pt (pw_or (pt_cmpR (op_neK K hr.units) (pe_ix (ix_K K) (pe_ix (ix_K K) (pv 2) pe_int (fun _ _ => rfl)) pe_int (fun _ _ => rfl)) pe_str (nomark _)) (pw_or1 (pt_cmpR (op_neK K hr.units) (pe_callB (c_lenK K) (by rfl) W.f_len (by decide +kernel) (pa_cons (pe_ix (ix_K K) (pv 2) pe_int (fun _ _ => rfl)) pa_nil)) pe_int (nomark _))))) (pss_one (ps_raise rfl (takes_of rfl rfl rfl rfl) (pmk_kw (W.ox_DaybookError).T (W.ox_DaybookError).iC (W.ox_DaybookError).tI (okx_DaybookError_init W) (hr.mono (by decide)) (kb_DaybookError W) pass0 rfl W.g_DaybookError (pk_cons pe_int pk_nil)))) pss_nil) (pss_cons (ps_fldK K (pv 0) (pe_callR (okx_number_of W) (hr.mono (by decide)) W.g_number_of W.k_number_of (passes_call (takes_of rfl rfl rfl rfl) (fun _ _ _ _ h => h)) rfl (pa_cons pe_int (pa_cons (pe_ix (ix_K K) (pe_ix (ix_K K) (pv 2) pe_int (fun _ _ => rfl)) pe_int (fun _ _ => rfl)) (pa_cons (pe_cv W.g_Plan W.r_Plan W.v_Plan_MAX_CHAIRS rfl) pa_nil))))) (pss_cons (ps_fldK K (pv 0) (pe_lst pa_nil)) (pss_one (ps_for (passes_of rfl) rfl (pi_range2 (by rfl) W.f_range (pa_cons pe_int (pa_cons (pe_callB (c_lenK K) (by rfl) W.f_len (by decide +kernel) (pa_cons (pv 2) pa_nil)) pa_nil))) (pg_name (i := 3) sc_Daybook_init.nd rfl (Or.inl rfl)) (pss_cons (ps_if (pt_cmpR (op_eqK K hr.units) (pv 3) (pe_gi W.i_MAX_ROWS rfl) (nomark _)) (pss_one (ps_raise rfl (takes_of rfl rfl rfl rfl) (pmk_kw (W.ox_DaybookError).T (W.ox_DaybookError).iC (W.ox_DaybookError).tI (okx_DaybookError_init W) (hr.mono (by decide)) (kb_DaybookError W) pass0 rfl W.g_DaybookError (pk_cons (pv 3) pk_nil)))) pss_nil) (pss_one (ps_expr (pe_bmK K PySem.F.plainAttrs_list PySem.F.slot_list_append PySem.F.type_list_append mt_append (pe_fldK K (pv 0)) (pa_cons (pe_callR (okx_entry_of W) (hr.mono (by decide)) W.g_entry_of W.k_entry_of (passes_call (takes_of rfl rfl rfl rfl) (fun _ _ _ _ h => h)) rfl (pa_cons (pv 3) (pa_cons (pe_ix (ix_K K) (pv 2) (pv 3) (fun _ _ => rfl)) (pa_cons (pe_fldK K (pv 0)) pa_nil)))) pa_nil))))))))))), ?_⟩
  obtain ⟨hrl, hrne, hrw⟩ := okD_rows hok
  obtain ⟨q1, hq1⟩ := W.i_MAX_ROWS
  walk_at "q"
  refine ⟨⟨_, rfl⟩, ?_⟩
  walk_at "q"
  refine x_split (by decide +kernel) (by have := hok.1; omega) fun p1 hp1 => ?_; generalize hN1 : upd _ p1 _ = H1; obtain ⟨s1, e1⟩ := nws hN1 hp1
  refine x_iLAt (SqL.of e1) ?_
  have hlen : (rowsOf t).length = (Txt.split t "\n").length := by unfold rowsOf; rw [List.length_map]
  refine x_lcG walk_list (fun D j Hj => Same H1 Hj ∧ ∃ zs, Hj D = some (.lst zs) ∧ Paired (fun (v : V) (ws : List Str) => ∃ a, v = V.ref a ∧ a ≠ D ∧ Hj a = some (.lst (ws.map V.str))) zs ((rowsOf t).take j)) (fun D hD => ⟨Same.new hD, [], upd_same, .nil⟩) (fun D j Hj _ z => SqL.of (z.1 _ _ e1)) ?_ ?_
  · rintro D j y Ha' Ha hD hj ⟨sa, zs, ha, hzs⟩ ⟨rfl, ey⟩
    rw [List.getElem?_map] at ey
    obtain ⟨ln, hln, rfl⟩ := Option.map_eq_some_iff.mp ey
    have hrow : (rowsOf t)[j]? = some (wds ln) := by unfold rowsOf; rw [List.getElem?_map, hln]; rfl
    have hzl := pr_len hzs
    rw [List.length_take] at hzl
    walk_at "q"
    refine ⟨rfl, ?_⟩
    walk_at "q"
    refine ⟨⟨_, rfl⟩, ?_⟩
    walk_at "q"
    refine x_split (by decide +kernel) (by have := hok.2.2 ln (List.mem_of_getElem? hln); omega) fun p2 hp2 => ?_; generalize hN2 : upd _ p2 _ = H2; obtain ⟨s2, e2⟩ := nws hN2 hp2
    have nD : p2 ≠ D := fun z => by rw [z, ha] at hp2; cases hp2
    refine ⟨zs, s2 _ _ ha, sz5' (by omega), Same.mut (sa.trans s2) hD, zs ++ [.ref p2], upd_same, ?_⟩
    rw [List.take_add_one, hrow]
    exact pr_snoc (pr_im (fun v ws ⟨a, q1, q2, q3⟩ => ⟨a, q1, q2, by rw [upd_ne q2]; exact s2 _ _ q3⟩) hzs) ⟨p2, rfl, nD, by rw [upd_ne nD]; exact e2⟩
  rintro D H3 hD ⟨s3, zs, hz, hzs⟩
  rw [List.length_map, ← hlen, List.take_length] at hzs
  have s13 := s1.trans s3
  have hzl := pr_len hzs
  obtain ⟨w0, wr, hrows⟩ : ∃ w0 wr, rowsOf t = w0 :: wr := by
    cases e : rowsOf t with
    | nil => exact absurd e hrne
    | cons a r => exact ⟨a, r, rfl⟩
  obtain ⟨a0, hz0, _, ea0⟩ : ∃ a, zs[0]? = some (V.ref a) ∧ a ≠ D ∧ H3 a = some (.lst (w0.map V.str)) := by
    obtain ⟨v, hv, a, q1, q2, q3⟩ := pr_atR hzs (i := 0) (y := w0) (by rw [hrows]; rfl)
    exact ⟨a, by rw [hv, q1], q2, q3⟩
  obtain ⟨hw0, _, hwok⟩ := hrw w0 (by rw [hrows]; exact List.mem_cons_self)
  obtain ⟨f0, fr, hw0e⟩ : ∃ a r, w0 = a :: r := by
    cases w0 with
    | nil => exact absurd rfl hw0
    | cons a r => exact ⟨a, r, rfl⟩
  have err0 : ∀ {Hx : Hp}, (∀ b u, b ≠ x → H b = some u → Hx b = some u) → hdC w0 = none → ∀ d, Hx d = none → d ≠ x → E (.ref (ga K "DaybookError")) (some d) (upd Hx d (.xd [("row", .int 0)])) := fun {Hx} kx h d hd hdx => by
    refine kE 0 (by rw [hrows]; show (match hdC w0 with | none => some 0 | some c => badFrom c 1 wr) = some 0; rw [h]) d _ ?_ (fun b u hb e => by rw [upd_ne (fun z => by rw [z] at hb e; have := kx _ _ hb e; rw [hd] at this; cases this)]; exact kx _ _ hb e) upd_same
    cases e : H d with
    | none => rfl
    | some u => have := kx _ _ hdx e; rw [hd] at this; cases this
  walk_at "q"
  refine x_ixL (SqL.of hz) (i := ((0 : Nat) : Int)) (v := .ref a0) (atI_nat hz0) ?_
  walk_at "q"
  refine x_ixL (SqL.of ea0) (i := ((0 : Nat) : Int)) (v := .str f0) (atI_nat (by rw [hw0e]; rfl)) ?_
  walk_at "q"
  refine x_neS ?_
  walk_at "q"
  have k3 : ∀ b u, b ≠ x → H b = some u → H3 b = some u := fun b u _ e => s13 _ _ e
  have hx3 := s13 _ _ hx
  have nx : ∀ {d : Addr} {Hx : Hp}, Hx d = none → (∃ o, Hx x = some o) → d ≠ x := fun {d Hx} h ⟨o, e⟩ z => by rw [z, e] at h; cases h
  refine x_ifnd (fun hch => ?_) fun hch => ?_
  · walk_at "q"
    refine x_rx ?_
    walk_at "q"
    exact ⟨_, rfl, fun d hd => err0 k3 (by rw [hw0e]; match fr with | [] => rfl | [a] => exact if_neg hch | _ :: _ :: _ => rfl) d hd (nx hd ⟨_, hx3⟩)⟩
  walk_at "q"
  refine x_ixL (SqL.of hz) (i := ((0 : Nat) : Int)) (v := .ref a0) (atI_nat hz0) ?_
  walk_at "q"
  refine x_lenL (SqL.of ea0) ?_
  rw [List.length_map]
  walk_at "q"
  refine x_ifnd (fun hl2 => ?_) fun hl2 => ?_
  · walk_at "q"
    refine x_rx ?_
    walk_at "q"
    exact ⟨_, rfl, fun d hd => err0 k3 (by rw [hw0e] at hl2 ⊢; match fr, hl2 with | [], _ => rfl | [a], h => exact absurd rfl h | _ :: _ :: _, _ => rfl) d hd (nx hd ⟨_, hx3⟩)⟩
  obtain ⟨g0, rfl⟩ : ∃ g, fr = [g] := by
    rw [hw0e] at hl2
    match fr, hl2 with
    | [], h => exact absurd h (by show ¬ ((1 : Nat) : Int) = 2; decide)
    | [g], _ => exact ⟨g, rfl⟩
    | _ :: _ :: _, h => exact absurd h (by rw [List.length_cons, List.length_cons, List.length_cons]; omega)
  have hhd : hdC w0 = DbX.numOf big g0 := by rw [hw0e]; exact if_pos hch
  walk_at "q"
  refine x_ixL (SqL.of hz) (i := ((0 : Nat) : Int)) (v := .ref a0) (atI_nat hz0) ?_
  walk_at "q"
  refine x_ixL (SqL.of ea0) (i := ((1 : Nat) : Int)) (v := .str g0) (atI_nat (by rw [hw0e]; rfl)) ?_
  walk_at "q"
  refine ⟨0, big, g0, rfl, hwok g0 (by rw [hw0e]; exact List.mem_cons_of_mem _ List.mem_cons_self), fun c hc H4 s4 => ?_, fun hno d H4 hd s4 e4 => ?_⟩
  rotate_left
  · refine kE 0 (by rw [hrows]; show (match hdC w0 with | none => some 0 | some c => badFrom c 1 wr) = some 0; rw [hhd, hno]) d H4 (s13.free hd) (fun b u _ e => s4 _ _ (s13 _ _ e)) e4
  rw [hc] at hhd
  walk_at "q"
  have hx4 := (s13.trans s4) _ _ hx
  refine x_setAt hx4 W.c_Daybook W.n_Daybook_chairs (by show 0 < 1000; decide) ?_
  generalize hN5 : upd H4 x _ = H5; obtain ⟨k5, e5⟩ := nwm hN5
  replace e5 : H5 x = some (.ins (ga K "Daybook") dx [("chairs", .int c)]) := e5
  walk_at "q"
  refine ⟨sz rfl, fun L hL => ?_⟩; generalize hN6 : upd _ L _ = H6; obtain ⟨s6, e6⟩ := nws hN6 hL
  have hLx : L ≠ x := fun z => by rw [z, e5] at hL; cases hL
  walk_at "q"
  refine x_setAt (s6 _ _ e5) W.c_Daybook W.n_Daybook_entries (by show 1 < 1000; decide) ?_
  generalize hN7 : upd H6 x _ = H7; obtain ⟨k7, e7⟩ := nwm hN7
  replace e7 : H7 x = some (.ins (ga K "Daybook") dx (dbF c L)) := e7
  have e67 := k7 _ _ hLx e6
  -- what stays of the first heap
  have k37 : ∀ b u, b ≠ x → H3 b = some u → H7 b = some u := fun b u hb e => k7 _ _ hb (s6 _ _ (k5 _ _ hb (s4 _ _ e)))
  have nLH : ∀ {b u}, H3 b = some u → b ≠ x → b ≠ L := fun {b u} e hb z => by
    have := k5 _ _ hb (s4 _ _ e)
    rw [z, hL] at this
    cases this
  have ndx : ∀ {a : Addr} {xs : List V}, H3 a = some (.lst xs) → a ≠ x := fun {a xs} e z => by rw [z, hx3] at e; cases e
  walk_at "q"
  have hzD := k37 _ _ (ndx hz) hz
  refine x_lenL (SqL.of hzD) ?_
  walk_at "q"
  have hzw : zs.length = wr.length + 1 := by rw [hzl, hrows]; rfl
  refine x_iR2At (by constructor; decide; constructor; decide; omega) ?_
  have hn : (((zs.length : Nat) : Int) - 1).toNat = wr.length := by omega
  rw [hn]
  refine x_loop walk_range (fun i σ Hi => (∃ w3 w4, σ = [some (.ref x), some (.str t), some (.ref D), w3, w4]) ∧ (∀ b u, b ≠ L → H7 b = some u → Hi b = some u) ∧ badFrom c 1 wr = badFrom c (1 + i) (wr.drop i) ∧ ∃ ps es, Hi L = some (.lst ps) ∧ EnsAt Hi ps es ∧ (wr.take i).map (rdEn c) = es.map some) ⟨⟨_, _, rfl⟩, fun _ _ _ e => e, by rw [Nat.add_zero]; rfl, [], [], e67, .nil, rfl⟩ (fun _ _ _ _ _ => trivial) ?_ ?_
  · rintro i y σ Hi' Hi hi ⟨⟨w3, w4, rfl⟩, kp, hbf, ps, es, hps, hes, hst⟩ ⟨rfl, rfl⟩
    obtain ⟨ws, hws⟩ : ∃ ws, wr[i]? = some ws := ⟨_, List.getElem?_eq_getElem hi⟩
    have hdrop : wr.drop i = ws :: wr.drop (i + 1) := by
      obtain ⟨hl, e⟩ := List.getElem?_eq_some_iff.mp hws
      rw [List.drop_eq_getElem_cons hl, e]
    have hbf2 : badFrom c (1 + i) (ws :: wr.drop (i + 1)) = if 1 + i = 201 ∨ rdEn c ws = none then some (1 + i) else badFrom c (1 + i + 1) (wr.drop (i + 1)) := rfl
    rw [hdrop, hbf2] at hbf
    have hbad : (1 + i = 201 ∨ rdEn c ws = none) → bad (rowsOf t) = some (1 + i) := fun h => by
      rw [hrows]
      show (match hdC w0 with | none => some 0 | some c => badFrom c 1 wr) = _
      rw [hhd]
      show badFrom c 1 wr = _
      rw [hbf, if_pos h]
    have k3i : ∀ b u, b ≠ x → H3 b = some u → Hi b = some u := fun b u hb e => kp _ _ (nLH e hb) (k37 _ _ hb e)
    have hxi := kp _ _ hLx.symm e7
    have eint : (1 : Int) + (i : Int) = ((1 + i : Nat) : Int) := by omega
    have err : (1 + i = 201 ∨ rdEn c ws = none) → ∀ {Hx : Hp}, Same Hi Hx → ∀ d, Hx d = none → E (.ref (ga K "DaybookError")) (some d) (upd Hx d (.xd [("row", .int (1 + (i : Int)))])) := fun h {Hx} sx d hd => by
      have hdx : d ≠ x := nx hd ⟨_, sx _ _ hxi⟩
      refine kE (1 + i) (hbad h) d _ ?_ (fun b u hb e => ?_) (by rw [upd_same, eint])
      · cases e : H d with
        | none => rfl
        | some u => have := sx _ _ (k3i _ _ hdx (s13 _ _ e)); rw [hd] at this; cases this
      · have e2 := sx _ _ (k3i _ _ hb (s13 _ _ e))
        rw [upd_ne (fun z => by rw [z, hd] at e2; cases e2)]
        exact e2
    obtain ⟨aw, haw, _, eaw⟩ : ∃ a, zs[1 + i]? = some (V.ref a) ∧ a ≠ D ∧ H3 a = some (.lst (ws.map V.str)) := by
      obtain ⟨v, hv, a, q1, q2, q3⟩ := pr_atR hzs (i := 1 + i) (y := ws) (by rw [hrows, Nat.add_comm]; exact hws)
      exact ⟨a, by rw [hv, q1], q2, q3⟩
    walk_at "q"
    refine x_ifd (fun h201 => ?_) fun h201 => ?_
    · walk_at "q"
      refine x_rx ?_
      walk_at "q"
      exact ⟨_, rfl, fun d hd => err (.inl (by omega)) (Same.refl _) d hd⟩
    have h201' : 1 + i ≠ 201 := by omega
    walk_at "q"
    refine x_fldAt hxi W.c_Daybook W.n_Daybook_entries rfl ?_
    refine ⟨ty_lst hps, ?_⟩
    walk_at "q"
    refine x_ixL (SqL.of (k3i _ _ (ndx hz) hz)) (v := .ref aw) (by rw [eint]; exact atI_nat haw) ?_
    walk_at "q"
    refine x_fldAt hxi W.c_Daybook W.n_Daybook_chairs rfl ?_
    walk_at "q"
    refine ⟨1 + (i : Int), c, aw, ws, rfl, k3i _ _ (ndx eaw) eaw, (hrw ws (by rw [hrows]; exact List.mem_cons_of_mem _ (List.mem_of_getElem? hws))).2.2, fun en hen v H8 s8 hev => ?_, fun hno d H8 hd s8 e8 => ?_⟩
    · have hps8 := s8 _ _ hps
      have hpl : ps.length = es.length := pr_len hes
      have hel : es.length = i := by
        have := congrArg List.length hst
        rw [List.length_map, List.length_map, List.length_take] at this
        omega
      walk_at "q"
      refine x_app hps8 (sz5' (by omega)) ?_
      walk_at "q"
      have kT : ∀ a xs, H8 a = some (.tup xs) → (upd H8 L (.lst (ps ++ [v]))) a = some (.tup xs) := fun a xs e => by
        rw [upd_ne (fun z => by rw [z, hps8] at e; cases e)]
        exact e
      refine ⟨⟨_, _, rfl⟩, fun b u hb e => by rw [upd_ne hb]; exact s8 _ _ (kp _ _ hb e), ?_, ps ++ [v], es ++ [en], upd_same, ?_, ?_⟩
      · rw [hbf, if_neg (fun z => z.elim h201' fun y => by rw [hen] at y; cases y), Nat.add_assoc]
      · exact pr_snoc (EnsAt.keep (hes.keep fun a xs e => s8 _ _ e) kT) (hev.keep kT)
      · rw [List.take_add_one, hws, List.map_append, hst, List.map_append]
        show es.map some ++ [rdEn c ws] = _
        rw [hen]
        rfl
    · have h1 := err (.inr hno) (Hx := Hi) (Same.refl _)
      have hdx : d ≠ x := nx hd ⟨_, hxi⟩
      refine kE (1 + i) (hbad (.inr hno)) d H8 ?_ (fun b u hb e => s8 _ _ (k3i _ _ hb (s13 _ _ e))) (by rw [e8, eint])
      cases e : H d with
      | none => rfl
      | some u => have := k3i _ _ hdx (s13 _ _ e); rw [hd] at this; cases this
  · rintro σ Hi ⟨⟨w3, w4, rfl⟩, kp, hbf, ps, es, hps, hes, hst⟩
    rw [List.drop_eq_nil_of_le (Nat.le_refl _)] at hbf
    rw [List.take_of_length_le (Nat.le_refl _)] at hst
    obtain ⟨_, hlen2⟩ := badFrom_none (r := wr) (k := 1) (by decide) hbf
    have k3i : ∀ b u, b ≠ x → H3 b = some u → Hi b = some u := fun b u hb e => kp _ _ (nLH e hb) (k37 _ _ hb e)
    exact kk c es ⟨w0, wr, hrows, hhd, hst, by omega⟩ Hi (fun b u hb e => k3i _ _ hb (s13 _ _ e)) ⟨⟨dx, L, ps, kp _ _ hLx.symm e7, hps, hes⟩⟩
end
end K46

set_option Elab.async false
set_option linter.all false
set_option autoImplicit false
set_option maxRecDepth 100000
set_option pp.maxSteps 500
set_option maxHeartbeats 4000000
namespace K46
open PySem PySem.Spec PyProof.Rows L2 He ChH Ch ChM TxX StrX NumX LsX DbX
local macro_rules | `(tactic| walk_at "x1") => `(tactic| first
  | ((with_reducible apply x_var); exact rfl)
  | with_reducible refine x_c ?_
  | with_reducible refine x_op ?_
  | with_reducible refine x_seq ?_
  | with_reducible refine x_asg ?_
  | with_reducible refine x_gname ?_
  | with_reducible refine x_cons ?_
  | with_reducible refine x_nil ?_
  | with_reducible refine x_fld ?_
  | with_reducible refine x_ret ?_
  | with_reducible refine x_ifS ?_
  | with_reducible refine x_test ?_
  | with_reducible refine x_ex ?_
  | with_reducible refine x_call ?_
  | with_reducible refine x_mk ?_
  | with_reducible refine x_meth ?_
  | with_reducible refine x_prop ?_
  | with_reducible refine x_cb ?_
  | with_reducible refine x_tup ?_
  | with_reducible refine x_lst ?_
  | with_reducible refine x_drop ?_
  | with_reducible refine x_for ?_
  | with_reducible refine x_iL ?_
  | with_reducible refine x_iT ?_
  | with_reducible refine x_iE ?_
  | with_reducible refine x_iU ?_
  | with_reducible refine x_iR1 ?_
  | with_reducible refine x_iR2 ?_
  | with_reducible refine x_gcons ?_
  | with_reducible refine x_gnil ?_
  | with_reducible refine x_par ?_
  | with_reducible refine x_lstRg ?_
  | with_reducible refine x_rg1 ?_
  | with_reducible refine x_rg1At ?_
  | with_reducible refine x_par3 ?_
  | with_reducible refine x_bm ?_
  | with_reducible refine x_bm0 ?_
  | with_reducible refine x_gSub ?_
  | with_reducible refine x_lc ?_
  | with_reducible refine x_yes ?_
  | with_reducible refine x_setf ?_
  | with_reducible refine x_next ?_
  | with_reducible refine x_B ?_
  | with_reducible refine x_and ?_
  | with_reducible refine x_or ?_
  | with_reducible refine x_not ?_
  | with_reducible refine x_andV ?_
  | with_reducible refine x_orV ?_
  | with_reducible refine x_notV ?_
  | with_reducible refine x_ifE ?_
  | with_reducible refine x_chain ?_
  | with_reducible refine x_chain3 ?_
  | with_reducible refine x_un ?_
  | with_reducible refine x_isNe ?_
  | with_reducible refine x_notNe ?_
  | with_reducible refine x_starA ?_
  | with_reducible refine x_plusI ?_
  | with_reducible refine x_minus ?_
  | with_reducible refine x_lt ?_
  | with_reducible refine x_le ?_
  | with_reducible refine x_gt ?_
  | with_reducible refine x_ge ?_
  | with_reducible refine x_eqI ?_
  | with_reducible refine x_neI ?_
  | with_reducible refine x_eqS ?_
  | with_reducible refine x_eqB ?_
  | with_reducible refine x_neB ?_
  | with_reducible refine x_int ?_
  | with_reducible refine x_intB ?_
  | with_reducible refine x_max2 ?_
  | with_reducible refine x_min2 ?_
  | with_reducible refine x_max3 ?_
  | with_reducible refine x_abs ?_
  | with_reducible refine x_neg ?_
  | with_reducible refine x_isi_ii ?_
  | with_reducible refine x_isi_ib ?_
  | with_reducible refine x_T ?_
  | with_reducible refine x_nT ?_
  | with_reducible refine x_nF ?_
  | with_reducible refine x_F ?_)
local macro_rules | `(tactic| walk_at "x") => `(tactic| repeat walk_at "x1")

local macro_rules | `(tactic| walk_at "q1") => `(tactic| first
  | walk_at "x1"
  | with_reducible refine x_sl ?_
  | with_reducible refine x_cmeth ?_
  | with_reducible refine x_noPart ?_
  | with_reducible refine x_part ?_
  | with_reducible refine x_partI ?_)
local macro_rules | `(tactic| walk_at "q") => `(tactic| repeat walk_at "q1")

theorem red_dec (b : Bool) : decide (roomS b = "red") = b := by cases b <;> decide
theorem ent_at {H : Hp} {vs : List V} {es : List En} {i : Nat} {v : V} (h : EnsAt H vs es) (e : vs[i]? = some v) : ∃ en, es[i]? = some en ∧ EnAt H v en := pr_at h e
section
variable {P : Program} {w : World} {K : PySem.W.Frag} {mg : Str → Option Value} {base : Heap}
theorem ok_Daybook_row_count (W : Wd K mg) : FnR P w K mg base CX0 1 (gp "Daybook" "row_count" K) (fun vs H Q _ => ∃ (o : Addr) (c : Int) (es : List En), vs = [.ref o] ∧ DbAt K H o c es ∧ Q (.int ((es.length + 1 : Nat) : Int)) H) := by
  refine (def_ok W.F_Daybook_row_count sc_Daybook_row_count (fun _ _ _ _ _ _ us hl => match us, hl with | [_], _ => rfl) (fun vs H Q E ⟨o, c, es, e, _⟩ => by rw [e]; rfl) fun cdv A outer s H vs Q E hr ⟨o, c, es, e, hd, k⟩ => ?_).2
  subst e
  obtain ⟨dx, L, ps, e1, e2, e3⟩ := hd.ex
  refine ⟨_, PSs.nox (pss_one (ps_ret (pe_op op_plus (pe_callB (c_lenK K) (by rfl) W.f_len (by decide +kernel) (pa_cons (pe_fldK K (pv 0)) pa_nil)) pe_int))), ?_⟩
  walk_at "q"
  refine x_fldAt e1 W.c_Daybook W.n_Daybook_entries rfl ?_
  walk_at "q"
  refine x_lenL (SqL.of e2) ?_
  rw [show ps.length = es.length from pr_len e3]
  walk_at "q"
  rw [show ((es.length : Nat) : Int) + 1 = ((es.length + 1 : Nat) : Int) by omega]
  exact k
/-- the right numbers of a start -/
def spNu (K : PySem.W.Frag) : Sp := fun vs H Q _ => ∃ (o : Addr) (c x : Int) (es : List En), vs = [.ref o, .int x] ∧ DbAt K H o c es ∧ es.length ≤ 200 ∧ ∀ L H', H L = none → Same H H' → H' L = some (.lst ((numsF c x false es).map optV)) → Q (.ref L) H'
theorem ok_Daybook_numbers (W : Wd K mg) : FnR P w K mg base CX0 2 (ma K (ga K "Daybook") "numbers") (spNu K) := by
  refine (def_ok W.F_Daybook_numbers sc_Daybook_numbers (fun _ _ _ _ _ _ us hl => match us, hl with | [_, _], _ => rfl) (fun vs H Q E ⟨o, c, x, es, e, _⟩ => by rw [e]; rfl) fun cdv A outer s H vs Q E hr ⟨o, c, x, es, e, hd, hl, k⟩ => ?_).2
  subst e
  obtain ⟨dx, L, ps, e1, e2, e3⟩ := hd.ex
  have hpl : ps.length = es.length := pr_len e3
  refine ⟨_, PSs.nox (pss_cons (ps_par3 (i := 2) (j := 3) (l := 4) (by rfl) sc_Daybook_numbers.nd rfl rfl rfl (by decide) (by decide) (by decide) rfl rfl rfl (pa_cons (pe_lst pa_nil) (pa_cons (pv 1) (pa_cons pe_bl pa_nil))) (by rfl)) (pss_cons (ps_for PassesOwn.never rfl (pi_listK K (pe_fldK K (pv 0))) (pg_name (i := 5) sc_Daybook_numbers.nd rfl (Or.inl rfl)) (pss_one (ps_if (pt_cmp (pc_isN (pv 5))) (pss_cons (ps_set (i := 4) sc_Daybook_numbers.nd rfl (Or.inl rfl) (pe_not (pv 4))) (pss_one (ps_expr (pe_bmK K PySem.F.plainAttrs_list PySem.F.slot_list_append PySem.F.type_list_append mt_append (pv 2) (pa_cons pe_non pa_nil))))) (pss_cons (ps_set (i := 6) sc_Daybook_numbers.nd rfl (Or.inl rfl) (pe_ifExp (pt_cmpR (op_neK K hr.units) (pe_cmpR (op_eqK K hr.units) (pe_ix (ix_K K) (pv 5) pe_int (fun _ _ => rfl)) (pe_gs W.t_RED rfl) (nomark _)) (pv 4) (nomark _)) pe_int (pe_un un_neg pe_int))) (pss_one (ps_if (pt_cmp (pc_isN (pe_ix (ix_K K) (pv 5) pe_int (fun _ _ => rfl)))) (pss_one (ps_expr (pe_bmK K PySem.F.plainAttrs_list PySem.F.slot_list_append PySem.F.type_list_append mt_append (pv 2) (pa_cons (pe_ifExp (pt_cmpR (op_eqK K hr.units) (pv 6) pe_int (nomark _)) (pv 3) (pe_op op_minus (pe_fldK K (pv 0)) (pv 3))) pa_nil)))) (pss_cons (ps_set (i := 7) sc_Daybook_numbers.nd rfl (Or.inl rfl) (pe_callR (ok_moved W) (hr.mono (by decide)) W.g_moved W.k_moved pass0 rfl (pa_cons (pe_fldK K (pv 0)) (pa_cons (pv 3) (pa_cons (pv 6) (pa_cons (pe_ix (ix_K K) (pv 5) pe_int (fun _ _ => rfl)) pa_nil)))))) (pss_cons (ps_expr (pe_bmK K PySem.F.plainAttrs_list PySem.F.slot_list_append PySem.F.type_list_append mt_append (pv 2) (pa_cons (pe_callB c_abs (by rfl) W.f_abs (by decide +kernel) (pa_cons (pe_op op_minus (pv 7) (pv 3)) pa_nil)) pa_nil))) (pss_one (ps_set (i := 3) sc_Daybook_numbers.nd rfl (Or.inl rfl) (pv 7))))))))))) (pss_one (ps_ret (pv 2))))), ?_⟩
  walk_at "q"
  refine ⟨sz rfl, fun F hF => ?_⟩; generalize hN1 : upd _ F _ = H1; obtain ⟨s1, f1⟩ := nws hN1 hF
  walk_at "q"
  refine ⟨_, _, _, rfl, ?_⟩
  walk_at "q"
  refine x_fldAt (s1 _ _ e1) W.c_Daybook W.n_Daybook_entries rfl ?_
  refine x_iLAt (SqL.of (s1 _ _ e2)) (x_loop walk_list (fun i σ Hi => Same H Hi ∧ ∃ p v, plF c x false (es.take i) = (p, v) ∧ (∃ w5 w6 w7, σ = [some (.ref o), some (.int x), some (.ref F), some (.int p), some (.bl v), w5, w6, w7]) ∧ Hi F = some (.lst ((numsF c x false (es.take i)).map optV))) ⟨s1, x, false, rfl, ⟨_, _, _, rfl⟩, f1⟩ (fun i σ Hi _ ⟨si, _⟩ => SqL.of (si _ _ e2)) ?_ ?_)
  · rintro i y σ Hi' Hi hi ⟨si, p, v, hpv, ⟨w5, w6, w7, rfl⟩, hF1⟩ ⟨rfl, ey⟩
    obtain ⟨en, hen, hea⟩ := ent_at e3 ey
    have htk : es.take (i + 1) = es.take i ++ [en] := by rw [List.take_add_one, hen]; rfl
    have hnl : (numsF c x false (es.take i)).length ≤ 200 := by rw [numsF_len, List.length_take]; omega
    have happ : numsF c x false (es.take (i + 1)) = numsF c x false (es.take i) ++ numsF c p v [en] := by rw [htk, numsF_app, hpv]
    have hpl2 : plF c x false (es.take (i + 1)) = plF c p v [en] := by rw [htk, plF_app, hpv]
    have put : ∀ {q : Option Int} {Hx : Hp}, Same Hi Hx → numsF c p v [en] = [q] → Hx F = some (.lst ((numsF c x false (es.take i)).map optV)) ∧ ((numsF c x false (es.take i)).map optV).length < sizeLine ∧ Same H (upd Hx F (.lst ((numsF c x false (es.take i)).map optV ++ [optV q]))) ∧ (upd Hx F (.lst ((numsF c x false (es.take i)).map optV ++ [optV q]))) F = some (.lst ((numsF c x false (es.take (i + 1))).map optV)) := fun {q Hx} sx hq =>
      ⟨sx _ _ hF1, sz5' (by rw [List.length_map]; omega), Same.mut (si.trans sx) hF, by rw [upd_same, happ, hq, List.map_append]; rfl⟩
    walk_at "q"
    rcases hea with ⟨rfl, rfl⟩ | ⟨b, nd, nu, T, rfl, rfl, hT⟩
    · refine x_ifd (fun _ => ?_) fun z => absurd rfl z
      obtain ⟨g1, g2, g3, g4⟩ := put (q := none) (Same.refl _) rfl
      walk_at "q"
      refine ⟨ty_lst hF1, ?_⟩
      walk_at "q"
      refine x_app g1 g2 ?_
      walk_at "q"
      exact ⟨g3, p, !v, hpl2, ⟨_, _, _, rfl⟩, g4⟩
    refine x_ifd (fun z => nomatch z) fun _ => ?_
    have hTi := si _ _ hT
    walk_at "q"
    refine x_ixT (SqT.of hTi) (i := ((0 : Nat) : Int)) (v := .str (roomS b)) (atI_nat rfl) ?_
    walk_at "q"
    rw [red_dec]
    rw [show (!decide (b = v)) = side b v by cases b <;> cases v <;> rfl]
    refine x_ifSet (fun u H' => u = .int (if side b v = true then 1 else -1) ∧ H' = Hi) (fun hs Q' k' => ?_) (fun hs Q' k' => ?_) fun u H' ⟨eu, eH⟩ => ?_
    · walk_at "q"
      exact k' _ _ ⟨by rw [if_pos hs], rfl⟩
    · walk_at "q"
      exact k' _ _ ⟨by rw [if_neg (by rw [hs]; exact Bool.false_ne_true)], rfl⟩
    subst eu
    subst eH
    walk_at "q"
    refine x_ixT (SqT.of hTi) (i := ((1 : Nat) : Int)) (v := optV nd) (atI_nat rfl) ?_
    walk_at "q"
    cases nd with
    | none =>
      refine x_ifd (fun _ => ?_) fun z => absurd rfl z
      obtain ⟨g1, g2, g3, g4⟩ := put (q := some (if side b v then p else c - p)) (Same.refl _) rfl
      walk_at "q"
      refine ⟨ty_lst hF1, ?_⟩
      walk_at "q"
      refine x_ifSetd (fun u H2 => u = .int (if side b v then p else c - p) ∧ H2 = H') (fun hs Q' k' => ?_) (fun hs Q' k' => ?_) fun u H2 ⟨eu, eH⟩ => ?_
      · walk_at "q"
        have : side b v = true := by
          cases h : side b v
          · rw [h] at hs; exact absurd hs (by decide)
          · rfl
        exact k' _ _ ⟨by rw [if_pos this], rfl⟩
      · have : ¬ side b v = true := fun h => hs (by rw [if_pos h])
        walk_at "q"
        refine x_fldAt (si _ _ e1) W.c_Daybook W.n_Daybook_chairs rfl ?_
        walk_at "q"
        exact k' _ _ ⟨by rw [if_neg this], rfl⟩
      subst eu
      subst eH
      walk_at "q"
      refine x_app g1 g2 ?_
      walk_at "q"
      exact ⟨g3, p, v, hpl2, ⟨_, _, _, rfl⟩, g4⟩
    | some n =>
      rw [show optV (some n) = V.int n from rfl]
      refine x_ifd (fun z => nomatch z) fun _ => ?_
      obtain ⟨g1, g2, g3, g4⟩ := put (q := some (if stepQ c p (side b v) n - p < 0 then -(stepQ c p (side b v) n - p) else stepQ c p (side b v) n - p)) (Same.refl _) rfl
      walk_at "q"
      refine x_fldAt (si _ _ e1) W.c_Daybook W.n_Daybook_chairs rfl ?_
      walk_at "q"
      refine x_ixT (SqT.of hTi) (i := ((1 : Nat) : Int)) (v := .int n) (atI_nat rfl) ?_
      walk_at "q"
      refine ⟨c, p, _, n, rfl, ?_⟩
      rw [show moved c p (if side b v = true then 1 else -1) n = stepQ c p (side b v) n from rfl]
      walk_at "q"
      refine ⟨ty_lst hF1, ?_⟩
      walk_at "q"
      refine x_app g1 g2 ?_
      walk_at "q"
      exact ⟨g3, stepQ c p (side b v) n, v, hpl2, ⟨_, _, _, rfl⟩, g4⟩
  · rintro σ Hi ⟨si, p, v, hpv, ⟨w5, w6, w7, rfl⟩, hF1⟩
    rw [hpl, List.take_of_length_le (Nat.le_refl _)] at hF1
    walk_at "q"
    exact k F Hi hF si hF1
end
end K46

set_option Elab.async false
set_option linter.all false
set_option autoImplicit false
set_option maxRecDepth 100000
set_option pp.maxSteps 500
set_option maxHeartbeats 4000000
namespace K46
open PySem PySem.Spec PyProof.Rows L2 He ChH Ch ChM LamX TxX StrX NumX LsX DbX
local macro_rules | `(tactic| walk_at "x1") => `(tactic| first
  | ((with_reducible apply x_var); exact rfl)
  | with_reducible refine x_c ?_
  | with_reducible refine x_op ?_
  | with_reducible refine x_seq ?_
  | with_reducible refine x_asg ?_
  | with_reducible refine x_gname ?_
  | with_reducible refine x_cons ?_
  | with_reducible refine x_nil ?_
  | with_reducible refine x_fld ?_
  | with_reducible refine x_ret ?_
  | with_reducible refine x_ifS ?_
  | with_reducible refine x_test ?_
  | with_reducible refine x_ex ?_
  | with_reducible refine x_call ?_
  | with_reducible refine x_mk ?_
  | with_reducible refine x_meth ?_
  | with_reducible refine x_prop ?_
  | with_reducible refine x_cb ?_
  | with_reducible refine x_tup ?_
  | with_reducible refine x_lst ?_
  | with_reducible refine x_drop ?_
  | with_reducible refine x_for ?_
  | with_reducible refine x_iL ?_
  | with_reducible refine x_iT ?_
  | with_reducible refine x_iE ?_
  | with_reducible refine x_iU ?_
  | with_reducible refine x_iR1 ?_
  | with_reducible refine x_iR2 ?_
  | with_reducible refine x_gcons ?_
  | with_reducible refine x_gnil ?_
  | with_reducible refine x_par ?_
  | with_reducible refine x_lstRg ?_
  | with_reducible refine x_rg1 ?_
  | with_reducible refine x_rg1At ?_
  | with_reducible refine x_par3 ?_
  | with_reducible refine x_bm ?_
  | with_reducible refine x_bm0 ?_
  | with_reducible refine x_gSub ?_
  | with_reducible refine x_lc ?_
  | with_reducible refine x_yes ?_
  | with_reducible refine x_setf ?_
  | with_reducible refine x_next ?_
  | with_reducible refine x_B ?_
  | with_reducible refine x_and ?_
  | with_reducible refine x_or ?_
  | with_reducible refine x_not ?_
  | with_reducible refine x_andV ?_
  | with_reducible refine x_orV ?_
  | with_reducible refine x_notV ?_
  | with_reducible refine x_ifE ?_
  | with_reducible refine x_chain ?_
  | with_reducible refine x_chain3 ?_
  | with_reducible refine x_un ?_
  | with_reducible refine x_isNe ?_
  | with_reducible refine x_notNe ?_
  | with_reducible refine x_starA ?_
  | with_reducible refine x_plusI ?_
  | with_reducible refine x_minus ?_
  | with_reducible refine x_lt ?_
  | with_reducible refine x_le ?_
  | with_reducible refine x_gt ?_
  | with_reducible refine x_ge ?_
  | with_reducible refine x_eqI ?_
  | with_reducible refine x_neI ?_
  | with_reducible refine x_eqS ?_
  | with_reducible refine x_eqB ?_
  | with_reducible refine x_neB ?_
  | with_reducible refine x_int ?_
  | with_reducible refine x_intB ?_
  | with_reducible refine x_max2 ?_
  | with_reducible refine x_min2 ?_
  | with_reducible refine x_max3 ?_
  | with_reducible refine x_abs ?_
  | with_reducible refine x_neg ?_
  | with_reducible refine x_isi_ii ?_
  | with_reducible refine x_isi_ib ?_
  | with_reducible refine x_T ?_
  | with_reducible refine x_nT ?_
  | with_reducible refine x_nF ?_
  | with_reducible refine x_F ?_)
local macro_rules | `(tactic| walk_at "x") => `(tactic| repeat walk_at "x1")

local macro_rules | `(tactic| walk_at "q1") => `(tactic| first
  | walk_at "x1"
  | with_reducible refine x_sl ?_
  | with_reducible refine x_cmeth ?_
  | with_reducible refine x_noPart ?_
  | with_reducible refine x_part ?_
  | with_reducible refine x_partI ?_)
local macro_rules | `(tactic| walk_at "q") => `(tactic| repeat walk_at "q1")

/-! ### the numbers of one row, for all starts -/
def fN (c : Int) (es : List En) (i : Nat) (m : Int) : Int := ((((numsF c m false es)[i]?).getD none).getD 0)
theorem fN_at {c : Int} {es : List En} {i : Nat} (h : ∃ b nd nu, es[i]? = some (.row b nd nu)) (m : Int) : ((numsF c m false es).map optV)[i]? = some (.int (fN c es i m)) := by
  obtain ⟨b, nd, nu, h⟩ := h
  obtain ⟨n, hn⟩ := numsF_row c m false h
  unfold fN
  rw [List.getElem?_map, hn]
  rfl
def upC (c : Int) (f : Int → Int) : Prop := ∀ m1 m2, 0 ≤ m1 → m1 ≤ m2 → m2 ≤ c → f m1 ≤ f m2
def dnC (c : Int) (f : Int → Int) : Prop := ∀ m1 m2, 0 ≤ m1 → m1 ≤ m2 → m2 ≤ c → f m2 ≤ f m1
/-- a search that ends at z -/
def cutAt (c : Int) (p : Int → Bool) (z : Int) : Prop := (∀ m1 m2, 0 ≤ m1 → m1 ≤ m2 → m2 ≤ c → p m1 = true → p m2 = true) → (∀ m, 0 ≤ m → m < z → p m = false) ∧ ∀ m, z ≤ m → m ≤ c → p m = true
/-- what the lambda is asked -/
def TTfs (K : PySem.W.Frag) : List V → (V → Hp → VK → Prop) → Hp → VK → Prop := fun us tl H Q => ∃ (o : Addr) (c : Int) (es : List En) (idx : Nat) (p : Int → Bool), us = [.ref o, .int (idx : Int)] ∧ DbAt K H o c es ∧ es.length ≤ 200 ∧ 0 ≤ c ∧ c ≤ big ∧ (∃ b nd nu, es[idx]? = some (.row b nd nu)) ∧
  (∀ n H' Q', Same H H' → Q' (.bl (p n)) H' → tl (.int n) H' Q') ∧ ∀ z H', Same H H' → 0 ≤ z → z ≤ c + 1 → cutAt c (fun m => p (fN c es idx m)) z → Q (.int z) H'
theorem Daybook_first_start_gives {X : Cx} {cdg : Value} {q : Str} (W : Wd X.K X.mg) (hrr : Room 5 X.A) : LamP.GivesM X N_Daybook_first_start "Daybook.first_start" (defScope s_Daybook_first_start) (ma X.K (ga X.K "Daybook") "first_start") cdg (defBody s_Daybook_first_start) 2 "test" q (TTfs X.K) := by
  intro f c' LO s H Q us tl hus act hLO hco hTT
  obtain ⟨o, c, es, idx, p, rfl, hd, hl, c0, c1, hrow, htl, k⟩ := hTT
  have hr : Room 4 (cxOf C8.CX0 X.prog X.w X.K X.mg X.base N_Daybook_first_start "Daybook.first_start" (defScope s_Daybook_first_start) (ma X.K (ga X.K "Daybook") "first_start") cdg X.A X.stack s H C8.E0).nox.A := hrr.deeper _
  obtain ⟨dx, L, ps, e1, e2, e3⟩ := id hd.ex
  refine ⟨_, (pss_cons (ps_par (i := 3) (j := 4) (by rfl) sc_Daybook_first_start.nd rfl rfl (by decide) rfl rfl (pa_cons pe_int (pa_cons (pe_op op_plus (pe_fldK X.K (pv 0)) pe_int) pa_nil)) (by rfl)) (pss_cons (ps_while PassesOwn.never (pt_cmpR op_ltI (pv 3) (pv 4) (nomark _)) (pss_cons (ps_set (i := 5) sc_Daybook_first_start.nd rfl (Or.inl rfl) (pe_op op_divP (pe_op op_plus (pv 3) (pv 4)) pe_int)) (pss_one (ps_if (pt_val (act _ _ _ _ (pe_ix (ix_K X.K) (pe_methR W.c_Daybook W.m_Daybook_numbers (ok_Daybook_numbers W) (hr.mono (by decide)) pass0 (pv 0) (pa_cons (pv 5) pa_nil)) (pv 1) (fun _ _ => rfl)) rfl)) (pss_one (ps_set (i := 4) sc_Daybook_first_start.nd rfl (Or.inl rfl) (pv 5))) (pss_one (ps_set (i := 3) sc_Daybook_first_start.nd rfl (Or.inl rfl) (pe_op op_plus (pv 5) pe_int))))))) (pss_one (ps_ret (pv 3))))), ?_⟩
  walk_at "q"
  refine x_fldAt e1 W.c_Daybook W.n_Daybook_chairs rfl ?_
  walk_at "q"
  refine ⟨_, _, rfl, ?_⟩
  walk_at "q"
  refine x_while (fun m σ Hm => Same H Hm ∧ ∃ lo hi w5, σ = [some (.ref o), some (.int (idx : Int)), some (.ref f), some (.int lo), some (.int hi), w5] ∧ m = (hi - lo).toNat ∧ 0 ≤ lo ∧ lo ≤ hi ∧ hi ≤ c + 1 ∧
    ((∀ m1 m2, 0 ≤ m1 → m1 ≤ m2 → m2 ≤ c → p (fN c es idx m1) = true → p (fN c es idx m2) = true) → (∀ m, 0 ≤ m → m < lo → p (fN c es idx m) = false) ∧ ∀ m, hi ≤ m → m ≤ c → p (fN c es idx m) = true)) _
    ⟨Same.refl _, 0, c + 1, _, rfl, rfl, Int.le_refl _, by omega, Int.le_refl _, fun _ => ⟨fun m h1 h2 => by omega, fun m h1 h2 => by omega⟩⟩ ?_
  rintro m σ Hm ⟨sm, lo, hi, w5, rfl, rfl, h0, h1, h2, hcut⟩
  walk_at "q"
  refine x_ifd (fun hlt => x_turn ?_) fun hge => ?_
  · walk_at "q"
    refine x_div (wide_div (b := 62) (by decide) (by omega) (by decide) (by decide)) ?_
    walk_at "q"
    refine ⟨rfl, sm _ _ hLO, ?_⟩
    walk_at "q"
    refine ⟨o, dx, _, rfl, sm _ _ e1, rfl, ?_⟩
    walk_at "q"
    refine ⟨o, c, (lo + hi) / 2, es, rfl, hd.mono sm, hl, fun L1 H1 hL1 s1 f1 => ?_⟩
    walk_at "q"
    refine x_ixL (SqL.of f1) (atI_nat (fN_at hrow _)) ?_
    have s01 := sm.trans s1
    refine ⟨s01 _ _ hLO, s01 _ _ hco, htl _ _ _ s01 ⟨_, rfl, ?_⟩⟩
    have hmid : lo ≤ (lo + hi) / 2 ∧ (lo + hi) / 2 < hi := by omega
    cases hp : p (fN c es idx ((lo + hi) / 2))
    · rw [if_neg Bool.false_ne_true]
      walk_at "q"
      refine ⟨(hi - ((lo + hi) / 2 + 1)).toNat, by omega, s01, _, _, _, rfl, rfl, by omega, by omega, h2, fun hm => ⟨fun m q1 q2 => ?_, (hcut hm).2⟩⟩
      cases hpm : p (fN c es idx m)
      · rfl
      · have := hm m ((lo + hi) / 2) q1 (by omega) (by omega) hpm
        rw [hp] at this
        cases this
    · rw [if_pos rfl]
      walk_at "q"
      exact ⟨((lo + hi) / 2 - lo).toNat, by omega, s01, _, _, _, rfl, rfl, h0, by omega, by omega, fun hm => ⟨(hcut hm).1, fun m q1 q2 => hm _ m (by omega) q1 q2 hp⟩⟩
  · have e : hi = lo := by omega
    subst e
    walk_at "q"
    exact k hi Hm sm h0 h2 fun hm => hcut hm
theorem Daybook_first_start_givesK {X : Cx} {cdg : Value} {q : Str} (K : PySem.W.Frag) (W : Wd K X.mg) (hrr : Room 5 X.A) (hK : X.K = K := by rfl) : LamP.GivesM X N_Daybook_first_start "Daybook.first_start" (defScope s_Daybook_first_start) (ma K (ga K "Daybook") "first_start") cdg (defBody s_Daybook_first_start) 2 "test" q (TTfs K) := by
  subst hK
  exact Daybook_first_start_gives W hrr
/-! ### the tables of code objects -/
def lamQs : Str := (envOfC "Daybook.starts_for" (defScope s_Daybook_starts_for) 0 0 .none).qual ++ "<lambda>"
def lamT (K : PySem.W.Frag) : List (Addr × Str) := [(tbA K (ga K "law"), lamQ), (tbA K (ma K (ga K "Daybook") "starts_for"), lamQs)]
abbrev lamK : Nat := 12
section
variable {K : PySem.W.Frag} {mg : Str → Option Value}
theorem lamM_law : (tbA K (ga K "law"), lamQ) ∈ lamT K := List.mem_cons_self
theorem lamM_Daybook_starts_for : (tbA K (ma K (ga K "Daybook") "starts_for"), lamQs) ∈ lamT K := List.mem_cons_of_mem _ List.mem_cons_self
theorem lamU_law (W : Wd K mg) : ∀ p ∈ lamT K, p.1 = tbA K (ga K "law") → p.2 = lamQ := fun p hp e => by
  rcases List.mem_cons.mp hp with z | z
  · rw [z]
  · rw [List.mem_singleton.mp z] at e
    exact absurd e.symm W.tn_law_Daybook_starts_for
theorem lamU_Daybook_starts_for (W : Wd K mg) : ∀ p ∈ lamT K, p.1 = tbA K (ma K (ga K "Daybook") "starts_for") → p.2 = lamQs := fun p hp e => by
  rcases List.mem_cons.mp hp with z | z
  · rw [z] at e
    exact absurd e W.tn_law_Daybook_starts_for
  · rw [List.mem_singleton.mp z]
end
section
variable {P : Program} {w : World} {K : PySem.W.Frag} {mg : Str → Option Value} {base : Heap}
/-- the starts for which a row has a number -/
def sfOk (c : Int) (f : Int → Int) (n lo hi : Int) : Prop := (upC c f ∨ dnC c f) → ∀ m, 0 ≤ m → m ≤ c → ((lo ≤ m ∧ m ≤ hi) ↔ f m = n)
def spSF (K : PySem.W.Frag) : Sp := fun vs H Q _ => ∃ (o : Addr) (c n : Int) (es : List En) (idx : Nat), vs = [.ref o, .int (idx : Int), .int n] ∧ DbAt K H o c es ∧ es.length ≤ 200 ∧ 0 ≤ c ∧ c ≤ big ∧ (∃ b nd nu, es[idx]? = some (.row b nd nu)) ∧ Tabs (lamT K) H ∧
  ∀ T lo hi H', ExtN H H' → Tabs (lamT K) H' → H' T = some (.tup [.int lo, .int hi]) → sfOk c (fN c es idx) n lo hi → Q (.ref T) H'
theorem ok_Daybook_starts_for (W : Wd K mg) (TB : LamX.TabB base mg (cdA K (ma K (ga K "Daybook") "starts_for")) (tbA K (ma K (ga K "Daybook") "starts_for"))) : FnR P w K mg base CX0 8 (ma K (ga K "Daybook") "starts_for") (spSF K) := by
  refine def_code W.F_Daybook_starts_for sc_Daybook_starts_for (fun _ _ _ _ _ _ us hl => match us, hl with | [_, _, _], _ => rfl) (fun vs H Q E ⟨o, c, n, es, idx, ev, _⟩ => by rw [ev]; rfl) fun cdv A outer s H vs Q E hcd hr ⟨o, c, n, es, idx, ev, hd, hl, c0, c1, hrow, hT, k⟩ => ?_
  subst ev
  have hcode : cdv = .ref (cdA K (ma K (ga K "Daybook") "starts_for")) := hcd.symm.trans W.tb_Daybook_starts_for.code
  obtain ⟨dx, L, ps, e1, e2, e3⟩ := id hd.ex
  refine ⟨_, PSs.nox (pss_cons (ps_set (i := 3) sc_Daybook_starts_for.nd rfl (Or.inl rfl) (pe_cmpR op_geI (pe_ix (ix_K K) (pe_methR W.c_Daybook W.m_Daybook_numbers (ok_Daybook_numbers W) (hr.mono (by decide)) pass0 (pv 0) (pa_cons (pe_fldK K (pv 0)) pa_nil)) (pv 1) (fun _ _ => rfl)) (pe_ix (ix_K K) (pe_methR W.c_Daybook W.m_Daybook_numbers (ok_Daybook_numbers W) (hr.mono (by decide)) pass0 (pv 0) (pa_cons pe_int pa_nil)) (pv 1) (fun _ _ => rfl)) (nomark _))) (pss_cons (ps_if (pt_val (pv 3)) (pss_cons (ps_set (i := 4) sc_Daybook_starts_for.nd rfl (Or.inl rfl) (LamP.pe_methL (k := 1) (T := lamT K) (P := tbA K (ma K (ga K "Daybook") "starts_for")) (p := "one") (pv 0) W.c_Daybook W.m_Daybook_first_start W.F_Daybook_first_start (FunD.bindsN (ps := ["self", "index", "test"]) W.F_Daybook_first_start (fun _ _ _ _ _ _ us hl => match us, hl with | [_, _, _], _ => rfl)) sc_Daybook_first_start (fun _ => Daybook_first_start_givesK K W (hr.mono (by decide))) (pv 1) TB hcode lamM_Daybook_starts_for (lamU_Daybook_starts_for W) (hr.mono (by decide)) (LamV.lamS3_by (N := N_Daybook_starts_for) (sc := defScope s_Daybook_starts_for) (by decide +kernel)) rfl (fun A outer s H f c' hr => (pe_cmpR op_geI (pv 6) (pv 2) (nomark _))) rfl (.inl rfl) rfl (fun _ _ _ _ _ _ => rfl))) (pss_one (ps_set (i := 5) sc_Daybook_starts_for.nd rfl (Or.inl rfl) (LamP.pe_methL (k := 1) (T := lamT K) (P := tbA K (ma K (ga K "Daybook") "starts_for")) (p := "one") (pv 0) W.c_Daybook W.m_Daybook_first_start W.F_Daybook_first_start (FunD.bindsN (ps := ["self", "index", "test"]) W.F_Daybook_first_start (fun _ _ _ _ _ _ us hl => match us, hl with | [_, _, _], _ => rfl)) sc_Daybook_first_start (fun _ => Daybook_first_start_givesK K W (hr.mono (by decide))) (pv 1) TB hcode lamM_Daybook_starts_for (lamU_Daybook_starts_for W) (hr.mono (by decide)) (LamV.lamS3_by (N := N_Daybook_starts_for) (sc := defScope s_Daybook_starts_for) (by decide +kernel)) rfl (fun A outer s H f c' hr => (pe_cmpR op_gtI (pv 6) (pv 2) (nomark _))) rfl (.inl rfl) rfl (fun _ _ _ _ _ _ => rfl))))) (pss_cons (ps_set (i := 4) sc_Daybook_starts_for.nd rfl (Or.inl rfl) (LamP.pe_methL (k := 1) (T := lamT K) (P := tbA K (ma K (ga K "Daybook") "starts_for")) (p := "one") (pv 0) W.c_Daybook W.m_Daybook_first_start W.F_Daybook_first_start (FunD.bindsN (ps := ["self", "index", "test"]) W.F_Daybook_first_start (fun _ _ _ _ _ _ us hl => match us, hl with | [_, _, _], _ => rfl)) sc_Daybook_first_start (fun _ => Daybook_first_start_givesK K W (hr.mono (by decide))) (pv 1) TB hcode lamM_Daybook_starts_for (lamU_Daybook_starts_for W) (hr.mono (by decide)) (LamV.lamS3_by (N := N_Daybook_starts_for) (sc := defScope s_Daybook_starts_for) (by decide +kernel)) rfl (fun A outer s H f c' hr => (pe_cmpR op_leI (pv 6) (pv 2) (nomark _))) rfl (.inl rfl) rfl (fun _ _ _ _ _ _ => rfl))) (pss_one (ps_set (i := 5) sc_Daybook_starts_for.nd rfl (Or.inl rfl) (LamP.pe_methL (k := 1) (T := lamT K) (P := tbA K (ma K (ga K "Daybook") "starts_for")) (p := "one") (pv 0) W.c_Daybook W.m_Daybook_first_start W.F_Daybook_first_start (FunD.bindsN (ps := ["self", "index", "test"]) W.F_Daybook_first_start (fun _ _ _ _ _ _ us hl => match us, hl with | [_, _, _], _ => rfl)) sc_Daybook_first_start (fun _ => Daybook_first_start_givesK K W (hr.mono (by decide))) (pv 1) TB hcode lamM_Daybook_starts_for (lamU_Daybook_starts_for W) (hr.mono (by decide)) (LamV.lamS3_by (N := N_Daybook_starts_for) (sc := defScope s_Daybook_starts_for) (by decide +kernel)) rfl (fun A outer s H f c' hr => (pe_cmpR op_ltI (pv 6) (pv 2) (nomark _))) rfl (.inl rfl) rfl (fun _ _ _ _ _ _ => rfl)))))) (pss_one (ps_ret (pe_tup (pa_cons (pv 4) (pa_cons (pe_op op_minus (pv 5) pe_int) pa_nil))))))), ?_⟩
  walk_at "q"
  refine ⟨o, dx, _, rfl, e1, rfl, ?_⟩
  walk_at "q"
  refine x_fldAt e1 W.c_Daybook W.n_Daybook_chairs rfl ?_
  walk_at "q"
  refine ⟨o, c, c, es, rfl, hd, hl, fun L1 H1 hL1 s1 f1 => ?_⟩
  walk_at "q"
  refine x_ixL (SqL.of f1) (atI_nat (fN_at hrow _)) ?_
  walk_at "q"
  refine ⟨o, dx, _, rfl, s1 _ _ e1, rfl, ?_⟩
  walk_at "q"
  refine ⟨o, c, 0, es, rfl, hd.mono s1, hl, fun L2 H2 hL2 s2 f2 => ?_⟩
  walk_at "q"
  refine x_ixL (SqL.of f2) (atI_nat (fN_at hrow _)) ?_
  walk_at "q"
  have s02 := s1.trans s2
  have hd2 := hd.mono s02
  have T2 := tabs_same hT s02
  have one : ∀ (p : Int → Bool) (H3 : Hp) (Q' : VK) (tl : V → Hp → VK → Prop), DbAt K H3 o c es → (∀ m H' Q'', Same H3 H' → Q'' (.bl (p m)) H' → tl (.int m) H' Q'') → (∀ z H', Same H3 H' → 0 ≤ z → z ≤ c + 1 → cutAt c (fun m => p (fN c es idx m)) z → Q' (.int z) H') → TTfs K [.ref o, .int (idx : Int)] tl H3 Q' := fun p H3 Q' tl h1 h2 h3 => ⟨o, c, es, idx, p, rfl, h1, hl, c0, c1, hrow, h2, h3⟩
  refine x_ifd (fun hup => ?_) fun hdn => ?_
  · walk_at "q"
    refine LamP.x_methL ?_
    walk_at "q"
    refine ⟨o, dx, _, rfl, s02 _ _ e1, rfl, ?_⟩
    walk_at "q"
    refine LamP.x_lamNew T2 fun H3 x3 T3 => ?_
    have hd3 : DbAt K H3 o c es := ⟨⟨dx, L, ps, ExtN.ins x3 (s02 _ _ e1), ExtN.lst x3 (s02 _ _ e2), e3.keep fun a xs e => ExtN.tup x3 (s02 _ _ e)⟩⟩
    refine one (fun m => decide (n ≤ m)) H3 _ _ hd3 (fun m H' Q'' s' hq => ?_) fun z1 H4 s4 z10 z11 cut1 => ?_
    · walk_at "q"
      exact hq
    walk_at "q"
    refine LamP.x_methL ?_
    walk_at "q"
    have hd4 := hd3.mono s4
    obtain ⟨dx4, L4, ps4, g1, g2, g3⟩ := id hd4.ex
    refine ⟨o, dx4, _, rfl, g1, rfl, ?_⟩
    walk_at "q"
    refine LamP.x_lamNew (tabs_same T3 s4) fun H5 x5 T5 => ?_
    have hd5 : DbAt K H5 o c es := ⟨⟨dx4, L4, ps4, ExtN.ins x5 g1, ExtN.lst x5 g2, g3.keep fun a xs e => ExtN.tup x5 e⟩⟩
    refine one (fun m => decide (n < m)) H5 _ _ hd5 (fun m H' Q'' s' hq => ?_) fun z2 H6 s6 z20 z21 cut2 => ?_
    · walk_at "q"
      exact hq
    walk_at "q"
    refine ⟨sz rfl, fun T hT6 => ?_⟩; generalize hN7 : upd _ T _ = H7; obtain ⟨s7, e7⟩ := nws hN7 hT6
    have s67 := s6.trans s7
    refine k T z1 (z2 - 1) H7 (((ExtN.of s02).trans x3).trans ((ExtN.of s4).trans (x5.trans (ExtN.of s67)))) (tabs_same T5 s67) e7 fun hm m m0 m1 => ?_
    have up : upC c (fN c es idx) := hm.elim id fun dn a b h1 h2 h3 => by
      have a1 := dn 0 c (Int.le_refl _) c0 (Int.le_refl _)
      have a2 := dn a b h1 h2 h3
      have a3 := dn 0 a (Int.le_refl _) h1 (by omega)
      have a4 := dn b c (by omega) h3 (Int.le_refl _)
      omega
    have q1 := cut1 fun a b h1 h2 h3 h4 => decide_eq_true (Int.le_trans (of_decide_eq_true h4) (up a b h1 h2 h3))
    have q2 := cut2 fun a b h1 h2 h3 h4 => decide_eq_true (Int.lt_of_lt_of_le (of_decide_eq_true h4) (up a b h1 h2 h3))
    constructor
    · rintro ⟨h1, h2⟩
      have r1 := of_decide_eq_true (q1.2 m h1 m1)
      have r2 := of_decide_eq_false (q2.1 m m0 (by omega))
      omega
    · intro h
      constructor
      · by_cases y : z1 ≤ m
        · exact y
        · have := of_decide_eq_false (q1.1 m m0 (by omega))
          omega
      · by_cases y : m < z2
        · omega
        · have := of_decide_eq_true (q2.2 m (by omega) m1)
          omega
  · walk_at "q"
    refine LamP.x_methL ?_
    walk_at "q"
    refine ⟨o, dx, _, rfl, s02 _ _ e1, rfl, ?_⟩
    walk_at "q"
    refine LamP.x_lamNew T2 fun H3 x3 T3 => ?_
    have hd3 : DbAt K H3 o c es := ⟨⟨dx, L, ps, ExtN.ins x3 (s02 _ _ e1), ExtN.lst x3 (s02 _ _ e2), e3.keep fun a xs e => ExtN.tup x3 (s02 _ _ e)⟩⟩
    refine one (fun m => decide (m ≤ n)) H3 _ _ hd3 (fun m H' Q'' s' hq => ?_) fun z1 H4 s4 z10 z11 cut1 => ?_
    · walk_at "q"
      exact hq
    walk_at "q"
    refine LamP.x_methL ?_
    walk_at "q"
    have hd4 := hd3.mono s4
    obtain ⟨dx4, L4, ps4, g1, g2, g3⟩ := id hd4.ex
    refine ⟨o, dx4, _, rfl, g1, rfl, ?_⟩
    walk_at "q"
    refine LamP.x_lamNew (tabs_same T3 s4) fun H5 x5 T5 => ?_
    have hd5 : DbAt K H5 o c es := ⟨⟨dx4, L4, ps4, ExtN.ins x5 g1, ExtN.lst x5 g2, g3.keep fun a xs e => ExtN.tup x5 e⟩⟩
    refine one (fun m => decide (m < n)) H5 _ _ hd5 (fun m H' Q'' s' hq => ?_) fun z2 H6 s6 z20 z21 cut2 => ?_
    · walk_at "q"
      exact hq
    walk_at "q"
    refine ⟨sz rfl, fun T hT6 => ?_⟩; generalize hN7 : upd _ T _ = H7; obtain ⟨s7, e7⟩ := nws hN7 hT6
    have s67 := s6.trans s7
    refine k T z1 (z2 - 1) H7 (((ExtN.of s02).trans x3).trans ((ExtN.of s4).trans (x5.trans (ExtN.of s67)))) (tabs_same T5 s67) e7 fun hm m m0 m1 => ?_
    have dn : dnC c (fN c es idx) := hm.elim (fun up => absurd (up 0 c (Int.le_refl _) c0 (Int.le_refl _)) hdn) id
    have q1 := cut1 fun a b h1 h2 h3 h4 => decide_eq_true (Int.le_trans (dn a b h1 h2 h3) (of_decide_eq_true h4))
    have q2 := cut2 fun a b h1 h2 h3 h4 => decide_eq_true (Int.lt_of_le_of_lt (dn a b h1 h2 h3) (of_decide_eq_true h4))
    constructor
    · rintro ⟨h1, h2⟩
      have r1 := of_decide_eq_true (q1.2 m h1 m1)
      have r2 := of_decide_eq_false (q2.1 m m0 (by omega))
      omega
    · intro h
      constructor
      · by_cases y : z1 ≤ m
        · exact y
        · have := of_decide_eq_false (q1.1 m m0 (by omega))
          omega
      · by_cases y : m < z2
        · omega
        · have := of_decide_eq_true (q2.2 m (by omega) m1)
          omega
/-- every row with a number, of the first i, is right for a start -/
def fitsAt (c : Int) (es : List En) (m : Int) (i : Nat) : Prop := ∀ j b nd n, j < i → es[j]? = some (.row b nd (some n)) → fN c es j m = n
def monoAll (c : Int) (es : List En) : Prop := ∀ i, (∃ b nd nu, es[i]? = some (.row b nd nu)) → upC c (fN c es i) ∨ dnC c (fN c es i)
def fitOk (c : Int) (es : List En) (lo hi : Int) (i : Nat) : Prop := monoAll c es → ∀ m, 0 ≤ m → m ≤ c → ((lo ≤ m ∧ m ≤ hi) ↔ fitsAt c es m i)
def spFit (K : PySem.W.Frag) : Sp := fun vs H Q _ => ∃ (o : Addr) (c : Int) (es : List En), vs = [.ref o] ∧ DbAt K H o c es ∧ es.length ≤ 200 ∧ 0 ≤ c ∧ c ≤ big ∧ Tabs (lamT K) H ∧
  ∀ lo hi v H', ExtN H H' → Tabs (lamT K) H' → 0 ≤ lo → hi ≤ c → fitOk c es lo hi es.length → ((lo ≤ hi ∧ ∃ T, v = .ref T ∧ H' T = some (.tup [.int lo, .int hi])) ∨ (hi < lo ∧ v = .non)) → Q v H'
theorem fit_skip {c lo hi : Int} {es : List En} {i : Nat} (h : fitOk c es lo hi i) (hn : ∀ b nd n, es[i]? ≠ some (.row b nd (some n))) : fitOk c es lo hi (i + 1) := fun hm m m0 m1 => (h hm m m0 m1).trans ⟨fun z j b nd n hj e => by
  by_cases y : j < i
  · exact z j b nd n y e
  · have : j = i := by omega
    rw [this] at e
    exact absurd e (hn b nd n), fun z j b nd n hj e => z j b nd n (by omega) e⟩
theorem ok_Daybook_fitting_starts (W : Wd K mg) (TB_Daybook_starts_for : LamX.TabB base mg (cdA K (ma K (ga K "Daybook") "starts_for")) (tbA K (ma K (ga K "Daybook") "starts_for"))) : FnR P w K mg base CX0 9 (ma K (ga K "Daybook") "fitting_starts") (spFit K) := by
  refine (def_ok W.F_Daybook_fitting_starts sc_Daybook_fitting_starts (fun _ _ _ _ _ _ us hl => match us, hl with | [_], _ => rfl) (fun vs H Q E ⟨o, c, es, e, _⟩ => by rw [e]; rfl) fun cdv A outer s H vs Q E hr ⟨o, c, es, e, hd, hl, c0, c1, hT, k⟩ => ?_).2
  subst e
  obtain ⟨dx, L, ps, e1, e2, e3⟩ := id hd.ex
  have hpl : ps.length = es.length := pr_len e3
  refine ⟨_, PSs.nox (pss_cons (ps_par (i := 1) (j := 2) (by rfl) sc_Daybook_fitting_starts.nd rfl rfl (by decide) rfl rfl (pa_cons pe_int (pa_cons (pe_fldK K (pv 0)) pa_nil)) (by rfl)) (pss_cons (ps_for PassesOwn.never rfl (pi_enumK K W.f_enumerate (pa_cons (pe_fldK K (pv 0)) pa_nil)) (pg_tupK (n := 2) K rfl (pgs_cons (pg_name (i := 3) sc_Daybook_fitting_starts.nd rfl (Or.inl rfl)) (pgs_cons (pg_name (i := 4) sc_Daybook_fitting_starts.nd rfl (Or.inl rfl)) pgs_nil))) (pss_one (ps_if (PW.pt (pw_and (pt_cmp (pc_notN (pv 4))) (pw_and1 (pt_cmp (pc_notN (pe_ix (ix_K K) (pv 4) pe_int (fun _ _ => rfl))))))) (pss_cons (ps_asg (pe_methR W.c_Daybook W.m_Daybook_starts_for (ok_Daybook_starts_for W TB_Daybook_starts_for) (hr.mono (by decide)) pass0 (pv 0) (pa_cons (pv 3) (pa_cons (pe_ix (ix_K K) (pv 4) pe_int (fun _ _ => rfl)) pa_nil))) (pg_tupK (n := 2) K rfl (pgs_cons (pg_name (i := 5) sc_Daybook_fitting_starts.nd rfl (Or.inl rfl)) (pgs_cons (pg_name (i := 6) sc_Daybook_fitting_starts.nd rfl (Or.inl rfl)) pgs_nil)))) (pss_one (ps_par (i := 1) (j := 2) (by rfl) sc_Daybook_fitting_starts.nd rfl rfl (by decide) rfl rfl (pa_cons (pe_callB (c_max2 rfl) (by rfl) W.f_max (by decide +kernel) (pa_cons (pv 1) (pa_cons (pv 5) pa_nil))) (pa_cons (pe_callB (c_min2 rfl) (by rfl) W.f_min (by decide +kernel) (pa_cons (pv 2) (pa_cons (pv 6) pa_nil))) pa_nil)) (by rfl)))) pss_nil))) (pss_one (ps_ret (pe_ifExp (pt_cmpR op_leI (pv 1) (pv 2) (nomark _)) (pe_tup (pa_cons (pv 1) (pa_cons (pv 2) pa_nil))) pe_non))))), ?_⟩
  walk_at "q"
  refine x_fldAt e1 W.c_Daybook W.n_Daybook_chairs rfl ?_
  walk_at "q"
  refine ⟨_, _, rfl, ?_⟩
  walk_at "q"
  refine x_fldAt e1 W.c_Daybook W.n_Daybook_entries rfl ?_
  walk_at "q"
  refine x_iEAt (SqL.of e2) (x_loop walk_enum (fun i σ Hi => ExtN H Hi ∧ Tabs (lamT K) Hi ∧ ∃ lo hi w3 w4 w5 w6, σ = [some (.ref o), some (.int lo), some (.int hi), w3, w4, w5, w6] ∧ 0 ≤ lo ∧ hi ≤ c ∧ fitOk c es lo hi i) ⟨ExtN.of (Same.refl _), hT, 0, c, _, _, _, _, rfl, Int.le_refl _, Int.le_refl _, fun _ m m0 m1 => ⟨fun _ j b nd n hj => by omega, fun _ => ⟨m0, m1⟩⟩⟩ (fun i σ Hi _ ⟨xi, _⟩ => SqL.of (ExtN.lst xi e2)) ?_ ?_)
  · rintro i y σ Hi' Hi hi ⟨xi, Ti, lo, hi', w3, w4, w5, w6, rfl, h0, h1, hfit⟩ ⟨T, v1, v2, rfl, hTn, rfl, e1', ey⟩
    cases e1'
    obtain ⟨en, hen, hea⟩ := ent_at e3 ey
    have sT : Same Hi' (upd Hi' T (.tup [.int (i : Nat), v2])) := Same.new hTn
    refine x_gTup upd_same rfl ?_
    generalize hNT : upd Hi' T _ = Hj at sT
    have xj := xi.trans (ExtN.of sT)
    have Tj := tabs_same Ti sT
    walk_at "q"
    rcases hea with ⟨rfl, rfl⟩ | ⟨b, nd, nu, U, rfl, rfl, hU⟩
    · rw [decide_eq_true rfl]
      walk_at "q"
      exact ⟨xj, Tj, _, _, _, _, _, _, rfl, h0, h1, fit_skip hfit fun b nd n z => by rw [hen] at z; cases z⟩
    rw [decide_eq_false (fun z => nomatch z)]
    have hUj := ExtN.tup xj hU
    walk_at "q"
    refine x_ixT (SqT.of hUj) (i := ((2 : Nat) : Int)) (v := optV nu) (atI_nat rfl) ?_
    walk_at "q"
    cases nu with
    | none =>
      rw [show optV none = V.non from rfl, decide_eq_true rfl]
      walk_at "q"
      exact ⟨xj, Tj, _, _, _, _, _, _, rfl, h0, h1, fit_skip hfit fun b nd n z => by rw [hen] at z; cases z⟩
    | some n =>
      rw [show optV (some n) = V.int n from rfl, decide_eq_false (fun z => nomatch z)]
      walk_at "q"
      refine ⟨o, dx, _, rfl, ExtN.ins xj e1, rfl, ?_⟩
      walk_at "q"
      refine x_ixT (SqT.of hUj) (i := ((2 : Nat) : Int)) (v := .int n) (atI_nat rfl) ?_
      walk_at "q"
      refine ⟨o, c, n, es, i, rfl, ⟨⟨dx, L, ps, ExtN.ins xj e1, ExtN.lst xj e2, e3.keep fun a xs e => ExtN.tup xj e⟩⟩, hl, c0, c1, ⟨b, nd, some n, hen⟩, Tj, fun S l2 g2 Hk xk Tk eS hsf => ?_⟩
      walk_at "q"
      refine x_gTup eS rfl ?_
      walk_at "q"
      refine ⟨_, _, rfl, ?_⟩
      refine ⟨xj.trans xk, Tk, _, _, _, _, _, _, rfl, ?_, ?_, ?_⟩
      · split <;> omega
      · split <;> omega
      · intro hm m m0 m1
        have q1 := hfit hm m m0 m1
        have q2 := hsf (hm i ⟨b, nd, some n, hen⟩) m m0 m1
        have split2 : fitsAt c es m (i + 1) ↔ (fitsAt c es m i ∧ fN c es i m = n) := ⟨fun z => ⟨fun j b nd n hj e => z j b nd n (by omega) e, z i b nd n (by omega) hen⟩, fun z j b' nd' n' hj e => by
          by_cases y : j < i
          · exact z.1 j b' nd' n' y e
          · have : j = i := by omega
            subst this
            rw [hen] at e
            cases e
            exact z.2⟩
        rw [split2, ← q1, ← q2]
        constructor
        · rintro ⟨a1, a2⟩
          refine ⟨⟨?_, ?_⟩, ?_, ?_⟩ <;> split at a1 <;> split at a2 <;> omega
        · rintro ⟨⟨a1, a2⟩, a3, a4⟩
          constructor <;> split <;> omega
  · rintro σ Hi ⟨xi, Ti, lo, hi', w3, w4, w5, w6, rfl, h0, h1, hfit⟩
    rw [hpl] at hfit
    walk_at "q"
    refine x_ifd (fun hle => ?_) fun hgt => ?_
    · walk_at "q"
      refine ⟨sz rfl, fun T hTn => ?_⟩; generalize hN : upd _ T _ = Hj; obtain ⟨sj, ej⟩ := nws hN hTn
      exact k lo hi' _ Hj (xi.trans (ExtN.of sj)) (tabs_same Ti sj) h0 h1 hfit (.inl ⟨hle, T, rfl, ej⟩)
    · walk_at "q"
      exact k lo hi' _ Hi xi Ti h0 h1 hfit (.inr ⟨by omega, rfl⟩)
end
end K46

set_option Elab.async false
set_option linter.all false
set_option autoImplicit false
set_option maxRecDepth 100000
set_option pp.maxSteps 500
set_option maxHeartbeats 4000000
namespace K46
open PySem PySem.Spec PyProof.Rows L2 He ChH Ch ChM
local macro_rules | `(tactic| walk_at "x1") => `(tactic| first
  | ((with_reducible apply x_var); exact rfl)
  | with_reducible refine x_c ?_
  | with_reducible refine x_op ?_
  | with_reducible refine x_seq ?_
  | with_reducible refine x_asg ?_
  | with_reducible refine x_gname ?_
  | with_reducible refine x_cons ?_
  | with_reducible refine x_nil ?_
  | with_reducible refine x_fld ?_
  | with_reducible refine x_ret ?_
  | with_reducible refine x_ifS ?_
  | with_reducible refine x_test ?_
  | with_reducible refine x_ex ?_
  | with_reducible refine x_call ?_
  | with_reducible refine x_mk ?_
  | with_reducible refine x_meth ?_
  | with_reducible refine x_prop ?_
  | with_reducible refine x_cb ?_
  | with_reducible refine x_tup ?_
  | with_reducible refine x_lst ?_
  | with_reducible refine x_drop ?_
  | with_reducible refine x_for ?_
  | with_reducible refine x_iL ?_
  | with_reducible refine x_iT ?_
  | with_reducible refine x_iE ?_
  | with_reducible refine x_iU ?_
  | with_reducible refine x_iR1 ?_
  | with_reducible refine x_iR2 ?_
  | with_reducible refine x_gcons ?_
  | with_reducible refine x_gnil ?_
  | with_reducible refine x_par ?_
  | with_reducible refine x_lstRg ?_
  | with_reducible refine x_rg1 ?_
  | with_reducible refine x_rg1At ?_
  | with_reducible refine x_par3 ?_
  | with_reducible refine x_bm ?_
  | with_reducible refine x_bm0 ?_
  | with_reducible refine x_gSub ?_
  | with_reducible refine x_lc ?_
  | with_reducible refine x_yes ?_
  | with_reducible refine x_setf ?_
  | with_reducible refine x_next ?_
  | with_reducible refine x_B ?_
  | with_reducible refine x_and ?_
  | with_reducible refine x_or ?_
  | with_reducible refine x_not ?_
  | with_reducible refine x_andV ?_
  | with_reducible refine x_orV ?_
  | with_reducible refine x_notV ?_
  | with_reducible refine x_ifE ?_
  | with_reducible refine x_chain ?_
  | with_reducible refine x_chain3 ?_
  | with_reducible refine x_un ?_
  | with_reducible refine x_isNe ?_
  | with_reducible refine x_notNe ?_
  | with_reducible refine x_starA ?_
  | with_reducible refine x_plusI ?_
  | with_reducible refine x_minus ?_
  | with_reducible refine x_lt ?_
  | with_reducible refine x_le ?_
  | with_reducible refine x_gt ?_
  | with_reducible refine x_ge ?_
  | with_reducible refine x_eqI ?_
  | with_reducible refine x_neI ?_
  | with_reducible refine x_eqS ?_
  | with_reducible refine x_eqB ?_
  | with_reducible refine x_neB ?_
  | with_reducible refine x_int ?_
  | with_reducible refine x_intB ?_
  | with_reducible refine x_max2 ?_
  | with_reducible refine x_min2 ?_
  | with_reducible refine x_max3 ?_
  | with_reducible refine x_abs ?_
  | with_reducible refine x_neg ?_
  | with_reducible refine x_isi_ii ?_
  | with_reducible refine x_isi_ib ?_
  | with_reducible refine x_T ?_
  | with_reducible refine x_nT ?_
  | with_reducible refine x_nF ?_
  | with_reducible refine x_F ?_)
local macro_rules | `(tactic| walk_at "x") => `(tactic| repeat walk_at "x1")

local macro_rules | `(tactic| walk_at "q1") => `(tactic| first
  | walk_at "x1"
  | with_reducible refine x_sl ?_
  | with_reducible refine x_cmeth ?_
  | with_reducible refine x_noPart ?_
  | with_reducible refine x_part ?_
  | with_reducible refine x_partI ?_)
local macro_rules | `(tactic| walk_at "q") => `(tactic| repeat walk_at "q1")

section
variable {P : Program} {w : World} {K : PySem.W.Frag} {mg : Str → Option Value} {base : Heap}
theorem kit2 {K : PySem.W.Frag} {a b c : String} {r q : Bool} (h1 : kitB a b = some r) (h2 : kitB a c = some q) : PySem.W.kitAny K (.type a) [.type b, .type c] = some (r || q) := by
  unfold PySem.W.kitAny PySem.W.kitAny PySem.W.kitAny
  rw [kit_ty h1, kit_ty h2]
  cases r <;> cases q <;> rfl
theorem x_isiT2 {K : PySem.W.Frag} {H : Hp} {Q : VK} {x : V} {tp : Addr} {a b c : String} {r q : Bool} (h : H tp = some (.tup [.ty b, .ty c])) (t : TyX K H x (.type a)) (h1 : kitB a b = some r) (h2 : kitB a c = some q) (k : Q (.bl (r || q)) H) : rIsiT K [x, .ref tp] H Q :=
  ⟨x, tp, _, _, [.type b, .type c], _, rfl, h, .cons (.ty _) (.cons (.ty _) .nil), t, kit2 h1 h2, k⟩
/-- two values that are alike -/
def spAlk (R : Hp → V → V → Prop) : Sp := fun vs H Q _ => ∃ a b : V, vs = [a, b] ∧ R H a b ∧ ∀ H', Same H H' → Q (.bl true) H'
def aPl : Hp → V → V → Prop := fun _ a b => a = b ∧ plV a = true
/-- the same sort of row, of alike items -/
def aSq (R : Hp → V → V → Prop) : Hp → V → V → Prop := fun H a b => ∃ (p q : Addr) (xs ys : List V), a = .ref p ∧ b = .ref q ∧ ((H p = some (.lst xs) ∧ H q = some (.lst ys)) ∨ (H p = some (.tup xs) ∧ H q = some (.tup ys))) ∧ xs.length = ys.length ∧ xs.length ≤ 10000 ∧ ∀ (i : Nat) (x y : V), xs[i]? = some x → ys[i]? = some y → R H x y
def aOr (R S : Hp → V → V → Prop) : Hp → V → V → Prop := fun H a b => R H a b ∨ S H a b
def Mono (R : Hp → V → V → Prop) : Prop := ∀ H H' a b, Same H H' → R H a b → R H' a b
theorem mono_pl : Mono aPl := fun _ _ _ _ _ h => h
theorem mono_sq {R : Hp → V → V → Prop} (m : Mono R) : Mono (aSq R) := fun H H' a b s ⟨p, q, xs, ys, e1, e2, h, h3, h4, h5⟩ => ⟨p, q, xs, ys, e1, e2, h.imp (fun z => ⟨s _ _ z.1, s _ _ z.2⟩) (fun z => ⟨s _ _ z.1, s _ _ z.2⟩), h3, h4, fun i x y a b => m H H' x y s (h5 i x y a b)⟩
theorem mono_or {R S : Hp → V → V → Prop} (m : Mono R) (n : Mono S) : Mono (aOr R S) := fun H H' a b s h => h.imp (m H H' a b s) (n H H' a b s)
theorem alk_pl (W : Wd K mg) {k0 : Nat} {sp0 : Sp} (hc : FnR P w K mg base CX0 k0 (ga K "_law_alike") sp0) : FnR P w K mg base CX0 (k0 + 3) (ga K "_law_alike") (spAlk aPl) := by
  have hk : k0 ≤ k0 + 2 := by omega
  refine (def_ok W.F__law_alike sc__law_alike (fun _ _ _ _ _ _ us hl => match us, hl with | [_, _], _ => rfl) (fun vs H Q E ⟨a, b, e, _⟩ => by rw [e]; rfl) fun cdv A outer s H vs Q E hr ⟨a, b, e, ⟨e2, hp⟩, k⟩ => ?_).2
  subst e e2
  refine ⟨_, PSs.nox (pss_cons (ps_if (pt_val (pe_callB (c_isiK K) (by rfl) W.f_isinstance (by decide +kernel) (pa_cons (pv 1) (pa_cons (pe_bltn (v := .ty "dict") (by rfl) W.f_dict (by decide +kernel) rfl) pa_nil)))) (pss_one ps_never) pss_nil) (pss_cons (ps_if (pt_val (pe_callB (c_isiTK K) (by rfl) W.f_isinstance (by decide +kernel) (pa_cons (pv 1) (pa_cons (pe_tup (pa_cons (pe_bltn (v := .ty "tuple") (by rfl) W.f_tuple (by decide +kernel) rfl) (pa_cons (pe_bltn (v := .ty "list") (by rfl) W.f_list (by decide +kernel) rfl) pa_nil))) pa_nil)))) (pss_cons (ps_if (PW.pt (pw_or (pt_not (pt_val (pe_callB (c_isiTK K) (by rfl) W.f_isinstance (by decide +kernel) (pa_cons (pv 0) (pa_cons (pe_tup (pa_cons (pe_bltn (v := .ty "tuple") (by rfl) W.f_tuple (by decide +kernel) rfl) (pa_cons (pe_bltn (v := .ty "list") (by rfl) W.f_list (by decide +kernel) rfl) pa_nil))) pa_nil))))) (pw_or1 (pt_cmpR (op_neK K hr.units) (pe_callB (c_isiK K) (by rfl) W.f_isinstance (by decide +kernel) (pa_cons (pv 0) (pa_cons (pe_bltn (v := .ty "list") (by rfl) W.f_list (by decide +kernel) rfl) pa_nil))) (pe_callB (c_isiK K) (by rfl) W.f_isinstance (by decide +kernel) (pa_cons (pv 1) (pa_cons (pe_bltn (v := .ty "list") (by rfl) W.f_list (by decide +kernel) rfl) pa_nil))) (nomark _))))) (pss_one (ps_ret pe_bl)) pss_nil) (pss_cons (ps_if (pt_cmpR (op_neK K hr.units) (pe_callB (c_lenK K) (by rfl) W.f_len (by decide +kernel) (pa_cons (pv 0) pa_nil)) (pe_callB (c_lenK K) (by rfl) W.f_len (by decide +kernel) (pa_cons (pv 1) pa_nil)) (nomark _)) (pss_one (ps_ret pe_bl)) pss_nil) (pss_one (ps_ret (pe_cmpR (op_eqK K hr.units) (pe_lc (own := [("_law_k", 2)]) (g := gName 2) rfl sc__law_alike.nd (pi_range1 (by rfl) W.f_range (pa_cons (pe_callB (c_lenK K) (by rfl) W.f_len (by decide +kernel) (pa_cons (pv 1) pa_nil)) pa_nil)) (blkOk_by (own := [("_law_k", 2)]) (N := N__law_alike) (sc := defScope s__law_alike) (by decide +kernel)) (fun _ _ _ _ _ => (pg_name (i := 2) sc__law_alike.nd rfl (Or.inl rfl))) (fun _ _ _ _ _ => (pts_one (pt_not (pt_val (pe_callR hc (hr.mono hk) W.g__law_alike W.k__law_alike pass0 rfl (pa_cons (pe_ix (ix_K K) (pv 0) (pv 2) (fun _ _ => rfl)) (pa_cons (pe_ix (ix_K K) (pv 1) (pv 2) (fun _ _ => rfl)) pa_nil))))))) (fun _ _ _ _ _ => (pv 2))) (pe_lst pa_nil) (nomark _)))))) pss_nil) (pss_cons (ps_if (PW.pt (pw_or (pt_cmp (pc_isN (pv 1))) (pw_or1 (pt_val (pe_callB (c_isiK K) (by rfl) W.f_isinstance (by decide +kernel) (pa_cons (pv 1) (pa_cons (pe_bltn (v := .ty "str") (by rfl) W.f_str (by decide +kernel) rfl) pa_nil))))))) (pss_one (ps_ret (pe_and (pe_cmpR (op_eqK K hr.units) (pv 0) (pv 1) (nomark _)) (pe_one (pe_cmpR (op_eqK K hr.units) (pe_callB (c_isiK K) (by rfl) W.f_isinstance (by decide +kernel) (pa_cons (pv 0) (pa_cons (pe_bltn (v := .ty "str") (by rfl) W.f_str (by decide +kernel) rfl) pa_nil))) (pe_callB (c_isiK K) (by rfl) W.f_isinstance (by decide +kernel) (pa_cons (pv 1) (pa_cons (pe_bltn (v := .ty "str") (by rfl) W.f_str (by decide +kernel) rfl) pa_nil))) (nomark _)))))) pss_nil) (pss_one (ps_ret (pe_and (pe_callB (c_isiK K) (by rfl) W.f_isinstance (by decide +kernel) (pa_cons (pv 0) (pa_cons (pe_bltn (v := .ty "int") (by rfl) W.f_int (by decide +kernel) rfl) pa_nil))) (pe_and (pe_cmpR (op_eqK K hr.units) (pe_callB (c_isiK K) (by rfl) W.f_isinstance (by decide +kernel) (pa_cons (pv 0) (pa_cons (pe_bltn (v := .ty "bool") (by rfl) W.f_bool (by decide +kernel) rfl) pa_nil))) (pe_callB (c_isiK K) (by rfl) W.f_isinstance (by decide +kernel) (pa_cons (pv 1) (pa_cons (pe_bltn (v := .ty "bool") (by rfl) W.f_bool (by decide +kernel) rfl) pa_nil))) (nomark _)) (pe_one (pe_cmpR (op_eqK K hr.units) (pv 0) (pv 1) (nomark _)))))))))), ?_⟩
  walk_at "q"
  have fin : ∀ H1, Same H H1 → Q (.bl true) H1 := fun H1 s1 => k H1 s1
  cases a with
  | non =>
    refine x_isiB (r := false) (.base .non) (by decide +kernel) ?_
    walk_at "q"
    refine ⟨sz rfl, fun t1 ht1 => ?_⟩; generalize hN1 : upd _ t1 _ = H1; obtain ⟨s1, e1⟩ := nws hN1 ht1
    walk_at "q"
    refine x_isiT2 (r := false) (q := false) e1 (.base .non) (by decide +kernel) (by decide +kernel) ?_
    walk_at "q"
    refine x_F ?_
    walk_at "q"
    rw [decide_eq_true rfl]
    walk_at "q"
    refine .inl ⟨rfl, ?_⟩
    rw [decide_eq_true rfl]
    walk_at "q"
    refine x_isiB (r := false) (.base .non) (by decide +kernel) ?_
    walk_at "q"
    refine x_isiB (r := false) (.base .non) (by decide +kernel) ?_
    walk_at "q"
    rw [decide_eq_true rfl]
    exact k _ s1
  | bl b =>
    refine x_isiB (r := false) (.base (.bl b)) (by decide +kernel) ?_
    walk_at "q"
    refine ⟨sz rfl, fun t1 ht1 => ?_⟩; generalize hN1 : upd _ t1 _ = H1; obtain ⟨s1, e1⟩ := nws hN1 ht1
    walk_at "q"
    refine x_isiT2 (r := false) (q := false) e1 (.base (.bl b)) (by decide +kernel) (by decide +kernel) ?_
    walk_at "q"
    refine x_F ?_
    walk_at "q"
    rw [decide_eq_false (show ¬ V.bl b = V.non from fun z => nomatch z)]
    walk_at "q"
    refine x_isiB (r := false) (.base (.bl b)) (by decide +kernel) ?_
    walk_at "q"
    refine x_isiB (r := true) (.base (.bl b)) (by decide +kernel) ?_
    walk_at "q"
    refine x_isiB (r := true) (.base (.bl b)) (by decide +kernel) ?_
    walk_at "q"
    refine x_isiB (r := true) (.base (.bl b)) (by decide +kernel) ?_
    walk_at "q"
    rw [decide_eq_true rfl]
    walk_at "q"
    rw [decide_eq_true rfl]
    exact k _ s1
  | int i =>
    refine x_isiB (r := false) (.base (.int i)) (by decide +kernel) ?_
    walk_at "q"
    refine ⟨sz rfl, fun t1 ht1 => ?_⟩; generalize hN1 : upd _ t1 _ = H1; obtain ⟨s1, e1⟩ := nws hN1 ht1
    walk_at "q"
    refine x_isiT2 (r := false) (q := false) e1 (.base (.int i)) (by decide +kernel) (by decide +kernel) ?_
    walk_at "q"
    refine x_F ?_
    walk_at "q"
    rw [decide_eq_false (show ¬ V.int i = V.non from fun z => nomatch z)]
    walk_at "q"
    refine x_isiB (r := false) (.base (.int i)) (by decide +kernel) ?_
    walk_at "q"
    rw [decide_eq_true rfl]
    walk_at "q"
    rw [decide_eq_true rfl]
    exact k _ s1
  | str z =>
    refine x_isiB (r := false) (.base (.str z)) (by decide +kernel) ?_
    walk_at "q"
    refine ⟨sz rfl, fun t1 ht1 => ?_⟩; generalize hN1 : upd _ t1 _ = H1; obtain ⟨s1, e1⟩ := nws hN1 ht1
    walk_at "q"
    refine x_isiT2 (r := false) (q := false) e1 (.base (.str z)) (by decide +kernel) (by decide +kernel) ?_
    walk_at "q"
    refine x_F ?_
    walk_at "q"
    rw [decide_eq_false (show ¬ V.str z = V.non from fun z => nomatch z)]
    walk_at "q"
    refine x_isiB (r := true) (.base (.str z)) (by decide +kernel) ?_
    walk_at "q"
    rw [decide_eq_true rfl]
    walk_at "q"
    refine x_isiB (r := true) (.base (.str z)) (by decide +kernel) ?_
    walk_at "q"
    refine x_isiB (r := true) (.base (.str z)) (by decide +kernel) ?_
    walk_at "q"
    rw [decide_eq_true rfl]
    exact k _ s1
  | _ => exact absurd (show false = true from hp) (by decide)
theorem alk_sq (W : Wd K mg) {R : Hp → V → V → Prop} (m : Mono R) {k0 : Nat} (hc : FnR P w K mg base CX0 k0 (ga K "_law_alike") (spAlk R)) : FnR P w K mg base CX0 (k0 + 3) (ga K "_law_alike") (spAlk (aSq R)) := by
  have hk : k0 ≤ k0 + 2 := by omega
  refine (def_ok W.F__law_alike sc__law_alike (fun _ _ _ _ _ _ us hl => match us, hl with | [_, _], _ => rfl) (fun vs H Q E ⟨a, b, e, _⟩ => by rw [e]; rfl) fun cdv A outer s H vs Q E hr ⟨a, b, e, ⟨p, q, xs, ys, e1, e2, hpq, hl, hz, hR⟩, k⟩ => ?_).2
  subst e e1 e2
  refine ⟨_, PSs.nox (pss_cons (ps_if (pt_val (pe_callB (c_isiK K) (by rfl) W.f_isinstance (by decide +kernel) (pa_cons (pv 1) (pa_cons (pe_bltn (v := .ty "dict") (by rfl) W.f_dict (by decide +kernel) rfl) pa_nil)))) (pss_one ps_never) pss_nil) (pss_cons (ps_if (pt_val (pe_callB (c_isiTK K) (by rfl) W.f_isinstance (by decide +kernel) (pa_cons (pv 1) (pa_cons (pe_tup (pa_cons (pe_bltn (v := .ty "tuple") (by rfl) W.f_tuple (by decide +kernel) rfl) (pa_cons (pe_bltn (v := .ty "list") (by rfl) W.f_list (by decide +kernel) rfl) pa_nil))) pa_nil)))) (pss_cons (ps_if (PW.pt (pw_or (pt_not (pt_val (pe_callB (c_isiTK K) (by rfl) W.f_isinstance (by decide +kernel) (pa_cons (pv 0) (pa_cons (pe_tup (pa_cons (pe_bltn (v := .ty "tuple") (by rfl) W.f_tuple (by decide +kernel) rfl) (pa_cons (pe_bltn (v := .ty "list") (by rfl) W.f_list (by decide +kernel) rfl) pa_nil))) pa_nil))))) (pw_or1 (pt_cmpR (op_neK K hr.units) (pe_callB (c_isiK K) (by rfl) W.f_isinstance (by decide +kernel) (pa_cons (pv 0) (pa_cons (pe_bltn (v := .ty "list") (by rfl) W.f_list (by decide +kernel) rfl) pa_nil))) (pe_callB (c_isiK K) (by rfl) W.f_isinstance (by decide +kernel) (pa_cons (pv 1) (pa_cons (pe_bltn (v := .ty "list") (by rfl) W.f_list (by decide +kernel) rfl) pa_nil))) (nomark _))))) (pss_one (ps_ret pe_bl)) pss_nil) (pss_cons (ps_if (pt_cmpR (op_neK K hr.units) (pe_callB (c_lenK K) (by rfl) W.f_len (by decide +kernel) (pa_cons (pv 0) pa_nil)) (pe_callB (c_lenK K) (by rfl) W.f_len (by decide +kernel) (pa_cons (pv 1) pa_nil)) (nomark _)) (pss_one (ps_ret pe_bl)) pss_nil) (pss_one (ps_ret (pe_cmpR (op_eqK K hr.units) (pe_lc (own := [("_law_k", 2)]) (g := gName 2) rfl sc__law_alike.nd (pi_range1 (by rfl) W.f_range (pa_cons (pe_callB (c_lenK K) (by rfl) W.f_len (by decide +kernel) (pa_cons (pv 1) pa_nil)) pa_nil)) (blkOk_by (own := [("_law_k", 2)]) (N := N__law_alike) (sc := defScope s__law_alike) (by decide +kernel)) (fun _ _ _ _ _ => (pg_name (i := 2) sc__law_alike.nd rfl (Or.inl rfl))) (fun _ _ _ _ _ => (pts_one (pt_not (pt_val (pe_callR hc (hr.mono hk) W.g__law_alike W.k__law_alike pass0 rfl (pa_cons (pe_ix (ix_K K) (pv 0) (pv 2) (fun _ _ => rfl)) (pa_cons (pe_ix (ix_K K) (pv 1) (pv 2) (fun _ _ => rfl)) pa_nil))))))) (fun _ _ _ _ _ => (pv 2))) (pe_lst pa_nil) (nomark _)))))) pss_nil) (pss_cons (ps_if (PW.pt (pw_or (pt_cmp (pc_isN (pv 1))) (pw_or1 (pt_val (pe_callB (c_isiK K) (by rfl) W.f_isinstance (by decide +kernel) (pa_cons (pv 1) (pa_cons (pe_bltn (v := .ty "str") (by rfl) W.f_str (by decide +kernel) rfl) pa_nil))))))) (pss_one (ps_ret (pe_and (pe_cmpR (op_eqK K hr.units) (pv 0) (pv 1) (nomark _)) (pe_one (pe_cmpR (op_eqK K hr.units) (pe_callB (c_isiK K) (by rfl) W.f_isinstance (by decide +kernel) (pa_cons (pv 0) (pa_cons (pe_bltn (v := .ty "str") (by rfl) W.f_str (by decide +kernel) rfl) pa_nil))) (pe_callB (c_isiK K) (by rfl) W.f_isinstance (by decide +kernel) (pa_cons (pv 1) (pa_cons (pe_bltn (v := .ty "str") (by rfl) W.f_str (by decide +kernel) rfl) pa_nil))) (nomark _)))))) pss_nil) (pss_one (ps_ret (pe_and (pe_callB (c_isiK K) (by rfl) W.f_isinstance (by decide +kernel) (pa_cons (pv 0) (pa_cons (pe_bltn (v := .ty "int") (by rfl) W.f_int (by decide +kernel) rfl) pa_nil))) (pe_and (pe_cmpR (op_eqK K hr.units) (pe_callB (c_isiK K) (by rfl) W.f_isinstance (by decide +kernel) (pa_cons (pv 0) (pa_cons (pe_bltn (v := .ty "bool") (by rfl) W.f_bool (by decide +kernel) rfl) pa_nil))) (pe_callB (c_isiK K) (by rfl) W.f_isinstance (by decide +kernel) (pa_cons (pv 1) (pa_cons (pe_bltn (v := .ty "bool") (by rfl) W.f_bool (by decide +kernel) rfl) pa_nil))) (nomark _)) (pe_one (pe_cmpR (op_eqK K hr.units) (pv 0) (pv 1) (nomark _)))))))))), ?_⟩
  walk_at "q"
  rcases hpq with ⟨h1, h2⟩ | ⟨h1, h2⟩
  · refine x_isiB (r := false) (.base (.lst h2)) (by decide +kernel) ?_
    walk_at "q"
    refine ⟨sz rfl, fun t1 ht1 => ?_⟩; generalize hN1 : upd _ t1 _ = H1; obtain ⟨s1, e1⟩ := nws hN1 ht1
    walk_at "q"
    refine x_isiT2 (r := false) (q := true) e1 (.base (.lst (s1 _ _ h2))) (by decide +kernel) (by decide +kernel) ?_
    walk_at "q"
    refine x_T ?_
    walk_at "q"
    refine ⟨sz rfl, fun t2 ht2 => ?_⟩; generalize hN2 : upd _ t2 _ = H2; obtain ⟨s2, e2⟩ := nws hN2 ht2
    have s12 := s1.trans s2
    have g1 := s12 _ _ h1
    have g2 := s12 _ _ h2
    walk_at "q"
    refine x_isiT2 (r := false) (q := true) e2 (.base (.lst g1)) (by decide +kernel) (by decide +kernel) ?_
    walk_at "q"
    refine x_F ?_
    walk_at "q"
    refine x_isi_ll g1 ?_
    walk_at "q"
    refine x_isi_ll g2 ?_
    walk_at "q"
    refine x_ifnd (fun hne => absurd rfl hne) fun _ => ?_
    walk_at "q"
    refine x_lenL (SqL.of g1) ?_
    walk_at "q"
    refine x_lenL (SqL.of g2) ?_
    walk_at "q"
    rw [hl]
    refine x_ifnd (fun hne => absurd rfl hne) fun _ => ?_
    walk_at "q"
    refine x_lenL (SqL.of g2) ?_
    walk_at "q"
    refine x_iR1At (by omega) (by omega) ?_
    refine x_lcA walk_range (fun i acc _ => acc = []) (fun _ _ _ _ _ _ _ h => h) (fun _ _ => rfl) (by omega) (fun _ _ => trivial) ?_ ?_
    · rintro i y acc H3 H4 NT NF hT hF hi s3 rfl ⟨rfl, rfl⟩
      have hi' : i < ys.length := by omega
      have hx : xs[i]? = some xs[i] := List.getElem?_eq_getElem (by omega)
      have hy : ys[i]? = some ys[i] := List.getElem?_eq_getElem hi'
      have ax : atI xs ((0 : Int) + (i : Nat)) = some xs[i] := by
        rw [Int.zero_add]
        exact atI_nat hx
      have ay : atI ys ((0 : Int) + (i : Nat)) = some ys[i] := by
        rw [Int.zero_add]
        exact atI_nat hy
      walk_at "q"
      refine ⟨rfl, ?_⟩
      walk_at "q"
      refine x_ixL (SqL.of (s3 _ _ g1)) ax ?_
      walk_at "q"
      refine x_ixL (SqL.of (s3 _ _ g2)) ay ?_
      walk_at "q"
      refine ⟨_, _, rfl, m _ _ _ _ (s12.trans s3) (hR i _ _ hx hy), fun H5 s5 => ?_⟩
      walk_at "q"
      exact hF _ s5 rfl
    rintro D acc H3 hD s3 hD3 rfl hdl
    walk_at "q"
    refine ⟨sz rfl, fun t4 ht4 => ?_⟩; generalize hN4 : upd _ t4 _ = H4; obtain ⟨s4, e4⟩ := nws hN4 ht4
    refine x_eqL (ns := []) (ms := []) (SqL.of (s4 _ _ hD3)) (SqL.of e4) ?_
    exact k _ (s12.trans (s3.trans s4))
  · refine x_isiB (r := false) (.base (.tup h2)) (by decide +kernel) ?_
    walk_at "q"
    refine ⟨sz rfl, fun t1 ht1 => ?_⟩; generalize hN1 : upd _ t1 _ = H1; obtain ⟨s1, e1⟩ := nws hN1 ht1
    walk_at "q"
    refine x_isiT2 (r := true) (q := false) e1 (.base (.tup (s1 _ _ h2))) (by decide +kernel) (by decide +kernel) ?_
    walk_at "q"
    refine x_T ?_
    walk_at "q"
    refine ⟨sz rfl, fun t2 ht2 => ?_⟩; generalize hN2 : upd _ t2 _ = H2; obtain ⟨s2, e2⟩ := nws hN2 ht2
    have s12 := s1.trans s2
    have g1 := s12 _ _ h1
    have g2 := s12 _ _ h2
    walk_at "q"
    refine x_isiT2 (r := true) (q := false) e2 (.base (.tup g1)) (by decide +kernel) (by decide +kernel) ?_
    walk_at "q"
    refine x_F ?_
    walk_at "q"
    refine x_isi_tl g1 ?_
    walk_at "q"
    refine x_isi_tl g2 ?_
    walk_at "q"
    refine x_ifnd (fun hne => absurd rfl hne) fun _ => ?_
    walk_at "q"
    refine x_lenT (SqT.of g1) ?_
    walk_at "q"
    refine x_lenT (SqT.of g2) ?_
    walk_at "q"
    rw [hl]
    refine x_ifnd (fun hne => absurd rfl hne) fun _ => ?_
    walk_at "q"
    refine x_lenT (SqT.of g2) ?_
    walk_at "q"
    refine x_iR1At (by omega) (by omega) ?_
    refine x_lcA walk_range (fun i acc _ => acc = []) (fun _ _ _ _ _ _ _ h => h) (fun _ _ => rfl) (by omega) (fun _ _ => trivial) ?_ ?_
    · rintro i y acc H3 H4 NT NF hT hF hi s3 rfl ⟨rfl, rfl⟩
      have hi' : i < ys.length := by omega
      have hx : xs[i]? = some xs[i] := List.getElem?_eq_getElem (by omega)
      have hy : ys[i]? = some ys[i] := List.getElem?_eq_getElem hi'
      have ax : atI xs ((0 : Int) + (i : Nat)) = some xs[i] := by
        rw [Int.zero_add]
        exact atI_nat hx
      have ay : atI ys ((0 : Int) + (i : Nat)) = some ys[i] := by
        rw [Int.zero_add]
        exact atI_nat hy
      walk_at "q"
      refine ⟨rfl, ?_⟩
      walk_at "q"
      refine x_ixT (SqT.of (s3 _ _ g1)) ax ?_
      walk_at "q"
      refine x_ixT (SqT.of (s3 _ _ g2)) ay ?_
      walk_at "q"
      refine ⟨_, _, rfl, m _ _ _ _ (s12.trans s3) (hR i _ _ hx hy), fun H5 s5 => ?_⟩
      walk_at "q"
      exact hF _ s5 rfl
    rintro D acc H3 hD s3 hD3 rfl hdl
    walk_at "q"
    refine ⟨sz rfl, fun t4 ht4 => ?_⟩; generalize hN4 : upd _ t4 _ = H4; obtain ⟨s4, e4⟩ := nws hN4 ht4
    refine x_eqL (ns := []) (ms := []) (SqL.of (s4 _ _ hD3)) (SqL.of e4) ?_
    exact k _ (s12.trans (s3.trans s4))
/-- to begin with -/
theorem fn_never {k0 : Nat} {f : Addr} : FnR P w K mg base CX0 k0 f (fun _ _ _ _ => False) := by
  intros
  intro z
  first | exact False.elim ‹False› | (intros; exact False.elim ‹False›)
theorem fn_or {k0 k1 : Nat} {R S : Hp → V → V → Prop} {f : Addr} (a : FnR P w K mg base CX0 k0 f (spAlk R)) (b : FnR P w K mg base CX0 k1 f (spAlk S)) {k : Nat} (h0 : k0 ≤ k) (h1 : k1 ≤ k) : FnR P w K mg base CX0 k f (spAlk (aOr R S)) := by
  intro A outer s H us vs Q E hr env rv ⟨x, y, e, h, kk⟩
  rcases h with h | h
  · exact a A outer s H us vs Q E (hr.mono h0) env rv ⟨x, y, e, h, kk⟩
  · exact b A outer s H us vs Q E (hr.mono h1) env rv ⟨x, y, e, h, kk⟩
/-- plain values; rows of them; rows of these -/
abbrev A0 : Hp → V → V → Prop := aPl
abbrev A1 : Hp → V → V → Prop := aOr A0 (aSq A0)
abbrev A2 : Hp → V → V → Prop := aOr A1 (aSq A1)
abbrev A3 : Hp → V → V → Prop := aOr A2 (aSq A2)
theorem mono1 : Mono A1 := mono_or mono_pl (mono_sq mono_pl)
theorem mono2 : Mono A2 := mono_or mono1 (mono_sq mono1)
theorem mono3 : Mono A3 := mono_or mono2 (mono_sq mono2)
theorem alk0 (W : Wd K mg) : FnR P w K mg base CX0 3 (ga K "_law_alike") (spAlk A0) := alk_pl W (k0 := 0) fn_never
theorem alk1 (W : Wd K mg) : FnR P w K mg base CX0 6 (ga K "_law_alike") (spAlk A1) := fn_or (alk0 W) (alk_sq W mono_pl (alk0 W)) (by decide) (by decide)
theorem alk2 (W : Wd K mg) : FnR P w K mg base CX0 9 (ga K "_law_alike") (spAlk A2) := fn_or (alk1 W) (alk_sq W mono1 (alk1 W)) (by decide) (by decide)
theorem ok__law_alike (W : Wd K mg) : FnR P w K mg base CX0 12 (ga K "_law_alike") (spAlk A3) := fn_or (alk2 W) (alk_sq W mono2 (alk2 W)) (by decide) (by decide)
end
end K46

set_option Elab.async false
set_option linter.all false
set_option autoImplicit false
set_option maxRecDepth 100000
set_option pp.maxSteps 500
set_option maxHeartbeats 4000000
namespace K46
open PySem PySem.Spec PyProof.Rows L2 He ChH Ch ChM TxX StrX NumX LsX DbX
local macro_rules | `(tactic| walk_at "x1") => `(tactic| first
  | ((with_reducible apply x_var); exact rfl)
  | with_reducible refine x_c ?_
  | with_reducible refine x_op ?_
  | with_reducible refine x_seq ?_
  | with_reducible refine x_asg ?_
  | with_reducible refine x_gname ?_
  | with_reducible refine x_cons ?_
  | with_reducible refine x_nil ?_
  | with_reducible refine x_fld ?_
  | with_reducible refine x_ret ?_
  | with_reducible refine x_ifS ?_
  | with_reducible refine x_test ?_
  | with_reducible refine x_ex ?_
  | with_reducible refine x_call ?_
  | with_reducible refine x_mk ?_
  | with_reducible refine x_meth ?_
  | with_reducible refine x_prop ?_
  | with_reducible refine x_cb ?_
  | with_reducible refine x_tup ?_
  | with_reducible refine x_lst ?_
  | with_reducible refine x_drop ?_
  | with_reducible refine x_for ?_
  | with_reducible refine x_iL ?_
  | with_reducible refine x_iT ?_
  | with_reducible refine x_iE ?_
  | with_reducible refine x_iU ?_
  | with_reducible refine x_iR1 ?_
  | with_reducible refine x_iR2 ?_
  | with_reducible refine x_gcons ?_
  | with_reducible refine x_gnil ?_
  | with_reducible refine x_par ?_
  | with_reducible refine x_lstRg ?_
  | with_reducible refine x_rg1 ?_
  | with_reducible refine x_rg1At ?_
  | with_reducible refine x_par3 ?_
  | with_reducible refine x_bm ?_
  | with_reducible refine x_bm0 ?_
  | with_reducible refine x_gSub ?_
  | with_reducible refine x_lc ?_
  | with_reducible refine x_yes ?_
  | with_reducible refine x_setf ?_
  | with_reducible refine x_next ?_
  | with_reducible refine x_B ?_
  | with_reducible refine x_and ?_
  | with_reducible refine x_or ?_
  | with_reducible refine x_not ?_
  | with_reducible refine x_andV ?_
  | with_reducible refine x_orV ?_
  | with_reducible refine x_notV ?_
  | with_reducible refine x_ifE ?_
  | with_reducible refine x_chain ?_
  | with_reducible refine x_chain3 ?_
  | with_reducible refine x_un ?_
  | with_reducible refine x_isNe ?_
  | with_reducible refine x_notNe ?_
  | with_reducible refine x_starA ?_
  | with_reducible refine x_plusI ?_
  | with_reducible refine x_minus ?_
  | with_reducible refine x_lt ?_
  | with_reducible refine x_le ?_
  | with_reducible refine x_gt ?_
  | with_reducible refine x_ge ?_
  | with_reducible refine x_eqI ?_
  | with_reducible refine x_neI ?_
  | with_reducible refine x_eqS ?_
  | with_reducible refine x_eqB ?_
  | with_reducible refine x_neB ?_
  | with_reducible refine x_int ?_
  | with_reducible refine x_intB ?_
  | with_reducible refine x_max2 ?_
  | with_reducible refine x_min2 ?_
  | with_reducible refine x_max3 ?_
  | with_reducible refine x_abs ?_
  | with_reducible refine x_neg ?_
  | with_reducible refine x_isi_ii ?_
  | with_reducible refine x_isi_ib ?_
  | with_reducible refine x_T ?_
  | with_reducible refine x_nT ?_
  | with_reducible refine x_nF ?_
  | with_reducible refine x_F ?_)
local macro_rules | `(tactic| walk_at "x") => `(tactic| repeat walk_at "x1")

local macro_rules | `(tactic| walk_at "q1") => `(tactic| first
  | walk_at "x1"
  | with_reducible refine x_sl ?_
  | with_reducible refine x_cmeth ?_
  | with_reducible refine x_noPart ?_
  | with_reducible refine x_part ?_
  | with_reducible refine x_partI ?_)
local macro_rules | `(tactic| walk_at "q") => `(tactic| repeat walk_at "q1")

local macro_rules | `(tactic| walk_at "q1") => `(tactic| with_reducible refine TxX.x_m1 ?_)
/-! ### rows told -/
def numW : Option Int → Str
  | none => "?"
  | some k => nt k
def enWords : En → List Str
  | .tn => ["turn"]
  | .row b none nu => [roomS b, "has", numW nu]
  | .row b (some n) nu => [roomS b, nt n, "carried", numW nu]
def enLine (e : En) : Str := Txt.join " " (enWords e)
def enOk (c : Int) : En → Prop
  | .tn => True
  | .row _ nd nu => (∀ n, nd = some n → 0 ≤ n ∧ n ≤ c) ∧ ∀ k, nu = some k → 0 ≤ k ∧ k ≤ c + 1
def headS (c : Int) : Str := "chairs " ++ nt c
theorem x_plusStr {i j : Str} {H : Hp} {Q : VK} (h : i.length + j.length ≤ 100000) (k : Q (.str (i ++ j)) H) : rPlus (.str i) (.str j) H Q := .inr (.inr ⟨i, j, rfl, rfl, by rw [sizeLine_eq]; omega, k⟩)
theorem tl_j (l : List Str) : TL.tl (Txt.join " " l) = TL.joinL [32] (l.map TL.tl) := by rw [TL.join_eq, TL.tl_join]; rfl
def pre (b : Bool) : Option Int → Str
  | none => roomS b ++ " has "
  | some n => roomS b ++ " " ++ nt n ++ " carried "
theorem pre_line (b : Bool) (nd nu : Option Int) : pre b nd ++ numW nu = enLine (.row b nd nu) := by
  refine TL.ext_tl ?_
  cases nd with
  | none =>
    show TL.tl (roomS b ++ " has " ++ numW nu) = TL.tl (Txt.join " " [roomS b, "has", numW nu])
    rw [tl_j, TL.tl_append, TL.tl_append]
    show _ = TL.tl (roomS b) ++ ([32] ++ (TL.tl "has" ++ ([32] ++ TL.tl (numW nu))))
    rw [show TL.tl " has " = [32] ++ (TL.tl "has" ++ [32]) from rfl]
    simp only [List.append_assoc]
  | some n =>
    show TL.tl (roomS b ++ " " ++ nt n ++ " carried " ++ numW nu) = TL.tl (Txt.join " " [roomS b, nt n, "carried", numW nu])
    rw [tl_j, TL.tl_append, TL.tl_append, TL.tl_append, TL.tl_append]
    show _ = TL.tl (roomS b) ++ ([32] ++ (TL.tl (nt n) ++ ([32] ++ (TL.tl "carried" ++ ([32] ++ TL.tl (numW nu))))))
    rw [show TL.tl " carried " = [32] ++ (TL.tl "carried" ++ [32]) from rfl, show TL.tl " " = [32] from rfl]
    simp only [List.append_assoc]
theorem app_len (x y : Str) : (x ++ y).length = x.length + y.length := by rw [TL.len_tl, TL.tl_append, List.length_append, ← TL.len_tl, ← TL.len_tl]
theorem app_ok {x y : Str} (h1 : PyData.strOk x = true) (h2 : PyData.strOk y = true) : PyData.strOk (x ++ y) = true := by
  refine ok_of fun c hc => ?_
  have hm : c ∈ TL.tl (x ++ y) := hc
  rw [TL.tl_append] at hm
  rcases List.mem_append.mp hm with z | z
  · exact of_ok h1 c z
  · exact of_ok h2 c z
theorem room_ok (b : Bool) : (roomS b).length ≤ 4 ∧ PyData.strOk (roomS b) = true := by cases b <;> exact ⟨by decide, by decide +kernel⟩
theorem pre_ok (b : Bool) {nd : Option Int} (h : ∀ n, nd = some n → 0 ≤ n ∧ n < 10 ^ 20) : (pre b nd).length ≤ 60 ∧ PyData.strOk (pre b nd) = true := by
  have hb := room_ok b
  cases nd with
  | none =>
    refine ⟨?_, app_ok hb.2 (by decide +kernel)⟩
    show (roomS b ++ " has ").length ≤ 60
    rw [app_len]
    show _ + 5 ≤ 60
    omega
  | some n =>
    obtain ⟨h0, h1⟩ := h n rfl
    refine ⟨?_, app_ok (app_ok (app_ok hb.2 (by decide +kernel)) (nt_ok h0)) (by decide +kernel)⟩
    have := nt_len h0 h1
    show (roomS b ++ " " ++ nt n ++ " carried ").length ≤ 60
    rw [app_len, app_len, app_len]
    show _ + 1 + _ + 9 ≤ 60
    omega
theorem line_tn : enLine .tn = "turn" := by
  unfold enLine
  rw [TL.join_eq]
  rfl
inductive It'
  | tn
  | rw (b : Bool) (nd : Option Int) (k : Int)
def itOk (c : Int) : It' → Prop
  | .tn => True
  | .rw _ nd k => (∀ n, nd = some n → 0 ≤ n ∧ n ≤ c) ∧ 0 ≤ k ∧ k ≤ c
structure ItAt (c : Int) (N : List Addr) (H : Hp) (v : V) (it : It') : Prop where
  ok : itOk c it
  ex : (it = .tn ∧ v = .str "turn") ∨ ∃ b nd k a, it = .rw b nd k ∧ v = .ref a ∧ a ∉ N ∧ H a = some (.lst [.str (pre b nd), .int k])
theorem ItAt.keep {c : Int} {N : List Addr} {H H' : Hp} {v : V} {it : It'} (h : ItAt c N H v it) (k : ∀ a xs, a ∉ N → H a = some (.lst xs) → H' a = some (.lst xs)) : ItAt c N H' v it := by
  refine ⟨h.ok, ?_⟩
  rcases h.ex with h | ⟨b, nd, kk, a, e1, e2, e3, e4⟩
  · exact .inl h
  · exact .inr ⟨b, nd, kk, a, e1, e2, e3, k _ _ e3 e4⟩
theorem stepQ_rng {c p n : Int} {s : Bool} (hp : 0 ≤ p ∧ p ≤ c) (hn : 0 ≤ n ∧ n ≤ c) : 0 ≤ stepQ c p s n ∧ stepQ c p s n ≤ c := by
  unfold stepQ moved
  cases s
  · rw [if_neg (by decide), if_pos (by decide)]
    unfold mn
    split <;> omega
  · rw [if_pos (by decide)]
    unfold mx
    split <;> omega
theorem red_dec' (b : Bool) : decide (roomS b = "red") = b := by cases b <;> decide
section
variable {P : Program} {w : World} {K : PySem.W.Frag} {mg : Str → Option Value} {base : Heap}
abbrev absI (x : Int) : Int := if x < 0 then -x else x
def spLSt : Sp := fun vs H Q _ => ∃ (c p n : Int) (v b : Bool) (T : Addr), vs = [.int c, .int p, .bl v, .ref T] ∧ H T = some (.tup [.str (roomS b), .int n]) ∧
  ∀ T2 H', H T2 = none → Same H H' → H' T2 = some (.tup [.int (stepQ c p (side b v) n), .bl v, .int (absI (stepQ c p (side b v) n - p))]) → Q (.ref T2) H'
theorem ok__law_step (W : Wd K mg) : FnR P w K mg base CX0 1 (ga K "_law_step") spLSt := by
  refine (def_ok W.F__law_step sc__law_step (fun _ _ _ _ _ _ us hl => match us, hl with | [_, _, _, _], _ => rfl) (fun vs H Q E ⟨c, p, n, v, b, T, e, _⟩ => by rw [e]; rfl) fun cdv A outer s H vs Q E hr ⟨c, p, n, v, b, T, e, hT, k⟩ => ?_).2
  subst e
  refine ⟨_, PSs.nox (pss_cons (ps_if (pt_cmpR (op_eqK K hr.units) (pe_ix (ix_K K) (pv 3) pe_int (fun _ _ => rfl)) pe_str (nomark _)) (pss_one (ps_ret (pe_tup (pa_cons (pv 1) (pa_cons (pe_not (pv 2)) (pa_cons pe_int pa_nil)))))) pss_nil) (pss_cons (ps_if (pt_cmpR (op_neK K hr.units) (pe_cmpR (op_eqK K hr.units) (pe_ix (ix_K K) (pv 3) pe_int (fun _ _ => rfl)) pe_str (nomark _)) (pv 2) (nomark _)) (pss_one (ps_set (i := 4) sc__law_step.nd rfl (Or.inl rfl) (pe_callB (c_max2 rfl) (by rfl) W.f_max (by decide +kernel) (pa_cons (pv 1) (pa_cons (pe_ix (ix_K K) (pv 3) pe_int (fun _ _ => rfl)) pa_nil))))) (pss_one (ps_set (i := 4) sc__law_step.nd rfl (Or.inl rfl) (pe_callB (c_min2 rfl) (by rfl) W.f_min (by decide +kernel) (pa_cons (pv 1) (pa_cons (pe_op op_minus (pv 0) (pe_ix (ix_K K) (pv 3) pe_int (fun _ _ => rfl))) pa_nil)))))) (pss_one (ps_ret (pe_tup (pa_cons (pv 4) (pa_cons (pv 2) (pa_cons (pe_callB c_abs (by rfl) W.f_abs (by decide +kernel) (pa_cons (pe_op op_minus (pv 4) (pv 1)) pa_nil)) pa_nil)))))))), ?_⟩
  have hnt : roomS b ≠ "turn" := by cases b <;> decide
  walk_at "q"
  refine x_ixT (SqT.of hT) (i := ((0 : Nat) : Int)) (v := .str (roomS b)) (atI_nat rfl) ?_
  walk_at "q"
  refine x_ifd (fun z => absurd z hnt) fun _ => ?_
  walk_at "q"
  refine x_ixT (SqT.of hT) (i := ((0 : Nat) : Int)) (v := .str (roomS b)) (atI_nat rfl) ?_
  walk_at "q"
  rw [red_dec', show (!decide (b = v)) = side b v by cases b <;> cases v <;> rfl]
  cases hs : side b v
  · rw [hs] at k
    walk_at "q"
    refine x_ixT (SqT.of hT) (i := ((1 : Nat) : Int)) (v := .int n) (atI_nat rfl) ?_
    walk_at "q"
    refine ⟨sz rfl, fun T2 hT2 => ?_⟩; generalize hN : upd _ T2 _ = H2; obtain ⟨s2, e2⟩ := nws hN hT2
    exact k T2 H2 hT2 s2 e2
  · rw [hs] at k
    walk_at "q"
    refine x_ixT (SqT.of hT) (i := ((1 : Nat) : Int)) (v := .int n) (atI_nat rfl) ?_
    walk_at "q"
    refine ⟨sz rfl, fun T2 hT2 => ?_⟩; generalize hN : upd _ T2 _ = H2; obtain ⟨s2, e2⟩ := nws hN hT2
    exact k T2 H2 hT2 s2 e2
def spLRw : Sp := fun vs H Q _ => ∃ (h q : Addr) (c st hd : Int), vs = [.ref h, .int c, .int st, .int hd] ∧ Dr H h q ∧ 0 ≤ c ∧ c ≤ 100 ∧ 0 ≤ st ∧ st ≤ c ∧ 1 ≤ hd ∧ hd ≤ 100 ∧
  ∀ (r : Addr) (H' : Hp) (es : List En), H r = none → Same2 h q H H' → Dr H' h q → H' r = some (.lst ((headS c :: es.map enLine).map V.str)) → es.length ≤ 7 → (∀ e ∈ es, enOk c e) → Q (.ref r) H'
theorem ok__law_rows (W : Wd K mg) : FnR P w K mg base CX0 3 (ga K "_law_rows") spLRw := by
  refine (def_ok W.F__law_rows sc__law_rows (fun _ _ _ _ _ _ us hl => match us, hl with | [_, _, _, _], _ => rfl) (fun vs H Q E ⟨h, q, c, st, hd, e, _⟩ => by rw [e]; rfl) fun cdv A outer s H vs Q E hr ⟨h, q, c, st, hd, e, D, c0, c1, st0, st1, hd0, hd1, k⟩ => ?_).2
  subst e
  refine ⟨_, PSs.nox (pss_cons (ps_par3 (i := 4) (j := 5) (l := 6) (by rfl) sc__law_rows.nd rfl rfl rfl (by decide) (by decide) (by decide) rfl rfl rfl (pa_cons (pv 2) (pa_cons pe_bl (pa_cons (pe_lst pa_nil) pa_nil))) (by rfl)) (pss_cons (ps_for PassesOwn.never rfl (pi_range1 (by rfl) W.f_range (pa_cons (pe_callR (ok__law_next W) (hr.mono (by decide)) W.g__law_next W.k__law_next pass0 rfl (pa_cons (pv 0) (pa_cons pe_int pa_nil))) pa_nil)) (pg_name (i := 7) sc__law_rows.nd rfl (Or.inl rfl)) (pss_cons (ps_par (i := 8) (j := 9) (by rfl) sc__law_rows.nd rfl rfl (by decide) rfl rfl (pa_cons (pe_callR (ok__law_next W) (hr.mono (by decide)) W.g__law_next W.k__law_next pass0 rfl (pa_cons (pv 0) (pa_cons pe_int pa_nil))) (pa_cons (pe_ix (ix_K K) (pe_lst (pa_cons pe_str (pa_cons pe_str pa_nil))) (pe_callR (ok__law_next W) (hr.mono (by decide)) W.g__law_next W.k__law_next pass0 rfl (pa_cons (pv 0) (pa_cons pe_int pa_nil))) (fun _ _ => rfl)) pa_nil)) (by rfl)) (pss_one (ps_if (pt_cmpR (op_eqK K hr.units) (pv 8) pe_int (nomark _)) (pss_cons (ps_set (i := 5) sc__law_rows.nd rfl (Or.inl rfl) (pe_not (pv 5))) (pss_one (ps_expr (pe_bmK K PySem.F.plainAttrs_list PySem.F.slot_list_append PySem.F.type_list_append mt_append (pv 6) (pa_cons pe_str pa_nil))))) (pss_one (ps_if (pt_cmpR (op_eqK K hr.units) (pv 8) pe_int (nomark _)) (pss_cons (ps_set (i := 10) sc__law_rows.nd rfl (Or.inl rfl) (pe_ifExp (pt_cmpR (op_neK K hr.units) (pe_cmpR (op_eqK K hr.units) (pv 9) pe_str (nomark _)) (pv 5) (nomark _)) (pv 4) (pe_op op_minus (pv 1) (pv 4)))) (pss_one (ps_expr (pe_bmK K PySem.F.plainAttrs_list PySem.F.slot_list_append PySem.F.type_list_append mt_append (pv 6) (pa_cons (pe_lst (pa_cons (pe_op op_plus (pv 9) pe_str) (pa_cons (pv 10) pa_nil))) pa_nil))))) (pss_cons (ps_set (i := 11) sc__law_rows.nd rfl (Or.inl rfl) (pe_callR (ok__law_next W) (hr.mono (by decide)) W.g__law_next W.k__law_next pass0 rfl (pa_cons (pv 0) (pa_cons (pe_op op_plus (pv 1) pe_int) pa_nil)))) (pss_cons (ps_asg (pe_callR (ok__law_step W) (hr.mono (by decide)) W.g__law_step W.k__law_step pass0 rfl (pa_cons (pv 1) (pa_cons (pv 4) (pa_cons (pv 5) (pa_cons (pe_tup (pa_cons (pv 9) (pa_cons (pv 11) pa_nil))) pa_nil))))) (pg_tupK (n := 3) K rfl (pgs_cons (pg_name (i := 4) sc__law_rows.nd rfl (Or.inl rfl)) (pgs_cons (pg_name (i := 5) sc__law_rows.nd rfl (Or.inl rfl)) (pgs_cons (pg_name (i := 12) sc__law_rows.nd rfl (Or.inl rfl)) pgs_nil))))) (pss_one (ps_expr (pe_bmK K PySem.F.plainAttrs_list PySem.F.slot_list_append PySem.F.type_list_append mt_append (pv 6) (pa_cons (pe_lst (pa_cons (pe_op op_plus (pe_op op_plus (pe_op op_plus (pv 9) pe_str) (pe_callTy TxX.c_strI (by rfl) W.f_str (by decide +kernel) (pa_cons (pv 11) pa_nil))) pe_str) (pa_cons (pv 12) pa_nil))) pa_nil)))))))))))) (pss_cons (ps_set (i := 13) sc__law_rows.nd rfl (Or.inl rfl) (pe_lst (pa_cons (pe_op op_plus pe_str (pe_callTy TxX.c_strI (by rfl) W.f_str (by decide +kernel) (pa_cons (pv 1) pa_nil))) pa_nil))) (pss_cons (ps_for PassesOwn.never rfl (pi_listK K (pv 6)) (pg_name (i := 14) sc__law_rows.nd rfl (Or.inl rfl)) (pss_one (ps_if (pt_cmpR (op_eqK K hr.units) (pv 14) pe_str (nomark _)) (pss_one (ps_expr (pe_bmK K PySem.F.plainAttrs_list PySem.F.slot_list_append PySem.F.type_list_append mt_append (pv 13) (pa_cons (pv 14) pa_nil)))) (pss_cons (ps_set (i := 15) sc__law_rows.nd rfl (Or.inl rfl) (pe_callR (ok__law_next W) (hr.mono (by decide)) W.g__law_next W.k__law_next pass0 rfl (pa_cons (pv 0) (pa_cons (pv 3) pa_nil)))) (pss_cons (ps_set (i := 10) sc__law_rows.nd rfl (Or.inl rfl) (pe_ifExp (pt_cmpR (op_eqK K hr.units) (pv 15) pe_int (nomark _)) pe_str (pe_callTy TxX.c_strI (by rfl) W.f_str (by decide +kernel) (pa_cons (pe_op op_plus (pe_ix (ix_K K) (pv 14) pe_int (fun _ _ => rfl)) (pe_callTy c_int (by rfl) W.f_int (by decide +kernel) (pa_cons (pe_and (pe_cmpR (op_eqK K hr.units) (pv 15) pe_int (nomark _)) (pe_one (pe_cmpR (op_eqK K hr.units) (pe_callR (ok__law_next W) (hr.mono (by decide)) W.g__law_next W.k__law_next pass0 rfl (pa_cons (pv 0) (pa_cons pe_int pa_nil))) pe_int (nomark _)))) pa_nil))) pa_nil)))) (pss_one (ps_expr (pe_bmK K PySem.F.plainAttrs_list PySem.F.slot_list_append PySem.F.type_list_append mt_append (pv 13) (pa_cons (pe_op op_plus (pe_ix (ix_K K) (pv 14) pe_int (fun _ _ => rfl)) (pv 10)) pa_nil))))))))) (pss_one (ps_ret (pv 13))))))), ?_⟩
  have nt20 : ∀ {n : Int}, 0 ≤ n → n ≤ c + 1 → n.natAbs < 10 ^ 20 ∧ (nt n).length ≤ 20 := fun {n} h0 h1 => ⟨by omega, nt_len h0 (by omega)⟩
  walk_at "q"
  refine ⟨sz rfl, fun R hR => ?_⟩; generalize hN1 : upd _ R _ = H1; obtain ⟨s1, e1⟩ := nws hN1 hR
  obtain ⟨Rh, Rq⟩ := D.neN hR
  have D1 := D.mono s1
  walk_at "q"
  refine ⟨_, _, _, rfl, ?_⟩
  walk_at "q"
  refine ⟨h, q, 8, rfl, D1, by decide, by decide, fun z2 H2 z20 z21 s2 D2 => ?_⟩
  walk_at "q"
  refine x_iR1At (by omega) (by omega) ?_
  refine x_loop walk_range (fun i σ Hi => Dr Hi h q ∧ Same2 h q H Hi ∧ (∃ (p : Int) (v : Bool), 0 ≤ p ∧ p ≤ c ∧ ∃ w7 w8 w9 w10 w11 w12 w13 w14 w15, σ = [some (.ref h), some (.int c), some (.int st), some (.int hd), some (.int p), some (.bl v), some (.ref R), w7, w8, w9, w10, w11, w12, w13, w14, w15]) ∧
    ∃ xs its, Hi R = some (.lst xs) ∧ xs.length ≤ i ∧ Paired (ItAt c [h, q, R] Hi) xs its) ⟨D2, (Same2.of s1).trans s2, ⟨st, false, st0, st1, _, _, _, _, _, _, _, _, _, rfl⟩, [], [], s2 _ _ Rh Rq e1, Nat.le_refl _, .nil⟩ (fun _ _ _ _ _ => trivial) ?_ ?_
  · rintro i y σ Hi' Hi hi ⟨Di, Si, ⟨p, v, p0, p1, w7, w8, w9, w10, w11, w12, w13, w14, w15, rfl⟩, xs, its, hxs, hxl, hps⟩ ⟨rfl, rfl⟩
    have hi8 : i < 8 := by omega
    -- one more item
    have put : ∀ (x : V) (it : It') (Hx : Hp), Same2 h q Hi Hx → Dr Hx h q → itOk c it → ((it = .tn ∧ x = .str "turn") ∨ ∃ b nd k a, it = .rw b nd k ∧ x = .ref a ∧ a ∉ [h, q, R] ∧ Hx a = some (.lst [.str (pre b nd), .int k])) →
        Hx R = some (.lst xs) ∧ xs.length < sizeLine ∧ (Dr (upd Hx R (.lst (xs ++ [x]))) h q ∧ Same2 h q H (upd Hx R (.lst (xs ++ [x]))) ∧ ∃ xs' its', (upd Hx R (.lst (xs ++ [x]))) R = some (.lst xs') ∧ xs'.length ≤ i + 1 ∧ Paired (ItAt c [h, q, R] (upd Hx R (.lst (xs ++ [x])))) xs' its') := by
      intro x it Hx sx Dx hok hex
      have hRx := sx _ _ Rh Rq hxs
      have kL : ∀ a zs, a ∉ [h, q, R] → Hx a = some (.lst zs) → (upd Hx R (.lst (xs ++ [x]))) a = some (.lst zs) := fun a zs n e => by
        rw [upd_ne (fun z => n (by rw [z]; simp))]
        exact e
      refine ⟨hRx, sz5' (by omega), Dx.other Rh Rq, Same2.mut (Si.trans sx) hR, xs ++ [x], its ++ [it], upd_same, by rw [List.length_append]; show xs.length + 1 ≤ _; omega, ?_⟩
      refine pr_snoc (pr_im (fun v j hj => hj.keep fun a zs n e => kL a zs n (sx _ _ (fun z => n (by rw [z]; simp)) (fun z => n (by rw [z]; simp)) e)) hps) ⟨hok, ?_⟩
      rcases hex with hex | ⟨b, nd, k, a, g1, g2, g3, g4⟩
      · exact .inl hex
      · exact .inr ⟨b, nd, k, a, g1, g2, g3, kL _ _ g3 g4⟩
    have outN : ∀ {a : Addr} {Hx : Hp}, Dr Hx h q → Hx R = some (.lst xs) → Hx a = none → a ∉ [h, q, R] := fun {a Hx} Dx hx ha hm => by
      obtain ⟨n1, n2⟩ := Dx.neN ha
      rcases List.mem_cons.mp hm with z | hm
      · exact n1 z
      rcases List.mem_cons.mp hm with z | hm
      · exact n2 z
      · rw [List.mem_singleton.mp hm, hx] at ha; cases ha
    walk_at "q"
    refine ⟨h, q, 6, rfl, Di, by decide, by decide, fun kd H3 kd0 kd1 s3 D3 => ?_⟩
    walk_at "q"
    refine ⟨sz rfl, fun u4 hu4 => ?_⟩; generalize hN4 : upd _ u4 _ = H4; obtain ⟨s4, e4⟩ := nws hN4 hu4
    obtain ⟨u4h, u4q⟩ := D3.neN hu4
    walk_at "q"
    refine ⟨h, q, 2, rfl, D3.mono s4, by decide, by decide, fun z5 H5 z50 z51 s5 D5 => ?_⟩
    obtain ⟨y5, hy5, hyy5⟩ := pick2 (u := .str "red") (v := .str "blue") z50 z51
    refine x_ixL (SqL.of (s5 _ _ u4h u4q e4)) hy5 ?_
    obtain ⟨b, rfl⟩ : ∃ b : Bool, y5 = .str (roomS b) := by
      rcases hyy5 with ⟨_, e⟩ | ⟨_, e⟩
      · exact ⟨true, e⟩
      · exact ⟨false, e⟩
    have s35 := s3.trans ((Same2.of s4).trans s5)
    have hR5 := s35 _ _ Rh Rq hxs
    walk_at "q"
    refine ⟨_, _, rfl, ?_⟩
    walk_at "q"
    refine x_ifd (fun h0 => ?_) fun h0 => ?_
    · obtain ⟨g1, g2, g3, g4, g5⟩ := put (.str "turn") .tn H5 s35 D5 trivial (.inl ⟨rfl, rfl⟩)
      walk_at "q"
      refine ⟨ty_lst g1, ?_⟩
      walk_at "q"
      refine x_app g1 g2 ?_
      walk_at "q"
      exact ⟨g3, g4, ⟨p, !v, p0, p1, _, _, _, _, _, _, _, _, _, rfl⟩, g5⟩
    walk_at "q"
    refine x_ifd (fun h1 => ?_) fun h1 => ?_
    · walk_at "q"
      rw [red_dec', show (!decide (b = v)) = side b v by cases b <;> cases v <;> rfl]
      refine x_ifSet (fun u H' => ∃ k : Int, u = .int k ∧ 0 ≤ k ∧ k ≤ c ∧ H' = H5) (fun hs Q' k' => ?_) (fun hs Q' k' => ?_) fun u H' ⟨kk, eu, kk0, kk1, eH⟩ => ?_
      · walk_at "q"
        exact k' _ _ ⟨p, rfl, p0, p1, rfl⟩
      · walk_at "q"
        exact k' _ _ ⟨c - p, rfl, by omega, by omega, rfl⟩
      subst eu
      subst eH
      walk_at "q"
      refine ⟨ty_lst hR5, ?_⟩
      walk_at "q"
      have hrl : (roomS b).length ≤ 4 := by cases b <;> decide
      refine x_plusStr (by show _ + 5 ≤ _; omega) ?_
      walk_at "q"
      refine ⟨sz rfl, fun a6 ha6 => ?_⟩; generalize hN6 : upd _ a6 _ = H6; obtain ⟨s6, e6⟩ := nws hN6 ha6
      obtain ⟨g1, g2, g3, g4, g5⟩ := put (.ref a6) (.rw b none kk) H6 (s35.trans (Same2.of s6)) (D5.mono s6) ⟨(fun n z => nomatch z), kk0, kk1⟩ (.inr ⟨b, none, kk, a6, rfl, rfl, outN D5 hR5 ha6, e6⟩)
      walk_at "q"
      refine x_app g1 g2 ?_
      walk_at "q"
      exact ⟨g3, g4, ⟨p, v, p0, p1, _, _, _, _, _, _, _, _, _, rfl⟩, g5⟩
    walk_at "q"
    refine ⟨h, q, c + 1, rfl, D5, by omega, by omega, fun nd H6 nd0 nd1 s6 D6 => ?_⟩
    walk_at "q"
    refine ⟨sz rfl, fun T hT => ?_⟩; generalize hN7 : upd _ T _ = H7; obtain ⟨s7, e7⟩ := nws hN7 hT
    walk_at "q"
    refine ⟨c, p, nd, v, b, T, rfl, e7, fun T2 H8 hT2 s8 e8 => ?_⟩
    refine x_gTup e8 rfl ?_
    walk_at "q"
    have s38 := s35.trans (s6.trans ((Same2.of s7).trans (Same2.of s8)))
    have D8 := (D6.mono s7).mono s8
    have hR8 := s38 _ _ Rh Rq hxs
    obtain ⟨q0, q1⟩ := stepQ_rng (s := side b v) ⟨p0, p1⟩ ⟨nd0, show nd ≤ c by omega⟩
    have ab : 0 ≤ absI (stepQ c p (side b v) nd - p) ∧ absI (stepQ c p (side b v) nd - p) ≤ c := by
      unfold absI
      split <;> omega
    refine ⟨ty_lst hR8, ?_⟩
    walk_at "q"
    have hrl : (roomS b).length ≤ 4 := by cases b <;> decide
    have hnl := nt20 nd0 (show nd ≤ c + 1 by omega)
    have la : ∀ x y : Str, (x ++ y).length = x.length + y.length := fun x y => by rw [TL.len_tl, TL.tl_append, List.length_append, ← TL.len_tl, ← TL.len_tl]
    refine x_plusStr (by show _ + 1 ≤ _; omega) ?_
    walk_at "q"
    refine x_strI hnl.1 ?_
    refine x_plusStr (by rw [la]; show _ + 1 + _ ≤ _; omega) ?_
    walk_at "q"
    refine x_plusStr (by rw [la, la]; show _ + 1 + _ + 9 ≤ _; omega) ?_
    walk_at "q"
    refine ⟨sz rfl, fun a9 ha9 => ?_⟩; generalize hN9 : upd _ a9 _ = H9; obtain ⟨s9, e9⟩ := nws hN9 ha9
    obtain ⟨g1, g2, g3, g4, g5⟩ := put (.ref a9) (.rw b (some nd) (absI (stepQ c p (side b v) nd - p))) H9 (s38.trans (Same2.of s9)) (D8.mono s9) ⟨(fun n z => by cases z; exact ⟨nd0, by omega⟩), ab.1, ab.2⟩ (.inr ⟨b, some nd, _, a9, rfl, rfl, outN D8 hR8 ha9, e9⟩)
    walk_at "q"
    refine x_app g1 g2 ?_
    walk_at "q"
    exact ⟨g3, g4, ⟨_, v, q0, q1, _, _, _, _, _, _, _, _, _, rfl⟩, g5⟩
  · rintro σ H3 ⟨D3, S3, ⟨p, v, p0, p1, w7, w8, w9, w10, w11, w12, w13, w14, w15, rfl⟩, xs, its, hxs, hxl, hps⟩
    have hxl7 : xs.length ≤ 7 := by omega
    walk_at "q"
    have hnl := nt20 c0 (show c ≤ c + 1 by omega)
    refine x_strI hnl.1 ?_
    walk_at "q"
    refine x_plusStr (by show 7 + _ ≤ _; omega) ?_
    walk_at "q"
    refine ⟨sz rfl, fun F hF => ?_⟩; generalize hN4 : upd _ F _ = H4; obtain ⟨s4, e4⟩ := nws hN4 hF
    obtain ⟨Fh, Fq⟩ := D3.neN hF
    have FR : F ≠ R := fun z => by rw [z, hxs] at hF; cases hF
    have hF0 : H F = none := by
      cases z : H F with
      | none => rfl
      | some u => have := S3 _ _ Fh Fq z; rw [hF] at this; cases this
    have hps4 : Paired (ItAt c [h, q, F] H4) xs its := pr_im (fun v it hit => ⟨hit.ok, by
      rcases hit.ex with z | ⟨b, nd, k, a, g1, g2, g3, g4⟩
      · exact .inl z
      · refine .inr ⟨b, nd, k, a, g1, g2, fun hm => ?_, s4 _ _ g4⟩
        rcases List.mem_cons.mp hm with z | hm
        · exact g3 (by rw [z]; simp)
        rcases List.mem_cons.mp hm with z | hm
        · exact g3 (by rw [z]; simp)
        · rw [List.mem_singleton.mp hm, hF] at g4; cases g4⟩) hps
    have hxs4 := s4 _ _ hxs
    have D4 := D3.mono s4
    walk_at "q"
    refine x_iLAt (SqL.of hxs4) (x_loop walk_list (fun i σ Hi => Dr Hi h q ∧ Same2 h q H Hi ∧ (∃ w7 w8 w9 w10 w11 w12 w14 w15, σ = [some (.ref h), some (.int c), some (.int st), some (.int hd), some (.int p), some (.bl v), some (.ref R), w7, w8, w9, w10, w11, w12, some (.ref F), w14, w15]) ∧ Hi R = some (.lst xs) ∧ Paired (ItAt c [h, q, F] Hi) xs its ∧
      ∃ es : List En, Hi F = some (.lst ((headS c :: es.map enLine).map V.str)) ∧ es.length = i ∧ ∀ e ∈ es, enOk c e) ⟨D4, S3.trans (Same2.of s4), ⟨_, _, _, _, _, _, _, _, rfl⟩, hxs4, hps4, [], e4, rfl, (fun e he => nomatch he)⟩ (fun i σ Hi _ ⟨_, _, _, z, _⟩ => SqL.of z) ?_ ?_)
    · rintro i y σ Hi' Hi hi ⟨Di, Si, ⟨w7, w8, w9, w10, w11, w12, w14, w15, rfl⟩, hRi, hpi, es, hFi, hel, heo⟩ ⟨rfl, ey⟩
      obtain ⟨it, hit, hia⟩ := pr_at hpi ey
      have put : ∀ (e : En) (Hx : Hp), Same2 h q Hi Hx → Dr Hx h q → enOk c e → Hx F = some (.lst ((headS c :: es.map enLine).map V.str)) ∧ ((headS c :: es.map enLine).map V.str).length < sizeLine ∧ (Dr (upd Hx F (.lst ((headS c :: es.map enLine).map V.str ++ [.str (enLine e)]))) h q ∧ Same2 h q H (upd Hx F (.lst ((headS c :: es.map enLine).map V.str ++ [.str (enLine e)]))) ∧
          (upd Hx F (.lst ((headS c :: es.map enLine).map V.str ++ [.str (enLine e)]))) R = some (.lst xs) ∧ Paired (ItAt c [h, q, F] (upd Hx F (.lst ((headS c :: es.map enLine).map V.str ++ [.str (enLine e)])))) xs its ∧
          ∃ es' : List En, (upd Hx F (.lst ((headS c :: es.map enLine).map V.str ++ [.str (enLine e)]))) F = some (.lst ((headS c :: es'.map enLine).map V.str)) ∧ es'.length = i + 1 ∧ ∀ e ∈ es', enOk c e) := by
        intro e Hx sx Dx hok
        have kL : ∀ a zs, a ∉ [h, q, F] → Hi a = some (.lst zs) → (upd Hx F (.lst ((headS c :: es.map enLine).map V.str ++ [.str (enLine e)]))) a = some (.lst zs) := fun a zs n e' => by
          rw [upd_ne (fun z => n (by rw [z]; simp))]
          exact sx _ _ (fun z => n (by rw [z]; simp)) (fun z => n (by rw [z]; simp)) e'
        refine ⟨sx _ _ Fh Fq hFi, sz5' (by rw [List.length_map, List.length_cons, List.length_map]; omega), Dx.other Fh Fq, Same2.mut (Si.trans sx) hF0, by rw [upd_ne FR.symm]; exact sx _ _ Rh Rq hRi, pr_im (fun v j hj => hj.keep kL) hpi, es ++ [e], by rw [upd_same, List.map_append, List.map_cons, List.map_cons, List.map_append]; rfl, by rw [List.length_append, hel]; rfl, fun e' he' => ?_⟩
        rcases List.mem_append.mp he' with z | z
        · exact heo e' z
        · rw [List.mem_singleton.mp z]; exact hok
      walk_at "q"
      rcases hia.ex with ⟨rfl, rfl⟩ | ⟨b, nd, kk, a, rfl, rfl, hna, hla⟩
      · obtain ⟨g1, g2, g3, g4, g5⟩ := put .tn Hi (Same2.of (Same.refl _)) Di trivial
        rw [line_tn] at g3 g4 g5
        refine x_eqS ?_
        rw [decide_eq_true rfl]
        walk_at "q"
        refine ⟨ty_lst g1, ?_⟩
        walk_at "q"
        refine x_app g1 g2 ?_
        walk_at "q"
        exact ⟨g3, g4, ⟨_, _, _, _, _, _, _, _, rfl⟩, g5⟩
      obtain ⟨ok1, ok2, ok3⟩ := hia.ok
      have hpl : (pre b nd).length ≤ 60 ∧ PyData.strOk (pre b nd) = true := pre_ok b fun n hn => ⟨(ok1 n hn).1, by have := (ok1 n hn).2; omega⟩
      refine x_eqDp (d := .list [.str (pre b nd), .int kk]) (e := .str "turn") (.lst (SqL.of hla) (.cons (.str _) (.cons (.int _) .nil))) (.str _) (lay_list (n := 0) (fun d hd => by
        rcases List.mem_cons.mp hd with z | hd
        · rw [z]; exact lay_str 0 _ hpl.2
        · rw [List.mem_singleton.mp hd]; exact lay_int 0 _)).shaped (lay_str 0 _ (by decide +kernel)).shaped ?_
      rw [show PyData.eqv (.list [.str (pre b nd), .int kk]) (.str "turn") = false from rfl]
      walk_at "q"
      refine ⟨h, q, hd, rfl, Di, by omega, by omega, fun wy H5 wy0 wy1 s5 D5 => ?_⟩
      have hnh : a ≠ h := fun z => hna (by rw [z]; simp)
      have hnq : a ≠ q := fun z => hna (by rw [z]; simp)
      have hla5 := s5 _ _ hnh hnq hla
      walk_at "q"
      refine x_ifSetd (fun u H' => ∃ nu : Option Int, u = .str (numW nu) ∧ (∀ k, nu = some k → 0 ≤ k ∧ k ≤ c + 1) ∧ Same2 h q H5 H' ∧ Dr H' h q) (fun hw Q' k' => ?_) (fun hw Q' k' => ?_) fun u H6 ⟨nu, eu, hnu, s6, D6⟩ => ?_
      · walk_at "q"
        exact k' _ _ ⟨none, rfl, (fun k z => nomatch z), Same2.of (Same.refl _), D5⟩
      · walk_at "q"
        refine x_ixL (SqL.of hla5) (i := ((1 : Nat) : Int)) (v := .int kk) (atI_nat rfl) ?_
        walk_at "q"
        refine x_ifd (fun hw1 => ?_) fun hw1 => ?_
        · walk_at "q"
          refine ⟨h, q, 6, rfl, D5, by decide, by decide, fun z6 H6 z60 z61 s6 D6 => ?_⟩
          walk_at "q"
          have hk : ∀ d : Bool, 0 ≤ kk + (if d = true then 1 else 0) ∧ kk + (if d = true then 1 else 0) ≤ c + 1 := fun d => by cases d <;> simp <;> omega
          obtain ⟨hk0, hk1⟩ := hk (decide (z6 = 0))
          refine x_strI (nt20 hk0 hk1).1 ?_
          exact k' _ _ ⟨some _, rfl, (fun k z => by cases z; exact ⟨hk0, hk1⟩), s6, D6⟩
        · walk_at "q"
          have hk : 0 ≤ kk + (if false = true then 1 else 0) ∧ kk + (if false = true then 1 else 0) ≤ c + 1 := by simp; omega
          refine x_strI (nt20 hk.1 hk.2).1 ?_
          exact k' _ _ ⟨some _, rfl, (fun k z => by cases z; exact hk), Same2.of (Same.refl _), D5⟩
      subst eu
      walk_at "q"
      refine ⟨ty_lst (s6 _ _ Fh Fq (s5 _ _ Fh Fq hFi)), ?_⟩
      walk_at "q"
      refine x_ixL (SqL.of (s6 _ _ hnh hnq hla5)) (i := ((0 : Nat) : Int)) (v := .str (pre b nd)) (atI_nat rfl) ?_
      walk_at "q"
      have hnul : (numW nu).length ≤ 20 := by
        cases nu with
        | none => show ("?" : Str).length ≤ 20; decide
        | some k => exact (nt20 (hnu k rfl).1 (hnu k rfl).2).2
      refine x_plusStr (by have := hpl.1; omega) ?_
      rw [pre_line]
      obtain ⟨g1, g2, g3, g4, g5⟩ := put (.row b nd nu) H6 (s5.trans s6) D6 ⟨ok1, hnu⟩
      walk_at "q"
      refine x_app g1 g2 ?_
      walk_at "q"
      exact ⟨g3, g4, ⟨_, _, _, _, _, _, _, _, rfl⟩, g5⟩
    · rintro σ Hi ⟨Di, Si, ⟨w7, w8, w9, w10, w11, w12, w14, w15, rfl⟩, hRi, hpi, es, hFi, hel, heo⟩
      walk_at "q"
      exact k F Hi es hF0 Si Di hFi (by omega) heo
end
end K46

set_option Elab.async false
set_option linter.all false
set_option autoImplicit false
set_option maxRecDepth 100000
set_option pp.maxSteps 500
set_option maxHeartbeats 4000000
namespace K46
open PySem PySem.Spec PyProof.Rows L2 He ChH Ch ChM TxX StrX NumX LsX DbX
/-! ### rows as texts, read again -/
theorem okD_small {t : Str} (h : t.length ≤ 599) (k : PyData.strOk t = true) : okD t := ⟨by omega, k, fun l hl => by
  have := (Gd.split nl_tl nl_k k).mem hl
  omega⟩
theorem head_ok {c : Int} (h0 : 0 ≤ c) (h1 : c ≤ 100) : (headS c).length ≤ 27 ∧ PyData.strOk (headS c) = true := by
  have := nt_len h0 (show c < 10 ^ 20 by omega)
  refine ⟨?_, app_ok (by decide +kernel) (nt_ok h0)⟩
  unfold headS
  rw [app_len]
  show 7 + _ ≤ 27
  omega
theorem numW_ok {nu : Option Int} {c : Int} (hc : c ≤ 100) (h : ∀ k, nu = some k → 0 ≤ k ∧ k ≤ c + 1) : (numW nu).length ≤ 20 ∧ PyData.strOk (numW nu) = true := by
  cases nu with
  | none => exact ⟨by show ("?" : Str).length ≤ 20; decide, by show PyData.strOk "?" = true; decide +kernel⟩
  | some k => exact ⟨nt_len (h k rfl).1 (by have := (h k rfl).2; omega), nt_ok (h k rfl).1⟩
theorem eline_ok {c : Int} (hc : c ≤ 100) {e : En} (h : enOk c e) : (enLine e).length ≤ 60 ∧ PyData.strOk (enLine e) = true := by
  cases e with
  | tn => rw [line_tn]; exact ⟨by decide, by decide +kernel⟩
  | row b nd nu =>
    rw [← pre_line]
    have h2 := numW_ok hc h.2
    have h3 := pre_ok b (nd := nd) fun n hn => ⟨(h.1 n hn).1, by have := (h.1 n hn).2; omega⟩
    refine ⟨?_, app_ok h3.2 h2.2⟩
    have h4 : (pre b nd).length ≤ 38 := by
      have hb := room_ok b
      cases nd with
      | none => show (roomS b ++ " has ").length ≤ 38; rw [app_len]; show _ + 5 ≤ 38; omega
      | some n =>
        have := nt_len (h.1 n rfl).1 (show n < 10 ^ 20 by have := (h.1 n rfl).2; omega)
        show (roomS b ++ " " ++ nt n ++ " carried ").length ≤ 38
        rw [app_len, app_len, app_len]
        show _ + 1 + _ + 9 ≤ 38
        omega
    rw [app_len]
    omega
theorem rows_Gd {c : Int} (h0 : 0 ≤ c) (h1 : c ≤ 100) {es : List En} (hl : es.length ≤ 7) (he : ∀ e ∈ es, enOk c e) : Gd (headS c :: es.map enLine) 456 := by
  have hh := head_ok h0 h1
  have g2 : Gd (es.map enLine) (es.length * 61) := by
    clear hl
    induction es with
    | nil => exact ⟨Nat.le_refl _, fun a ha => nomatch ha⟩
    | cons e es ih =>
      have i1 := ih fun x hx => he x (List.mem_cons_of_mem _ hx)
      have i2 := eline_ok h1 (he e List.mem_cons_self)
      have := (Gd.one (n := 61) (by omega) i2.2).app i1
      rw [List.length_cons, Nat.succ_mul, Nat.add_comm]
      exact this
  have := (Gd.one (n := 28) (a := headS c) (by omega) hh.2).app g2
  refine this.le ?_
  have : es.length * 61 ≤ 7 * 61 := Nat.mul_le_mul_right 61 hl
  omega
theorem good_bad {L : List (List Str)} {c : Int} {es : List En} (h : good L c es) : bad L = none := by
  obtain ⟨w0, r, rfl, h1, h2, h3⟩ := h
  show (match hdC w0 with | none => some 0 | some c => badFrom c 1 r) = none
  rw [h1]
  have gen : ∀ (r : List (List Str)) (es : List En) (k : Nat), r.map (rdEn c) = es.map some → k + r.length ≤ 201 → badFrom c k r = none := by
    intro r
    induction r with
    | nil => intro _ _ _ _; rfl
    | cons ws r ih =>
      intro es k he hk
      cases es with
      | nil => cases he
      | cons e es =>
        rw [List.map_cons, List.map_cons] at he
        rw [List.length_cons] at hk
        have h1 := List.cons.inj he
        unfold badFrom
        rw [if_neg (fun z => Or.elim z (fun y => by omega) fun y => by rw [h1.1] at y; cases y)]
        exact ih es (k + 1) h1.2 (by omega)
  exact gen r es 1 h2 (by omega)
theorem good_len {L : List (List Str)} {c : Int} {es : List En} (h : good L c es) : es.length + 1 = L.length ∧ es.length ≤ 200 ∧ 0 ≤ c ∧ c ≤ big := by
  obtain ⟨w0, r, rfl, h1, h2, h3⟩ := h
  have e := congrArg List.length h2
  rw [List.length_map, List.length_map] at e
  refine ⟨by rw [List.length_cons]; omega, by omega, ?_⟩
  unfold hdC at h1
  split at h1
  · split at h1
    · exact numOf_rng h1
    · cases h1
  · cases h1
theorem nt_wd {n : Int} (h0 : 0 ≤ n) : 0 < (nt n).length ∧ 32 ∉ TL.tl (nt n) ∧ 10 ∉ TL.tl (nt n) := by
  have hc := nt_chars (n := n) (by omega)
  refine ⟨?_, fun hm => by have := hc _ hm; omega, fun hm => by have := hc _ hm; omega⟩
  rw [TL.len_tl]
  refine List.length_pos_iff.mpr fun e => ?_
  obtain ⟨m, rfl⟩ := Int.eq_ofNat_of_zero_le h0
  rw [tl_nt] at e
  exact TL.numL_ne m e
theorem numW_wd {nu : Option Int} {c : Int} (h : ∀ k, nu = some k → 0 ≤ k ∧ k ≤ c + 1) : 32 ∉ TL.tl (numW nu) ∧ 10 ∉ TL.tl (numW nu) := by
  cases nu with
  | none => exact ⟨by show 32 ∉ TL.tl ("?" : Str); decide +kernel, by show 10 ∉ TL.tl ("?" : Str); decide +kernel⟩
  | some k => exact (nt_wd (h k rfl).1).2
theorem room_wd (b : Bool) : 32 ∉ TL.tl (roomS b) ∧ 10 ∉ TL.tl (roomS b) := by cases b <;> exact ⟨by decide +kernel, by decide +kernel⟩
theorem words_wd {c : Int} {e : En} (h : enOk c e) : enWords e ≠ [] ∧ ∀ a ∈ enWords e, 32 ∉ TL.tl a ∧ 10 ∉ TL.tl a := by
  cases e with
  | tn => exact ⟨List.cons_ne_nil _ _, fun a ha => by rw [List.mem_singleton.mp ha]; exact ⟨by decide +kernel, by decide +kernel⟩⟩
  | row b nd nu =>
    have hn := numW_wd h.2
    cases nd with
    | none =>
      refine ⟨List.cons_ne_nil _ _, fun a ha => ?_⟩
      rcases List.mem_cons.mp ha with z | ha
      · rw [z]; exact room_wd b
      rcases List.mem_cons.mp ha with z | ha
      · rw [z]; exact ⟨by decide +kernel, by decide +kernel⟩
      · rw [List.mem_singleton.mp ha]; exact hn
    | some n =>
      refine ⟨List.cons_ne_nil _ _, fun a ha => ?_⟩
      rcases List.mem_cons.mp ha with z | ha
      · rw [z]; exact room_wd b
      rcases List.mem_cons.mp ha with z | ha
      · rw [z]; exact (nt_wd (h.1 n rfl).1).2
      rcases List.mem_cons.mp ha with z | ha
      · rw [z]; exact ⟨by decide +kernel, by decide +kernel⟩
      · rw [List.mem_singleton.mp ha]; exact hn
theorem wds_line {c : Int} {e : En} (h : enOk c e) : wds (enLine e) = enWords e := TL.split_join sp_tl sp_k (words_wd h).1 fun p hp => ((words_wd h).2 p hp).1
theorem head_join (c : Int) : headS c = Txt.join " " [("chairs" : Str), nt c] := by
  refine TL.ext_tl ?_
  unfold headS
  rw [TL.tl_append, tl_j]
  show _ = TL.tl "chairs" ++ ([32] ++ TL.tl (nt c))
  rw [show TL.tl "chairs " = TL.tl "chairs" ++ [32] from rfl, List.append_assoc]
theorem wds_head {c : Int} (h : 0 ≤ c) : wds (headS c) = [("chairs" : Str), nt c] := by
  rw [head_join]
  refine TL.split_join sp_tl sp_k (List.cons_ne_nil _ _) fun p hp => ?_
  rcases List.mem_cons.mp hp with z | hp
  · rw [z]; decide +kernel
  · rw [List.mem_singleton.mp hp]; exact (nt_wd h).2.1
theorem mem_joinL (S : List Nat) {c : Nat} : ∀ {l : List (List Nat)}, c ∈ TL.joinL S l → c ∈ S ∨ ∃ p ∈ l, c ∈ p
  | [], h => nomatch h
  | [p], h => .inr ⟨p, List.mem_singleton.mpr rfl, h⟩
  | p :: q :: r, h => by
    rcases List.mem_append.mp h with z | z
    · exact .inr ⟨p, List.mem_cons_self, z⟩
    rcases List.mem_append.mp z with z | z
    · exact .inl z
    rcases mem_joinL S (l := q :: r) z with y | ⟨x, hx, hc⟩
    · exact .inl y
    · exact .inr ⟨x, List.mem_cons_of_mem _ hx, hc⟩
theorem join_no10 {l : List Str} (h : ∀ a ∈ l, 10 ∉ TL.tl a) : 10 ∉ TL.tl (Txt.join " " l) := fun hm => by
  rw [tl_j] at hm
  rcases mem_joinL _ hm with z | ⟨p, hp, hc⟩
  · exact absurd (List.mem_singleton.mp z) (by decide)
  · obtain ⟨x, hx, rfl⟩ := List.mem_map.mp hp
    exact h x hx hc
/-- the text of a daybook, its rows -/
def dbText (c : Int) (es : List En) : Str := Txt.join "\n" (headS c :: es.map enLine)
theorem text_rows {c : Int} {es : List En} (h0 : 0 ≤ c) (he : ∀ e ∈ es, enOk c e) : rowsOf (dbText c es) = [("chairs" : Str), nt c] :: es.map enWords := by
  unfold rowsOf dbText
  rw [TL.split_join nl_tl nl_k (List.cons_ne_nil _ _) (fun p hp => by
    rcases List.mem_cons.mp hp with z | hp
    · rw [z, head_join]
      refine join_no10 fun a ha => ?_
      rcases List.mem_cons.mp ha with z | ha
      · rw [z]; decide +kernel
      · rw [List.mem_singleton.mp ha]; exact (nt_wd h0).2.2
    · obtain ⟨e, hem, rfl⟩ := List.mem_map.mp hp
      exact join_no10 fun a ha => ((words_wd (he e hem)).2 a ha).2), List.map_cons, wds_head h0, List.map_map]
  congr 1
  exact List.map_congr_left fun e hem => wds_line (he e hem)
theorem numOf_nt {m n : Int} (h0 : 0 ≤ n) (h1 : n ≤ m) : DbX.numOf m (nt n) = some n := by
  unfold DbX.numOf
  rw [pInt_nt h0]
  exact if_pos ⟨h0, h1⟩
theorem numU_W {nu : Option Int} (h : ∀ k, nu = some k → 0 ≤ k ∧ k ≤ big) : numU (numW nu) = some nu := by
  cases nu with
  | none => exact if_pos rfl
  | some k =>
    obtain ⟨h0, h1⟩ := h k rfl
    have hne : nt k ≠ "?" := fun e => by
      have hc := nt_chars (n := k) (by omega) 63 (by rw [e]; decide +kernel)
      omega
    show (if nt k = "?" then some none else (DbX.numOf big (nt k)).map some) = _
    rw [if_neg hne, numOf_nt h0 h1]
    rfl
def enBig : En → Prop
  | .row _ _ (some k) => k ≤ big
  | _ => True
theorem enBig_of {c : Int} (hc : c + 1 ≤ big) {e : En} (h : enOk c e) : enBig e := by
  cases e with
  | tn => trivial
  | row b nd nu =>
    cases nu with
    | none => trivial
    | some k =>
      have := (h.2 k rfl).2
      show k ≤ big
      omega
theorem roomOk_S (b : Bool) : roomOk (roomS b) := by cases b; exact .inr rfl; exact .inl rfl
theorem rd_words {c : Int} {e : En} (h : enOk c e) (hc : enBig e) : rdEn c (enWords e) = some e := by
  cases e with
  | tn => exact if_pos rfl
  | row b nd nu =>
    have hn := numU_W (nu := nu) fun k hk => ⟨(h.2 k hk).1, by subst hk; exact hc⟩
    have hb : decide (roomS b = "red") = b := by cases b <;> decide
    cases nd with
    | none =>
      unfold rdEn
      rw [if_neg (show ¬ enWords (.row b none nu) = [("turn" : Str)] from fun z => absurd (congrArg List.length z) (by show ¬ 3 = 1; decide))]
      show (if roomOk (roomS b) ∧ ("has" : Str) = "has" then mkEn (roomS b) (some none) (numU (numW nu)) else none) = _
      rw [if_pos ⟨roomOk_S b, rfl⟩, hn]
      show some (En.row (decide (roomS b = "red")) none nu) = _
      rw [hb]
    | some n =>
      unfold rdEn
      rw [if_neg (show ¬ enWords (.row b (some n) nu) = [("turn" : Str)] from fun z => absurd (congrArg List.length z) (by show ¬ 4 = 1; decide))]
      show (if roomOk (roomS b) ∧ ("carried" : Str) = "carried" then mkEn (roomS b) ((DbX.numOf c (nt n)).map some) (numU (numW nu)) else none) = _
      rw [if_pos ⟨roomOk_S b, rfl⟩, hn, numOf_nt (h.1 n rfl).1 (h.1 n rfl).2]
      show some (En.row (decide (roomS b = "red")) (some n) nu) = _
      rw [hb]
theorem text_good {c : Int} {es : List En} (h0 : 0 ≤ c) (hc : c ≤ big) (hl : es.length ≤ 200) (he : ∀ e ∈ es, enOk c e) (hb : ∀ e ∈ es, enBig e) : good (rowsOf (dbText c es)) c es := by
  rw [text_rows h0 he]
  refine ⟨_, _, rfl, ?_, ?_, by rw [List.length_map]; exact hl⟩
  · show (if ("chairs" : Str) = "chairs" then DbX.numOf big (nt c) else none) = some c
    rw [if_pos rfl, numOf_nt h0 hc]
  · rw [List.map_map]
    exact List.map_congr_left fun e hem => rd_words (he e hem) (hb e hem)
theorem some_injE : ∀ {as bs : List En}, as.map some = bs.map some → as = bs
  | [], [], _ => rfl
  | [], _ :: _, h => nomatch h
  | _ :: _, [], h => nomatch h
  | a :: as, b :: bs, h => by
    have h1 := List.cons.inj h
    rw [Option.some.inj h1.1, some_injE h1.2]
theorem good_uniq {L : List (List Str)} {c c' : Int} {es es' : List En} (h : good L c es) (h' : good L c' es') : c' = c ∧ es' = es := by
  obtain ⟨w0, r, rfl, h1, h2, _⟩ := h
  obtain ⟨w0', r', e, h1', h2', _⟩ := h'
  have e1 := List.cons.inj e
  rw [← e1.1, h1] at h1'
  have ec := Option.some.inj h1'
  subst ec
  rw [← e1.2, h2] at h2'
  exact ⟨rfl, (some_injE h2').symm⟩
theorem nums_rng {c : Int} : ∀ {es : List En} {p : Int} {v : Bool} {i : Nat} {k : Int}, 0 ≤ p ∧ p ≤ c → (∀ e ∈ es, enOk c e) → (numsF c p v es)[i]? = some (some k) → 0 ≤ k ∧ k ≤ c
  | .tn :: r, p, v, 0, k, hp, he, h => by cases h
  | .tn :: r, p, v, i + 1, k, hp, he, h => nums_rng (es := r) (v := !v) hp (fun e hm => he e (List.mem_cons_of_mem _ hm)) h
  | .row b none _ :: r, p, v, 0, k, hp, he, h => by
    have : k = if side b v then p else c - p := (Option.some.inj (Option.some.inj h)).symm
    rw [this]
    split <;> omega
  | .row b none _ :: r, p, v, i + 1, k, hp, he, h => nums_rng (es := r) (v := v) hp (fun e hm => he e (List.mem_cons_of_mem _ hm)) h
  | .row b (some n) _ :: r, p, v, 0, k, hp, he, h => by
    have hq := stepQ_rng (s := side b v) hp ((he _ List.mem_cons_self).1 n rfl)
    have : k = if stepQ c p (side b v) n - p < 0 then -(stepQ c p (side b v) n - p) else stepQ c p (side b v) n - p := (Option.some.inj (Option.some.inj h)).symm
    rw [this]
    split <;> omega
  | .row b (some n) _ :: r, p, v, i + 1, k, hp, he, h => nums_rng (es := r) (v := v) (stepQ_rng (s := side b v) hp ((he _ List.mem_cons_self).1 n rfl)) (fun e hm => he e (List.mem_cons_of_mem _ hm)) h
theorem fill_at {c x : Int} {es : List En} {i : Nat} {e : En} {n : Option Int} (h1 : es[i]? = some e) (h2 : (numsF c x false es)[i]? = some n) : (fillL c es x)[i]? = some (fillE e n) := by
  unfold fillL
  rw [List.getElem?_zipWith, h1, h2]
theorem fill_len {c x : Int} {es : List En} : (fillL c es x).length = es.length := by
  unfold fillL
  rw [List.length_zipWith, numsF_len, Nat.min_self]
theorem fill_ok {c x : Int} {es : List En} (hx : 0 ≤ x ∧ x ≤ c) (he : ∀ e ∈ es, enOk c e) : ∀ e ∈ fillL c es x, enOk c e := fun e hm => by
  obtain ⟨i, hi, rfl⟩ := List.mem_iff_getElem.mp hm
  have hi' : i < es.length := by rw [fill_len] at hi; exact hi
  obtain ⟨n, hn⟩ : ∃ n, (numsF c x false es)[i]? = some n := ⟨_, List.getElem?_eq_getElem (by rw [numsF_len]; exact hi')⟩
  have h1 := List.getElem?_eq_getElem hi'
  have h3 := fill_at h1 hn
  rw [List.getElem?_eq_getElem hi] at h3
  rw [Option.some.inj h3]
  have h4 := he _ (List.getElem_mem hi')
  cases hen : es[i] with
  | tn => trivial
  | row b nd nu =>
    rw [hen] at h4
    refine ⟨h4.1, fun k hk => ?_⟩
    subst hk
    have := nums_rng hx he hn
    omega
end K46

set_option Elab.async false
set_option linter.all false
set_option autoImplicit false
set_option maxRecDepth 100000
set_option pp.maxSteps 500
set_option maxHeartbeats 4000000
namespace K46
open PySem PySem.Spec PyProof.Rows L2 He ChH Ch ChM TxX StrX NumX LsX DbX
local macro_rules | `(tactic| walk_at "x1") => `(tactic| first
  | ((with_reducible apply x_var); exact rfl)
  | with_reducible refine x_c ?_
  | with_reducible refine x_op ?_
  | with_reducible refine x_seq ?_
  | with_reducible refine x_asg ?_
  | with_reducible refine x_gname ?_
  | with_reducible refine x_cons ?_
  | with_reducible refine x_nil ?_
  | with_reducible refine x_fld ?_
  | with_reducible refine x_ret ?_
  | with_reducible refine x_ifS ?_
  | with_reducible refine x_test ?_
  | with_reducible refine x_ex ?_
  | with_reducible refine x_call ?_
  | with_reducible refine x_mk ?_
  | with_reducible refine x_meth ?_
  | with_reducible refine x_prop ?_
  | with_reducible refine x_cb ?_
  | with_reducible refine x_tup ?_
  | with_reducible refine x_lst ?_
  | with_reducible refine x_drop ?_
  | with_reducible refine x_for ?_
  | with_reducible refine x_iL ?_
  | with_reducible refine x_iT ?_
  | with_reducible refine x_iE ?_
  | with_reducible refine x_iU ?_
  | with_reducible refine x_iR1 ?_
  | with_reducible refine x_iR2 ?_
  | with_reducible refine x_gcons ?_
  | with_reducible refine x_gnil ?_
  | with_reducible refine x_par ?_
  | with_reducible refine x_lstRg ?_
  | with_reducible refine x_rg1 ?_
  | with_reducible refine x_rg1At ?_
  | with_reducible refine x_par3 ?_
  | with_reducible refine x_bm ?_
  | with_reducible refine x_bm0 ?_
  | with_reducible refine x_gSub ?_
  | with_reducible refine x_lc ?_
  | with_reducible refine x_yes ?_
  | with_reducible refine x_setf ?_
  | with_reducible refine x_next ?_
  | with_reducible refine x_B ?_
  | with_reducible refine x_and ?_
  | with_reducible refine x_or ?_
  | with_reducible refine x_not ?_
  | with_reducible refine x_andV ?_
  | with_reducible refine x_orV ?_
  | with_reducible refine x_notV ?_
  | with_reducible refine x_ifE ?_
  | with_reducible refine x_chain ?_
  | with_reducible refine x_chain3 ?_
  | with_reducible refine x_un ?_
  | with_reducible refine x_isNe ?_
  | with_reducible refine x_notNe ?_
  | with_reducible refine x_starA ?_
  | with_reducible refine x_plusI ?_
  | with_reducible refine x_minus ?_
  | with_reducible refine x_lt ?_
  | with_reducible refine x_le ?_
  | with_reducible refine x_gt ?_
  | with_reducible refine x_ge ?_
  | with_reducible refine x_eqI ?_
  | with_reducible refine x_neI ?_
  | with_reducible refine x_eqS ?_
  | with_reducible refine x_eqB ?_
  | with_reducible refine x_neB ?_
  | with_reducible refine x_int ?_
  | with_reducible refine x_intB ?_
  | with_reducible refine x_max2 ?_
  | with_reducible refine x_min2 ?_
  | with_reducible refine x_max3 ?_
  | with_reducible refine x_abs ?_
  | with_reducible refine x_neg ?_
  | with_reducible refine x_isi_ii ?_
  | with_reducible refine x_isi_ib ?_
  | with_reducible refine x_T ?_
  | with_reducible refine x_nT ?_
  | with_reducible refine x_nF ?_
  | with_reducible refine x_F ?_)
local macro_rules | `(tactic| walk_at "x") => `(tactic| repeat walk_at "x1")

local macro_rules | `(tactic| walk_at "q1") => `(tactic| first
  | walk_at "x1"
  | with_reducible refine x_sl ?_
  | with_reducible refine x_cmeth ?_
  | with_reducible refine x_noPart ?_
  | with_reducible refine x_part ?_
  | with_reducible refine x_partI ?_)
local macro_rules | `(tactic| walk_at "q") => `(tactic| repeat walk_at "q1")

local macro_rules | `(tactic| walk_at "q1") => `(tactic| with_reducible refine TxX.x_m1 ?_)
def wrV : Option Nat → V
  | none => .non
  | some k => .int (k : Int)
section
variable {P : Program} {w : World} {K : PySem.W.Frag} {mg : Str → Option Value} {base : Heap}
def spCk (K : PySem.W.Frag) : Sp := fun vs H Q E => ∃ (o : Addr) (c x : Int) (es : List En), vs = [.ref o, .int x] ∧ (∃ dx L, H o = some (.ins (ga K "Daybook") dx (dbF c L))) ∧ (0 ≤ x → x ≤ c → DbAt K H o c es ∧ es.length ≤ 200 ∧ ∀ H', Same H H' → Q (wrV (wrongOf c es x)) H') ∧ (¬ (0 ≤ x ∧ x ≤ c) → ∀ H', Same H H' → E (.ref (ga K "InvalidNumber")) none H')
theorem okx_Daybook_check (W : Wd K mg) : FnR P w K mg base (CX P w) 4 (ma K (ga K "Daybook") "check") (spCk K) := by
  refine (def_ok W.F_Daybook_check sc_Daybook_check (fun _ _ _ _ _ _ us hl => match us, hl with | [_, _], _ => rfl) (fun vs H Q E ⟨o, c, x, es, e, _⟩ => by rw [e]; rfl) fun cdv A outer s H vs Q E hr ⟨o, c, x, es, e, hoo, kIn, kE⟩ => ?_).2
  subst e
  obtain ⟨dx0, L0, e0⟩ := hoo
  refine ⟨_, (pss_cons (ps_expr (pe_callR (okx_validate_number W) (hr.mono (by decide)) W.g_validate_number W.k_validate_number (passes_call (takes_of rfl rfl rfl rfl) (fun _ _ _ _ h => h)) rfl (pa_cons (pv 1) (pa_cons pe_int (pa_cons (pe_fldK K (pv 0)) pa_nil))))) (pss_cons (ps_for (passes_of rfl) rfl (pi_enumK K W.f_enumerate (pa_cons (pe_methR W.c_Daybook W.m_Daybook_numbers (ok_Daybook_numbers W) (hr.mono (by decide)) pass0 (pv 0) (pa_cons (pv 1) pa_nil)) pa_nil)) (pg_tupK (n := 2) K rfl (pgs_cons (pg_name (i := 2) sc_Daybook_check.nd rfl (Or.inl rfl)) (pgs_cons (pg_name (i := 3) sc_Daybook_check.nd rfl (Or.inl rfl)) pgs_nil))) (pss_cons (ps_set (i := 4) sc_Daybook_check.nd rfl (Or.inl rfl) (pe_ix (ix_K K) (pe_fldK K (pv 0)) (pv 2) (fun _ _ => rfl))) (pss_one (ps_if (PW.pt (pw_and (pt_cmp (pc_notN (pv 4))) (pw_and (pt_cmp (pc_notN (pe_ix (ix_K K) (pv 4) pe_int (fun _ _ => rfl)))) (pw_and1 (pt_cmpR (op_neK K hr.units) (pe_ix (ix_K K) (pv 4) pe_int (fun _ _ => rfl)) (pv 3) (nomark _)))))) (pss_one (ps_ret (pe_op op_plus (pv 2) pe_int))) pss_nil)))) (pss_one (ps_ret pe_non)))), ?_⟩
  walk_at "q"
  refine x_fldAt e0 W.c_Daybook W.n_Daybook_chairs rfl ?_
  walk_at "q"
  refine ⟨x, 0, c, rfl, fun hx => ?_, fun hx => kE hx _ (Same.refl _)⟩
  obtain ⟨hd, hl, k0⟩ := kIn hx.1 hx.2
  have k := fun (_ : 0 ≤ x) (_ : x ≤ c) => k0
  obtain ⟨dx, L, ps, e1, e2, e3⟩ := id hd.ex
  have hpl : ps.length = es.length := pr_len e3
  walk_at "q"
  refine ⟨o, dx, _, rfl, e1, rfl, ?_⟩
  walk_at "q"
  refine ⟨o, c, x, es, rfl, hd, hl, fun NL H1 hNL s1 f1 => ?_⟩
  have hnl : ((numsF c x false es).map optV).length = es.length := by rw [List.length_map, numsF_len]
  walk_at "q"
  refine x_iEAt (SqL.of f1) (x_loop walk_enum (fun i σ Hi => Same H1 Hi ∧ (∃ w2 w3 w4, σ = [some (.ref o), some (.int x), w2, w3, w4]) ∧ wrongOf c es x = firstW (1 + i) (es.drop i) ((numsF c x false es).drop i)) ⟨Same.refl _, ⟨_, _, _, rfl⟩, rfl⟩ (fun i σ Hi _ ⟨si, _⟩ => SqL.of (si _ _ f1)) ?_ ?_)
  · rintro i y σ Hi' Hi hi ⟨si, ⟨w2, w3, w4, rfl⟩, hf⟩ ⟨T, v1, v2, rfl, hTn, rfl, q1, ey⟩
    cases q1
    rw [hnl] at hi
    replace ey : ((numsF c x false es).map optV)[i]? = some v2 := ey
    rw [List.getElem?_map] at ey
    obtain ⟨nu, hnu, rfl⟩ := Option.map_eq_some_iff.mp ey
    obtain ⟨en, hen⟩ : ∃ en, es[i]? = some en := ⟨_, List.getElem?_eq_getElem hi⟩
    obtain ⟨v, hv, hea⟩ := pr_atR e3 hen
    have hd1 : es.drop i = en :: es.drop (i + 1) := by
      obtain ⟨h1, h2⟩ := List.getElem?_eq_some_iff.mp hen
      rw [List.drop_eq_getElem_cons h1, h2]
    have hd2 : (numsF c x false es).drop i = nu :: (numsF c x false es).drop (i + 1) := by
      obtain ⟨h1, h2⟩ := List.getElem?_eq_some_iff.mp hnu
      rw [List.drop_eq_getElem_cons h1, h2]
    rw [hd1, hd2] at hf
    replace hf : wrongOf c es x = if isWrong en nu = true then some (1 + i) else firstW (1 + i + 1) (es.drop (i + 1)) ((numsF c x false es).drop (i + 1)) := hf
    have sT : Same Hi' (upd Hi' T (.tup [.int (i : Nat), optV nu])) := Same.new hTn
    refine x_gTup upd_same rfl ?_
    generalize hNT : upd Hi' T _ = Hj at sT
    have s0j := s1.trans (si.trans sT)
    have next : isWrong en nu = false → Same H1 Hj ∧ wrongOf c es x = firstW (1 + (i + 1)) (es.drop (i + 1)) ((numsF c x false es).drop (i + 1)) := fun h => ⟨si.trans sT, by rw [hf, if_neg (by rw [h]; exact Bool.false_ne_true), Nat.add_assoc]⟩
    walk_at "q"
    refine x_fldAt (s0j _ _ e1) W.c_Daybook W.n_Daybook_entries rfl ?_
    walk_at "q"
    refine x_ixL (SqL.of (s0j _ _ e2)) (atI_nat hv) ?_
    walk_at "q"
    rcases hea with ⟨rfl, rfl⟩ | ⟨b, nd, num, U, rfl, rfl, hU⟩
    · rw [decide_eq_true rfl]
      walk_at "q"
      obtain ⟨n1, n2⟩ := next rfl
      exact ⟨n1, ⟨_, _, _, rfl⟩, n2⟩
    rw [decide_eq_false (fun z => nomatch z)]
    have hUj := s0j _ _ hU
    walk_at "q"
    refine x_ixT (SqT.of hUj) (i := ((2 : Nat) : Int)) (v := optV num) (atI_nat rfl) ?_
    walk_at "q"
    cases num with
    | none =>
      rw [show optV none = V.non from rfl, decide_eq_true rfl]
      walk_at "q"
      obtain ⟨n1, n2⟩ := next rfl
      exact ⟨n1, ⟨_, _, _, rfl⟩, n2⟩
    | some n =>
      rw [show optV (some n) = V.int n from rfl, decide_eq_false (fun z => nomatch z)]
      obtain ⟨m, hm⟩ := numsF_row c x false hen
      rw [hnu] at hm
      cases hm
      walk_at "q"
      refine x_ixT (SqT.of hUj) (i := ((2 : Nat) : Int)) (v := .int n) (atI_nat rfl) ?_
      rw [show optV (some m) = V.int m from rfl]
      walk_at "q"
      refine x_ifnd (fun hne => ?_) fun heq => ?_
      · rw [if_pos (show isWrong (.row b nd (some n)) (some m) = true from decide_eq_true fun z => hne (Option.some.inj z))] at hf
        walk_at "q"
        have := k hx.1 hx.2 Hj s0j
        rw [hf] at this
        rw [show (i : Int) + 1 = ((1 + i : Nat) : Int) by omega]
        exact this
      · walk_at "q"
        obtain ⟨n1, n2⟩ := next (show decide (some n ≠ some m) = false from decide_eq_false fun z => z (by rw [heq]))
        exact ⟨n1, ⟨_, _, _, rfl⟩, n2⟩
  · rintro σ Hi ⟨si, ⟨w2, w3, w4, rfl⟩, hf⟩
    rw [hnl, List.drop_eq_nil_of_le (Nat.le_refl _)] at hf
    walk_at "q"
    have := k hx.1 hx.2 Hi (s1.trans si)
    rw [hf] at this
    exact this
/-! ### filled -/
def spFi (K : PySem.W.Frag) : Sp := fun vs H Q E => ∃ (o : Addr) (c x : Int) (es : List En), vs = [.ref o, .int x] ∧ (∃ dx L, H o = some (.ins (ga K "Daybook") dx (dbF c L))) ∧ (0 ≤ x → x ≤ c → DbAt K H o c es ∧ es.length ≤ 7 ∧ 0 ≤ c ∧ c ≤ 100 ∧ (∀ e ∈ es, enOk c e) ∧ ∀ H', Same H H' → Q (.str (dbText c (fillL c es x))) H') ∧ (¬ (0 ≤ x ∧ x ≤ c) → ∀ H', Same H H' → E (.ref (ga K "InvalidNumber")) none H')
theorem okx_Daybook_filled (W : Wd K mg) : FnR P w K mg base (CX P w) 4 (ma K (ga K "Daybook") "filled") (spFi K) := by
  refine (def_ok W.F_Daybook_filled sc_Daybook_filled (fun _ _ _ _ _ _ us hl => match us, hl with | [_, _], _ => rfl) (fun vs H Q E ⟨o, c, x, es, e, _⟩ => by rw [e]; rfl) fun cdv A outer s H vs Q E hr ⟨o, c, x, es, e, hoo, kIn, kE⟩ => ?_).2
  subst e
  obtain ⟨dx0, L0, e0⟩ := hoo
  refine ⟨_, (pss_cons (ps_expr (pe_callR (okx_validate_number W) (hr.mono (by decide)) W.g_validate_number W.k_validate_number (passes_call (takes_of rfl rfl rfl rfl) (fun _ _ _ _ h => h)) rfl (pa_cons (pv 1) (pa_cons pe_int (pa_cons (pe_fldK K (pv 0)) pa_nil))))) (pss_cons (ps_set (i := 2) sc_Daybook_filled.nd rfl (Or.inl rfl) (pe_lst (pa_cons (TxX.pe_joinK K pe_str (pe_lst (pa_cons pe_str (pa_cons (pe_callTy TxX.c_strI (by rfl) W.f_str (by decide +kernel) (pa_cons (pe_fldK K (pv 0)) pa_nil)) pa_nil)))) pa_nil))) (pss_cons (ps_for (passes_of rfl) rfl (pi_enumK K W.f_enumerate (pa_cons (pe_methR W.c_Daybook W.m_Daybook_numbers (ok_Daybook_numbers W) (hr.mono (by decide)) pass0 (pv 0) (pa_cons (pv 1) pa_nil)) pa_nil)) (pg_tupK (n := 2) K rfl (pgs_cons (pg_name (i := 3) sc_Daybook_filled.nd rfl (Or.inl rfl)) (pgs_cons (pg_name (i := 4) sc_Daybook_filled.nd rfl (Or.inl rfl)) pgs_nil))) (pss_cons (ps_set (i := 5) sc_Daybook_filled.nd rfl (Or.inl rfl) (pe_ix (ix_K K) (pe_fldK K (pv 0)) (pv 3) (fun _ _ => rfl))) (pss_one (ps_if (pt_cmp (pc_isN (pv 5))) (pss_one (ps_expr (pe_bmK K PySem.F.plainAttrs_list PySem.F.slot_list_append PySem.F.type_list_append mt_append (pv 2) (pa_cons pe_str pa_nil)))) (pss_one (ps_if (pt_cmp (pc_isN (pe_ix (ix_K K) (pv 5) pe_int (fun _ _ => rfl)))) (pss_one (ps_expr (pe_bmK K PySem.F.plainAttrs_list PySem.F.slot_list_append PySem.F.type_list_append mt_append (pv 2) (pa_cons (TxX.pe_joinK K pe_str (pe_lst (pa_cons (pe_ix (ix_K K) (pv 5) pe_int (fun _ _ => rfl)) (pa_cons pe_str (pa_cons (pe_callTy TxX.c_strI (by rfl) W.f_str (by decide +kernel) (pa_cons (pv 4) pa_nil)) pa_nil))))) pa_nil)))) (pss_one (ps_expr (pe_bmK K PySem.F.plainAttrs_list PySem.F.slot_list_append PySem.F.type_list_append mt_append (pv 2) (pa_cons (TxX.pe_joinK K pe_str (pe_lst (pa_cons (pe_ix (ix_K K) (pv 5) pe_int (fun _ _ => rfl)) (pa_cons (pe_callTy TxX.c_strI (by rfl) W.f_str (by decide +kernel) (pa_cons (pe_ix (ix_K K) (pv 5) pe_int (fun _ _ => rfl)) pa_nil)) (pa_cons pe_str (pa_cons (pe_callTy TxX.c_strI (by rfl) W.f_str (by decide +kernel) (pa_cons (pv 4) pa_nil)) pa_nil)))))) pa_nil)))))))))) (pss_one (ps_ret (TxX.pe_joinK K pe_str (pv 2))))))), ?_⟩
  walk_at "q"
  refine x_fldAt e0 W.c_Daybook W.n_Daybook_chairs rfl ?_
  walk_at "q"
  refine ⟨x, 0, c, rfl, fun hx => ?_, fun hx => kE hx _ (Same.refl _)⟩
  obtain ⟨hd, hl, c0, c1, heo, k0⟩ := kIn hx.1 hx.2
  have k := fun (_ : 0 ≤ x) (_ : x ≤ c) => k0
  obtain ⟨dx, L, ps, e1, e2, e3⟩ := id hd.ex
  have hpl : ps.length = es.length := pr_len e3
  have hcl := nt_len c0 (show c < 10 ^ 20 by omega)
  walk_at "q"
  refine ⟨⟨_, rfl⟩, ?_⟩
  walk_at "q"
  refine x_fldAt e1 W.c_Daybook W.n_Daybook_chairs rfl ?_
  walk_at "q"
  refine x_strI (by omega) ?_
  walk_at "q"
  refine ⟨sz rfl, fun u1 hu1 => ?_⟩; generalize hN1 : upd _ u1 _ = H1; obtain ⟨s1, f1⟩ := nws hN1 hu1
  refine x_joinL (ys := [("chairs" : Str), nt c]) (SqL.of f1) (by show 6 + ((nt c).length + 0) + 2 * 1 ≤ 16777216; omega) ?_
  rw [← head_join]
  walk_at "q"
  refine ⟨sz rfl, fun F hF => ?_⟩; generalize hN2 : upd _ F _ = H2; obtain ⟨s2, f2⟩ := nws hN2 hF
  have s02 := s1.trans s2
  walk_at "q"
  refine ⟨o, dx, _, rfl, s02 _ _ e1, rfl, ?_⟩
  walk_at "q"
  refine ⟨o, c, x, es, rfl, hd.mono s02, by omega, fun NL H3 hNL s3 f3 => ?_⟩
  have hnl : ((numsF c x false es).map optV).length = es.length := by rw [List.length_map, numsF_len]
  have s03 := s02.trans s3
  have hF0 : H F = none := s1.free hF
  walk_at "q"
  have nFN : NL ≠ F := fun z => by rw [z, f2] at hNL; cases hNL
  refine x_iEAt (SqL.of f3) (x_loop walk_enum (fun i σ Hi => Same H Hi ∧ Hi NL = some (.lst ((numsF c x false es).map optV)) ∧ (∃ w3 w4 w5, σ = [some (.ref o), some (.int x), some (.ref F), w3, w4, w5]) ∧ Hi F = some (.lst ((headS c :: ((fillL c es x).take i).map enLine).map V.str))) ⟨s03, f3, ⟨_, _, _, rfl⟩, s3 _ _ f2⟩ (fun i σ Hi _ ⟨_, si, _⟩ => SqL.of si) ?_ ?_)
  · rintro i y σ Hi' Hi hi ⟨si, hNi, ⟨w3, w4, w5, rfl⟩, hFi⟩ ⟨T, v1, v2, rfl, hTn, rfl, q1, ey⟩
    cases q1
    rw [hnl] at hi
    replace ey : ((numsF c x false es).map optV)[i]? = some v2 := ey
    rw [List.getElem?_map] at ey
    obtain ⟨nu, hnu, rfl⟩ := Option.map_eq_some_iff.mp ey
    obtain ⟨en, hen⟩ : ∃ en, es[i]? = some en := ⟨_, List.getElem?_eq_getElem hi⟩
    obtain ⟨v, hv, hea⟩ := pr_atR e3 hen
    have hfa := fill_at hen hnu
    have hok := heo en (List.mem_of_getElem? hen)
    have sT : Same Hi' (upd Hi' T (.tup [.int (i : Nat), optV nu])) := Same.new hTn
    refine x_gTup upd_same rfl ?_
    generalize hNT : upd Hi' T _ = Hj at sT
    have s0j := si.trans sT
    have put : ∀ {Hx : Hp} {z : Str}, Same Hj Hx → z = enLine (fillE en nu) → Hx F = some (.lst ((headS c :: ((fillL c es x).take i).map enLine).map V.str)) ∧ ((headS c :: ((fillL c es x).take i).map enLine).map V.str).length < sizeLine ∧ Same H (upd Hx F (.lst ((headS c :: ((fillL c es x).take i).map enLine).map V.str ++ [.str z]))) ∧ (upd Hx F (.lst ((headS c :: ((fillL c es x).take i).map enLine).map V.str ++ [.str z]))) NL = some (.lst ((numsF c x false es).map optV)) ∧
        (upd Hx F (.lst ((headS c :: ((fillL c es x).take i).map enLine).map V.str ++ [.str z]))) F = some (.lst ((headS c :: ((fillL c es x).take (i + 1)).map enLine).map V.str)) := fun {Hx z} sx hz =>
      ⟨sx _ _ (sT _ _ hFi), sz5' (by rw [List.length_map, List.length_cons, List.length_map, List.length_take, fill_len]; omega), Same.mut (s0j.trans sx) hF0, by rw [upd_ne nFN]; exact sx _ _ (sT _ _ hNi), by rw [upd_same, List.take_add_one, hfa, hz, List.map_append, List.map_cons, List.map_cons, List.map_append]; rfl⟩
    walk_at "q"
    refine x_fldAt (s0j _ _ e1) W.c_Daybook W.n_Daybook_entries rfl ?_
    walk_at "q"
    refine x_ixL (SqL.of (s0j _ _ e2)) (atI_nat hv) ?_
    walk_at "q"
    rcases hea with ⟨rfl, rfl⟩ | ⟨b, nd, num, U, rfl, rfl, hU⟩
    · rw [decide_eq_true rfl]
      obtain ⟨g1, g2, g3, g4, g5⟩ := put (Same.refl _) (show ("turn" : Str) = enLine (fillE .tn nu) from line_tn.symm)
      walk_at "q"
      refine ⟨ty_lst g1, ?_⟩
      walk_at "q"
      refine x_app g1 g2 ?_
      walk_at "q"
      exact ⟨g3, g4, ⟨_, _, _, rfl⟩, g5⟩
    rw [decide_eq_false (fun z => nomatch z)]
    have hUj := s0j _ _ hU
    obtain ⟨m, hm⟩ := numsF_row c x false hen
    rw [hnu] at hm
    cases hm
    have hmr := nums_rng hx heo hnu
    have hml := nt_len hmr.1 (show m < 10 ^ 20 by omega)
    have hbl := (room_ok b).1
    walk_at "q"
    refine x_ixT (SqT.of hUj) (i := ((1 : Nat) : Int)) (v := optV nd) (atI_nat rfl) ?_
    walk_at "q"
    cases nd with
    | none =>
      rw [show optV none = V.non from rfl, decide_eq_true rfl]
      walk_at "q"
      refine ⟨ty_lst (sT _ _ hFi), ?_⟩
      walk_at "q"
      refine ⟨⟨_, rfl⟩, ?_⟩
      walk_at "q"
      refine x_ixT (SqT.of hUj) (i := ((0 : Nat) : Int)) (v := .str (roomS b)) (atI_nat rfl) ?_
      rw [show optV (some m) = V.int m from rfl]
      walk_at "q"
      refine x_strI (by omega) ?_
      walk_at "q"
      refine ⟨sz rfl, fun u4 hu4 => ?_⟩; generalize hN4 : upd _ u4 _ = H4; obtain ⟨s4, f4⟩ := nws hN4 hu4
      refine x_joinL (ys := [roomS b, ("has" : Str), nt m]) (SqL.of f4) (by show (roomS b).length + (3 + ((nt m).length + 0)) + 3 * 1 ≤ 16777216; omega) ?_
      obtain ⟨g1, g2, g3, g4, g5⟩ := put s4 (show Txt.join " " [roomS b, ("has" : Str), nt m] = enLine (fillE (.row b none num) (some m)) from rfl)
      walk_at "q"
      refine x_app g1 g2 ?_
      walk_at "q"
      exact ⟨g3, g4, ⟨_, _, _, rfl⟩, g5⟩
    | some n =>
      rw [show optV (some n) = V.int n from rfl, decide_eq_false (fun z => nomatch z)]
      have hnr := hok.1 n rfl
      have hnl2 := nt_len hnr.1 (show n < 10 ^ 20 by omega)
      walk_at "q"
      refine ⟨ty_lst (sT _ _ hFi), ?_⟩
      walk_at "q"
      refine ⟨⟨_, rfl⟩, ?_⟩
      walk_at "q"
      refine x_ixT (SqT.of hUj) (i := ((0 : Nat) : Int)) (v := .str (roomS b)) (atI_nat rfl) ?_
      walk_at "q"
      refine x_ixT (SqT.of hUj) (i := ((1 : Nat) : Int)) (v := .int n) (atI_nat rfl) ?_
      walk_at "q"
      refine x_strI (by omega) ?_
      rw [show optV (some m) = V.int m from rfl]
      walk_at "q"
      refine x_strI (by omega) ?_
      walk_at "q"
      refine ⟨sz rfl, fun u4 hu4 => ?_⟩; generalize hN4 : upd _ u4 _ = H4; obtain ⟨s4, f4⟩ := nws hN4 hu4
      refine x_joinL (ys := [roomS b, nt n, ("carried" : Str), nt m]) (SqL.of f4) (by show (roomS b).length + ((nt n).length + (7 + ((nt m).length + 0))) + 4 * 1 ≤ 16777216; omega) ?_
      obtain ⟨g1, g2, g3, g4, g5⟩ := put s4 (show Txt.join " " [roomS b, nt n, ("carried" : Str), nt m] = enLine (fillE (.row b (some n) num) (some m)) from rfl)
      walk_at "q"
      refine x_app g1 g2 ?_
      walk_at "q"
      exact ⟨g3, g4, ⟨_, _, _, rfl⟩, g5⟩
  · rintro σ Hi ⟨si, hNi, ⟨w3, w4, w5, rfl⟩, hFi⟩
    rw [hnl, List.take_of_length_le (by rw [fill_len]; exact Nat.le_refl _)] at hFi
    have G := rows_Gd c0 c1 (es := fillL c es x) (by rw [fill_len]; exact hl) (fill_ok hx heo)
    walk_at "q"
    refine ⟨⟨_, rfl⟩, ?_⟩
    walk_at "q"
    refine x_joinG nl_tl (SqL.of hFi) G (by decide) ?_
    exact k hx.1 hx.2 Hi si
theorem ok_Daybook_check (W : Wd K mg) : FnR P w K mg base CX0 4 (ma K (ga K "Daybook") "check") (fun vs H Q _ => spCk K vs H Q fun _ _ _ => False) := fn_calm (okx_Daybook_check W)
theorem ok_Daybook_filled (W : Wd K mg) : FnR P w K mg base CX0 4 (ma K (ga K "Daybook") "filled") (fun vs H Q _ => spFi K vs H Q fun _ _ _ => False) := fn_calm (okx_Daybook_filled W)
theorem ok_Daybook_init (W : Wd K mg) : FnR P w K mg base CX0 8 (ma K (ga K "Daybook") "__init__") (fun vs H Q _ => spDI K vs H Q fun _ _ _ => False) := fn_calm (okx_Daybook_init W)
end
end K46

set_option Elab.async false
set_option linter.all false
set_option autoImplicit false
set_option maxRecDepth 100000
set_option pp.maxSteps 500
set_option maxHeartbeats 4000000
namespace K46
open PySem PySem.Spec PyProof.Rows L2 He ChH Ch ChM TxX StrX NumX LsX DbX
local macro_rules | `(tactic| walk_at "x1") => `(tactic| first
  | ((with_reducible apply x_var); exact rfl)
  | with_reducible refine x_c ?_
  | with_reducible refine x_op ?_
  | with_reducible refine x_seq ?_
  | with_reducible refine x_asg ?_
  | with_reducible refine x_gname ?_
  | with_reducible refine x_cons ?_
  | with_reducible refine x_nil ?_
  | with_reducible refine x_fld ?_
  | with_reducible refine x_ret ?_
  | with_reducible refine x_ifS ?_
  | with_reducible refine x_test ?_
  | with_reducible refine x_ex ?_
  | with_reducible refine x_call ?_
  | with_reducible refine x_mk ?_
  | with_reducible refine x_meth ?_
  | with_reducible refine x_prop ?_
  | with_reducible refine x_cb ?_
  | with_reducible refine x_tup ?_
  | with_reducible refine x_lst ?_
  | with_reducible refine x_drop ?_
  | with_reducible refine x_for ?_
  | with_reducible refine x_iL ?_
  | with_reducible refine x_iT ?_
  | with_reducible refine x_iE ?_
  | with_reducible refine x_iU ?_
  | with_reducible refine x_iR1 ?_
  | with_reducible refine x_iR2 ?_
  | with_reducible refine x_gcons ?_
  | with_reducible refine x_gnil ?_
  | with_reducible refine x_par ?_
  | with_reducible refine x_lstRg ?_
  | with_reducible refine x_rg1 ?_
  | with_reducible refine x_rg1At ?_
  | with_reducible refine x_par3 ?_
  | with_reducible refine x_bm ?_
  | with_reducible refine x_bm0 ?_
  | with_reducible refine x_gSub ?_
  | with_reducible refine x_lc ?_
  | with_reducible refine x_yes ?_
  | with_reducible refine x_setf ?_
  | with_reducible refine x_next ?_
  | with_reducible refine x_B ?_
  | with_reducible refine x_and ?_
  | with_reducible refine x_or ?_
  | with_reducible refine x_not ?_
  | with_reducible refine x_andV ?_
  | with_reducible refine x_orV ?_
  | with_reducible refine x_notV ?_
  | with_reducible refine x_ifE ?_
  | with_reducible refine x_chain ?_
  | with_reducible refine x_chain3 ?_
  | with_reducible refine x_un ?_
  | with_reducible refine x_isNe ?_
  | with_reducible refine x_notNe ?_
  | with_reducible refine x_starA ?_
  | with_reducible refine x_plusI ?_
  | with_reducible refine x_minus ?_
  | with_reducible refine x_lt ?_
  | with_reducible refine x_le ?_
  | with_reducible refine x_gt ?_
  | with_reducible refine x_ge ?_
  | with_reducible refine x_eqI ?_
  | with_reducible refine x_neI ?_
  | with_reducible refine x_eqS ?_
  | with_reducible refine x_eqB ?_
  | with_reducible refine x_neB ?_
  | with_reducible refine x_int ?_
  | with_reducible refine x_intB ?_
  | with_reducible refine x_max2 ?_
  | with_reducible refine x_min2 ?_
  | with_reducible refine x_max3 ?_
  | with_reducible refine x_abs ?_
  | with_reducible refine x_neg ?_
  | with_reducible refine x_isi_ii ?_
  | with_reducible refine x_isi_ib ?_
  | with_reducible refine x_T ?_
  | with_reducible refine x_nT ?_
  | with_reducible refine x_nF ?_
  | with_reducible refine x_F ?_)
local macro_rules | `(tactic| walk_at "x") => `(tactic| repeat walk_at "x1")

local macro_rules | `(tactic| walk_at "q1") => `(tactic| first
  | walk_at "x1"
  | with_reducible refine x_sl ?_
  | with_reducible refine x_cmeth ?_
  | with_reducible refine x_noPart ?_
  | with_reducible refine x_part ?_
  | with_reducible refine x_partI ?_)
local macro_rules | `(tactic| walk_at "q") => `(tactic| repeat walk_at "q1")

local macro_rules | `(tactic| walk_at "q1") => `(tactic| with_reducible refine TxX.x_m1 ?_)
theorem nt_inj {a b : Int} (ha : 0 ≤ a) (hb : 0 ≤ b) (ha1 : a < 10 ^ 20) (hb1 : b < 10 ^ 20) : nt a = nt b ↔ a = b := ⟨fun e => by
  have h1 := nt_read ha ha1
  rw [e, nt_read hb hb1] at h1
  exact (Option.some.inj h1).symm, fun e => by rw [e]⟩
theorem nt_neq {a : Int} (ha : 0 ≤ a) {z : Str} {d : Nat} (hd : d ∈ TL.tl z) (h : d < 48 ∨ 57 < d) (h45 : d ≠ 45) : nt a ≠ z := fun e => by
  have := nt_chars (n := a) (by omega) d (by rw [e]; exact hd)
  omega
theorem wr_in {b : Bool} {nd nu : Option Int} {m c : Int} (hc : c ≤ 100) (hm : 0 ≤ m ∧ m ≤ c) (hn : ∀ k, nu = some k → 0 ≤ k ∧ k ≤ c + 1) : (!inV (.str (numW nu)) [.str "?", .str (nt m)]) = isWrong (.row b nd nu) (some m) := by
  unfold inV
  show (!(("?" : Str) == numW nu || (nt m == numW nu || false))) = _
  rw [Bool.or_false]
  cases nu with
  | none => rw [show (("?" : Str) == numW none) = true from beq_self_eq_true _]; rfl
  | some k =>
    obtain ⟨h0, h1⟩ := hn k rfl
    have hq : nt k ≠ "?" := nt_neq h0 (z := "?") (d := 63) (by decide +kernel) (by decide) (by decide)
    show (!(("?" : Str) == nt k || nt m == nt k)) = decide (some k ≠ some m)
    rw [beq_false_of_ne (fun z => hq z.symm), Bool.false_or]
    by_cases e : k = m
    · rw [e, beq_self_eq_true, decide_eq_false (fun z => z rfl)]; rfl
    · rw [beq_false_of_ne (fun z => e ((nt_inj hm.1 h0 (by omega) (by omega)).mp z).symm), decide_eq_true (p := some k ≠ some m) (fun z => e (Option.some.inj z))]; rfl
theorem words_Gd {c : Int} (hc : c ≤ 100) {e : En} (h : enOk c e) : Gd (enWords e) 84 := by
  cases e with
  | tn => exact Gd.one (by decide) (by decide +kernel)
  | row b nd nu =>
    have h1 := room_ok b
    have h2 := numW_ok hc h.2
    cases nd with
    | none => exact (((Gd.one (n := 21) (by omega) h1.2).app (Gd.one (n := 21) (a := "has") (by decide) (by decide +kernel))).app (Gd.one (n := 21) (by omega) h2.2)).le (by decide)
    | some n =>
      have h3 := h.1 n rfl
      have h4 := nt_len h3.1 (show n < 10 ^ 20 by omega)
      exact (((Gd.one (n := 21) (by omega) h1.2).app (Gd.one (n := 21) (by omega) (nt_ok h3.1))).app ((Gd.one (n := 21) (a := "carried") (by decide) (by decide +kernel)).app (Gd.one (n := 21) (by omega) h2.2))).le (by decide)
theorem x_cutN {t : TS} {De : Ends} {σ : L2.St} {H : Hp} (R : L2.St → Hp → Prop) (h1 : ∀ nx : L2.St → Hp → Prop, (∀ σ' H', R σ' H' → nx σ' H') → t { De with nx := nx } σ H) (h2 : ∀ σ' H', R σ' H' → De.nx σ' H') : t De σ H := h1 De.nx h2
theorem x_cutS {t u : TS} {De : Ends} {σ : L2.St} {H : Hp} (R : L2.St → Hp → Prop) (h1 : ∀ nx : L2.St → Hp → Prop, (∀ σ' H', R σ' H' → nx σ' H') → t { De with nx := nx } σ H) (h2 : ∀ σ' H', R σ' H' → u De σ' H') : tSeq t u De σ H := h1 (u De) h2
section
variable {P : Program} {w : World} {K : PySem.W.Frag} {mg : Str → Option Value} {base : Heap}
def spRg : Sp := fun vs H Q _ => ∃ (R : Addr) (c x : Int) (es : List En), vs = [.ref R, .int c, .int x] ∧ H R = some (.lst ((headS c :: es.map enLine).map V.str)) ∧ es.length ≤ 7 ∧ 0 ≤ c ∧ c ≤ 100 ∧ 0 ≤ x ∧ x ≤ c ∧ (∀ e ∈ es, enOk c e) ∧
  ∀ (T F : Addr) (H' : Hp), H T = none → H F = none → Same H H' → H' T = some (.tup [.ref F, wrV (wrongOf c es x)]) → H' F = some (.lst ((headS c :: (fillL c es x).map enLine).map V.str)) → Q (.ref T) H'
theorem ok__law_right (W : Wd K mg) : FnR P w K mg base CX0 2 (ga K "_law_right") spRg := by
  refine (def_ok W.F__law_right sc__law_right (fun _ _ _ _ _ _ us hl => match us, hl with | [_, _, _], _ => rfl) (fun vs H Q E ⟨R, c, x, es, e, _⟩ => by rw [e]; rfl) fun cdv A outer s H vs Q E hr ⟨R, c, x, es, e, hR, hl, c0, c1, x0, x1, heo, k⟩ => ?_).2
  subst e
  refine ⟨_, PSs.nox (pss_cons (ps_asg (pe_tup (pa_cons (pv 2) (pa_cons pe_bl (pa_cons (pe_slice (sl_listK K) (pv 0) po_none (po_some pe_int)) (pa_cons pe_non pa_nil))))) (pg_tupK (n := 4) K rfl (pgs_cons (pg_name (i := 3) sc__law_right.nd rfl (Or.inl rfl)) (pgs_cons (pg_name (i := 4) sc__law_right.nd rfl (Or.inl rfl)) (pgs_cons (pg_name (i := 5) sc__law_right.nd rfl (Or.inl rfl)) (pgs_cons (pg_name (i := 6) sc__law_right.nd rfl (Or.inl rfl)) pgs_nil)))))) (pss_cons (ps_for PassesOwn.never rfl (pi_range2 (by rfl) W.f_range (pa_cons pe_int (pa_cons (pe_callB (c_lenK K) (by rfl) W.f_len (by decide +kernel) (pa_cons (pv 0) pa_nil)) pa_nil))) (pg_name (i := 7) sc__law_right.nd rfl (Or.inl rfl)) (pss_cons (ps_set (i := 8) sc__law_right.nd rfl (Or.inl rfl) (StrX.pe_splitK (pe_ix (ix_K K) (pv 0) (pv 7) (fun _ _ => rfl)) pe_str)) (pss_cons (ps_if (pt_cmpR (op_eqK K hr.units) (pe_ix (ix_K K) (pv 8) pe_int (fun _ _ => rfl)) pe_str (nomark _)) (pss_one (ps_set (i := 4) sc__law_right.nd rfl (Or.inl rfl) (pe_not (pv 4)))) (pss_one (ps_if (pt_cmpR (op_eqK K hr.units) (pe_ix (ix_K K) (pv 8) pe_int (fun _ _ => rfl)) pe_str (nomark _)) (pss_one (ps_set (i := 9) sc__law_right.nd rfl (Or.inl rfl) (pe_ifExp (pt_cmpR (op_neK K hr.units) (pe_cmpR (op_eqK K hr.units) (pe_ix (ix_K K) (pv 8) pe_int (fun _ _ => rfl)) pe_str (nomark _)) (pv 4) (nomark _)) (pv 3) (pe_op op_minus (pv 1) (pv 3))))) (pss_one (ps_asg (pe_callR (ok__law_step W) (hr.mono (by decide)) W.g__law_step W.k__law_step pass0 rfl (pa_cons (pv 1) (pa_cons (pv 3) (pa_cons (pv 4) (pa_cons (pe_tup (pa_cons (pe_ix (ix_K K) (pv 8) pe_int (fun _ _ => rfl)) (pa_cons (pe_callTy TxX.c_intS (by rfl) W.f_int (by decide +kernel) (pa_cons (pe_ix (ix_K K) (pv 8) pe_int (fun _ _ => rfl)) pa_nil)) pa_nil))) pa_nil))))) (pg_tupK (n := 3) K rfl (pgs_cons (pg_name (i := 3) sc__law_right.nd rfl (Or.inl rfl)) (pgs_cons (pg_name (i := 4) sc__law_right.nd rfl (Or.inl rfl)) (pgs_cons (pg_name (i := 9) sc__law_right.nd rfl (Or.inl rfl)) pgs_nil))))))))) (pss_cons (ps_if (pt_cmpR (op_neK K hr.units) (pe_ix (ix_K K) (pv 8) pe_int (fun _ _ => rfl)) pe_str (nomark _)) (pss_cons (ps_if (PW.pt (pw_and (pt_cmpR (op_notInK K) (pe_ix (ix_K K) (pv 8) (pe_un un_neg pe_int) (fun _ _ => rfl)) (pe_tup (pa_cons pe_str (pa_cons (pe_callTy TxX.c_strI (by rfl) W.f_str (by decide +kernel) (pa_cons (pv 9) pa_nil)) pa_nil))) rfl) (pw_and1 (pt_cmp (pc_isN (pv 6)))))) (pss_one (ps_set (i := 6) sc__law_right.nd rfl (Or.inl rfl) (pv 7))) pss_nil) (pss_one (ps_asg (pe_callTy TxX.c_strI (by rfl) W.f_str (by decide +kernel) (pa_cons (pv 9) pa_nil)) (pg_sub (pv 8) (pe_un un_neg pe_int) set_list)))) pss_nil) (pss_one (ps_expr (pe_bmK K PySem.F.plainAttrs_list PySem.F.slot_list_append PySem.F.type_list_append mt_append (pv 5) (pa_cons (TxX.pe_joinK K pe_str (pv 8)) pa_nil)))))))) (pss_one (ps_ret (pe_tup (pa_cons (pv 5) (pa_cons (pv 6) pa_nil))))))), ?_⟩
  walk_at "q"
  refine n_to 1 (SqL.of hR) rfl (by rw [List.length_cons]; omega) fun F H1 hF s1 f1 => ?_
  replace f1 : H1 F = some (.lst (([headS c] : List Str).map V.str)) := f1
  walk_at "q"
  refine ⟨sz rfl, fun T0 hT0 => ?_⟩; generalize hN0 : upd _ T0 _ = H2; obtain ⟨s2, e2⟩ := nws hN0 hT0
  refine x_gTup e2 rfl ?_
  have s02 := s1.trans s2
  walk_at "q"
  refine x_lenL (SqL.of (s02 _ _ hR)) ?_
  rw [List.length_map, List.length_cons, List.length_map]
  walk_at "q"
  refine x_iR2At (by constructor; decide; constructor; decide; omega) ?_
  have hn : (((es.length + 1 : Nat) : Int) - 1).toNat = es.length := by omega
  rw [hn]
  refine x_loop walk_range (fun i σ Hi => Same H Hi ∧ (∃ (p : Int) (v : Bool) (wk : Option Nat), 0 ≤ p ∧ p ≤ c ∧ plF c x false (es.take i) = (p, v) ∧ (∃ w7 w8 w9, σ = [some (.ref R), some (.int c), some (.int x), some (.int p), some (.bl v), some (.ref F), some (wrV wk), w7, w8, w9]) ∧
    (match wk with | some k => wrongOf c es x = some k | none => wrongOf c es x = firstW (1 + i) (es.drop i) ((numsF c x false es).drop i))) ∧ Hi F = some (.lst ((headS c :: ((fillL c es x).take i).map enLine).map V.str)))
    ⟨s02, ⟨x, false, none, x0, x1, rfl, ⟨_, _, _, rfl⟩, rfl⟩, s2 _ _ f1⟩ (fun _ _ _ _ _ => trivial) ?_ ?_
  · rintro i y σ Hi' Hi hi ⟨si, ⟨p, v, wk, p0, p1, hpv, ⟨w7, w8, w9, rfl⟩, hwk⟩, hFi⟩ ⟨rfl, rfl⟩
    obtain ⟨en, hen⟩ : ∃ en, es[i]? = some en := ⟨_, List.getElem?_eq_getElem hi⟩
    have hok := heo en (List.mem_of_getElem? hen)
    obtain ⟨nu, hnu⟩ : ∃ n, (numsF c x false es)[i]? = some n := ⟨_, List.getElem?_eq_getElem (by rw [numsF_len]; exact hi)⟩
    have hfa := fill_at hen hnu
    have htk : es.take (i + 1) = es.take i ++ [en] := by rw [List.take_add_one, hen]; rfl
    have hpl2 : plF c x false (es.take (i + 1)) = plF c p v [en] := by rw [htk, plF_app, hpv]
    have hnum1 : numsF c p v [en] = [nu] := by
      have e1 : numsF c x false es = numsF c x false (es.take i) ++ numsF c p v (es.drop i) := by
        conv => lhs; rw [← List.take_append_drop i es]
        rw [numsF_app, hpv]
      have hd1 : es.drop i = en :: es.drop (i + 1) := by
        obtain ⟨h1, h2⟩ := List.getElem?_eq_some_iff.mp hen
        rw [List.drop_eq_getElem_cons h1, h2]
      rw [e1, List.getElem?_append_right (by rw [numsF_len, List.length_take]; omega), numsF_len, List.length_take, Nat.min_eq_left (by omega), Nat.sub_self, hd1] at hnu
      have e2 : numsF c p v (en :: es.drop (i + 1)) = numsF c p v [en] ++ numsF c (plF c p v [en]).1 (plF c p v [en]).2 (es.drop (i + 1)) := numsF_app c [en] _ p v
      have hl1 := numsF_len c [en] p v
      match h : numsF c p v [en], hl1 with
      | [q], _ =>
        rw [e2, h] at hnu
        rw [Option.some.inj hnu]
    have hd1 : es.drop i = en :: es.drop (i + 1) := by
      obtain ⟨h1, h2⟩ := List.getElem?_eq_some_iff.mp hen
      rw [List.drop_eq_getElem_cons h1, h2]
    have hd2 : (numsF c x false es).drop i = nu :: (numsF c x false es).drop (i + 1) := by
      obtain ⟨h1, h2⟩ := List.getElem?_eq_some_iff.mp hnu
      rw [List.drop_eq_getElem_cons h1, h2]
    have hRi : ((headS c :: es.map enLine).map V.str)[1 + i]? = some (.str (enLine en)) := by
      rw [Nat.add_comm, List.map_cons, List.getElem?_cons_succ, List.getElem?_map, List.getElem?_map, hen]
      rfl
    have eint : (1 : Int) + (i : Int) = ((1 + i : Nat) : Int) := by omega
    have hln := eline_ok c1 hok
    have hF0 : H F = none := hF
    have put : ∀ {Hx : Hp} {z : Str}, Same Hi Hx → z = enLine (fillE en nu) → Hx F = some (.lst ((headS c :: ((fillL c es x).take i).map enLine).map V.str)) ∧ ((headS c :: ((fillL c es x).take i).map enLine).map V.str).length < sizeLine ∧ Same H (upd Hx F (.lst ((headS c :: ((fillL c es x).take i).map enLine).map V.str ++ [.str z]))) ∧
        (upd Hx F (.lst ((headS c :: ((fillL c es x).take i).map enLine).map V.str ++ [.str z]))) F = some (.lst ((headS c :: ((fillL c es x).take (i + 1)).map enLine).map V.str)) := fun {Hx z} sx hz =>
      ⟨sx _ _ hFi, sz5' (by rw [List.length_map, List.length_cons, List.length_map, List.length_take, fill_len]; omega), Same.mut (si.trans sx) hF0, by rw [upd_same, List.take_add_one, hfa, hz, List.map_append, List.map_cons, List.map_cons, List.map_append]; rfl⟩
    walk_at "q"
    refine x_ixL (SqL.of (si _ _ hR)) (v := .str (enLine en)) (by rw [eint]; exact atI_nat hRi) ?_
    walk_at "q"
    refine ⟨⟨_, rfl⟩, ?_⟩
    walk_at "q"
    refine x_split (by decide +kernel) (by omega) fun p3 hp3 => ?_; generalize hN3 : upd _ p3 _ = H3; obtain ⟨s3, e3⟩ := nws hN3 hp3
    rw [show Txt.split (enLine en) " " = enWords en from wds_line hok] at e3
    have n3F : p3 ≠ F := fun z => by rw [z, hFi] at hp3; cases hp3
    walk_at "q"
    cases en with
    | tn =>
      refine x_ixL (SqL.of e3) (i := ((0 : Nat) : Int)) (v := .str "turn") (atI_nat rfl) ?_
      walk_at "q"
      rw [decide_eq_true rfl]
      walk_at "q"
      refine x_ixL (SqL.of e3) (i := ((0 : Nat) : Int)) (v := .str "turn") (atI_nat rfl) ?_
      walk_at "q"
      refine x_neS ?_
      rw [decide_eq_true rfl]
      obtain ⟨g1, g2, g3, g4⟩ := put s3 (show Txt.join " " (enWords .tn) = enLine (fillE .tn nu) from rfl)
      walk_at "q"
      refine ⟨ty_lst g1, ?_⟩
      walk_at "q"
      refine ⟨⟨_, rfl⟩, ?_⟩
      walk_at "q"
      refine x_joinL (ys := enWords .tn) (SqL.of e3) (by show 4 + 0 + 1 * 1 ≤ 16777216; decide) ?_
      walk_at "q"
      refine x_app g1 g2 ?_
      walk_at "q"
      refine ⟨g3, ⟨p, !v, wk, p0, p1, hpl2, ⟨_, _, _, rfl⟩, ?_⟩, g4⟩
      cases wk with
      | some k => exact hwk
      | none =>
        replace hwk : wrongOf c es x = firstW (1 + i) (es.drop i) ((numsF c x false es).drop i) := hwk
        rw [hd1, hd2] at hwk
        rw [hwk]
        show firstW (1 + i + 1) _ _ = _
        rw [Nat.add_assoc]
    | row b nd num =>
      obtain ⟨m, hm⟩ := numsF_row c x false hen
      rw [hnu] at hm
      cases hm
      have hmr := nums_rng ⟨x0, x1⟩ heo hnu
      have hml := nt_len hmr.1 (show m < 10 ^ 20 by omega)
      have hnt : roomS b ≠ "turn" := by cases b <;> decide
      have hw0 : ((enWords (.row b nd num)).map V.str)[0]? = some (.str (roomS b)) := by cases nd <;> rfl
      refine x_ixL (SqL.of e3) (i := ((0 : Nat) : Int)) (v := .str (roomS b)) (atI_nat hw0) ?_
      walk_at "q"
      refine x_ifd (fun z => absurd z hnt) fun _ => ?_
      refine x_cutN (fun σ' H' => Same H3 H' ∧ ∃ (p' : Int) (v' : Bool), plF c p v [.row b nd num] = (p', v') ∧ 0 ≤ p' ∧ p' ≤ c ∧ σ' = [some (.ref R), some (.int c), some (.int x), some (.int p'), some (.bl v'), some (.ref F), some (wrV wk), some (.int (1 + (i : Int))), some (.ref p3), some (.int m)]) (fun nx hnx => ?_) fun σ' H' hR' => ?_
      · cases nd with
        | none =>
          have hm' : m = if side b v then p else c - p := by
            have := List.cons.inj (show [some (if side b v then p else c - p)] = [some m] from hnum1)
            exact (Option.some.inj this.1).symm
          walk_at "q"
          refine x_ixL (SqL.of e3) (i := ((1 : Nat) : Int)) (v := .str "has") (atI_nat rfl) ?_
          walk_at "q"
          rw [decide_eq_true rfl]
          walk_at "q"
          refine x_ixL (SqL.of e3) (i := ((0 : Nat) : Int)) (v := .str (roomS b)) (atI_nat rfl) ?_
          walk_at "q"
          rw [red_dec', show (!decide (b = v)) = side b v by cases b <;> cases v <;> rfl]
          refine x_ifSet (fun u H' => u = .int m ∧ H' = H3) (fun hs Q' k' => ?_) (fun hs Q' k' => ?_) fun u H' ⟨eu, eH⟩ => ?_
          · rw [if_pos hs] at hm'
            walk_at "q"
            exact k' _ _ ⟨by rw [hm'], rfl⟩
          · rw [if_neg (by rw [hs]; exact Bool.false_ne_true)] at hm'
            walk_at "q"
            exact k' _ _ ⟨by rw [hm'], rfl⟩
          subst eu
          subst eH
          exact hnx _ _ ⟨Same.refl _, p, v, rfl, p0, p1, rfl⟩
        | some n =>
          have hnr := hok.1 n rfl
          have hnl2 := nt_len hnr.1 (show n < 10 ^ 20 by omega)
          have hm' : m = absI (stepQ c p (side b v) n - p) := by
            have := List.cons.inj (show [some (absI (stepQ c p (side b v) n - p))] = [some m] from hnum1)
            exact (Option.some.inj this.1).symm
          walk_at "q"
          refine x_ixL (SqL.of e3) (i := ((1 : Nat) : Int)) (v := .str (nt n)) (atI_nat rfl) ?_
          walk_at "q"
          refine x_ifd (fun z => absurd z (nt_neq hnr.1 (d := 104) (by decide +kernel) (by decide) (by decide))) fun _ => ?_
          walk_at "q"
          refine x_ixL (SqL.of e3) (i := ((0 : Nat) : Int)) (v := .str (roomS b)) (atI_nat rfl) ?_
          walk_at "q"
          refine x_ixL (SqL.of e3) (i := ((1 : Nat) : Int)) (v := .str (nt n)) (atI_nat rfl) ?_
          walk_at "q"
          refine x_intS (nt_read hnr.1 (by omega)) (by omega) ?_
          walk_at "q"
          refine ⟨sz rfl, fun T hT => ?_⟩; generalize hN4 : upd _ T _ = H4; obtain ⟨s4, e4⟩ := nws hN4 hT
          walk_at "q"
          refine ⟨c, p, n, v, b, T, rfl, e4, fun T2 H5 hT2 s5 e5 => ?_⟩
          refine x_gTup e5 rfl ?_
          walk_at "q"
          obtain ⟨q0, q1⟩ := stepQ_rng (s := side b v) ⟨p0, p1⟩ hnr
          exact hnx _ _ ⟨s4.trans s5, stepQ c p (side b v) n, v, rfl, q0, q1, by rw [hm']; rfl⟩
      obtain ⟨s4, p', v', hpl3, q0, q1, rfl⟩ := hR'
      have e4 := s4 _ _ e3
      have si4 : Same Hi H' := s3.trans s4
      have hwl : ((enWords (.row b nd num)).map V.str).length = (enWords (.row b nd num)).length := List.length_map _
      have hlast : atI ((enWords (.row b nd num)).map V.str) (-1) = some (.str (numW num)) := by
        cases nd with
        | none => exact atI_last [V.str (roomS b), V.str "has"] (V.str (numW num))
        | some n => exact atI_last [V.str (roomS b), V.str (nt n), V.str "carried"] (V.str (numW num))
      have hfo : enOk c (fillE (.row b nd num) (some m)) := ⟨hok.1, fun k hk => by cases hk; omega⟩
      have hset : ∃ j, ixN ((enWords (.row b nd num)).map V.str).length (-1) = some j ∧ ((enWords (.row b nd num)).map V.str).set j (.str (nt m)) = (enWords (fillE (.row b nd num) (some m))).map V.str := by
        cases nd with
        | none => exact ⟨2, rfl, rfl⟩
        | some n => exact ⟨3, rfl, rfl⟩
      obtain ⟨j, hj1, hj2⟩ := hset
      walk_at "q"
      refine x_ixL (SqL.of e4) (i := ((0 : Nat) : Int)) (v := .str (roomS b)) (atI_nat hw0) ?_
      walk_at "q"
      refine x_neS ?_
      rw [decide_eq_false hnt]
      refine ⟨_, rfl, ?_⟩
      refine x_nF ?_
      refine x_cutS (fun σ' H5 => Same H' H5 ∧ ∃ wk' : Option Nat, (match wk' with | some k => wrongOf c es x = some k | none => wrongOf c es x = firstW (1 + (i + 1)) (es.drop (i + 1)) ((numsF c x false es).drop (i + 1))) ∧ σ' = [some (.ref R), some (.int c), some (.int x), some (.int p'), some (.bl v'), some (.ref F), some (wrV wk'), some (.int (1 + (i : Int))), some (.ref p3), some (.int m)]) (fun nx hnx => ?_) fun σ' H5 hR5 => ?_
      · walk_at "q"
        refine x_ixL (SqL.of e4) hlast ?_
        walk_at "q"
        refine x_strI (by omega) ?_
        walk_at "q"
        refine ⟨sz rfl, fun u5 hu5 => ?_⟩; generalize hN5 : upd _ u5 _ = H5; obtain ⟨s5, e5⟩ := nws hN5 hu5
        refine x_notinT (SqT.of e5) rfl rfl ?_
        rw [wr_in (b := b) (nd := nd) c1 hmr hok.2]
        walk_at "q"
        cases wk with
        | some kk =>
          cases hw : isWrong (.row b nd num) (some m)
          · walk_at "q"
            exact hnx _ _ ⟨s5, some kk, hwk, rfl⟩
          · walk_at "q"
            refine x_ifd (fun z => nomatch z) fun _ => ?_
            walk_at "q"
            exact hnx _ _ ⟨s5, some kk, hwk, rfl⟩
        | none =>
          replace hwk : wrongOf c es x = firstW (1 + i) (es.drop i) ((numsF c x false es).drop i) := hwk
          rw [hd1, hd2] at hwk
          replace hwk : wrongOf c es x = if isWrong (.row b nd num) (some m) = true then some (1 + i) else firstW (1 + i + 1) (es.drop (i + 1)) ((numsF c x false es).drop (i + 1)) := hwk
          cases hw : isWrong (.row b nd num) (some m)
          · rw [hw, if_neg Bool.false_ne_true, Nat.add_assoc] at hwk
            walk_at "q"
            exact hnx _ _ ⟨s5, none, hwk, rfl⟩
          · rw [hw, if_pos rfl] at hwk
            walk_at "q"
            refine x_ifd (fun _ => ?_) fun z => absurd rfl z
            walk_at "q"
            exact hnx _ _ ⟨s5, some (1 + i), hwk, by rw [eint]; rfl⟩
      obtain ⟨s5, wk', hwk', rfl⟩ := hR5
      walk_at "q"
      refine x_strI (by omega) ?_
      with_reducible refine x_gSub ?_
      walk_at "q"
      refine x_setL (s5 _ _ e4) hj1 ?_
      rw [hj2]
      generalize hN6 : upd H5 p3 _ = H6
      have k6 : ∀ b u, b ≠ p3 → H5 b = some u → H6 b = some u := fun b u n e => by rw [← hN6, upd_ne n]; exact e
      have e6 : H6 p3 = some (.lst ((enWords (fillE (.row b nd num) (some m))).map V.str)) := by rw [← hN6]; exact upd_same
      have s36 : Same Hi H6 := fun b u e => k6 _ _ (ne_of_none e hp3) (s5 _ _ (si4 _ _ e))
      obtain ⟨g1, g2, g3, g4⟩ := put s36 (show Txt.join " " (enWords (fillE (.row b nd num) (some m))) = enLine (fillE (.row b nd num) (some m)) from rfl)
      walk_at "q"
      refine ⟨ty_lst g1, ?_⟩
      walk_at "q"
      refine ⟨⟨_, rfl⟩, ?_⟩
      walk_at "q"
      refine x_joinG sp_tl (SqL.of e6) (words_Gd c1 hfo) (by decide) ?_
      walk_at "q"
      refine x_app g1 g2 ?_
      walk_at "q"
      exact ⟨g3, ⟨p', v', wk', q0, q1, hpl2.trans hpl3, ⟨_, _, _, rfl⟩, hwk'⟩, g4⟩
  · rintro σ Hi ⟨si, ⟨p, v, wk, p0, p1, hpv, ⟨w7, w8, w9, rfl⟩, hwk⟩, hFi⟩
    rw [List.take_of_length_le (by rw [fill_len]; exact Nat.le_refl _)] at hFi
    have hw : wrongOf c es x = wk := by
      cases wk with
      | some k => exact hwk
      | none =>
        replace hwk : wrongOf c es x = firstW (1 + es.length) (es.drop es.length) ((numsF c x false es).drop es.length) := hwk
        rw [hwk, List.drop_eq_nil_of_le (Nat.le_refl _)]
        rfl
    rw [← hw]
    walk_at "q"
    refine ⟨sz rfl, fun T hT => ?_⟩; generalize hN4 : upd _ T _ = H4; obtain ⟨s4, e4⟩ := nws hN4 hT
    exact k T F H4 (si.free hT) hF (si.trans s4) e4 (s4 _ _ hFi)
end
end K46

set_option Elab.async false
set_option linter.all false
set_option autoImplicit false
set_option maxRecDepth 100000
set_option pp.maxSteps 500
set_option maxHeartbeats 4000000
namespace K46
open PySem PySem.Spec PyProof.Rows L2 He ChH Ch ChM TxX StrX NumX LsX DbX
/-! ### plain: the starts that fit -/
theorem mono_all (c : Int) (es : List En) : monoAll c es := fun i h => (num_mono c es i false h).imp (fun m a b _ hab _ => m a b hab) fun m a b _ hab _ => m a b hab
theorem wrong_fits {c x : Int} {es : List En} : wrongOf c es x = none ↔ fitsAt c es x es.length := by
  unfold wrongOf
  rw [firstW_none (numsF_len c es x false).symm]
  constructor
  · intro h j b nd n hj e
    have h1 := fN_at (c := c) ⟨b, nd, some n, e⟩ x
    rw [List.getElem?_map] at h1
    obtain ⟨q, hq, hv⟩ := Option.map_eq_some_iff.mp h1
    have h2 := of_decide_eq_false (show decide (some n ≠ q) = false from h j _ q e hq)
    have h3 : some n = q := by
      by_cases z : some n = q
      · exact z
      · exact absurd z h2
    subst h3
    cases hv
    rfl
  · intro h j e n he hn
    cases e with
    | tn => rfl
    | row b nd nu =>
      cases nu with
      | none => rfl
      | some k =>
        have hj : j < es.length := (List.getElem?_eq_some_iff.mp he).1
        have h1 := fN_at (c := c) ⟨b, nd, some k, he⟩ x
        rw [List.getElem?_map, hn, h j b nd k hj he] at h1
        have h2 : n = some k := by
          cases n with
          | none => cases h1
          | some m => cases h1; rfl
        rw [h2]
        exact decide_eq_false fun z => z rfl
/-- the good starts below n -/
def gsN (c : Int) (es : List En) (n : Nat) : List Nat := (List.range n).filter fun j => (wrongOf c es (j : Int)).isNone
theorem gsN_succ {c : Int} {es : List En} {n : Nat} : gsN c es (n + 1) = gsN c es n ++ (if (wrongOf c es (n : Int)).isNone = true then [n] else []) := by
  unfold gsN
  rw [List.range_succ, List.filter_append]
  congr 1
  cases h : (wrongOf c es (n : Int)).isNone
  · rw [List.filter_cons, h]; rfl
  · rw [List.filter_cons, h]; rfl
theorem gsN_le (c : Int) (es : List En) (n : Nat) : (gsN c es n).length ≤ n := by
  have := List.length_filter_le (fun j : Nat => (wrongOf c es (j : Int)).isNone) (List.range n)
  rw [List.length_range] at this
  exact this
theorem filter_mid {p : Nat → Bool} {a b n : Nat} (hab : a ≤ b) (hbn : b ≤ n) (h : ∀ j, j < n → (p j = true ↔ a ≤ j ∧ j < b)) : (List.range n).filter p = List.range' a (b - a) := by
  have e : List.range n = List.range' 0 a ++ (List.range' a (b - a) ++ List.range' b (n - b)) := by
    rw [List.range_eq_range', show List.range' b (n - b) = List.range' (a + (b - a)) (n - b) by congr 1; omega, List.range'_append_1, show List.range' a (b - a + (n - b)) = List.range' (0 + a) (b - a + (n - b)) by rw [Nat.zero_add], List.range'_append_1]
    congr 1
    omega
  rw [e, List.filter_append, List.filter_append]
  have h1 : (List.range' 0 a).filter p = [] := List.filter_eq_nil_iff.mpr fun j hj hp => by
    rw [List.mem_range'_1] at hj
    have := (h j (by omega)).mp hp
    omega
  have h2 : (List.range' b (n - b)).filter p = [] := List.filter_eq_nil_iff.mpr fun j hj hp => by
    rw [List.mem_range'_1] at hj
    have := (h j (by omega)).mp hp
    omega
  have h3 : (List.range' a (b - a)).filter p = List.range' a (b - a) := List.filter_eq_self.mpr fun j hj => by
    rw [List.mem_range'_1] at hj
    exact (h j (by omega)).mpr ⟨by omega, by omega⟩
  rw [h1, h2, h3, List.nil_append, List.append_nil]
theorem gs_none {c lo hi : Int} {es : List En} (hf : fitOk c es lo hi es.length) (c0 : 0 ≤ c) (h : hi < lo) : gsN c es (c + 1).toNat = [] := by
  refine List.filter_eq_nil_iff.mpr fun j hj hp => ?_
  have hj := List.mem_range.mp hj
  have hw : wrongOf c es (j : Int) = none := Option.isNone_iff_eq_none.mp hp
  have := (hf (mono_all c es) (j : Int) (by omega) (by omega)).mpr (wrong_fits.mp hw)
  omega
theorem gs_some {c lo hi : Int} {es : List En} (hf : fitOk c es lo hi es.length) (l0 : 0 ≤ lo) (h1 : hi ≤ c) (h : lo ≤ hi) : gsN c es (c + 1).toNat = List.range' lo.toNat ((hi + 1).toNat - lo.toNat) := by
  refine filter_mid (by omega) (by omega) fun j hj => ?_
  rw [Option.isNone_iff_eq_none, wrong_fits, ← hf (mono_all c es) (j : Int) (by omega) (by omega)]
  omega
theorem rng_map (a k : Nat) : (List.range' a k).map (fun j : Nat => V.int (j : Int)) = (List.range k).map fun j : Nat => V.int ((a : Int) + (j : Int)) := by
  rw [List.range'_eq_map_range, List.map_map]
  refine List.map_congr_left fun j _ => ?_
  show V.int ((a + j : Nat) : Int) = _
  rw [Int.natCast_add]
/-! ### the two far daybooks -/
theorem stepQ_t (c p n : Int) : stepQ c p true n = mx p n := by
  unfold stepQ moved
  rw [if_pos (by decide)]
theorem stepQ_f (c p n : Int) : stepQ c p false n = mn p (c - n) := by
  unfold stepQ moved
  rw [if_neg (by decide), if_pos (by decide)]
abbrev esF : List En := [.row true (some 5) none, .row false (some 7) (some 3), .tn, .row false none none]
abbrev esW : List En := [.row true (some 5) (some 0), .tn, .row true (some 7) (some 0), .row false none none]
theorem fF (c m : Int) : fN c esF 1 m = absI (mn (mx m 5) (c - 7) - mx m 5) := by
  rw [← stepQ_t c, ← stepQ_f c]
  rfl
theorem fW0 (c m : Int) : fN c esW 0 m = absI (mx m 5 - m) := by
  rw [← stepQ_t c]
  rfl
theorem fW2 (c m : Int) : fN c esW 2 m = absI (mn (mx m 5) (c - 7) - mx m 5) := by
  rw [← stepQ_t c, ← stepQ_f c]
  rfl
theorem fitsF {c m : Int} (h : 100 ≤ c) (h0 : 0 ≤ m) (h1 : m ≤ c) : fitsAt c esF m 4 ↔ m = c - 4 := by
  have key : fitsAt c esF m 4 ↔ fN c esF 1 m = 3 := ⟨fun z => z 1 _ _ 3 (by decide) rfl, fun z j b nd n hj e => by
    match j, e with
    | 0, e => cases e
    | 1, e => cases e; exact z
    | 2, e => cases e
    | 3, e => cases e
    | j + 4, e => cases e⟩
  rw [key, fF]
  unfold absI mn mx
  repeat' split
  all_goals omega
theorem fitsW {c m : Int} (h : 100 ≤ c) (h0 : 0 ≤ m) (h1 : m ≤ c) : fitsAt c esW m 4 ↔ (5 ≤ m ∧ m ≤ c - 7) := by
  have key : fitsAt c esW m 4 ↔ (fN c esW 0 m = 0 ∧ fN c esW 2 m = 0) := ⟨fun z => ⟨z 0 _ _ 0 (by decide) rfl, z 2 _ _ 0 (by decide) rfl⟩, fun z j b nd n hj e => by
    match j, e with
    | 0, e => cases e; exact z.1
    | 1, e => cases e
    | 2, e => cases e; exact z.2
    | 3, e => cases e
    | j + 4, e => cases e⟩
  rw [key, fW0, fW2]
  unfold absI mn mx
  constructor
  · rintro ⟨a1, a2⟩
    revert a1 a2
    repeat' split
    all_goals omega
  · rintro ⟨a1, a2⟩
    constructor
    · repeat' split
      all_goals omega
    · repeat' split
      all_goals omega
theorem farF {c lo hi : Int} (h : 100 ≤ c) (l0 : 0 ≤ lo) (h1 : hi ≤ c) (hf : fitOk c esF lo hi 4) : lo = c - 4 ∧ hi = c - 4 := by
  have g : ∀ m, 0 ≤ m → m ≤ c → ((lo ≤ m ∧ m ≤ hi) ↔ m = c - 4) := fun m a b => (hf (mono_all c esF) m a b).trans (fitsF h a b)
  have g1 := (g (c - 4) (by omega) (by omega)).mpr rfl
  have g2 := g lo l0 (by omega)
  have g3 := g hi (by omega) h1
  have := g2.mp ⟨Int.le_refl _, by omega⟩
  have := g3.mp ⟨by omega, Int.le_refl _⟩
  omega
theorem farW {c lo hi : Int} (h : 100 ≤ c) (l0 : 0 ≤ lo) (h1 : hi ≤ c) (hf : fitOk c esW lo hi 4) : lo = 5 ∧ hi = c - 7 := by
  have g : ∀ m, 0 ≤ m → m ≤ c → ((lo ≤ m ∧ m ≤ hi) ↔ (5 ≤ m ∧ m ≤ c - 7)) := fun m a b => (hf (mono_all c esW) m a b).trans (fitsW h a b)
  have g1 := (g 5 (by omega) (by omega)).mpr ⟨by omega, by omega⟩
  have g4 := (g (c - 7) (by omega) (by omega)).mpr ⟨by omega, by omega⟩
  have g2 := (g lo l0 (by omega)).mp ⟨Int.le_refl _, by omega⟩
  have g3 := (g hi (by omega) h1).mp ⟨by omega, Int.le_refl _⟩
  omega
theorem join_cons {a b : Str} {l : List Str} : Txt.join "\n" (a :: b :: l) = a ++ ("\n" ++ Txt.join "\n" (b :: l)) := by
  refine TL.ext_tl ?_
  rw [TL.join_eq, TL.tl_join, TL.tl_append, TL.tl_append, TL.join_eq, TL.tl_join]
  rfl
theorem textF (c : Int) : "chairs " ++ nt c ++ "\nred 5 carried ?\nblue 7 carried 3\nturn\nblue has ?" = dbText c esF := by
  unfold dbText
  rw [List.map_cons, join_cons]
  show headS c ++ _ = headS c ++ _
  congr 1
theorem textW (c : Int) : "chairs " ++ nt c ++ "\nred 5 carried 0\nturn\nred 7 carried 0\nblue has ?" = dbText c esW := by
  unfold dbText
  rw [List.map_cons, join_cons]
  show headS c ++ _ = headS c ++ _
  congr 1
theorem okF {c : Int} (h : 100 ≤ c) : (∀ e ∈ esF, enOk c e) ∧ (∀ e ∈ esF, enBig e) ∧ (∀ e ∈ esW, enOk c e) ∧ ∀ e ∈ esW, enBig e := by
  have rw1 : ∀ (b : Bool) (nd nu : Option Int), (∀ n, nd = some n → 0 ≤ n ∧ n ≤ 7) → (∀ k, nu = some k → 0 ≤ k ∧ k ≤ 3) → enOk c (.row b nd nu) ∧ enBig (.row b nd nu) := fun b nd nu h1 h2 => ⟨⟨fun n hn => ⟨(h1 n hn).1, by have := (h1 n hn).2; omega⟩, fun k hk => ⟨(h2 k hk).1, by have := (h2 k hk).2; omega⟩⟩, by
    cases nu with
    | none => trivial
    | some k => show k ≤ big; have := (h2 k rfl).2; unfold big; omega⟩
  have nn : ∀ {m : Int} {P : Int → Prop}, P m → ∀ n, some m = some n → P n := fun h n e => by cases e; exact h
  have no : ∀ {P : Int → Prop}, ∀ n, (none : Option Int) = some n → P n := fun n e => nomatch e
  have a1 := rw1 true (some 5) none (nn ⟨by decide, by decide⟩) no
  have a2 := rw1 false (some 7) (some 3) (nn ⟨by decide, by decide⟩) (nn ⟨by decide, by decide⟩)
  have a3 := rw1 false none none no no
  have a4 := rw1 true (some 5) (some 0) (nn ⟨by decide, by decide⟩) (nn ⟨by decide, by decide⟩)
  have a5 := rw1 true (some 7) (some 0) (nn ⟨by decide, by decide⟩) (nn ⟨by decide, by decide⟩)
  have F : ∀ e ∈ esF, enOk c e ∧ enBig e := fun e he => by
    simp only [List.mem_cons, List.not_mem_nil, or_false] at he
    rcases he with z | z | z | z <;> rw [z]
    · exact a1
    · exact a2
    · exact ⟨trivial, trivial⟩
    · exact a3
  have Wd : ∀ e ∈ esW, enOk c e ∧ enBig e := fun e he => by
    simp only [List.mem_cons, List.not_mem_nil, or_false] at he
    rcases he with z | z | z | z <;> rw [z]
    · exact a4
    · exact ⟨trivial, trivial⟩
    · exact a5
    · exact a3
  exact ⟨fun e he => (F e he).1, fun e he => (F e he).2, fun e he => (Wd e he).1, fun e he => (Wd e he).2⟩
end K46

set_option Elab.async false
set_option linter.all false
set_option autoImplicit false
set_option maxRecDepth 100000
set_option pp.maxSteps 500
set_option maxHeartbeats 4000000
namespace K46
open PySem PySem.Spec PyProof.Rows L2 He ChH Ch ChM LamX TxX StrX NumX LsX DbX
local macro_rules | `(tactic| walk_at "x1") => `(tactic| first
  | ((with_reducible apply x_var); exact rfl)
  | with_reducible refine x_c ?_
  | with_reducible refine x_op ?_
  | with_reducible refine x_seq ?_
  | with_reducible refine x_asg ?_
  | with_reducible refine x_gname ?_
  | with_reducible refine x_cons ?_
  | with_reducible refine x_nil ?_
  | with_reducible refine x_fld ?_
  | with_reducible refine x_ret ?_
  | with_reducible refine x_ifS ?_
  | with_reducible refine x_test ?_
  | with_reducible refine x_ex ?_
  | with_reducible refine x_call ?_
  | with_reducible refine x_mk ?_
  | with_reducible refine x_meth ?_
  | with_reducible refine x_prop ?_
  | with_reducible refine x_cb ?_
  | with_reducible refine x_tup ?_
  | with_reducible refine x_lst ?_
  | with_reducible refine x_drop ?_
  | with_reducible refine x_for ?_
  | with_reducible refine x_iL ?_
  | with_reducible refine x_iT ?_
  | with_reducible refine x_iE ?_
  | with_reducible refine x_iU ?_
  | with_reducible refine x_iR1 ?_
  | with_reducible refine x_iR2 ?_
  | with_reducible refine x_gcons ?_
  | with_reducible refine x_gnil ?_
  | with_reducible refine x_par ?_
  | with_reducible refine x_lstRg ?_
  | with_reducible refine x_rg1 ?_
  | with_reducible refine x_rg1At ?_
  | with_reducible refine x_par3 ?_
  | with_reducible refine x_bm ?_
  | with_reducible refine x_bm0 ?_
  | with_reducible refine x_gSub ?_
  | with_reducible refine x_lc ?_
  | with_reducible refine x_yes ?_
  | with_reducible refine x_setf ?_
  | with_reducible refine x_next ?_
  | with_reducible refine x_B ?_
  | with_reducible refine x_and ?_
  | with_reducible refine x_or ?_
  | with_reducible refine x_not ?_
  | with_reducible refine x_andV ?_
  | with_reducible refine x_orV ?_
  | with_reducible refine x_notV ?_
  | with_reducible refine x_ifE ?_
  | with_reducible refine x_chain ?_
  | with_reducible refine x_chain3 ?_
  | with_reducible refine x_un ?_
  | with_reducible refine x_isNe ?_
  | with_reducible refine x_notNe ?_
  | with_reducible refine x_starA ?_
  | with_reducible refine x_plusI ?_
  | with_reducible refine x_minus ?_
  | with_reducible refine x_lt ?_
  | with_reducible refine x_le ?_
  | with_reducible refine x_gt ?_
  | with_reducible refine x_ge ?_
  | with_reducible refine x_eqI ?_
  | with_reducible refine x_neI ?_
  | with_reducible refine x_eqS ?_
  | with_reducible refine x_eqB ?_
  | with_reducible refine x_neB ?_
  | with_reducible refine x_int ?_
  | with_reducible refine x_intB ?_
  | with_reducible refine x_max2 ?_
  | with_reducible refine x_min2 ?_
  | with_reducible refine x_max3 ?_
  | with_reducible refine x_abs ?_
  | with_reducible refine x_neg ?_
  | with_reducible refine x_isi_ii ?_
  | with_reducible refine x_isi_ib ?_
  | with_reducible refine x_T ?_
  | with_reducible refine x_nT ?_
  | with_reducible refine x_nF ?_
  | with_reducible refine x_F ?_)
local macro_rules | `(tactic| walk_at "x") => `(tactic| repeat walk_at "x1")

local macro_rules | `(tactic| walk_at "q1") => `(tactic| first
  | walk_at "x1"
  | with_reducible refine x_sl ?_
  | with_reducible refine x_cmeth ?_
  | with_reducible refine x_noPart ?_
  | with_reducible refine x_part ?_
  | with_reducible refine x_partI ?_)
local macro_rules | `(tactic| walk_at "q") => `(tactic| repeat walk_at "q1")

local macro_rules | `(tactic| walk_at "q1") => `(tactic| with_reducible refine TxX.x_m1 ?_)
section
variable {K : PySem.W.Frag} {mg : Str → Option Value} {H H' : Hp} {Q : VK}
theorem x_cut2 {t1 t2 u : TS} {De : Ends} {σ : L2.St} {H : Hp} (R : L2.St → Hp → Prop) (h1 : ∀ nx : L2.St → Hp → Prop, (∀ σ' H', R σ' H' → nx σ' H') → tSeq t1 t2 { De with nx := nx } σ H) (h2 : ∀ σ' H', R σ' H' → u De σ' H') : tSeq t1 (tSeq t2 u) De σ H := h1 (u De) h2
theorem mkDb {t : Str} {kk : Addr → Hp → Prop} {E : XK} (ht : okD t) (k : ∀ c es, good (rowsOf t) c es → ∀ x H', Same H H' → DbAt K H' x c es → kk x H') (kB : ∀ kb : Nat, bad (rowsOf t) = some kb → ∀ d H', Same H H' → H' d = some (.xd [("row", .int (kb : Int))]) → E (.ref (ga K "DaybookError")) (some d) H') :
    ∀ x dx, H x = none → H dx = none → dx ≠ x → spDI K [.ref x, .str t] (upd (upd H dx (.own x)) x (.ins (ga K "Daybook") dx [])) (fun v H2 => v = .non ∧ kk x H2) E := by
  intro x dx hx hdx hne
  have s1 : Same H (upd (upd H dx (.own x)) x (.ins (ga K "Daybook") dx [])) := Same.mut (Same.new hdx) hx
  have sm : ∀ {H' : Hp}, (∀ b u, b ≠ x → (upd (upd H dx (.own x)) x (.ins (ga K "Daybook") dx [])) b = some u → H' b = some u) → Same H H' := fun kp b u e => kp b u (ne_of_none e hx) (s1 b u e)
  exact ⟨x, dx, t, rfl, upd_same, ht, fun c es hg H' kp hd => ⟨rfl, k c es hg x H' (sm kp) hd⟩, fun kb hb d H' _ kp hd => kB kb hb d H' (sm kp) hd⟩
theorem db_ext {o : Addr} {c : Int} {es : List En} (h : DbAt K H o c es) (s : ExtN H H') : DbAt K H' o c es := by
  obtain ⟨dx, L, ps, e1, e2, e3⟩ := h.ex
  exact ⟨⟨dx, L, ps, ExtN.ins s e1, ExtN.lst s e2, e3.keep fun a xs e => ExtN.tup s e⟩⟩
theorem al_lst {p q : Addr} {vs : List V} (h1 : H p = some (.lst vs)) (h2 : H q = some (.lst vs)) (hl : vs.length ≤ 10000) (hv : ∀ v ∈ vs, plV v = true) : A3 H (.ref p) (.ref q) :=
  .inl (.inl (.inr ⟨p, q, vs, vs, rfl, rfl, .inl ⟨h1, h2⟩, rfl, hl, fun i x y hx hy => ⟨Option.some.inj (hx.symm.trans hy), hv x (List.mem_of_getElem? hx)⟩⟩))
theorem al_tup {p q : Addr} {vs : List V} (h1 : H p = some (.tup vs)) (h2 : H q = some (.tup vs)) (hl : vs.length ≤ 10000) (hv : ∀ v ∈ vs, plV v = true) : A3 H (.ref p) (.ref q) :=
  .inl (.inl (.inr ⟨p, q, vs, vs, rfl, rfl, .inr ⟨h1, h2⟩, rfl, hl, fun i x y hx hy => ⟨Option.some.inj (hx.symm.trans hy), hv x (List.mem_of_getElem? hx)⟩⟩))
theorem plv_wr {w : Option Nat} {z : Str} (h : PyData.strOk z = true) : ∀ v ∈ [wrV w, V.str z], plV v = true := fun v hv => by
  rcases List.mem_cons.mp hv with e | e
  · rw [e]; cases w <;> rfl
  · rw [List.mem_singleton.mp e]; exact h
theorem plv_two {a b : Int} : ∀ v ∈ [V.int a, V.int b], plV v = true := fun v hv => by
  rcases List.mem_cons.mp hv with e | e
  · rw [e]; rfl
  · rw [List.mem_singleton.mp e]; rfl
abbrev gsI (c : Int) (es : List En) (n : Nat) : List Int := (gsN c es n).map fun m : Nat => (m : Int)
theorem gsI_le (c : Int) (es : List En) (n : Nat) : ((gsI c es n).map V.int).length ≤ n := by rw [List.length_map, List.length_map]; exact gsN_le c es n
theorem gsI_t {c : Int} {es : List En} {n : Nat} (h : wrongOf c es (n : Int) = none) : (gsI c es (n + 1)).map V.int = (gsI c es n).map V.int ++ [V.int (n : Int)] := by
  unfold gsI
  rw [gsN_succ, if_pos (by rw [h]; rfl), List.map_append, List.map_append]
  rfl
theorem gsI_f {c : Int} {es : List En} {n k : Nat} (h : wrongOf c es (n : Int) = some k) : (gsI c es (n + 1)) = (gsI c es n) := by
  unfold gsI
  rw [gsN_succ, if_neg (by rw [h]; exact Bool.false_ne_true), List.append_nil]
theorem gsI_none {c lo hi : Int} {es : List En} (hf : fitOk c es lo hi es.length) (c0 : 0 ≤ c) (h : hi < lo) : gsI c es (c + 1).toNat = [] := by
  unfold gsI
  rw [gs_none hf c0 h]
  rfl
/-- from lo to hi -/
theorem gsI_some {c lo hi : Int} {es : List En} (hf : fitOk c es lo hi es.length) (l0 : 0 ≤ lo) (h1 : hi ≤ c) (h : lo ≤ hi) : gsI c es (c + 1).toNat = (List.range (hi + 1 - lo).toNat).map fun j : Nat => lo + (j : Int) := by
  unfold gsI
  rw [gs_some hf l0 h1 h, List.range'_eq_map_range, List.map_map, show (hi + 1).toNat - lo.toNat = (hi + 1 - lo).toNat by omega]
  refine List.map_congr_left fun j _ => ?_
  show ((lo.toNat + j : Nat) : Int) = _
  omega
theorem far_ok {c : Int} {z : Str} (h0 : 0 ≤ c) (h1 : c ≤ big) (hz : z.length ≤ 500) (kz : PyData.strOk z = true) : ("chairs " ++ nt c ++ z).length ≤ 599 ∧ PyData.strOk ("chairs " ++ nt c ++ z) = true := by
  have h2 := nt_len h0 (show c < 10 ^ 20 by unfold big at h1; omega)
  refine ⟨?_, app_ok (app_ok (by decide +kernel) (nt_ok h0)) kz⟩
  rw [app_len, app_len]
  show 7 + _ + _ ≤ 599
  omega
theorem atI_m1 {xs : List V} {v : V} (h0 : 0 < xs.length) (h : xs[xs.length - 1]? = some v) : atI xs (-1) = some v := by
  unfold atI ixN
  rw [if_neg (by decide), if_pos (by omega)]
  show xs[((-1 : Int) + (xs.length : Nat)).toNat]? = some v
  rw [show ((-1 : Int) + (xs.length : Nat)).toNat = xs.length - 1 by omega]
  exact h
theorem rng_at {lo hi : Int} {i : Nat} (h : i < (hi + 1 - lo).toNat) : (((List.range (hi + 1 - lo).toNat).map fun j : Nat => lo + (j : Int)).map V.int)[i]? = some (.int (lo + (i : Int))) := by
  rw [List.getElem?_map, List.getElem?_map, List.getElem?_range h]
  rfl
end
/-! ### the list of lambdas -/
structure Wk (X : Cx) (Ls : List (Addr × (XK → TE))) (K : PySem.W.Frag) (h q x dx L : Addr) (c : Int) (wk : Addr) (xs : List V) (H : Hp) : Prop where
  D : Dr H h q
  T : Tabs (lamT K) H
  A : ∀ p ∈ Ls, LamV.LamAt X lamK p.2 p.1 H
  I : H x = some (.ins (ga K "Daybook") dx (dbF c L))
  W : H wk = some (.lst xs)
  n : wk ≠ h ∧ wk ≠ q
section
variable {X : Cx} {Ls : List (Addr × (XK → TE))} {K : PySem.W.Frag} {h q x dx L wk : Addr} {c : Int} {xs ys : List V} {H H' : Hp}
theorem Wk.same (b : Wk X Ls K h q x dx L c wk xs H) (s : Same H H') : Wk X Ls K h q x dx L c wk xs H' := ⟨b.D.mono s, tabs_same b.T s, fun p hp => (b.A p hp).same s, s _ _ b.I, s _ _ b.W, b.n⟩
theorem Wk.add (b : Wk X Ls K h q x dx L c wk xs H) {p : Addr × (XK → TE)} (hp : LamV.LamAt X lamK p.2 p.1 H) : Wk X (p :: Ls) K h q x dx L c wk xs H := ⟨b.D, b.T, fun r hr => by
  rcases List.mem_cons.mp hr with z | z
  · rw [z]; exact hp
  · exact b.A r z, b.I, b.W, b.n⟩
theorem Wk.other (b : Wk X Ls K h q x dx L c wk xs H) {d : Addr} {zs ws : List V} (hd : H d = some (.lst zs)) (n1 : d ≠ h) (n2 : d ≠ q) (n3 : d ≠ wk) : Wk X Ls K h q x dx L c wk xs (upd H d (.lst ws)) := by
  have k : ∀ b' o, (∀ xs, o ≠ .lst xs) → H b' = some o → (upd H d (.lst ws)) b' = some o := fun b' o n e => by
    rw [upd_ne (ne_of e hd (n _))]
    exact e
  exact ⟨b.D.other n1 n2, tabs_keep b.T k, fun p hp => (b.A p hp).keep fun b' o _ n e => k b' o n e, k _ _ (fun _ z => nomatch z) b.I, by rw [upd_ne n3.symm]; exact b.W, b.n⟩
abbrev PvC (X : Cx) (Ls : List (Addr × (XK → TE))) (K : PySem.W.Frag) (h q x dx L : Addr) (c : Int) (wk : Addr) (xs : List V) (D : Addr) (j : Nat) (H : Hp) : Prop := Wk X Ls K h q x dx L c wk xs H ∧ ∃ ys : List V, H D = some (.lst ys) ∧ ys.length = j ∧ ∀ z ∈ ys, ∃ d, z = V.ref d ∧ H d = some (.tup [.str "number"])
theorem fin_num {mg : Str → Option Value} {D1 : Addr} {j : Nat} {Ha Hx : Hp} (W : Wd K mg) (B : PvC X Ls K h q x dx L c wk xs D1 j Ha) (n1 : D1 ≠ h) (n2 : D1 ≠ q) (n3 : D1 ≠ wk) (hj : j < 2) (s : Same Ha Hx) :
    outN K (fun y H4 => ∃ acc, H4 D1 = some (.lst acc) ∧ acc.length < sizeLine ∧ PvC X Ls K h q x dx L c wk xs D1 (j + 1) (upd H4 D1 (.lst (acc ++ [y])))) (.ref (ga K "InvalidNumber")) none Hx := by
  obtain ⟨b, ys, hys, hyl, hyb⟩ := B
  refine ⟨_, 3, rfl, oc_Number W, .inr (.inl rfl), rfl, fun t H3 ht s3 e3 => ?_⟩
  have s13 := s.trans s3
  have bx := b.same s13
  have hys3 := s13 _ _ hys
  have key : ∀ d, H3 d = some (.tup [.str "number"]) → (upd H3 D1 (.lst (ys ++ [.ref t]))) d = some (.tup [.str "number"]) := fun d e => by
    rw [upd_ne fun q => ?_]
    · exact e
    · rw [q, hys3] at e
      cases e
  refine ⟨ys, hys3, sz5' (by omega), bx.other hys3 n1 n2 n3, ys ++ [.ref t], upd_same, by rw [List.length_append, hyl]; rfl, fun z hz => ?_⟩
  rcases List.mem_append.mp hz with z1 | z1
  · obtain ⟨d, e, g⟩ := hyb z z1
    exact ⟨d, e, key d (s13 _ _ g)⟩
  · rw [List.mem_singleton.mp z1]
    exact ⟨t, rfl, key t e3⟩
end
section
variable {P : Program} {w : World} {K : PySem.W.Frag} {mg : Str → Option Value} {base : Heap}
abbrev lawLv : Nat := 20
def spLaw (K : PySem.W.Frag) : Sp := fun vs H Q _ => ∃ (a : Addr) (ns : List Int), vs = [.ref a] ∧ SqL K H a (ns.map V.int) ∧ ns.length ≤ 1000 ∧ Tabs (lamT K) H ∧ ∀ H', Q (.bl true) H'
theorem ok_law (W : Wd K mg) (TB : LamX.TabB base mg (cdA K (ga K "law")) (tbA K (ga K "law"))) (TB_Daybook_starts_for : LamX.TabB base mg (cdA K (ma K (ga K "Daybook") "starts_for")) (tbA K (ma K (ga K "Daybook") "starts_for"))) : FnOk P w K mg base CX0 lawLv (ga K "law") (fdOf K (ga K "law")) ["_law_script"] (spLaw K) := by
  refine fnok_code W.F_law sc_law (fun vs H Q E ⟨a, ns, ev, _⟩ => by rw [ev]; rfl) fun cdv A outer s H vs Q E hcd hr ⟨a, ns, ev, hs, hn, hT, k⟩ => ?_
  subst ev
  have hcode : cdv = .ref (cdA K (ga K "law")) := hcd.symm.trans W.tb_law.code
  refine ⟨_, PSs.nox (pss_cons (ps_set (i := 1) sc_law.nd rfl (Or.inl rfl) (pe_callR (ok__law_mix W) (hr.mono (by decide)) W.g__law_mix W.k__law_mix pass0 rfl (pa_cons (pv 0) (pa_cons pe_int pa_nil)))) (pss_cons (ps_for PassesOwn.never rfl (pi_range1 (by rfl) W.f_range (pa_cons pe_int pa_nil)) (pg_name (i := 2) sc_law.nd rfl (Or.inl rfl)) (pss_cons (ps_set (i := 3) sc_law.nd rfl (Or.inl rfl) (pe_callR (ok__law_next W) (hr.mono (by decide)) W.g__law_next W.k__law_next pass0 rfl (pa_cons (pv 1) (pa_cons pe_int pa_nil)))) (pss_cons (ps_set (i := 4) sc_law.nd rfl (Or.inl rfl) (pe_callR (ok__law_rows W) (hr.mono (by decide)) W.g__law_rows W.k__law_rows pass0 rfl (pa_cons (pv 1) (pa_cons (pv 3) (pa_cons (pe_callR (ok__law_next W) (hr.mono (by decide)) W.g__law_next W.k__law_next pass0 rfl (pa_cons (pv 1) (pa_cons (pe_op op_plus (pv 3) pe_int) pa_nil))) (pa_cons pe_int pa_nil)))))) (pss_cons (ps_asg (pe_tup (pa_cons (pe_mk W.mk_Daybook (ok_Daybook_init W) (hr.mono (by decide)) W.g_Daybook pass0 rfl (pa_cons (TxX.pe_joinK K pe_str (pv 4)) pa_nil)) (pa_cons (pe_lst pa_nil) pa_nil))) (pg_tupK (n := 2) K rfl (pgs_cons (pg_name (i := 11) sc_law.nd rfl (Or.inr rfl)) (pgs_cons (pg_name (i := 5) sc_law.nd rfl (Or.inl rfl)) pgs_nil)))) (pss_cons (ps_for PassesOwn.never rfl (pi_range1 (by rfl) W.f_range (pa_cons (pe_op op_plus (pv 3) pe_int) pa_nil)) (pg_name (i := 6) sc_law.nd rfl (Or.inl rfl)) (pss_cons (ps_asg (pe_callR (ok__law_right W) (hr.mono (by decide)) W.g__law_right W.k__law_right pass0 rfl (pa_cons (pv 4) (pa_cons (pv 3) (pa_cons (pv 6) pa_nil)))) (pg_tupK (n := 2) K rfl (pgs_cons (pg_name (i := 7) sc_law.nd rfl (Or.inl rfl)) (pgs_cons (pg_name (i := 8) sc_law.nd rfl (Or.inl rfl)) pgs_nil)))) (pss_cons (ps_if (pt_not (pt_val (pe_callR (ok__law_alike W) (hr.mono (by decide)) W.g__law_alike W.k__law_alike pass0 rfl (pa_cons (pe_lst (pa_cons (pe_methR W.c_Daybook W.m_Daybook_check (ok_Daybook_check W) (hr.mono (by decide)) pass0 (pv 11) (pa_cons (pv 6) pa_nil)) (pa_cons (pe_methR W.c_Daybook W.m_Daybook_filled (ok_Daybook_filled W) (hr.mono (by decide)) pass0 (pv 11) (pa_cons (pv 6) pa_nil)) pa_nil))) (pa_cons (pe_lst (pa_cons (pv 8) (pa_cons (TxX.pe_joinK K pe_str (pv 7)) pa_nil))) pa_nil))))) (pss_one (ps_ret pe_bl)) pss_nil) (pss_one (ps_if (pt_cmp (pc_isN (pv 8))) (pss_one (ps_expr (pe_bmK K PySem.F.plainAttrs_list PySem.F.slot_list_append PySem.F.type_list_append mt_append (pv 5) (pa_cons (pv 6) pa_nil)))) pss_nil))))) (pss_cons (ps_if (pt_not (pt_val (pe_callR (ok__law_alike W) (hr.mono (by decide)) W.g__law_alike W.k__law_alike pass0 rfl (pa_cons (pe_methR0 W.c_Daybook W.m_Daybook_fitting_starts (ok_Daybook_fitting_starts W TB_Daybook_starts_for) (hr.mono (by decide)) pass0 (pv 11)) (pa_cons (pe_ifExp (pt_cmpR (op_neK K hr.units) (pv 5) (pe_lst pa_nil) (nomark _)) (pe_tup (pa_cons (pe_ix (ix_K K) (pv 5) pe_int (fun _ _ => rfl)) (pa_cons (pe_ix (ix_K K) (pv 5) (pe_un un_neg pe_int) (fun _ _ => rfl)) pa_nil))) pe_non) pa_nil))))) (pss_one (ps_ret pe_bl)) pss_nil) (pss_cons (ps_set (i := 9) sc_law.nd rfl (Or.inl rfl) (pe_ifExp (pt_cmpR (op_neK K hr.units) (pv 5) (pe_lst pa_nil) (nomark _)) (pe_lc (own := [("_law_k", 13)]) (g := gName 13) (tt := tYes) rfl sc_law.nd (pi_range2 (by rfl) W.f_range (pa_cons (pe_ix (ix_K K) (pv 5) pe_int (fun _ _ => rfl)) (pa_cons (pe_op op_plus (pe_ix (ix_K K) (pv 5) (pe_un un_neg pe_int) (fun _ _ => rfl)) pe_int) pa_nil))) (blkOk_by (own := [("_law_k", 13)]) (N := N_law) (sc := defScope s_law) (by decide +kernel)) (fun _ _ _ _ _ => (pg_name (i := 13) sc_law.nd rfl (Or.inl rfl))) (fun _ _ _ _ _ => pts_nil) (fun _ _ _ _ _ => (pv 13))) (pe_lst pa_nil))) (pss_cons (ps_if (PW.pt (pw_or (pt_cmpR (op_neK K hr.units) (pv 5) (pv 9) (nomark _)) (pw_or1 (pt_cmpR (op_neK K hr.units) (pe_propR W.c_Daybook W.p_Daybook_row_count (ok_Daybook_row_count W) (hr.mono (by decide)) (pv 11)) (pe_callB (c_lenK K) (by rfl) W.f_len (by decide +kernel) (pa_cons (pv 4) pa_nil)) (nomark _))))) (pss_one (ps_ret pe_bl)) pss_nil) (pss_cons (ps_set (i := 12) sc_law.nd rfl (Or.inr rfl) (pe_ix (ix_K K) (pe_lst (pa_cons (pe_un un_neg pe_int) (pa_cons (pe_op op_plus (pv 3) pe_int) pa_nil))) (pe_callR (ok__law_next W) (hr.mono (by decide)) W.g__law_next W.k__law_next pass0 rfl (pa_cons (pv 1) (pa_cons pe_int pa_nil))) (fun _ _ => rfl))) (pss_one (ps_if (pt_cmpR (op_neK K hr.units) (LcI.pe_lcI (own := [("_law_call", 14)]) (g := gName 14) rfl sc_law.nd (pi_listK K (pe_lst (pa_cons (LamV.pe_lam (T := lamT K) (P := tbA K (ga K "law")) TB hcode lamM_law (lamU_law W) (fun ok => (LamV.lamS3_by (N := N_law) (sc := defScope s_law) (by decide +kernel)).has ok) rfl) (pa_cons (LamV.pe_lam1 (T := lamT K) (P := tbA K (ga K "law")) TB hcode lamM_law (lamU_law W) (fun ok => (LamV.lamS3_by (N := N_law) (sc := defScope s_law) (by decide +kernel)).has ok) pe_int rfl) pa_nil)))) (blkOk_by (own := [("_law_call", 14)]) (N := N_law) (sc := defScope s_law) (by decide +kernel)) (fun _ _ _ _ _ => (pg_name (i := 14) sc_law.nd rfl (Or.inl rfl))) (fun pins s σ0 H C cl fp I0 hfp => (LamV.pe_callI (k := lamK) I0 hfp W.F__law_outcome W.g__law_outcome (FunD.bindsN (ps := ["_law_call"]) W.F__law_outcome (fun _ _ _ _ _ _ us hl => match us, hl with | [_], _ => rfl)) sc__law_outcome (fun _ => law_outcome_givesK K W (hr.mono (by decide))) (hr.mono (by decide)) (pv 14) rfl rfl (.inl rfl)))) (pe_op op_times (pe_lst (pa_cons (pe_tup (pa_cons pe_str pa_nil)) pa_nil)) pe_int) (nomark _)) (pss_one (ps_ret pe_bl)) pss_nil))))))))))) (pss_cons (ps_set (i := 3) sc_law.nd rfl (Or.inl rfl) (pe_op op_minus (pe_op op_powP pe_int pe_int) (pe_callR (ok__law_next W) (hr.mono (by decide)) W.g__law_next W.k__law_next pass0 rfl (pa_cons (pv 1) (pa_cons (pe_op op_powP pe_int pe_int) pa_nil))))) (pss_cons (ps_set (i := 12) sc_law.nd rfl (Or.inr rfl) (pe_mk W.mk_Daybook (ok_Daybook_init W) (hr.mono (by decide)) W.g_Daybook pass0 rfl (pa_cons (pe_op op_plus (pe_op op_plus pe_str (pe_callTy TxX.c_strI (by rfl) W.f_str (by decide +kernel) (pa_cons (pv 3) pa_nil))) pe_str) pa_nil))) (pss_cons (ps_if (PW.pt (pw_or (pt_cmpR (op_neK K hr.units) (pe_methR0 W.c_Daybook W.m_Daybook_fitting_starts (ok_Daybook_fitting_starts W TB_Daybook_starts_for) (hr.mono (by decide)) pass0 (pv 12)) (pe_tup (pa_cons (pe_op op_minus (pv 3) pe_int) (pa_cons (pe_op op_minus (pv 3) pe_int) pa_nil))) (nomark _)) (pw_or (pt_cmp (pc_notN (pe_methR W.c_Daybook W.m_Daybook_check (ok_Daybook_check W) (hr.mono (by decide)) pass0 (pv 12) (pa_cons (pe_op op_minus (pv 3) pe_int) pa_nil)))) (pw_or1 (pt_cmpR (op_neK K hr.units) (pe_propR W.c_Daybook W.p_Daybook_row_count (ok_Daybook_row_count W) (hr.mono (by decide)) (pv 12)) pe_int (nomark _)))))) (pss_one (ps_ret pe_bl)) pss_nil) (pss_cons (ps_set (i := 10) sc_law.nd rfl (Or.inl rfl) (pe_mk W.mk_Daybook (ok_Daybook_init W) (hr.mono (by decide)) W.g_Daybook pass0 rfl (pa_cons (pe_op op_plus (pe_op op_plus pe_str (pe_callTy TxX.c_strI (by rfl) W.f_str (by decide +kernel) (pa_cons (pv 3) pa_nil))) pe_str) pa_nil))) (pss_one (ps_ret (pe_cmpR (op_eqK K hr.units) (pe_methR0 W.c_Daybook W.m_Daybook_fitting_starts (ok_Daybook_fitting_starts W TB_Daybook_starts_for) (hr.mono (by decide)) pass0 (pv 10)) (pe_tup (pa_cons pe_int (pa_cons (pe_op op_minus (pv 3) pe_int) pa_nil))) (nomark _)))))))))), ?_⟩
  have e18 : (10 : Int) ^ ((18 : Int).toNat) = 1000000000000000000 := by decide
  have e06 : (10 : Int) ^ ((6 : Int).toNat) = 1000000 := by decide
  walk_at "q"
  refine ⟨a, ns, 46, rfl, hs, hn, fun h q H0 hh0 hq0 s0 D0 => ?_⟩
  have T0 := tabs_same hT s0
  walk_at "q"
  refine x_iR1At (by decide) (by decide) ?_
  refine x_loop walk_range (fun i σ H1 => Dr H1 h q ∧ Tabs (lamT K) H1 ∧ ∃ v2 v3 v4 v5 v6 v7 v8 v9 v10 v11 v12 v13 v14, σ = [some (.ref a), some (.ref h), v2, v3, v4, v5, v6, v7, v8, v9, v10, v11, v12, v13, v14]) ⟨D0, T0, _, _, _, _, _, _, _, _, _, _, _, _, _, rfl⟩ (fun _ _ _ _ _ => trivial) ?_ ?_
  · rintro i y σ H1' H1 hi ⟨D1, T1, v2, v3, v4, v5, v6, v7, v8, v9, v10, v11, v12, v13, v14, rfl⟩ ⟨rfl, rfl⟩
    walk_at "q"
    refine ⟨h, q, 13, rfl, D1, by decide, by decide, fun c H2 c0 c1 s2 D2 => ?_⟩
    walk_at "q"
    refine ⟨h, q, c + 1, rfl, D2, by omega, by omega, fun st H3 st0 st1 s3 D3 => ?_⟩
    walk_at "q"
    refine ⟨h, q, c, st, 3, rfl, D3, c0, by omega, st0, by omega, by decide, by decide, fun r H4 es hr4 s4 D4 e4 hel heo => ?_⟩
    have G4 := rows_Gd c0 (show c ≤ 100 by omega) hel heo
    have T4 := D3.tabs (D2.tabs (D1.tabs T1 s2) s3) s4
    clear T1 T0 hT s4 s3 s2
    obtain ⟨tl4, tk4⟩ := G4.join nl_tl (y := "\n") (by decide +kernel)
    have c9 : c ≤ big := by unfold big; omega
    have tg := text_good c0 c9 (show es.length ≤ 200 by omega) heo fun e he => enBig_of (by unfold big; omega) (heo e he)
    walk_at "q"
    refine ⟨⟨_, rfl⟩, ?_⟩
    walk_at "q"
    refine x_joinG nl_tl (SqL.of e4) G4 (by decide) ?_
    walk_at "q"
    have tok : okD (dbText c es) := okD_small (by show (Txt.join "\n" (headS c :: es.map enLine)).length ≤ _; omega) tk4
    rw [show Txt.join "\n" (headS c :: es.map enLine) = dbText c es from rfl]
    refine mkDb tok (fun cc es' hg x H5 s5 hd => ?_) fun kb hb => by rw [good_bad tg] at hb; cases hb
    obtain ⟨q1, q2⟩ := good_uniq tg hg
    rw [q1, q2] at hd
    obtain ⟨dx, L, ps, f1, f2, f3⟩ := id hd.ex
    have D5 := D4.mono s5
    have T5 := tabs_same T4 s5
    have e5 := s5 _ _ e4
    walk_at "q"
    refine ⟨sz rfl, fun G hG => ?_⟩; generalize hNG : upd _ G _ = H6; obtain ⟨s6, e6⟩ := nws hNG hG
    walk_at "q"
    refine ⟨sz rfl, fun u7 hu7 => ?_⟩; generalize hN7 : upd _ u7 _ = H7; obtain ⟨s7, e7⟩ := nws hN7 hu7
    walk_at "q"
    refine x_gTup e7 rfl ?_
    walk_at "q"
    refine x_iR1At (by omega) (by omega) ?_
    refine x_loop walk_range (fun j σ Hj => Same H5 Hj ∧ Hj G = some (.lst ((gsI c es j).map V.int)) ∧ ∃ w6 w7 w8, σ = [some (.ref a), some (.ref h), some (.int (0 + (i : Int))), some (.int c), some (.ref r), some (.ref G), w6, w7, w8, v9, v10, some (.ref x), v12, v13, v14]) ⟨s6.trans s7, s7 _ _ e6, _, _, _, rfl⟩ (fun _ _ _ _ _ => trivial) ?_ ?_
    · rintro j y σ Ha' Ha hj ⟨sa, eG, w6, w7, w8, rfl⟩ ⟨rfl, rfl⟩
      have hj1 : (0 : Int) ≤ (j : Int) := Int.natCast_nonneg j
      have hj2 : (j : Int) ≤ c := by omega
      show gName 6 (V.int (0 + (j : Int))) _ _ _
      rw [Int.zero_add (j : Int)]
      walk_at "q"
      refine ⟨r, c, (j : Int), es, rfl, sa _ _ e5, hel, c0, by omega, hj1, hj2, heo, fun T F Hb hT hF sb eT eF => ?_⟩
      have sab := sa.trans sb
      have Gf := rows_Gd c0 (show c ≤ 100 by omega) (es := fillL c es (j : Int)) (by rw [fill_len]; exact hel) (fill_ok ⟨hj1, hj2⟩ heo)
      have tkf : PyData.strOk (dbText c (fillL c es (j : Int))) = true := (Gf.join nl_tl (y := "\n") (by decide +kernel)).2
      refine x_gTup eT rfl ?_
      walk_at "q"
      refine ⟨x, dx, _, rfl, sab _ _ f1, rfl, ?_⟩
      walk_at "q"
      refine ⟨x, c, (j : Int), es, rfl, ⟨_, _, sab _ _ f1⟩, fun _ _ => ⟨hd.mono sab, by omega, fun Hc sc => ?_⟩, fun z => absurd ⟨hj1, hj2⟩ z⟩
      have sac := sab.trans sc
      walk_at "q"
      refine ⟨x, dx, _, rfl, sac _ _ f1, rfl, ?_⟩
      walk_at "q"
      refine ⟨x, c, (j : Int), es, rfl, ⟨_, _, sac _ _ f1⟩, fun _ _ => ⟨hd.mono sac, hel, c0, by omega, heo, fun He se => ?_⟩, fun z => absurd ⟨hj1, hj2⟩ z⟩
      walk_at "q"
      refine ⟨sz rfl, fun l1 hl1 => ?_⟩; generalize hN1 : upd _ l1 _ = Hf; obtain ⟨sf, ef⟩ := nws hN1 hl1
      walk_at "q"
      refine ⟨⟨_, rfl⟩, ?_⟩
      walk_at "q"
      refine x_joinG nl_tl (SqL.of ((sc.trans (se.trans sf)) _ _ eF)) Gf (by decide) ?_
      rw [show Txt.join "\n" (headS c :: (fillL c es (j : Int)).map enLine) = dbText c (fillL c es (j : Int)) from rfl]
      walk_at "q"
      refine ⟨sz rfl, fun l2 hl2 => ?_⟩; generalize hN2 : upd _ l2 _ = Hg; obtain ⟨sg, eg⟩ := nws hN2 hl2
      walk_at "q"
      refine ⟨.ref l1, .ref l2, rfl, al_lst (sg _ _ ef) eg (by show 2 ≤ 10000; decide) (plv_wr tkf), fun Hi si => ?_⟩
      have sai := sac.trans (se.trans (sf.trans (sg.trans si)))
      have eGi := (sb.trans (sc.trans (se.trans (sf.trans (sg.trans si))))) _ _ eG
      walk_at "q"
      cases hw : wrongOf c es (j : Int) with
      | none =>
        rw [show wrV none = V.non from rfl, decide_eq_true rfl]
        walk_at "q"
        refine ⟨ty_lst eGi, ?_⟩
        walk_at "q"
        refine x_app eGi (sz5' (by have := gsI_le c es j; omega)) ?_
        walk_at "q"
        exact ⟨Same.mut sai hG, by rw [upd_same, gsI_t hw], _, _, _, rfl⟩
      | some kk =>
        rw [show wrV (some kk) = V.int (kk : Int) from rfl, decide_eq_false (fun z => nomatch z)]
        walk_at "q"
        exact ⟨sai, by rw [gsI_f hw]; exact eGi, _, _, _, rfl⟩
    · rintro σ Ha ⟨sa, eG, w6, w7, w8, rfl⟩
      have Ta := tabs_same T5 sa
      have Da := D5.mono sa
      have ha := hd.mono sa
      have er := sa _ _ e5
      clear D5 T5 e5 hd f1 f2 f3 tok tg hg s5 s6 s7 e6 e7 sa T4 D4 e4
      dsimp only
      refine x_cut2 (fun σ' H' => Dr H' h q ∧ Tabs (lamT K) H' ∧ DbAt K H' x c es ∧ H' r = some (.lst ((headS c :: es.map enLine).map V.str)) ∧ ∃ (Du : Addr) (vs : List Int), H' Du = some (.lst (vs.map V.int)) ∧ H' G = some (.lst (vs.map V.int)) ∧ ∃ w6 w7 w8 w10 w12 w13 w14, σ' = [some (.ref a), some (.ref h), some (.int (0 + (i : Int))), some (.int c), some (.ref r), some (.ref G), w6, w7, w8, some (.ref Du), w10, some (.ref x), w12, w13, w14]) (fun nx hnx => ?_) ?_
      · walk_at "q"
        obtain ⟨dx, L, ps, f1, f2, f3⟩ := id ha.ex
        refine ⟨x, dx, _, rfl, f1, rfl, ?_⟩
        walk_at "q"
        refine ⟨x, c, es, rfl, ha, by omega, c0, c9, Ta, fun lo hi v Hb xb Tb l0 h1 hf hv => ?_⟩
        have Db := Da.ext xb
        have hb := db_ext ha xb
        have erb := ExtN.lst xb er
        have eGb := ExtN.lst xb eG
        rcases hv with ⟨hlh, T, rfl, eT⟩ | ⟨hlh, rfl⟩
        · have hgs := gsI_some hf l0 h1 hlh
          have hn0 : 0 < (hi + 1 - lo).toNat := by omega
          have hne : gsI c es (c + 1).toNat ≠ [] := fun z => by
            rw [hgs] at z
            have := congrArg List.length z
            rw [List.length_map, List.length_range] at this
            exact absurd this (by show ¬ _ = 0; omega)
          walk_at "q"
          refine ⟨sz rfl, fun u1 hu1 => ?_⟩; generalize hN1 : upd _ u1 _ = Hc; obtain ⟨sc, ec⟩ := nws hN1 hu1
          refine x_neL (ms := []) (SqL.of (sc _ _ eGb)) (SqL.of ec) ?_
          rw [decide_eq_false hne]
          rw [hgs] at eGb
          have g0 := rng_at (lo := lo) (hi := hi) (i := 0) hn0
          have g1 := rng_at (lo := lo) (hi := hi) (i := (hi + 1 - lo).toNat - 1) (by omega)
          have hlen : (((List.range (hi + 1 - lo).toNat).map fun j : Nat => lo + (j : Int)).map V.int).length = (hi + 1 - lo).toNat := by rw [List.length_map, List.length_map, List.length_range]
          rw [show lo + ((0 : Nat) : Int) = lo by omega] at g0
          rw [show lo + (((hi + 1 - lo).toNat - 1 : Nat) : Int) = hi by omega] at g1
          generalize hgl : ((List.range (hi + 1 - lo).toNat).map fun j : Nat => lo + (j : Int)) = gi at eGb g0 g1 hlen
          have gm := atI_m1 (xs := gi.map V.int) (v := .int hi) (by rw [hlen]; exact hn0) (by rw [hlen]; exact g1)
          have eGc := sc _ _ eGb
          walk_at "q"
          refine x_ixL (SqL.of eGc) (i := ((0 : Nat) : Int)) (v := .int lo) (atI_nat g0) ?_
          walk_at "q"
          refine x_ixL (SqL.of eGc) (i := -1) (v := .int hi) gm ?_
          walk_at "q"
          refine ⟨sz rfl, fun u2 hu2 => ?_⟩; generalize hN2 : upd _ u2 _ = Hd; obtain ⟨sd, ed⟩ := nws hN2 hu2
          walk_at "q"
          refine ⟨.ref T, .ref u2, rfl, al_tup ((sc.trans sd) _ _ eT) ed (by show 2 ≤ 10000; decide) plv_two, fun He se => ?_⟩
          have eGe := (sd.trans se) _ _ eGc
          walk_at "q"
          refine ⟨sz rfl, fun u3 hu3 => ?_⟩; generalize hN3 : upd _ u3 _ = Hf; obtain ⟨sf, ef⟩ := nws hN3 hu3
          have eGf := sf _ _ eGe
          refine x_neL (ms := []) (SqL.of eGf) (SqL.of ef) ?_
          rw [decide_eq_false (show ¬ gi = [] by rw [← hgl, ← hgs]; exact hne)]
          walk_at "q"
          refine x_ixL (SqL.of eGf) (i := ((0 : Nat) : Int)) (v := .int lo) (atI_nat g0) ?_
          walk_at "q"
          refine x_ixL (SqL.of eGf) (i := -1) (v := .int hi) gm ?_
          walk_at "q"
          refine x_iR2At ⟨by omega, by omega, by omega, by omega⟩ ?_
          refine x_lcA walk_range (fun j acc _ => acc = ((List.range j).map fun j : Nat => lo + (j : Int)).map V.int) (fun _ _ _ _ _ _ _ h => h) (fun _ _ => rfl) (by omega) (fun _ _ => trivial) ?_ ?_
          · rintro j y acc H8 H9 NT NF hTT hFF hj s8 rfl ⟨rfl, rfl⟩
            walk_at "q"
            refine ⟨rfl, ?_⟩
            walk_at "q"
            refine hTT _ _ (Same.refl _) ?_
            rw [List.range_succ, List.map_append, List.map_append]
            rfl
          rintro Du acc Hg hDu sg eDu rfl hdl
          rw [← hgl] at eGf
          walk_at "q"
          have sT := sc.trans (sd.trans (se.trans (sf.trans sg)))
          exact hnx _ _ ⟨Db.mono sT, tabs_same Tb sT, hb.mono sT, sT _ _ erb, Du, _, eDu, sg _ _ eGf, _, _, _, _, _, _, _, rfl⟩
        · have hgs := gsI_none hf c0 hlh
          rw [hgs] at eGb
          walk_at "q"
          refine ⟨sz rfl, fun u1 hu1 => ?_⟩; generalize hN1 : upd _ u1 _ = Hc; obtain ⟨sc, ec⟩ := nws hN1 hu1
          refine x_neL (ns := []) (ms := []) (SqL.of (sc _ _ eGb)) (SqL.of ec) ?_
          rw [decide_eq_true rfl]
          walk_at "q"
          refine ⟨.non, .non, rfl, .inl (.inl (.inl ⟨rfl, rfl⟩)), fun Hd sd => ?_⟩
          walk_at "q"
          refine ⟨sz rfl, fun u2 hu2 => ?_⟩; generalize hN2 : upd _ u2 _ = He; obtain ⟨se, ee⟩ := nws hN2 hu2
          refine x_neL (ns := []) (ms := []) (SqL.of (se _ _ (sd _ _ (sc _ _ eGb)))) (SqL.of ee) ?_
          rw [decide_eq_true rfl]
          walk_at "q"
          refine ⟨sz rfl, fun u3 hu3 => ?_⟩; generalize hN3 : upd _ u3 _ = Hf; obtain ⟨sf, ef⟩ := nws hN3 hu3
          walk_at "q"
          have sT := sc.trans (sd.trans (se.trans sf))
          exact hnx _ _ ⟨Db.mono sT, tabs_same Tb sT, hb.mono sT, sT _ _ erb, u3, [], ef, sT _ _ eGb, _, _, _, _, _, _, _, rfl⟩
      clear Da Ta ha er eG
      rintro σ Ha ⟨Da, Ta, ha, er, Du, vs, eD, eG, w6, w7, w8, w10, w12, w13, w14, rfl⟩
      walk_at "q"
      refine x_neL (SqL.of eG) (SqL.of eD) ?_
      rw [decide_eq_true rfl]
      walk_at "q"
      obtain ⟨dx, L, ps, f1, f2, f3⟩ := id ha.ex
      refine x_propAt f1 ⟨x, c, es, rfl, ha, ?_⟩
      walk_at "q"
      refine x_lenL (SqL.of er) ?_
      rw [List.length_map, List.length_cons, List.length_map]
      walk_at "q"
      refine x_ifnd (fun hne => absurd rfl hne) fun _ => ?_
      walk_at "q"
      refine ⟨sz rfl, fun u2 hu2 => ?_⟩; generalize hN2 : upd _ u2 _ = H2; obtain ⟨s2, e2⟩ := nws hN2 hu2
      obtain ⟨u2h, u2q⟩ := Da.neN hu2
      walk_at "q"
      refine ⟨h, q, 2, rfl, Da.mono s2, by decide, by decide, fun z3 H3 z30 z31 s3 D3 => ?_⟩
      have T3 := (Da.mono s2).tabs (tabs_same Ta s2) s3
      obtain ⟨m, ix, ms, g1, g2, _, _⟩ := (Da.mono s2).ex
      have I3 := s3 _ _ (fun z => by rw [z] at f1; have := s2 _ _ f1; rw [g1] at this; cases this) (fun z => by rw [z] at f1; have := s2 _ _ f1; rw [g2] at this; cases this) (s2 _ _ f1)
      obtain ⟨far, hfar, hfb⟩ : ∃ v : Int, atI [V.int (-1), V.int (c + 1)] z3 = some (.int v) ∧ ¬ (0 ≤ v ∧ v ≤ c) := by
        have : z3 = 0 ∨ z3 = 1 := by omega
        rcases this with h | h <;> rw [h]
        · exact ⟨-1, rfl, by omega⟩
        · exact ⟨c + 1, rfl, by omega⟩
      refine x_ixL (SqL.of (s3 _ _ u2h u2q e2)) hfar ?_
      walk_at "q"
      refine LamV.x_lamMk (k := lamK) T3 (LamV.lamS3_by (N := N_law) (sc := defScope s_law) (by decide +kernel)) (fun f c' A outer s H E hr => (pe_methR W.c_Daybook W.m_Daybook_check (okx_Daybook_check W) (hr.mono (by decide)) (passes_call (takes_of rfl rfl rfl rfl) (fun _ _ _ _ h => h)) (pv 11) (pa_cons (pv 12) pa_nil))) (fun _ _ _ _ _ => rfl) fun f4 H4 x4 T4 La4 => ?_
      walk_at "q"
      refine LamV.x_lamMk1 (k := lamK) "_law_a" T4 (LamV.lamS3_by (N := N_law) (sc := defScope s_law) (by decide +kernel)) (fun f c' A outer s H E hr => (pe_methR W.c_Daybook W.m_Daybook_filled (okx_Daybook_filled W) (hr.mono (by decide)) (passes_call (takes_of rfl rfl rfl rfl) (fun _ _ _ _ h => h)) (pv 11) (pa_cons (pv 12) pa_nil))) rfl (fun _ _ _ _ _ _ _ => by exact ⟨_, rfl, rfl⟩) fun f5 H5 x5 T5 La5 => ?_
      walk_at "q"
      refine ⟨sz rfl, fun wk hwk => ?_⟩; generalize hNw : upd _ wk _ = H6; obtain ⟨sw, ew⟩ := nws hNw hwk
      have D5 := (D3.ext x4).ext x5
      have B0 : Wk (cxOf CX0 P w K mg base N_law "law" (defScope s_law) (ga K "law") cdv A outer s H E).nox [] K h q x dx L c wk [.ref f4, .ref f5] H6 := ⟨D5.mono sw, tabs_same T5 sw, (fun p hp => nomatch hp), sw _ _ (ExtN.ins x5 (ExtN.ins x4 I3)), ew, D5.neN hwk⟩
      have B6 := (B0.add (p := (f5, _)) (La5.same sw)).add (p := (f4, _)) ((La4.ext x5).same sw)
      refine x_iLAt (SqL.of ew) ?_
      refine x_lcG walk_list (PvC _ _ K h q x dx L c wk _) (fun D hD => ⟨B6.same (Same.new hD), [], upd_same, rfl, fun z hz => nomatch hz⟩) (fun D j H9 _ z => SqL.of z.1.W) ?_ ?_
      · rintro D1 j y Hb' Hb hD1 hj B9 ⟨rfl, ey⟩
        obtain ⟨d1h, d1q⟩ := B6.D.neN hD1
        have d1w : D1 ≠ wk := fun z => by rw [z, B6.W] at hD1; cases hD1
        walk_at "q"
        refine ⟨rfl, ?_⟩
        walk_at "q"
        have hj2 : j < 2 := hj
        have fin := fun Hx s => fin_num (Hx := Hx) W B9 d1h d1q d1w hj2 s
        have I9 := B9.1.I
        match j, ey, fin with
        | 0, ey, fin =>
          cases ey
          refine LamV.x_outI (B9.1.A _ List.mem_cons_self) rfl (fun _ _ z h => z _ _ h) (x_TTo ?_)
          refine ⟨_, rfl, ?_⟩
          walk_at "q"
          refine ⟨x, dx, _, rfl, I9, rfl, ?_⟩
          walk_at "q"
          exact ⟨x, c, far, [], rfl, ⟨_, _, I9⟩, fun z0 z1 => absurd ⟨z0, z1⟩ hfb, fun _ H9 s9 => .inl (fin _ s9)⟩
        | 1, ey, fin =>
          cases ey
          refine LamV.x_outI (B9.1.A _ (List.mem_cons_of_mem _ List.mem_cons_self)) rfl (fun _ _ z h => z _ _ h) (x_TTo ?_)
          refine ⟨_, rfl, ?_⟩
          walk_at "q"
          refine ⟨x, dx, _, rfl, I9, rfl, ?_⟩
          walk_at "q"
          exact ⟨x, c, far, [], rfl, ⟨_, _, I9⟩, fun z0 z1 => absurd ⟨z0, z1⟩ hfb, fun _ H9 s9 => .inl (fin _ s9)⟩
        | j + 2, ey, _ => cases ey
      rintro D1 H27 hD1 ⟨B27, ys, hys, hyl, hyb⟩
      have hyl : ys.length = 2 := hyl
      walk_at "q"
      refine ⟨sz rfl, fun t32 ht32 => ?_⟩; generalize hN32 : upd _ t32 _ = H32; obtain ⟨s32, e32⟩ := nws hN32 ht32
      walk_at "q"
      refine ⟨sz rfl, fun t33 ht33 => ?_⟩; generalize hN33 : upd _ t33 _ = H33; obtain ⟨s33, e33⟩ := nws hN33 ht33
      walk_at "q"
      refine n_rep (i := 2) e33 (by decide) (by decide) (sz5 (Nat.le_of_ble_eq_true rfl)) fun t34 H34 ht34 s34 e34 => ?_
      have sE := s32.trans (s33.trans s34)
      refine x_neTups (vs := [.str "number"]) (SqL.of (sE _ _ hys)) (SqL.of e34) (by rw [hyl]; rfl) (fun z hz => ?_) (fun z hz => ?_) (by decide +kernel) ?_
      · obtain ⟨d, e, g⟩ := hyb z hz
        exact ⟨d, e, sE _ _ g⟩
      · have : z = .ref t32 := by
          have hz : z ∈ [V.ref t32, V.ref t32] := hz
          simpa using hz
        exact ⟨t32, this, s34 _ _ (s33 _ _ e32)⟩
      walk_at "q"
      have B34 := B27.same sE
      exact ⟨B34.D, B34.T, _, _, _, _, _, _, _, _, _, _, _, _, _, rfl⟩
  · rintro σ H1 ⟨D1, T1, v2, v3, v4, v5, v6, v7, v8, v9, v10, v11, v12, v13, v14, rfl⟩
    walk_at "q"
    refine x_pow ⟨by decide, by decide, by decide⟩ ?_
    rw [e18]
    walk_at "q"
    refine x_pow ⟨by decide, by decide, by decide⟩ ?_
    rw [e06]
    walk_at "q"
    refine ⟨h, q, 1000000, rfl, D1, by decide, by decide, fun z H2 z0 z1 s2 D2 => ?_⟩
    have T2 := D1.tabs T1 s2
    obtain ⟨c, hc⟩ : ∃ c : Int, c = 1000000000000000000 - z := ⟨_, rfl⟩
    have c1 : 100 ≤ c := by omega
    have c9 : c ≤ big := by unfold big; omega
    have c0 : 0 ≤ c := by omega
    walk_at "q"
    rw [← hc]
    clear hc z0 z1 s2 T1 D1 T0 s0 D0 hT hs
    obtain ⟨o1, o2, o3, o4⟩ := okF c1
    have ncl := nt_len c0 (show c < 10 ^ 20 by unfold big at c9; omega)
    have lF := far_ok (z := "\nred 5 carried ?\nblue 7 carried 3\nturn\nblue has ?") c0 c9 (by decide) (by decide +kernel)
    have lW := far_ok (z := "\nred 5 carried 0\nturn\nred 7 carried 0\nblue has ?") c0 c9 (by decide) (by decide +kernel)
    rw [textF] at lF
    rw [textW] at lW
    have gF := text_good c0 c9 (show esF.length ≤ 200 by decide) o1 o2
    have gW := text_good c0 c9 (show esW.length ≤ 200 by decide) o3 o4
    have tF := okD_small lF.1 lF.2
    have tW := okD_small lW.1 lW.2
    walk_at "q"
    refine x_strI (by unfold big at c9; omega) ?_
    walk_at "q"
    refine x_plusStr (by show 7 + _ ≤ _; omega) ?_
    walk_at "q"
    refine x_plusStr (by rw [app_len]; show 7 + _ + 49 ≤ _; omega) ?_
    rw [textF c]
    walk_at "q"
    refine mkDb tF (fun cc es' hg x H3 s3 hd => ?_) fun kb hb => by rw [good_bad gF] at hb; cases hb
    obtain ⟨q1, q2⟩ := good_uniq gF hg
    rw [q1, q2] at hd
    have T3 := tabs_same T2 s3
    clear q1 q2 hg
    obtain ⟨dx, L, ps, f1, f2, f3⟩ := id hd.ex
    walk_at "q"
    refine ⟨x, dx, _, rfl, f1, rfl, ?_⟩
    walk_at "q"
    refine ⟨x, c, esF, rfl, hd, by decide, c0, c9, T3, fun lo hi v Hb xb Tb l0 h1 hf hv => ?_⟩
    obtain ⟨w1, w2⟩ := farF c1 l0 h1 hf
    obtain ⟨T, ev, eT⟩ : ∃ T, v = .ref T ∧ Hb T = some (.tup [.int lo, .int hi]) := by
      rcases hv with ⟨_, z⟩ | ⟨z, _⟩
      · exact z
      · omega
    subst ev
    rw [w1, w2] at eT
    have hb := db_ext hd xb
    have fb := ExtN.ins xb f1
    walk_at "q"
    refine ⟨sz rfl, fun u2 hu2 => ?_⟩; generalize hN2 : upd _ u2 _ = Hc; obtain ⟨sc, ec⟩ := nws hN2 hu2
    refine x_neP (sc _ _ eT) ec ?_
    rw [decide_eq_true ⟨rfl, rfl⟩]
    walk_at "q"
    refine ⟨x, dx, _, rfl, sc _ _ fb, rfl, ?_⟩
    walk_at "q"
    refine ⟨x, c, c - 4, esF, rfl, ⟨_, _, sc _ _ fb⟩, fun _ _ => ⟨hb.mono sc, by decide, fun Hd sd => ?_⟩, fun z => absurd ⟨by omega, by omega⟩ z⟩
    rw [wrong_fits.mpr ((fitsF c1 (by omega) (by omega)).mpr rfl)]
    walk_at "q"
    rw [show wrV none = V.non from rfl, decide_eq_true rfl]
    walk_at "q"
    refine x_propAt (sd _ _ (sc _ _ fb)) ⟨x, c, esF, rfl, hb.mono (sc.trans sd), ?_⟩
    walk_at "q"
    refine x_ifnd (fun hne => absurd rfl hne) fun _ => ?_
    walk_at "q"
    refine x_strI (by unfold big at c9; omega) ?_
    walk_at "q"
    refine x_plusStr (by show 7 + _ ≤ _; omega) ?_
    walk_at "q"
    refine x_plusStr (by rw [app_len]; show 7 + _ + 48 ≤ _; omega) ?_
    rw [textW c]
    walk_at "q"
    have T4 := tabs_same Tb (sc.trans sd)
    clear hd f1 f2 f3 hb fb eT ec sc sd xb Tb T3
    refine mkDb tW (fun cc es' hg x H3 s3 hd => ?_) fun kb hb => by rw [good_bad gW] at hb; cases hb
    obtain ⟨q1, q2⟩ := good_uniq gW hg
    rw [q1, q2] at hd
    clear q1 q2 hg
    obtain ⟨dx, L, ps, f1, f2, f3⟩ := id hd.ex
    walk_at "q"
    refine ⟨x, dx, _, rfl, f1, rfl, ?_⟩
    walk_at "q"
    refine ⟨x, c, esW, rfl, hd, by decide, c0, c9, tabs_same T4 s3, fun lo hi v Hb xb Tb l0 h1 hf hv => ?_⟩
    obtain ⟨w1, w2⟩ := farW c1 l0 h1 hf
    obtain ⟨T, ev, eT⟩ : ∃ T, v = .ref T ∧ Hb T = some (.tup [.int lo, .int hi]) := by
      rcases hv with ⟨_, z⟩ | ⟨z, _⟩
      · exact z
      · omega
    subst ev
    rw [w1, w2] at eT
    walk_at "q"
    refine ⟨sz rfl, fun u2 hu2 => ?_⟩; generalize hN2 : upd _ u2 _ = Hc; obtain ⟨sc, ec⟩ := nws hN2 hu2
    refine x_eqP (sc _ _ eT) ec ?_
    rw [decide_eq_true ⟨rfl, rfl⟩]
    exact k _
end
end K46

set_option Elab.async false
set_option linter.all false
set_option autoImplicit false
set_option maxRecDepth 100000
set_option pp.maxSteps 500
namespace K46
open PySem PySem.Spec PyProof.Rows L2 He ChH LamX
theorem facts {P : Program} {w : World} {K : PySem.W.Frag} {h : Heap} {mg : Str → Option Value} {f : Addr} (X : K.In h) (G : h.Ns mainGlobals mg) (hfa : mg ("law" : Str) = some (.ref f)) (c : SaysC faL xsL dfL K) :
    ∃ W : Wd K mg, f = ga K "law" ∧ ∃ fd : FuncData, (∀ (s : Shared) (v : Value), BindsTo s fd ⟨[v], []⟩ [("_law_script", v)]) ∧ ∀ base : Heap, K.In base → base.Ns mainGlobals mg → TabB base mg (cdA K (ga K "law")) (tbA K (ga K "law")) → TabB base mg (cdA K (ma K (ga K "Daybook") "starts_for")) (tbA K (ma K (ga K "Daybook") "starts_for")) → FnOk P w K mg base CX0 lawLv f fd ["_law_script"] (spLaw K) := by
  have W : Wd K mg := ⟨⟨h, X, G⟩, c⟩
  have e := hfa.symm.trans W.g_law
  cases e
  have b := FunD.bindsA (ps := ["_law_script"]) W.F_law fun _ _ _ _ _ _ us hl => match us, hl with | [_], _ => rfl
  exact ⟨W, rfl, _, fun s v => b s [v] rfl, fun base _ _ TB TB2 => ok_law W TB TB2⟩
end K46
open PySem PySem.W PyProof.Rows
set_option maxRecDepth 100000 in
set_option maxHeartbeats 0 in
theorem PySem.Challenge.cw_chaircarry_k46_whole_daybooks_for_all_st_holds : PySem.Challenge.rw_chaircarry_k46_whole_daybooks_for_all_st.Holds := by
  w_on; o_law
  refine HandSHeadRun.head_any (r := OpenLaw.row PySem.Challenge.rw_chaircarry_k46_whole_daybooks_for_all_st) (q := view (OpenLaw.row PySem.Challenge.rw_chaircarry_k46_whole_daybooks_for_all_st).prog [40]) (H := K46.hk) (ob := K46.ob) (M := 8000) (loose := K46.loose) (d := HandSHeadRun.topDef (OpenLaw.row PySem.Challenge.rw_chaircarry_k46_whole_daybooks_for_all_st).prog 40) (kwd := []) K46.ob_eq
    (by kernel_rfl) (fun s => by kernel_rfl) K46.run (by kernel_rfl) (by kernel_rfl) (by kernel_rfl) (by rfl) (by first | assumption | decide +kernel) (by decide +kernel) ⟨rfl, rfl, rfl, rfl, rfl, by decide +kernel⟩ ?hw ?hc
  case hw => w_witness2
  case hc =>
    refine Ch.walk_tab (l := PySem.Challenge.rw_chaircarry_k46_whole_daybooks_for_all_st) (n := 63) (k := K46.lawLv) (x := "_law_script") (CX := L2.CX0) rfl (by decide) (by kernel_rfl) ⟨rfl, by decide, by decide⟩ ?F (fun _ _ _ _ z => z)
    intro w mg fa h Y G hmg0
    obtain ⟨K, KX, c, ms⟩ := Y
    have hmg : mg ("law" : PySem.Str) = some (.ref fa) := by
      have e : (HandSHeadRun.topDef (OpenLaw.row PySem.Challenge.rw_chaircarry_k46_whole_daybooks_for_all_st).prog 40).name = ("law" : PySem.Str) := by kernel_rfl
      rw [← e]
      exact hmg0
    obtain ⟨W, ef, fd, hb, hF⟩ := K46.facts (P := (PySem.Challenge.rw_chaircarry_k46_whole_daybooks_for_all_st).prog) (w := w) KX G hmg c
    refine ⟨K, KX, fun own => ⟨fd, [(ChH.cdA K (He.ga K "law"), ChH.tbA K (He.ga K "law")), (ChH.cdA K (He.ma K (He.ga K "Daybook") "starts_for"), ChH.tbA K (He.ma K (He.ga K "Daybook") "starts_for"))], K46.spLaw K, ?_, ?_, ?_, hb, ?_, ?_⟩⟩
    · intro p hp
      rcases List.mem_cons.mp hp with e | hp
      · rw [e]
        exact ChH.TabOk.empty (x := "law") W.tb_law W.F_law (own "law" _ (by kernel_rfl) W.g_law)
      · rw [List.mem_singleton.mp hp]
        exact ms (fun K => He.ma K (He.ga K "Daybook") "starts_for") List.mem_cons_self
    · intro p hp
      rcases List.mem_cons.mp hp with e | hp
      · rw [e]
        exact W.tb_law.none_
      · rw [List.mem_singleton.mp hp]
        exact W.tb_Daybook_starts_for.none_
    · intro p hp
      rcases List.mem_cons.mp hp with e | hp
      · rw [e]
        exact W.tb_law.hd h KX
      · rw [List.mem_singleton.mp hp]
        exact W.tb_Daybook_starts_for.hd h KX
    · intro H a ns hl _ hT hS
      exact ⟨a, ns, rfl, hS, Nat.le_trans hl (by decide), fun p hp => by
        rcases List.mem_cons.mp hp with e | hp
        · rw [e]
          exact LamX.TabS.nil (hT _ List.mem_cons_self)
        · rw [List.mem_singleton.mp hp]
          exact LamX.TabS.nil (hT _ (List.mem_cons_of_mem _ List.mem_cons_self)), fun _ => rfl⟩
    · intro base hk hg hT
      exact hF base hk hg (hT _ List.mem_cons_self) (hT _ (List.mem_cons_of_mem _ List.mem_cons_self))
#print axioms PySem.Challenge.cw_chaircarry_k46_whole_daybooks_for_all_st_holds
