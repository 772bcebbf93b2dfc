import PyProof.Rows.All
import Wide.All
import OpenK.AllK
import Wide.FinOn
import KE.KUnpackStar
import HandS.Base
import HandS.Call
import KE.GoesEnum
import HandS.List
import HandS.Iter
import HandS.Walk
import HandS.Flt
import HandS.More
import HandS.Star
import HandS.Property
import HandS.Defaults
import HandS.ClsMeth
import HandS.Words
import HandS.ForMost
import HandS.Exc
import HandS.TryOnly
import HandS.ExcOwn
import HandS.WordsExc
import HandS.IsInst
import HandS.Wide
import HandS.Style
import HandS.Conv
import HandS.Flow
import HandS.Ends
import HandS.HeadHook1
import HandS.HeadHook2
import HandS.HeadHook3
import HandS.HeadNt
import HandS.ExcInit
import HandS.MakeKwOnly
import HandS.Lambda
import HandS.EndTab
import HandS.EndOwn
import HandS.ExcField
import PyProof.WalkInts
import HandS.TryMany
import KE.KExcRaise
import HandS.ExcCtx
import HandS.Hot
import HandS.HotCalls
import HandS.SuiteRaise
import PyProof.RulesMatchSeq
import PyProof.Rows.MatchSeqLen
import KE.KUnpack
import KE.KSuper
import HandS.MethStar
import HandS.Nested
import HandS.GenList
import HandS.Comp
import HandS.GenCall
import KE.KExcIs
import HandS.ExcIs
import HandS.SetFor
import HandS.Strs
import PySem.Challenge.RW_chaircarry_k42_whole_texts_of_bookings
import KE.KStateDown
import HandS.Head0
import HandS.Head1
import HandS.Head2
import HandS.HeadEnd
import HandS.Deep
import PyProof.P3Eq
import KE.KIntText
import HandS.Text
import PyProof.SliceList
import HandS.RaiseFrom
import HandS.ExcInitHot
set_option Elab.async false
set_option linter.all false
set_option autoImplicit false
set_option maxRecDepth 100000
set_option maxHeartbeats 4000000
namespace Ch
open PySem PySem.Spec PyProof.Rows L2
/-! ### a star among the targets: a, *b = a tuple -/
section
variable {prog : Program} {w : World} {A : Around} {E : Value → Shared → Prop} {s : Shared}
theorem star_tup {t : Addr} {its : Array Value} {n i : Nat} {Q : List Value → Shared → Prop} (ht : IsTup s.heap t its) (hand : A.handled = none) (hin : i < n) (hle : n ≤ its.size + 1) (hsz : its.size ≤ 16384)
    (k : ∀ (g : Heap) (tk : Nat), (∀ b o, s.heap.get? b = some o → g.get? b = some o) → Q (its.toList.take i ++ [.ref g.objs.size] ++ (its.toList.drop i).drop (its.size + 1 - n)) { s with heap := g.push { cls := .type "list", data := .seq ((its.toList.drop i).take (its.size + 1 - n)).toArray }, toks := tk }) :
    wpAny (model prog w) A (unpackItems (.ref t) n (some i)) Q E s := by
  have tlt : t < s.heap.objs.size := by
    obtain ⟨o, ho, _⟩ := ht
    exact Heap.lt_size ho
  have tne : t ≠ s.heap.objs.size := Nat.ne_of_lt tlt
  unfold unpackItems
  refine wpAny_bind ?_
  unfold notIterableAtAll
  refine wpAny_bind (wpAny_specialOf ht.typeIs slot_tuple_iter.lookup (wpAny_pure ?_))
  simp only [Bool.false_eq_true, if_false]
  refine wpAny_bind (wpAny_holding (iter_tuple ht (?_)))
  refine wpAny_bind (wpAny_holding (draw_tuple tne i 0 _ _ ⟨_, Heap.get?_push_size _ rfl, rfl, rfl⟩ (ht.push _) (by omega) fun g1 it1 sb1 => ?_))
  have ht1 : IsTup g1 t its := (ht.push _).extBut sb1.extBut tne
  rw [Nat.zero_add] at it1
  obtain ⟨oi, hoi, hoi2⟩ := id it1
  obtain ⟨ot, hot, _⟩ := id ht1
  rw [List.drop_zero]
  have lf : (its.toList.take i).length = i := by
    rw [List.length_take, Array.length_toList]
    omega
  have lr : (its.toList.drop i).length = its.size - i := by
    rw [List.length_drop, Array.length_toList]
  rw [if_neg (show ¬ ((its.toList.take i).length < i) by omega)]
  refine wpAny_bind (wpAny_holding (PySem.W.kun_collect (s := { s with heap := g1 }) (T := "tuple_iterator") (Or.inr (Or.inr (Or.inr rfl))) (Walks.tuple (A := A.in1) hand s.heap.objs.size t tne its) (fun _ _ st => st.1.typeIs) (k := i) (by omega) ⟨it1, ht1⟩ (Heap.lt_size hoi) (Heap.lt_size hot) (fun g2 tk kp => ?_) (by rw [sizeLine_eq]; omega)))
  have lm : (its.toList.drop i).length - (n - 1 - i) = its.size + 1 - n := by omega
  show wpAny _ _ (if (its.toList.drop i).length < n - 1 - i then _ else _) _ _ _
  rw [if_neg (by omega)]
  show wpAny _ _ (newList ((its.toList.drop i).take ((its.toList.drop i).length - (n - 1 - i))) >>= fun d => pure (its.toList.take i ++ [d] ++ (its.toList.drop i).drop ((its.toList.drop i).length - (n - 1 - i)))) _ _ _
  rw [lm]
  have keep : ∀ b o, s.heap.get? b = some o → g2.get? b = some o := fun b o e => by
    have hb : b ≠ s.heap.objs.size := Nat.ne_of_lt (Heap.lt_size e)
    exact kp b o hb (sb1.extBut b o hb (Heap.get?_push_of_some _ e))
  refine wpAny_bind (wpAny_newList (s := { s with heap := g2, toks := tk }) (wpAny_pure (k g2 tk keep)) ?_)
  rw [List.length_take, lr, sizeLine_eq]
  omega
end
section
variable {X : Cx} {pos : Pos}
theorem pgs_star {e : Expr} {p : Pos} {es : List Expr} {t : TG} {u : TGs} (h1 : PG X e t) (h2 : PGs X es u)
    (hs : (assignEach (.Starred e p :: es) X.env).map (·.2) = assign e X.env :: (assignEach es X.env).map (·.2) := by rfl) : PGs X (.Starred e p :: es) (gCons t u) := by
  refine ⟨fun pins s σ H vs us Q I r ⟨v, vr, ev, h⟩ => ?_⟩
  subst ev
  cases r with
  | cons ra rb =>
    rw [hs]
    exact assignInOrder_cons (thn (h1.run pins s σ H _ _ _ I ra h) fun _ s1 ⟨σ1, H1, I1, q1⟩ => h2.run pins s1 σ1 H1 _ _ Q I1 rb q1)
/-- n targets, the i-th with a star, a tuple of fewer or more items -/
def gStar (K : PySem.W.Frag) (n i : Nat) (t : TGs) : TG := fun v σ H Q => ∃ a xs, v = .ref a ∧ SqT K H a xs ∧ i < n ∧ n ≤ xs.length + 1 ∧ xs.length ≤ 16384 ∧
  ∀ d, H d = none → t (xs.take i ++ [.ref d] ++ (xs.drop i).drop (xs.length + 1 - n)) σ (upd H d (.lst ((xs.drop i).take (xs.length + 1 - n)))) Q
theorem pg_star {es : List Expr} {k : Nat} {t : TGs} {n i : Nat} (hc : X.calm = true) (h : PGs X es t)
    (hn : (assignEach es X.env).length = n := by rfl) (hst : (assignEach es X.env).findIdx? (·.1) = some i := by rfl) : PG X (.Tuple es k pos) (gStar X.K n i t) := by
  refine ⟨fun pins s σ H v u Q I r ⟨a, xs, ev, hq, hin, hle, hsz, q⟩ => ?_⟩
  subst ev
  cases r
  obtain ⟨its, rv, ht, _⟩ := I.tuple hq
  have el : its.length = xs.length := rv.length.symm
  rw [assign_Tuple]
  refine wpAny_bind (wpAny_standAt ?_)
  unfold unpack
  rw [hn, hst]
  refine wpAny_bind (wpAny_holding (star_tup ht (I.ok.hd hc) hin (by simp [el]; omega) (by simp [el]; omega) fun g tk keep => ?_))
  have esz : its.toArray.size + 1 - n = xs.length + 1 - n := by simp [el]
  rw [esz]
  have I1 : Inv X pins σ H { s with heap := g, toks := tk } := I.kept (t' := tk) keep
  have hf : H g.objs.size = none := I1.hok.fresh (Nat.le_refl _)
  have I2 : Inv X pins σ (upd H g.objs.size (.lst ((xs.drop i).take (xs.length + 1 - n)))) { s with heap := g.push { cls := .type "list", data := .seq ((its.toArray.toList.drop i).take (xs.length + 1 - n)).toArray }, toks := tk } := by
    refine I1.laid (t' := tk) (fun b u e => Heap.get?_push_of_some _ e) (Nat.le_refl _) ⟨?_, (its.drop i).take (xs.length + 1 - n), 0, (rv.drop i).take _, Heap.get?_push_size _ rfl⟩
    rw [List.length_take, List.length_drop, sizeLine_eq]
    omega
  refine h.run pins _ σ _ _ _ Q I2 ?_ (q _ hf)
  exact Vals.append (Vals.append (rv.take i) (.cons rfl .nil)) ((rv.drop i).drop _)
end
end Ch

set_option Elab.async false
set_option linter.all false
set_option autoImplicit false
set_option maxRecDepth 100000
set_option maxHeartbeats 4000000
namespace Ch
open PySem PySem.Spec PyProof.Rows L2
/-! ### a < b < c < d as a test -/
def tChain3 (r1 r2 r3 : R2) (ta tb tc td : TE) : TE := fun σ H Q => ta σ H fun x H1 => tb σ H1 fun y H2 => r1 x y H2 fun z H3 => ∃ k, z = .bl k ∧
  (if k = true then tc σ H3 fun x2 H4 => r2 y x2 H4 fun z2 H5 => ∃ k2, z2 = .bl k2 ∧ (if k2 = true then td σ H5 fun x3 H6 => r3 x2 x3 H6 Q else Q (.bl false) H5) else Q (.bl false) H3)
section
variable {X : Cx} {a b c d : Expr} {ta tb tc td : TE} {pos : Pos}
theorem pt_chain3 {o1 o2 o3 : CmpOp} {r1 r2 r3 : R2} (h1 : OpR X (compareOp o1) r1) (h2 : OpR X (compareOp o2) r2) (h3 : OpR X (compareOp o3) r3) (ha : PE X a ta) (hb : PE X b tb) (hc : PE X c tc) (hd : PE X d td)
    (hm : lastMarks [o1, o2, o3] [b, c, d] = false := by with_unfolding_all rfl) : PT X (.Compare a [o1, o2, o3] [b, c, d] pos) (tTest (tChain3 r1 r2 r3 ta tb tc td)) := by
  refine ⟨fun pins s σ H Q I h => isTrue_chain (thn (ha.run pins s σ H _ I h) fun v s1 ⟨x, H1, I1, e1, q1⟩ => test_link (thn (hb.run pins s1 σ H1 _ I1 q1) fun u s2 ⟨y, H2, I2, e2, q2⟩ =>
    thn (h1 pins s2 σ H2 x y v u _ I2 e1 e2 q2) fun w1 s3 ⟨z, H3, I3, e3, k, ek, q3⟩ => ?_)) hm⟩
  subst ek
  cases e3
  refine wpAny_truthy_bool ?_
  cases k with
  | false =>
    obtain ⟨k', ek', q'⟩ := q3
    cases ek'
    exact ite_ff ⟨H3, I3, q'⟩
  | true =>
    refine ite_tt (test_link (thn (hc.run pins s3 σ H3 _ I3 q3) fun w2 s4 ⟨x2, H4, I4, e4, q4⟩ => thn (h2 pins s4 σ H4 y x2 u w2 _ I4 e2 e4 q4) fun w3 s5 ⟨z2, H5, I5, e5, k2, ek2, q5⟩ => ?_))
    subst ek2
    cases e5
    refine wpAny_truthy_bool ?_
    cases k2 with
    | false =>
      obtain ⟨k', ek', q'⟩ := q5
      cases ek'
      exact ite_ff ⟨H5, I5, q'⟩
    | true =>
      refine ite_tt (test_last (thn (hd.run pins s5 σ H5 _ I5 q5) fun w4 s6 ⟨x3, H6, I6, e6, q6⟩ => thn (h3 pins s6 σ H6 x2 x3 w2 w4 _ I6 e4 e6 q6) fun w5 s7 ⟨z3, H7, I7, e7, k3, ek3, q7⟩ => ?_))
      subst ek3
      cases e7
      exact wpAny_truthy_bool ⟨H7, I7, q7⟩
end
end Ch

set_option Elab.async false
set_option linter.all false
set_option autoImplicit false
set_option maxRecDepth 100000
set_option maxHeartbeats 4000000
namespace Ch
open PySem PySem.Spec PyProof.Rows L2
open Sem (wp)
/-! ### enumerate of a tuple -/
theorem en_new1 {v : Value} {ob : Obj} {G : Heap → Prop} (B : Begins v ob G) :
    Meets (Builtin.«enumerate.__new__» ⟨[.type "enumerate", v], []⟩) (fun _ R s => G s.heap ∧
      R (.ok (.ret (.ref (s.heap.push ob).objs.size))) { s with heap := (s.heap.push ob).push { cls := .type "enumerate", data := .fields #[.none, .bool false, .ref s.heap.objs.size, rawInt 0, .none, .none] } }) :=
  .of_wp fun prog w A R st ⟨hG, hR⟩ => by
    obtain ⟨hp, ge, dr, tk, os⟩ := st
    have hsub := sub_enumerate
    have itq : ∀ {A1 : Around} {E : Value → Shared → Prop} {Q : Value → Shared → Prop}, Q (.ref hp.objs.size) ⟨hp.push ob, ge, dr, tk, os⟩ → wpAny (model prog w) A1 (pyIter v) Q E ⟨hp, ge, dr, tk, os⟩ :=
      fun q => B.iter prog w _ _ ⟨hp, ge, dr, tk, os⟩ _ hG q
    wp_walk using itq
    refine wpAny_stack_any fun sk => wpAny_pure (?_)
    split
    · rename_i c _ _ _ _ _
      cases (c == Value.type "enumerate")
      all_goals
        wp_walk using itq
        exact ⟨_, rfl, hR⟩
    · wp_walk using itq
      exact ⟨_, rfl, hR⟩
section
variable {prog : Program} {w : World} {A : Around} {E : Value → Shared → Prop} {s : Shared}
theorem en_call1 {v : Value} {ob : Obj} {G : Heap → Prop} {Q : Value → Shared → Prop} (B : Begins v ob G) (hG : G s.heap)
    (k : ∀ g : Heap, IsEnum g (s.heap.objs.size + 1) s.heap.objs.size 0 .none → g.get? s.heap.objs.size = some ob → (∀ b o, s.heap.get? b = some o → g.get? b = some o) → Q (.ref (s.heap.objs.size + 1)) { s with heap := g }) :
    wpAny (model prog w) A (call (.type "enumerate") [v]) Q E s := by
  refine callType_new F.called_enumerate (by decide) (F.typeCall_enumerate_1 _) (F.newCall_enumerate_1 _) (fun obj => F.args_object_init_2 obj _) F.entry_enumerate_new (en_new1 B) ⟨hG, ?_⟩
  have sz : (s.heap.push ob).objs.size = s.heap.objs.size + 1 := Heap.size_push ..
  show _ ∧ _
  rw [sz]
  have ie : IsEnum ((s.heap.push ob).push { cls := .type "enumerate", data := .fields #[.none, .bool false, .ref s.heap.objs.size, rawInt 0, .none, .none] }) (s.heap.objs.size + 1) s.heap.objs.size 0 .none := by
    have q := Heap.get?_push_size (s.heap.push ob) (o := { cls := .type "enumerate", data := .fields #[.none, .bool false, .ref s.heap.objs.size, rawInt 0, .none, .none] }) rfl
    rw [sz] at q
    exact q
  exact ⟨⟨_, ie, rfl⟩, k _ ie (Heap.get?_push_of_some _ (Heap.get?_push_size _ B.free)) fun b o x => Heap.get?_push_of_some _ (Heap.get?_push_of_some _ x)⟩
end
/-- the tuple at a, each item in a new pair -/
def IteT (K : PySem.W.Frag) (a : Addr) : It :=
  ⟨fun i H => ∃ (xs : List V) (x : V), SqT K H a xs ∧ xs[i]? = some x, fun i H v H' => ∃ T x, v = .ref T ∧ H T = none ∧ H' = upd H T (.tup [.int (i : Nat), x]) ∧ ∀ xs, SqT K H a xs → xs[i]? = some x, fun i H => ∃ xs : List V, SqT K H a xs ∧ xs.length ≤ i⟩
theorem turn_enumT {P : Program} {w : World} {K : PySem.W.Frag} {elts : List Expr} {kk : Nat} {tpos : Pos} (a e it : Addr) :
    Turn P w K (.Tuple elts kk tpos) (IteT K a) [e, it] e (fun i h => (∃ old, IsEnum h e it ((i : Nat) : Int) old) ∧ h.IsTupleIter it a i ∧ e ≠ it ∧ e ≠ a ∧ a ≠ it) where
  mem := List.mem_cons_self
  obj := fun i h st b hb => by
    obtain ⟨⟨old, he⟩, ⟨o, ho, hc, hd⟩, _⟩ := st
    rcases List.mem_cons.mp hb with z | z
    · rw [z]
      exact ⟨_, he, fun v q => nomatch q⟩
    · rw [List.mem_singleton.mp z]
      exact ⟨o, ho, fun v q => by rw [hd] at q; cases q⟩
  keep := fun i h h' ⟨⟨old, he⟩, hi, hn⟩ k => ⟨⟨old, k e (by simp) _ he⟩, hi.at fun o q => k it (by simp) o q, hn⟩
  item := by
    intro X hP hw hK hc i pins s σ H E I hf ⟨⟨old, he⟩, hit, hne, hea, hai⟩ ⟨xs, x, hq, hx⟩
    subst hP hw hK
    obtain ⟨its, rv, p, hz⟩ := I.tuple hq
    obtain ⟨u, hu, ru⟩ := rv.get hx
    have pt : s.heap.IsTuple a its.toArray := p
    have hel : e < s.heap.objs.size := Heap.lt_size he
    have hil : it < s.heap.objs.size := by
      obtain ⟨_, q, _⟩ := hit
      exact Heap.lt_size q
    have hlt : i < its.toArray.size := by
      have := (List.getElem?_eq_some_iff.mp hu).1
      simpa using this
    refine wpAny_pyNext_enum_itemD (Draws.tuple (A := X.A.in1) (I.ok.hd hc) it a hai its.toArray) he ⟨hit, pt⟩ hlt hne (by simp [hne, hea]) fun u' g tk hPu ho st' hT hsz hk => ?_
    have eu : u' = u := by
      have h1 : its.toArray[i]? = some u' := hPu
      rw [List.getElem?_toArray, hu] at h1
      exact (Option.some.inj h1).symm
    subst eu
    refine ⟨_, rfl, wpAny_letOwnedTupleGo_enum (s := { s with heap := g, toks := tk + 1 }) ho fun g2 he' sb => ?_⟩
    have hT2 : g2.get? s.heap.objs.size = some { cls := .type "tuple", data := .seq #[.int i tk, u'] } := (sb.2 _ (Nat.ne_of_gt hel)).trans hT
    have new : ObjOk X.prog X.w (upd H s.heap.objs.size (.tup [.int (i : Nat), x])) g2 s.heap.objs.size (.tup [.int (i : Nat), x]) :=
      ⟨by show 2 ≤ sizeLine; decide, [.int i tk, u'], .cons ⟨_, rfl⟩ (.cons ru .nil), ⟨_, hT2, rfl, _, rfl⟩⟩
    have I1 : Inv X pins σ (upd H s.heap.objs.size (.tup [.int (i : Nat), x])) { s with heap := g2, toks := tk + 1 } :=
      I.turnedNew (ch := [e, it]) (fun b ob hb q => by
        have n1 : b ≠ e := fun z => hb (by simp [z])
        have n2 : b ≠ it := fun z => hb (by simp [z])
        exact (sb.2 b n1).trans (hk b ob n1 n2 q)) hf (Nat.le_refl _) new
    refine ⟨.ref s.heap.objs.size, _, I1, rfl, ⟨_, x, rfl, I.hok.fresh (Nat.le_refl _), rfl, fun ys hy => by rw [I.tuple_inj hy hq]; exact hx⟩, ⟨⟨u', ?_⟩, st'.1.at fun o q => (sb.2 it (Ne.symm hne)).trans q, hne, hea, hai⟩, fun b hb => ?_⟩
    · rw [show ((i + 1 : Nat) : Int) = (i : Int) + 1 by omega]
      exact he'
    · have lb : b < s.heap.objs.size := by
        rcases List.mem_cons.mp hb with z | z
        · rw [z]
          exact hel
        · rw [List.mem_singleton.mp z]
          exact hil
      rw [upd_ne (Nat.ne_of_lt lb)]
      exact (hf b hb).1
  done := by
    intro X hP hw hK hc i pins s σ H E I hf ⟨⟨old, he⟩, hit, hne, hea, hai⟩ ⟨xs, hq, hx⟩
    subst hP hw hK
    obtain ⟨its, rv, p, hz⟩ := I.tuple hq
    have pt : s.heap.IsTuple a its.toArray := p
    obtain ⟨f0, f1, f2, f3, f4, f5⟩ := hf it (by simp)
    have hl := rv.length
    have hd : s.heap.IsTupleIter it a i := hit
    refine wpAny_pyNext_enum_endD (fp := [it, a]) (n := i) (P := fun _ _ => False) (St := fun j g => j = i ∧ g.IsTupleIter it a i ∧ g.IsTuple a its.toArray) ?_ he ⟨rfl, hit, pt⟩ fun g eb => ⟨rfl, I.turned (t' := s.toks) (fun b o hb q => eb b o hb q) f0 f1 f3 f4 f5⟩
    exact {
      live := fun _ _ st => let ⟨o, ho, _⟩ := st.2.1; ⟨o, ho⟩
      frame := fun _ _ _ st hk => ⟨st.1, st.2.1.at fun o q => hk it (by simp) o q, st.2.2.at fun o q => hk a (by simp) o q⟩
      item := fun j s2 Q2 E2 hj st _ => absurd st.1 (Nat.ne_of_lt hj)
      done := fun s2 Q2 E2 st hE => wpAny_nextOf_tuple_end (I.ok.hd hc) st.2.1 st.2.2 (by simp; omega) hE }
  self := fun A i s Q E st h => let ⟨⟨_, he⟩, _⟩ := st; wpAny_pyIter_enum he h
def iEnumT (K : PySem.W.Frag) (ta : TA) : TI := fun σ H R => ta σ H fun vs H1 => ∃ a xs, vs = [.ref a] ∧ SqT K H1 a xs ∧ R (IteT K a) H1
theorem pi_enumT {X : Cx} {e : Expr} {ta : TA} {p pos tpos : Pos} {elts : List Expr} {kk : Nat} (hg : Gl X "enumerate") (hm : X.mg "enumerate" = none) (ha : PA X [e] ta) (hs : starEach [e] X.env = [(false, eval e X.env)] := by rfl) :
    PI X (.Tuple elts kk tpos) (.Call (.Name "enumerate" p) [e] [] pos) (iEnumT X.K ta) := by
  refine ⟨fun pins s σ H R I h => ?_⟩
  refine Call_ (ld_blt I hg hm boot_enumerate (PyProof.Rows.callWith_type1 (thn (ha.run pos pins s σ H _ I h) fun us s1 ⟨vs, H1, I1, r1, a, xs, ex, hq, q⟩ => ?_) hs rfl))
  subst ex
  obtain ⟨u, rfl, ru⟩ := vals1 r1
  obtain rfl : u = Value.ref a := ru
  obtain ⟨its, rv, p', hz⟩ := I1.tuple hq
  have pt : s1.heap.IsTuple a its.toArray := p'
  have al : a < s1.heap.objs.size := by
    obtain ⟨o, ho, _⟩ := pt
    exact Heap.lt_size ho
  refine en_call1 (begins_tuple a its.toArray) pt fun g he hit hk => wpAny_pyIter_enum he ?_
  have I2 : Inv X pins σ H1 { s1 with heap := g } := I1.kept (t' := s1.toks) hk
  refine ⟨s1.heap.objs.size + 1, [s1.heap.objs.size + 1, s1.heap.objs.size], _, _, H1, rfl, I2, turn_enumT a (s1.heap.objs.size + 1) s1.heap.objs.size, ⟨⟨.none, he⟩, ⟨_, hit, rfl, rfl⟩, Nat.succ_ne_self _, Nat.ne_of_gt (Nat.lt_succ_of_lt al), Nat.ne_of_lt al⟩, fun b hb => ?_, q⟩
  have lb : s1.heap.objs.size ≤ b := by
    rcases List.mem_cons.mp hb with z | z
    · rw [z]
      exact Nat.le_add_right _ _
    · rw [List.mem_singleton.mp z]
      exact Nat.le_refl _
  exact I1.fpOk lb (I1.hok.fresh lb)
theorem walk_enumT {K : PySem.W.Frag} {a : Addr} {xs : List V} : Walk (IteT K a) xs.length (fun H => SqT K H a xs) (YPair (fun i => some (.int (i : Nat))) (fun i => xs[i]?)) where
  goes := fun i H hi hG => ⟨xs, xs[i], hG, List.getElem?_eq_getElem hi⟩
  stops := fun H hG => ⟨xs, hG, Nat.le_refl _⟩
  yields := fun i H v H' hi hG ⟨T, x, ev, hT, eH, hx⟩ => ⟨T, _, x, ev, hT, eH, rfl, hx xs hG⟩
/-! ### max of three ints -/
theorem call_max3 {X : Cx} (hc : X.calm = true) : CallR X (.builtin "max") (fun xs H Q => ∃ i j k : Int, xs = [.int i, .int j, .int k] ∧ Q (.int (if k > (if j > i then j else i) then k else (if j > i then j else i))) H) := by
  intro pins s σ H xs us Q I r ⟨i, j, k, e, q⟩
  refine call_max3Nu hc pins s σ H xs us Q I r ⟨.int i, .int j, .int k, _, e, ?_, q⟩
  have two : ∀ a b : Int, nuMax2 (.int a) (.int b) = some (.int (if b > a then b else a)) := fun a b => by
    show some (if decide (a < b) = true then V.int b else V.int a) = _
    by_cases h : a < b
    · rw [decide_eq_true h, if_pos rfl, if_pos h]
    · rw [decide_eq_false h, if_neg Bool.false_ne_true, if_neg h]
  unfold nuMax3
  rw [two, Option.bind_some, two]
end Ch

set_option Elab.async false
set_option linter.all false
set_option autoImplicit false
set_option maxRecDepth 100000
set_option maxHeartbeats 4000000
namespace Ch
open PySem PySem.Spec PyProof.Rows L2
/-! ### calls by positional promises -/
def tCallR (sp : Sp) (E : XK) (t : TA) : TE := fun σ H Q => t σ H fun vs H1 => sp vs H1 Q E
def tMethR (C : Addr) (m : Str) (sp : Sp) (E : XK) (ta : TE) (t : TA) : TE := fun σ H Q => ta σ H fun x H1 => ∃ a dx fs, x = .ref a ∧ H1 a = some (.ins C dx fs) ∧ fs.lookup m = none ∧ t σ H1 fun vs H2 => sp (.ref a :: vs) H2 Q E
def tPropR (C : Addr) (sp : Sp) (E : XK) (ta : TE) : TE := fun σ H Q => ta σ H fun x H1 => ∃ a dx fs, x = .ref a ∧ H1 a = some (.ins C dx fs) ∧ sp [.ref a] H1 Q E
def tMk (C : Addr) (sp : Sp) (E : XK) (t : TA) : TE := fun σ H Q => t σ H fun vs H1 => ∀ x dx, H1 x = none → H1 dx = none → dx ≠ x → sp (.ref x :: vs) (upd (upd H1 dx (.own x)) x (.ins C dx [])) (fun v H2 => v = .non ∧ Q (.ref x) H2) E
section
variable {X : Cx} {CX : CXT} {k : Nat} {f C g p : Addr} {sp : Sp} {E : XK} {x m : Str} {np pos apos : Pos} {e o : Expr} {es : List Expr} {ta : TE} {t : TA}
theorem pe_callR (F : FnR X.prog X.w X.K X.mg X.base CX k f sp) (hr : Room k X.A) (hm : X.mg x = some (.ref f)) (hk : PySem.W.keepIn X.K (.ref f) = true) (hx : Passes CX X E) (hg : Gl X x) (ha : PA X (e :: es) t)
    (hd : (x == ("__debug__" : Str)) = false := by decide) (he : starEach (e :: es) X.env = (false, eval e X.env) :: starEach es X.env := by rfl) (hpl : (backTo pos (starEach es X.env)).any (·.1) = false := by rfl) :
    PE X (.Call (.Name x np) (e :: es) [] pos) (tCallR sp E t) :=
  ⟨fun pins s σ H Q I h => wpAny_Call_Name_kw (ld_glob I hg hm (PySem.W.callWith_K (h₀ := X.base) I.ok.mod.kin hk (thn (ha.run pos pins s σ H _ I h) fun us s1 ⟨vs, H1, I1, r, q⟩ => ⟨I1.kIn, wpAny_call (run_fnR F hr hx I1 r q)⟩) he hpl) hd)⟩
theorem pe_callR0 (F : FnR X.prog X.w X.K X.mg X.base CX k f sp) (hr : Room k X.A) (hm : X.mg x = some (.ref f)) (hk : PySem.W.keepIn X.K (.ref f) = true) (hx : Passes CX X E) (hg : Gl X x)
    (hd : (x == ("__debug__" : Str)) = false := by decide) : PE X (.Call (.Name x np) [] [] pos) (tCallR sp E tNil) :=
  ⟨fun pins s σ H Q I h => wpAny_Call_Name_kw (ld_glob I hg hm (PySem.W.callWith_K0 I.kIn hk (wpAny_call (run_fnR (us := []) F hr hx I .nil h))) hd)⟩
theorem pe_methR {pl : Sem Bool} (c : Cls X.K C) (hm : Meth X.K C m f) (F : FnR X.prog X.w X.K X.mg X.base CX k f sp) (hr : Room k X.A) (hx : Passes CX X E) (ho : PE X o ta) (ha : PA X (e :: es) t)
    (hst : starEach (e :: es) X.env = (false, eval e X.env) :: starEach es X.env := by rfl) (hpl : (backTo pos (starEach es X.env)).any (·.1) = false := by rfl)
    (ht : eval (.Call (.Attribute o m apos) (e :: es) [] pos) X.env = (do
      let rv ← eval o X.env
      standAt apos.atName
      let (fn, first) ← holding [rv] (getMethod rv m pl)
      callWith pos fn first (backTo pos (starEach (e :: es) X.env)) (backToKw pos (keywordEach [] X.env))) := by rfl) :
    PE X (.Call (.Attribute o m apos) (e :: es) [] pos) (tMethR C m sp E ta t) := by
  refine ⟨fun pins s σ H Q I h => PySem.W.methodCall_KW (pl := pl) (thn (ho.run pins s σ H _ I h) fun u s1 ⟨y, H1, I1, ry, a, dx, fs, ey, ea, l, q⟩ => ?_) ht⟩
  subst ey
  obtain rfl : u = Value.ref a := ry
  refine getmeth_ok I1 ea c hm l (PySem.W.callWith_K (first := [.ref a]) (h₀ := X.base) I.ok.mod.kin hm.kp (thn (ha.run pos pins s1 σ H1 _ I1 q) fun us s2 ⟨vs, H2, I2, r, q2⟩ => ⟨I2.kIn, ?_⟩) hst hpl)
  exact wpAny_call (run_fnR (us := .ref a :: us) (vs := .ref a :: vs) F hr hx I2 (.cons rfl r) q2)
theorem pe_methR0 {pl : Sem Bool} (c : Cls X.K C) (hm : Meth X.K C m f) (F : FnR X.prog X.w X.K X.mg X.base CX k f sp) (hr : Room k X.A) (hx : Passes CX X E) (ho : PE X o ta)
    (ht : eval (.Call (.Attribute o m apos) [] [] pos) X.env = (do
      let rv ← eval o X.env
      standAt apos.atName
      let (fn, first) ← holding [rv] (getMethod rv m pl)
      callWith pos fn first (backTo pos (starEach [] X.env)) (backToKw pos (keywordEach [] X.env))) := by rfl) :
    PE X (.Call (.Attribute o m apos) [] [] pos) (tMethR C m sp E ta tNil) := by
  refine ⟨fun pins s σ H Q I h => PySem.W.methodCall_KW (pl := pl) (thn (ho.run pins s σ H _ I h) fun u s1 ⟨y, H1, I1, ry, a, dx, fs, ey, ea, l, q⟩ => ?_) ht⟩
  subst ey
  obtain rfl : u = Value.ref a := ry
  exact getmeth_ok I1 ea c hm l (PySem.W.callWith_K0 (first := [.ref a]) I1.kIn hm.kp (wpAny_call (run_fnR (us := [.ref a]) (vs := [.ref a]) F hr hx I1 (.cons rfl .nil) q)))
/-- C(e, ..), C(), C(*e) -/
theorem pe_mk (M : Mk X.K C f) (F : FnR X.prog X.w X.K X.mg X.base CX k f sp) (hr : Room (k + 1) X.A) (hm : X.mg x = some (.ref C)) (hx : Passes CX X E) (hg : Gl X x) (ha : PA X (e :: es) t) (hd : (x == ("__debug__" : Str)) = false := by decide)
    (he : starEach (e :: es) X.env = (false, eval e X.env) :: starEach es X.env := by rfl) (hpl : (backTo pos (starEach es X.env)).any (·.1) = false := by rfl) : PE X (.Call (.Name x np) (e :: es) [] pos) (tMk C sp E t) :=
  StX.pe_makeR M F hr hg hm hx ha hd he hpl
theorem pe_mk0 (M : Mk X.K C f) (F : FnR X.prog X.w X.K X.mg X.base CX k f sp) (hr : Room (k + 1) X.A) (hm : X.mg x = some (.ref C)) (hx : Passes CX X E) (hg : Gl X x) (hd : (x == ("__debug__" : Str)) = false := by decide) :
    PE X (.Call (.Name x np) [] [] pos) (tMk C sp E tNil) :=
  ⟨fun pins s σ H Q I h => wpAny_Call_Name_kw (ld_glob I hg hm (PySem.W.callWith_K0 I.kIn M.kp (StX.run_makeR (us := []) M F hr hx I .nil h)) hd)⟩
def tStarA (K : PySem.W.Frag) (te : TE) : TA := fun σ H Q => te σ H fun y H1 => ∃ a xs, y = .ref a ∧ (SqT K H1 a xs ∨ SqL K H1 a xs) ∧ Q xs H1
theorem pe_mkS {sp_ : Pos} (M : Mk X.K C f) (F : FnR X.prog X.w X.K X.mg X.base CX k f sp) (hr : Room (k + 1) X.A) (hm : X.mg x = some (.ref C)) (hx : Passes CX X E) (hg : Gl X x) (he : PE X e ta) (hd : (x == ("__debug__" : Str)) = false := by decide)
    (hst : starEach [.Starred e sp_] X.env = [(true, eval e X.env)] := by rfl) : PE X (.Call (.Name x np) [.Starred e sp_] [] pos) (tMk C sp E (tStarA X.K ta)) := by
  refine ⟨fun pins s σ H Q I h => wpAny_Call_Name_kw (ld_glob I hg hm (PySem.W.callWith_S (h₀ := X.base) I.ok.mod.kin M.kp (thn (he.run pins s σ H _ I h) fun v s1 ⟨y, H1, I1, ry, a, xs, ey, hxs, q⟩ => ?_) hst) hd)⟩
  subst ey
  obtain rfl : v = Value.ref a := ry
  exact StX.star_any I1 hxs fun us s2 I2 rv => ⟨I2.kIn, StX.run_makeR M F hr hx I2 rv q⟩
/-- a property whose getter raises nothing -/
theorem pe_propR (c : Cls X.K C) (hp : PropOf X.K C m p g) (F : FnR X.prog X.w X.K X.mg X.base CX0 k g sp) (hr : Room (k + 1) X.A) (ho : PE X o ta) (hab : attributeBase o m X.env (eval o X.env) = eval o X.env := by rfl) : PE X (.Attribute o m pos) (tPropR C sp E0 ta) := by
  refine ⟨fun pins s σ H Q I h => attr_of hab (thn (ho.run pins s σ H _ I h) fun u s1 ⟨y, H1, I1, ry, a, dx, fs, ey, ea, q⟩ => ?_)⟩
  subst ey
  obtain rfl : u = Value.ref a := ry
  obtain ⟨mA, J, hl, wi, _⟩ := ins_get I1.hok ea
  obtain ⟨rest, hrec⟩ := hp.rec_
  have hc : (PySem.W.clsIn X.K C).isSome = true := by
    obtain ⟨cd, hcd, _⟩ := PySem.W.any_some c.hd
    rw [hcd]
    rfl
  obtain ⟨od, Ja, _⟩ := J.look
  refine PySem.W.get_bind I1.kIn Ja (PySem.W.plainGet_of (c.get m)).1 (PySem.W.findObj_data hc hp.at_ hp.get hp.tak) (PySem.W.plainGet_of (c.get m)).2 (wpAny_call (PySem.W.prop_get (s := { s1 with toks := s1.toks + 1 }) I1.kIn hrec ?_))
  have I2 : Inv X pins σ H1 { s1 with toks := s1.toks + 1 } := I1.tok _
  refine codeAny_mono (F X.A.in1 X.stack { s1 with toks := s1.toks + 1 } H1 [.ref a] [.ref a] Q E0 hr.in1 I2.env0.in1 (.cons rfl .nil) q) fun r s' hq => ?_
  cases r with
  | error er =>
    have hz : CX0 X.stack H1 { s1 with toks := s1.toks + 1 } E0 er s' := hq
    exact False.elim hz
  | ok fl =>
    cases fl with
    | ret u1 =>
      obtain ⟨v, H', I3, rv, q3⟩ := I2.after hq
      show wpAny _ _ (handedOut u1) _ _ _
      rw [PySem.W.handedOut_of (handed_of rv)]
      exact wpAny_pure ⟨v, H', I3, rv, q3⟩
    | next => exact False.elim hq
    | brk => exact False.elim hq
    | cont => exact False.elim hq
end
/-! ### defs to such promises -/
section
variable {P : Program} {w : World} {K : PySem.W.Frag} {mg : Str → Option Value} {base : Heap} {x qual : Str} {params : Arguments} {body : List Stmt} {scope : Scope} {kws : List (Str × V)} {f : Addr} {fd : FuncData}
/-- a def without defaults and stars -/
theorem def_ok {CX : CXT} {N ps : List Str} {k : Nat} {sp : Sp} (F : FunD K x qual params body scope [] kws f fd) (S : FnScope N ps scope)
    (hb : ∀ (kV doc pm : Value) (an : Option Addr) (cdv ct : Value) (us : List Value), us.length = ps.length → bindArgs (PySem.W.fnOf x qual params body scope .none kV doc pm an cdv ct) ⟨us, []⟩ = pure (ps.zip us))
    (len : ∀ vs H Q E, sp vs H Q E → vs.length = ps.length)
    (body_ok : ∀ (cdv : Value) (A : Around) (outer : List Env) (s : Shared) (H : Hp) (vs : List V) (Q : VK) (E : XK), Room k (A.deeper (envOfC qual scope s.heap.objs.size f cdv)) → sp vs H Q E →
      ∃ t, PSs (cxOf CX P w K mg base N qual scope f cdv A outer s H E) body t ∧ t { nx := fun _ H' => Q .non H', rt := Q } (start N vs) H) : FnOk P w K mg base CX (k + 1) f fd ps sp ∧ FnR P w K mg base CX (k + 1) f sp := by
  have G : FnOk P w K mg base CX (k + 1) f fd ps sp := F.ok S len body_ok
  refine ⟨G, (G.raw (F.bindsN hb) .nil).imp fun vs H Q E h => ?_⟩
  rw [List.append_nil]
  exact h
/-- def f(a, .., *v) -/
theorem star_ok {CX : CXT} {N ps : List Str} {k : Nat} {sp : Sp} {pv : Str} (F : FunD K x qual params body scope [] kws f fd) (S : FnScope N (ps ++ [pv]) scope) (hCX : StX.CXUp CX)
    (hb : ∀ (kV doc pm : Value) (an : Option Addr) (cdv ct : Value) (us rest : List Value), us.length = ps.length → bindArgs (PySem.W.fnOf x qual params body scope .none kV doc pm an cdv ct) ⟨us ++ rest, []⟩ = (newTuple rest >>= fun t => pure (ps.zip us ++ [(pv, t)])))
    (body_ok : ∀ (cdv : Value) (A : Around) (outer : List Env) (s : Shared) (H : Hp) (vs : List V) (Q : VK) (E : XK), Room k (A.deeper (envOfC qual scope s.heap.objs.size f cdv)) → sp vs H Q E →
      ∃ t, PSs (cxOf CX P w K mg base N qual scope f cdv A outer s H E) body t ∧ t { nx := fun _ H' => Q .non H', rt := Q } (start N vs) H) :
    FnR P w K mg base CX (k + 1) f (fun vs H Q E => ∃ ws rest, vs = ws ++ rest ∧ ws.length = ps.length ∧ rest.length ≤ sizeLine ∧ ∀ p, H p = none → sp (ws ++ [V.ref p]) (upd H p (.tup rest)) Q E) := by
  obtain ⟨oc, od, dV, kV, doc, pm, an, cdv, ct, osl, e1, lk, hcd, hD, hK⟩ := F.ex
  rcases hD with ⟨_, e2⟩ | ⟨ne, _⟩
  · subst e1 e2
    exact StX.fn_star lk hcd S hCX (hb kV doc pm an cdv ct) fun A outer s H vs Q E hr hsp => body_ok cdv A outer s H vs Q E hr hsp
  · exact absurd rfl ne
end
end Ch

set_option Elab.async false
set_option linter.all false
set_option autoImplicit false
set_option maxRecDepth 100000
set_option maxHeartbeats 4000000
namespace Ch
open PySem PySem.Spec PyProof.Rows L2
/-! ### heaps -/
theorem Same.new {H : Hp} {p : Addr} {o : HO} (h : H p = none) : Same H (upd H p o) := fun b u e => by
  rw [upd_ne (ne_of_none e h)]
  exact e
theorem Same.seqT {K : PySem.W.Frag} {H H' : Hp} {a : Addr} {xs : List V} (e : Same H H') (h : SqT K H a xs) : SqT K H' a xs := by
  rcases h with (h | ⟨o, h⟩) | h
  · exact .inl (.inl (e _ _ h))
  · exact .inl (.inr ⟨o, e _ _ h⟩)
  · exact .inr h
theorem Same.mut {H H' : Hp} {p : Addr} {o : HO} (e : Same H H') (h : H p = none) : Same H (upd H' p o) := fun b u q => by
  rw [upd_ne (ne_of_none q h)]
  exact e b u q
theorem tr {H H1 H2 : Hp} {a : Addr} {o : HO} (e : Same H H1) (h : H a = some o) : H1 a = some o := e a o h
theorem up {H : Hp} {a p : Addr} {o u : HO} (h : H a = some o) (n : H p = none) : (upd H p u) a = some o := by
  rw [upd_ne (ne_of_none h n)]
  exact h
theorem fr {H H1 : Hp} {a p : Addr} {o : HO} (e : Same H H1) (n : H1 p = none) (h : H a = some o) : a ≠ p := ne_of_none (e a o h) n
/-! ### operators of several kinds of values -/
variable {X : Cx}
def rPlus : R2 := fun x y H Q => (∃ i j, x = .int i ∧ y = .int j ∧ Q (.int (i + j)) H) ∨ rCat x y H Q ∨ (∃ i j, x = .str i ∧ y = .str j ∧ i.length + j.length ≤ sizeLine ∧ Q (.str (i ++ j)) H)
theorem op_plus : OpR X (binaryOp .Add) rPlus := op_add.or (op_cat.or op_add_str)
def rTimes : R2 := fun x y H Q => (∃ i j, x = .int i ∧ y = .int j ∧ CMul i j ∧ Q (.int (i * j)) H) ∨ rI CMulW (fun i j => .int (i * j)) x y H Q ∨ rRep x y H Q
theorem op_times : OpR X (binaryOp .Mult) rTimes := op_mul.or (op_mulW.or op_rep)
def rMinus : R2 := rI0 fun i j => .int (i - j)
theorem op_minus : OpR X (binaryOp .Sub) rMinus := op_sub
def rModP : R2 := rI (fun _ j => 0 < j) fun i j => .int (i % j)
theorem op_modP : OpR X (binaryOp .Mod) rModP := op_mod
def rDivP : R2 := rI CDivW fun i j => .int (i / j)
theorem op_divP : OpR X (binaryOp .FloorDiv) rDivP := op_fdivW
def rPowP : R2 := rI CPow fun i j => .int (i ^ j.toNat)
theorem op_powP : OpR X (binaryOp .Pow) rPowP := op_pow
def rEqU (K : PySem.W.Frag) : R2 := fun x y H Q => rEq x y H Q ∨ rEqD K x y H Q
theorem op_eqU (hu : X.A.units + 64 < cLine) : OpR X (compareOp .Eq) (rEqU X.K) := op_eq.or (op_eqD hu)
def rNeU (K : PySem.W.Frag) : R2 := fun x y H Q => rNe x y H Q ∨ rNeD K x y H Q
theorem op_neU (hu : X.A.units + 64 < cLine) : OpR X (compareOp .NotEq) (rNeU X.K) := op_ne.or (op_neD hu)
def rLtI : R2 := rI0 fun i j => .bl (decide (i < j))
def rLeI : R2 := rI0 fun i j => .bl (decide (i ≤ j))
def rGtI : R2 := rI0 fun i j => .bl (decide (j < i))
def rGeI : R2 := rI0 fun i j => .bl (decide (j ≤ i))
theorem op_ltI : OpR X (compareOp .Lt) rLtI := op_lt
theorem op_leI : OpR X (compareOp .LtE) rLeI := op_le
theorem op_gtI : OpR X (compareOp .Gt) rGtI := op_gt
theorem op_geI : OpR X (compareOp .GtE) rGeI := op_ge
def rInU (K : PySem.W.Frag) : R2 := fun x y H Q => rIn K false x y H Q ∨ (∃ i j, x = .str i ∧ y = .str j ∧ Q (.bl (!(Builtin.Str.occurrences j i 0 j.length 1).isEmpty)) H)
theorem op_inU : OpR X (compareOp .In) (rInU X.K) := op_in_seq.or op_in_str
def rNotInU (K : PySem.W.Frag) : R2 := fun x y H Q => rIn K true x y H Q ∨ (∃ i j, x = .str i ∧ y = .str j ∧ Q (.bl (!(!(Builtin.Str.occurrences j i 0 j.length 1).isEmpty))) H)
theorem op_notInU : OpR X (compareOp .NotIn) (rNotInU X.K) := op_notIn_seq.or op_notIn_str
/-! ### built-ins by named readings -/
def rLn (K : PySem.W.Frag) : List V → Hp → VK → Prop := fun xs H Q => ∃ x n, xs = [x] ∧ LenV K x H n ∧ Q (.int n) H
theorem c_len : CallR X (.builtin "len") (rLn X.K) := call_len
def rI1 : List V → Hp → VK → Prop := fun xs H Q => (∃ i, xs = [.int i] ∧ Q (.int i) H) ∨ ∃ k, xs = [.bl k] ∧ Q (.int (if k then 1 else 0)) H
theorem c_int : CallR X (.type "int") rI1 := call_int1
def rMx2 : List V → Hp → VK → Prop := fun xs H Q => ∃ i j : Int, xs = [.int i, .int j] ∧ Q (.int (if j > i then j else i)) H
theorem c_max2 (hc : X.calm = true) : CallR X (.builtin "max") rMx2 := call_max2 hc
def rMn2 : List V → Hp → VK → Prop := fun xs H Q => ∃ i j : Int, xs = [.int i, .int j] ∧ Q (.int (if j < i then j else i)) H
theorem c_min2 (hc : X.calm = true) : CallR X (.builtin "min") rMn2 := call_min2 hc
def rMx3 : List V → Hp → VK → Prop := fun xs H Q => ∃ i j k : Int, xs = [.int i, .int j, .int k] ∧ Q (.int (if k > (if j > i then j else i) then k else (if j > i then j else i))) H
theorem c_max3 (hc : X.calm = true) : CallR X (.builtin "max") rMx3 := call_max3 hc
def rAb : List V → Hp → VK → Prop := fun xs H Q => ∃ i : Int, xs = [.int i] ∧ Q (.int (if i < 0 then -i else i)) H
theorem c_abs : CallR X (.builtin "abs") rAb := call_abs
def rLs (K : PySem.W.Frag) : List V → Hp → VK → Prop := fun xs H Q => ∃ p ys, xs = [.ref p] ∧ (SqL K H p ys ∨ SqT K H p ys) ∧ ∀ l, H l = none → Q (.ref l) (upd H l (.lst ys))
theorem c_list : CallR X (.type "list") (rLs X.K) := call_list_of
def rTu (K : PySem.W.Frag) : List V → Hp → VK → Prop := fun xs H Q => ∃ p ys, xs = [.ref p] ∧ ((SqL K H p ys ∧ ∀ l, H l = none → Q (.ref l) (upd H l (.tup ys))) ∨ (SqT K H p ys ∧ Q (.ref p) H))
theorem c_tuple : CallR X (.type "tuple") (rTu X.K) := call_tuple_of
/-- a module's text -/
theorem pe_gs {x z : Str} {pos : Pos} (h : ∃ t, X.mg x = some (.str z t)) (hg : Gl X x) (hd : (x == ("__debug__" : Str)) = false := by decide) : PE X (.Name x pos) (tC (.str z)) := by
  obtain ⟨t, e⟩ := h
  exact pe_glob hg e ⟨t, rfl⟩ hd
theorem pe_gi {x : Str} {z : Int} {pos : Pos} (h : ∃ t, X.mg x = some (.int z t)) (hg : Gl X x) (hd : (x == ("__debug__" : Str)) = false := by decide) : PE X (.Name x pos) (tC (.int z)) := by
  obtain ⟨t, e⟩ := h
  exact pe_glob hg e ⟨t, rfl⟩ hd
theorem pe_gr {x : Str} {a : Addr} {pos : Pos} (h : X.mg x = some (.ref a)) (hg : Gl X x) (hd : (x == ("__debug__" : Str)) = false := by decide) : PE X (.Name x pos) (tC (.ref a)) := pe_glob hg h rfl hd
/-- e.NAME, e a class -/
def tCV (v : V) : TE := tC v
theorem pe_cv {x f : Str} {C : Addr} {v : V} {np pos : Pos} (h : X.mg x = some (.ref C)) (r : ClX.CRead X.K C (.type "type")) (k : ∃ u, ClX.CVal X.K C (.type "type") f v u) (hg : Gl X x) (hd : (x == ("__debug__" : Str)) = false := by decide)
    (hb : attributeBase (.Name x np) f X.env (eval (.Name x np) X.env) = eval (.Name x np) X.env := by rfl) : PE X (.Attribute (.Name x np) f pos) (tC v) := by
  obtain ⟨u, k⟩ := k
  exact ⟨fun pins s σ H Q I q => (ClX.pe_cval (pe_gr h hg hd) hb).run pins s σ H Q I ⟨C, .type "type", v, u, rfl, r, k, q⟩⟩
/-! ### steps -/
section
variable {σ : L2.St} {H : Hp} {Q : VK} {QT : Bool → Hp → Prop} {QA : List V → Hp → Prop} {QS : L2.St → Hp → Prop} {D : Ends} {ta tb tc td te : TE} {t u tx ty : TT} {t1 t2 : TS} {r r' r'' : R2} {a : TA} {v x y z : V} {i j k : Int} {p q l : Addr} {b c : Bool} {xs ys : List V} {K : PySem.W.Frag} {sp : Sp} {E : XK} {C dx : Addr} {f m : Str} {fs : List (Str × V)} {n : Nat} {g : TG}
theorem x_var {n : Nat} (h : σ[n]? = some (some v)) (k : Q v H) : tVar n σ H Q := ⟨v, h, k⟩
theorem x_c (k : Q v H) : tC v σ H Q := k
theorem x_op (k : ta σ H fun x H1 => tb σ H1 fun y H2 => r x y H2 Q) : tOp r ta tb σ H Q := k
theorem x_un {r : V → Hp → VK → Prop} (k : ta σ H fun x H1 => r x H1 Q) : tUn r ta σ H Q := k
theorem x_test (k : te σ H fun x H' => ∃ k, x = .bl k ∧ QT k H') : tTest te σ H QT := k
theorem x_B (k : te σ H fun x H' => ∃ k, x = .bl k ∧ QT k H') : tB te σ H QT := k
theorem x_bl (k : QT b H) : ∃ k, V.bl b = .bl k ∧ QT k H := ⟨b, rfl, k⟩
theorem x_ex {R : Bool → Prop} (k : R b) : ∃ c, V.bl b = .bl c ∧ R c := ⟨b, rfl, k⟩
theorem x_nT {A B : Prop} (k : B) : if (!true) = true then A else B := k
theorem x_nF {A B : Prop} (k : A) : if (!false) = true then A else B := k
theorem x_and (k : t σ H fun c H1 => if c = true then u σ H1 QT else QT false H1) : tAnd t u σ H QT := k
theorem x_or (k : t σ H fun c H1 => if c = true then QT true H1 else u σ H1 QT) : tOr t u σ H QT := k
theorem x_not (k : t σ H fun c H1 => QT (!c) H1) : tNot t σ H QT := k
theorem x_andV (k : ta σ H fun x H1 => ∃ c, x = .bl c ∧ if c = true then tb σ H1 Q else Q (.bl false) H1) : tAndV ta tb σ H Q := k
theorem x_orV (k : ta σ H fun x H1 => ∃ c, x = .bl c ∧ if c = true then Q (.bl true) H1 else tb σ H1 Q) : tOrV ta tb σ H Q := k
theorem x_notV (k : ta σ H fun x H1 => ∃ c, x = .bl c ∧ Q (.bl (!c)) H1) : tNotV ta σ H Q := k
theorem x_ifE (k : t σ H fun c H1 => if c = true then ta σ H1 Q else tb σ H1 Q) : tIf t ta tb σ H Q := k
theorem x_chain (k : ta σ H fun x H1 => tb σ H1 fun y H2 => r x y H2 fun z H3 => ∃ k, z = .bl k ∧ (if k = true then tc σ H3 fun w' H4 => r' y w' H4 Q else Q (.bl false) H3)) : tChain r r' ta tb tc σ H Q := k
theorem x_chain3 (k : ta σ H fun x H1 => tb σ H1 fun y H2 => r x y H2 fun z H3 => ∃ k, z = .bl k ∧ (if k = true then tc σ H3 fun x2 H4 => r' y x2 H4 fun z2 H5 => ∃ k2, z2 = .bl k2 ∧ (if k2 = true then td σ H5 fun x3 H6 => r'' x2 x3 H6 Q else Q (.bl false) H5) else Q (.bl false) H3)) : tChain3 r r' r'' ta tb tc td σ H Q := k
theorem x_next (k : D.nx σ H) : tNext D σ H := k
theorem x_seq (k : t1 { D with nx := t2 D } σ H) : tSeq t1 t2 D σ H := k
theorem x_drop (k : te σ H fun _ H1 => D.nx σ H1) : tDrop te D σ H := k
theorem x_ret (k : te σ H D.rt) : tRet te D σ H := k
theorem x_ifS (k : t σ H fun b H1 => if b = true then t1 D σ H1 else t2 D σ H1) : tIfS t t1 t2 D σ H := k
theorem x_asg (k : te σ H fun x H1 => g x σ H1 D.nx) : tAsg te g D σ H := k
theorem x_gname {n : Nat} (k : QS (σ.set n (some v)) H) : gName n v σ H QS := k
theorem x_cons (k : te σ H fun x H1 => a σ H1 fun xs H2 => QA (x :: xs) H2) : tCons te a σ H QA := k
theorem x_nil (k : QA [] H) : tNil σ H QA := k
theorem x_tup (k : a σ H fun xs H1 => xs.length ≤ sizeLine ∧ ∀ p, H1 p = none → Q (.ref p) (upd H1 p (.tup xs))) : tTup a σ H Q := k
theorem x_lst (k : a σ H fun xs H1 => xs.length ≤ sizeLine ∧ ∀ p, H1 p = none → Q (.ref p) (upd H1 p (.lst xs))) : tLst a σ H Q := k
theorem x_cb {r : List V → Hp → VK → Prop} (k : a σ H fun vs H1 => r vs H1 Q) : tCB r a σ H Q := k
theorem x_call (k : a σ H fun vs H1 => sp vs H1 Q E) : tCallR sp E a σ H Q := k
theorem x_mk (k : a σ H fun vs H1 => ∀ x dx, H1 x = none → H1 dx = none → dx ≠ x → sp (.ref x :: vs) (upd (upd H1 dx (.own x)) x (.ins C dx [])) (fun v H2 => v = .non ∧ Q (.ref x) H2) E) : tMk C sp E a σ H Q := k
def rMeth (C : Addr) (m : Str) (k : Addr → Hp → Prop) (x : V) (H : Hp) : Prop := ∃ a dx fs, x = .ref a ∧ H a = some (.ins C dx fs) ∧ fs.lookup m = none ∧ k a H
theorem x_meth (k : ta σ H (rMeth C m fun p H1 => a σ H1 fun vs H2 => sp (.ref p :: vs) H2 Q E)) : tMethR C m sp E ta a σ H Q := k
theorem x_methAt {kk : Addr → Hp → Prop} (h : H p = some (.ins C dx fs)) (l : fs.lookup m = none) (k : kk p H) : rMeth C m kk (.ref p) H := ⟨p, dx, fs, rfl, h, l, k⟩
def rProp (C : Addr) (sp : Sp) (E : XK) (x : V) (H : Hp) (Q : VK) : Prop := ∃ a dx fs, x = .ref a ∧ H a = some (.ins C dx fs) ∧ sp [.ref a] H Q E
theorem x_prop (k : ta σ H fun x H1 => rProp C sp E x H1 Q) : tPropR C sp E ta σ H Q := k
theorem x_propAt (h : H p = some (.ins C dx fs)) (k : sp [.ref p] H Q E) : rProp C sp E (.ref p) H Q := ⟨p, dx, fs, rfl, h, k⟩
def rFld (K : PySem.W.Frag) (f : Str) (x : V) (H : Hp) (Q : VK) : Prop := ∃ a C dx fs v, x = .ref a ∧ H a = some (.ins C dx fs) ∧ Cls K C ∧ NoAttr K C f ∧ fs.lookup f = some v ∧ Q v H
theorem x_fld (k : ta σ H fun x H1 => rFld K f x H1 Q) : tFld K ta f σ H Q := k
theorem x_fldAt (h : H p = some (.ins C dx fs)) (c : Cls K C) (na : NoAttr K C f) (l : fs.lookup f = some v) (k : Q v H) : rFld K f (.ref p) H Q := ⟨p, C, dx, fs, v, rfl, h, c, na, l, k⟩
def rSet (K : PySem.W.Frag) (f : Str) (y x : V) (H : Hp) (k : Hp → Prop) : Prop := ∃ a C dx fs, x = .ref a ∧ H a = some (.ins C dx fs) ∧ Cls K C ∧ NoAttr K C f ∧ fs.length < 1000 ∧ k (upd H a (.ins C dx (putF f y fs)))
theorem x_setf (k : te σ H fun y H1 => ta σ H1 fun x H2 => rSet K f y x H2 fun H3 => D.nx σ H3) : sFld K ta te f D σ H := k
theorem x_setAt {kk : Hp → Prop} (h : H p = some (.ins C dx fs)) (c : Cls K C) (na : NoAttr K C f) (l : fs.length < 1000) (k : kk (upd H p (.ins C dx (putF f v fs)))) : rSet K f v (.ref p) H kk := ⟨p, C, dx, fs, rfl, h, c, na, l, k⟩
theorem x_starA (k : te σ H fun y H1 => ∃ a xs, y = .ref a ∧ (SqT K H1 a xs ∨ SqL K H1 a xs) ∧ QA xs H1) : tStarA K te σ H QA := k
/-! values -/
theorem x_plusI (k : Q (.int (i + j)) H) : rPlus (.int i) (.int j) H Q := .inl ⟨i, j, rfl, rfl, k⟩
theorem x_plusL (h1 : H p = some (.lst xs)) (h2 : H q = some (.lst ys)) (h3 : xs.length + ys.length ≤ sizeLine) (k : ∀ r, H r = none → Q (.ref r) (upd H r (.lst (xs ++ ys)))) : rPlus (.ref p) (.ref q) H Q := .inr (.inl ⟨p, q, xs, ys, rfl, rfl, h1, h2, h3, k⟩)
theorem x_minus (k : Q (.int (i - j)) H) : rMinus (.int i) (.int j) H Q := ⟨i, j, rfl, rfl, k⟩
theorem x_timesI (h : CMul i j) (k : Q (.int (i * j)) H) : rTimes (.int i) (.int j) H Q := .inl ⟨i, j, rfl, rfl, h, k⟩
theorem x_timesW (h : CMulW i j) (k : Q (.int (i * j)) H) : rTimes (.int i) (.int j) H Q := .inr (.inl ⟨i, j, rfl, rfl, h, k⟩)
theorem x_mod (h : 0 < j) (k : Q (.int (i % j)) H) : rModP (.int i) (.int j) H Q := ⟨i, j, rfl, rfl, h, k⟩
theorem x_div (h : CDivW i j) (k : Q (.int (i / j)) H) : rDivP (.int i) (.int j) H Q := ⟨i, j, rfl, rfl, h, k⟩
theorem x_pow (h : CPow i j) (k : Q (.int (i ^ j.toNat)) H) : rPowP (.int i) (.int j) H Q := ⟨i, j, rfl, rfl, h, k⟩
theorem x_lt (k : Q (.bl (decide (i < j))) H) : rLtI (.int i) (.int j) H Q := ⟨i, j, rfl, rfl, k⟩
theorem x_le (k : Q (.bl (decide (i ≤ j))) H) : rLeI (.int i) (.int j) H Q := ⟨i, j, rfl, rfl, k⟩
theorem x_gt (k : Q (.bl (decide (j < i))) H) : rGtI (.int i) (.int j) H Q := ⟨i, j, rfl, rfl, k⟩
theorem x_ge (k : Q (.bl (decide (j ≤ i))) H) : rGeI (.int i) (.int j) H Q := ⟨i, j, rfl, rfl, k⟩
theorem x_eqI (k : Q (.bl (decide (i = j))) H) : rEqU K (.int i) (.int j) H Q := .inl ⟨rfl, by rw [show decide (V.int i = V.int j) = decide (i = j) by simp]; exact k⟩
theorem x_neI (k : Q (.bl (!decide (i = j))) H) : rNeU K (.int i) (.int j) H Q := .inl ⟨rfl, by rw [show decide (V.int i = V.int j) = decide (i = j) by simp]; exact k⟩
theorem x_eqS {i j : Str} (k : Q (.bl (decide (i = j))) H) : rEqU K (.str i) (.str j) H Q := .inl ⟨rfl, by rw [show decide (V.str i = V.str j) = decide (i = j) by simp]; exact k⟩
theorem x_eqB {i j : Bool} (k : Q (.bl (decide (i = j))) H) : rEqU K (.bl i) (.bl j) H Q := .inl ⟨rfl, by rw [show decide (V.bl i = V.bl j) = decide (i = j) by simp]; exact k⟩
theorem x_neB {i j : Bool} (k : Q (.bl (!decide (i = j))) H) : rNeU K (.bl i) (.bl j) H Q := .inl ⟨rfl, by rw [show decide (V.bl i = V.bl j) = decide (i = j) by simp]; exact k⟩
theorem x_eqDp {d e : PyData} (h1 : Dp K H x d) (h2 : Dp K H y e) (h3 : SeqAt.shaped d = true) (h4 : SeqAt.shaped e = true) (k : Q (.bl (PyData.eqv d e)) H) : rEqU K x y H Q := .inr ⟨d, e, h1, h2, h3, h4, k⟩
theorem x_neDp {d e : PyData} (h1 : Dp K H x d) (h2 : Dp K H y e) (h3 : SeqAt.shaped d = true) (h4 : SeqAt.shaped e = true) (k : Q (.bl (!PyData.eqv d e)) H) : rNeU K x y H Q := .inr ⟨d, e, h1, h2, h3, h4, k⟩
theorem x_isN {x : V} (k : Q (.bl (decide (x = .non))) H) (e : te σ H fun y H1 => Q (.bl (decide (y = .non))) H1) : tIsN te σ H Q := e
theorem x_isNe (e : te σ H fun y H1 => Q (.bl (decide (y = .non))) H1) : tIsN te σ H Q := e
theorem x_notNe (e : te σ H fun y H1 => Q (.bl (!decide (y = .non))) H1) : tNotN te σ H Q := e
theorem x_ixL (h : SqL K H p xs) (a : atI xs i = some v) (k : Q v H) : rIx K (.ref p) (.int i) H Q := .inl ⟨p, xs, i, v, rfl, rfl, h, a, k⟩
theorem x_ixT (h : SqT K H p xs) (a : atI xs i = some v) (k : Q v H) : rIx K (.ref p) (.int i) H Q := .inr (.inl ⟨p, xs, i, v, rfl, rfl, h, a, k⟩)
theorem x_inT (h : SqT K H p xs) (h1 : flatV x = true) (h2 : xs.all flatV = true) (k : Q (.bl (inV x xs)) H) : rInU K x (.ref p) H Q := .inl ⟨p, xs, rfl, .inr h, h1, h2, k⟩
theorem x_inL (h : SqL K H p xs) (h1 : flatV x = true) (h2 : xs.all flatV = true) (k : Q (.bl (inV x xs)) H) : rInU K x (.ref p) H Q := .inl ⟨p, xs, rfl, .inl h, h1, h2, k⟩
theorem x_lenL (h : SqL K H p xs) (k : Q (.int xs.length) H) : rLn K [.ref p] H Q := ⟨.ref p, xs.length, rfl, .inl ⟨xs, h, rfl⟩, k⟩
theorem x_lenT (h : SqT K H p xs) (k : Q (.int xs.length) H) : rLn K [.ref p] H Q := ⟨.ref p, xs.length, rfl, .inr ⟨xs, h, rfl⟩, k⟩
theorem x_int (k : Q (.int i) H) : rI1 [.int i] H Q := .inl ⟨i, rfl, k⟩
theorem x_intB (k : Q (.int (if b then 1 else 0)) H) : rI1 [.bl b] H Q := .inr ⟨b, rfl, k⟩
theorem x_max2 (k : Q (.int (if j > i then j else i)) H) : rMx2 [.int i, .int j] H Q := ⟨i, j, rfl, k⟩
theorem x_min2 (k : Q (.int (if j < i then j else i)) H) : rMn2 [.int i, .int j] H Q := ⟨i, j, rfl, k⟩
theorem x_max3 {w : Int} (k : Q (.int (if w > (if j > i then j else i) then w else (if j > i then j else i))) H) : rMx3 [.int i, .int j, .int w] H Q := ⟨i, j, w, rfl, k⟩
theorem x_abs (k : Q (.int (if i < 0 then -i else i)) H) : rAb [.int i] H Q := ⟨i, rfl, k⟩
theorem x_listL (h : SqL K H p xs) (k : ∀ l, H l = none → Q (.ref l) (upd H l (.lst xs))) : rLs K [.ref p] H Q := ⟨p, xs, rfl, .inl h, k⟩
theorem x_listT (h : SqT K H p xs) (k : ∀ l, H l = none → Q (.ref l) (upd H l (.lst xs))) : rLs K [.ref p] H Q := ⟨p, xs, rfl, .inr h, k⟩
theorem x_neg (k : Q (.int (-i)) H) : rU (fun i => .int (-i)) (.int i) H Q := ⟨i, rfl, k⟩
/-! ways -/
theorem x_if {A B : Prop} (hT : b = true → A) (hF : b = false → B) : if b = true then A else B := by
  cases b with
  | true => exact hT rfl
  | false => exact hF rfl
theorem x_ifd {c A B : Prop} [Decidable c] (hT : c → A) (hF : ¬ c → B) : if decide c = true then A else B := by
  by_cases h : c
  · rw [decide_eq_true h]
    exact hT h
  · rw [decide_eq_false h]
    exact hF h
theorem x_ifnd {c A B : Prop} [Decidable c] (hT : ¬ c → A) (hF : c → B) : if (!decide c) = true then A else B := by
  by_cases h : c
  · rw [decide_eq_true h]
    exact hF h
  · rw [decide_eq_false h]
    exact hT h
theorem x_T {A B : Prop} (h : A) : if true = true then A else B := h
theorem x_F {A B : Prop} (h : B) : if false = true then A else B := h
end
end Ch
namespace Ch
open PySem PySem.Spec PyProof.Rows L2
section
variable {H : Hp} {Q : VK} {K : PySem.W.Frag} {p : Addr} {xs : List V} {i : Int} {b : Bool} {z : Str}
theorem x_isiB {x : V} {a n : String} {r : Bool} (t : TyX K H x (.type a)) (h : kitB a n = some r) (k : Q (.bl r) H) : rIsi K [x, .ty n] H Q := ⟨x, .ty n, .type a, .type n, r, rfl, .ty n, t, kit_ty h, k⟩
theorem x_isi_ii (k : Q (.bl true) H) : rIsi K [.int i, .ty "int"] H Q := x_isiB (.base (.int i)) (by decide +kernel) k
theorem x_isi_ib (k : Q (.bl false) H) : rIsi K [.int i, .ty "bool"] H Q := x_isiB (.base (.int i)) (by decide +kernel) k
theorem x_isi_bi (k : Q (.bl true) H) : rIsi K [.bl b, .ty "int"] H Q := x_isiB (.base (.bl b)) (by decide +kernel) k
theorem x_isi_bb (k : Q (.bl true) H) : rIsi K [.bl b, .ty "bool"] H Q := x_isiB (.base (.bl b)) (by decide +kernel) k
theorem x_isi_tt (h : H p = some (.tup xs)) (k : Q (.bl true) H) : rIsi K [.ref p, .ty "tuple"] H Q := x_isiB (.base (.tup h)) (by decide +kernel) k
theorem x_isi_lt (h : H p = some (.lst xs)) (k : Q (.bl false) H) : rIsi K [.ref p, .ty "tuple"] H Q := x_isiB (.base (.lst h)) (by decide +kernel) k
theorem x_isi_tl (h : H p = some (.tup xs)) (k : Q (.bl false) H) : rIsi K [.ref p, .ty "list"] H Q := x_isiB (.base (.tup h)) (by decide +kernel) k
theorem x_isi_ll (h : H p = some (.lst xs)) (k : Q (.bl true) H) : rIsi K [.ref p, .ty "list"] H Q := x_isiB (.base (.lst h)) (by decide +kernel) k
theorem sz {xs : List V} (h : Nat.ble xs.length sizeLine = true) : xs.length ≤ sizeLine := Nat.le_of_ble_eq_true h
theorem sz5 {n : Nat} (h : n ≤ 100000) : n ≤ sizeLine := Nat.le_trans h (by decide)
theorem sz5' {n : Nat} (h : n < 100000) : n < sizeLine := Nat.lt_of_lt_of_le h (by decide)
end
end Ch
/-! ### loops -/
namespace Ch
open PySem PySem.Spec PyProof.Rows L2
def ForB (J : It) (g : TG) (tb : TS) (D : Ends) (σ : L2.St) (H1 : Hp) : Prop := ∃ W : Nat → Nat → L2.St → Hp → Prop, (∃ m, W 0 m σ H1) ∧ ∀ i m σ H, W i m σ H →
  (J.stop i H ∧ D.nx σ H) ∨ (J.go i H ∧ ∃ N : L2.St → Hp → Prop, (∀ σ' H', N σ' H' → ∃ m', m' < m ∧ W (i + 1) m' σ' H') ∧ ∀ x H', J.yld i H x H' → g x σ H' fun σ2 H2 => tb { D with nx := N, ct := N, bk := D.nx } σ2 H2)
def rIL (K : PySem.W.Frag) (x : V) (H : Hp) (R : It → Hp → Prop) : Prop := ∃ a, x = .ref a ∧ (∃ xs, SqL K H a xs) ∧ R (Itl K a) H
def rIT (K : PySem.W.Frag) (x : V) (H : Hp) (R : It → Hp → Prop) : Prop := ∃ a, x = .ref a ∧ (∃ xs, SqT K H a xs) ∧ R (Itt K a) H
def rIE (K : PySem.W.Frag) (vs : List V) (H : Hp) (R : It → Hp → Prop) : Prop := ∃ a xs, vs = [.ref a] ∧ SqL K H a xs ∧ R (Ite K a) H
def rIU (K : PySem.W.Frag) (vs : List V) (H : Hp) (R : It → Hp → Prop) : Prop := ∃ a xs, vs = [.ref a] ∧ SqT K H a xs ∧ R (IteT K a) H
def rIR1 (vs : List V) (H : Hp) (R : It → Hp → Prop) : Prop := ∃ j : Int, vs = [.int j] ∧ -(2 ^ 62) ≤ j ∧ j < 2 ^ 62 ∧ R (Itr 0 j.toNat) H
def rIR2 (vs : List V) (H : Hp) (R : It → Hp → Prop) : Prop := ∃ i j : Int, vs = [.int i, .int j] ∧ (-(2 ^ 62) ≤ i ∧ i < 2 ^ 62 ∧ -(2 ^ 62) ≤ j ∧ j < 2 ^ 62) ∧ R (Itr i (j - i).toNat) H
section
variable {σ : L2.St} {H : Hp} {R : It → Hp → Prop} {D : Ends} {wi : TI} {g : TG} {tb : TS} {tl : TE} {ta : TA} {K : PySem.W.Frag} {p : Addr} {xs : List V} {i j : Int}
theorem x_for (k : wi σ H fun J H1 => ForB J g tb D σ H1) : tFor wi g tb D σ H := k
theorem x_iL (k : tl σ H fun x H1 => rIL K x H1 R) : iList K tl σ H R := k
theorem x_iT (k : tl σ H fun x H1 => rIT K x H1 R) : iTup K tl σ H R := k
theorem x_iE (k : ta σ H fun x H1 => rIE K x H1 R) : iEnum K ta σ H R := k
theorem x_iU (k : ta σ H fun x H1 => rIU K x H1 R) : iEnumT K ta σ H R := k
theorem x_iR1 (k : ta σ H fun x H1 => rIR1 x H1 R) : iRng1 ta σ H R := k
theorem x_iR2 (k : ta σ H fun x H1 => rIR2 x H1 R) : iRng2 ta σ H R := k
theorem x_iLAt (h : SqL K H p xs) (k : R (Itl K p) H) : rIL K (.ref p) H R := ⟨p, rfl, ⟨xs, h⟩, k⟩
theorem x_iTAt (h : SqT K H p xs) (k : R (Itt K p) H) : rIT K (.ref p) H R := ⟨p, rfl, ⟨xs, h⟩, k⟩
theorem x_iEAt (h : SqL K H p xs) (k : R (Ite K p) H) : rIE K [.ref p] H R := ⟨p, xs, rfl, h, k⟩
theorem x_iUAt (h : SqT K H p xs) (k : R (IteT K p) H) : rIU K [.ref p] H R := ⟨p, xs, rfl, h, k⟩
theorem x_iR1At (h0 : -(2 ^ 62) ≤ j) (h1 : j < 2 ^ 62) (k : R (Itr 0 j.toNat) H) : rIR1 [.int j] H R := ⟨j, rfl, h0, h1, k⟩
theorem x_iR2At (h : -(2 ^ 62) ≤ i ∧ i < 2 ^ 62 ∧ -(2 ^ 62) ≤ j ∧ j < 2 ^ 62) (k : R (Itr i (j - i).toNat) H) : rIR2 [.int i, .int j] H R := ⟨i, j, rfl, h, k⟩
theorem x_loop {J : It} {n : Nat} {G : Hp → Prop} {Y : Nat → Hp → V → Hp → Prop} (w : Walk J n G Y) (Pv : Nat → L2.St → Hp → Prop) (h0 : Pv 0 σ H) (hG : ∀ i σ H, i ≤ n → Pv i σ H → G H)
    (hs : ∀ i x σ H H', i < n → Pv i σ H → Y i H x H' → g x σ H' fun σ2 H2 => tb { D with nx := Pv (i + 1), ct := Pv (i + 1), bk := D.nx } σ2 H2) (hd : ∀ σ H, Pv n σ H → D.nx σ H) : ForB J g tb D σ H := for_it w Pv h0 hG hs hd
/-! targets -/
theorem x_gTup {n : Nat} {t : TGs} {QS : L2.St → Hp → Prop} (h : H p = some (.tup xs)) (e : xs.length = n) (k : t xs σ H QS) : gTup K n t (.ref p) σ H QS := ⟨p, xs, rfl, SqT.of h, e, k⟩
theorem x_gTupT {n : Nat} {t : TGs} {QS : L2.St → Hp → Prop} (h : SqT K H p xs) (e : xs.length = n) (k : t xs σ H QS) : gTup K n t (.ref p) σ H QS := ⟨p, xs, rfl, h, e, k⟩
theorem x_gStar {n i : Nat} {t : TGs} {QS : L2.St → Hp → Prop} (h : H p = some (.tup xs)) (h1 : i < n) (h2 : n ≤ xs.length + 1) (h3 : xs.length ≤ 16384) (k : ∀ d, H d = none → t (xs.take i ++ [.ref d] ++ (xs.drop i).drop (xs.length + 1 - n)) σ (upd H d (.lst ((xs.drop i).take (xs.length + 1 - n)))) QS) : gStar K n i t (.ref p) σ H QS :=
  ⟨p, xs, rfl, SqT.of h, h1, h2, h3, k⟩
theorem x_star1 {t : TGs} {a : V} {QS : L2.St → Hp → Prop} (h : H p = some (.tup [a])) (k : ∀ d, H d = none → t [a, .ref d] σ (upd H d (.lst [])) QS) : gStar K 2 1 t (.ref p) σ H QS := ⟨p, [a], rfl, SqT.of h, by decide, Nat.le_refl 2, Nat.le_of_ble_eq_true rfl, k⟩
theorem x_star2 {t : TGs} {a b : V} {QS : L2.St → Hp → Prop} (h : H p = some (.tup [a, b])) (k : ∀ d, H d = none → t [a, .ref d] σ (upd H d (.lst [b])) QS) : gStar K 2 1 t (.ref p) σ H QS := ⟨p, [a, b], rfl, SqT.of h, by decide, Nat.le_of_ble_eq_true rfl, Nat.le_of_ble_eq_true rfl, k⟩
theorem x_gcons {t : TG} {u : TGs} {v : V} {vs : List V} {QS : L2.St → Hp → Prop} (k : t v σ H fun σ' H' => u vs σ' H' QS) : gCons t u (v :: vs) σ H QS := ⟨v, vs, rfl, k⟩
theorem x_gnil {QS : L2.St → Hp → Prop} (k : QS σ H) : gNil [] σ H QS := ⟨rfl, k⟩
theorem x_par {i j : Nat} (k : ta σ H fun vs H1 => ∃ u v, vs = [u, v] ∧ D.nx ((σ.set i (some u)).set j (some v)) H1) : tPar i j ta D σ H := k
theorem x_app {l : Addr} {v : V} {Q : VK} (h : H l = some (.lst xs)) (h1 : xs.length < sizeLine) (k : Q .non (upd H l (.lst (xs ++ [v])))) : rAppend (.ref l) [v] H Q := ⟨l, xs, v, rfl, rfl, h, h1, k⟩
def rBM (K : PySem.W.Frag) (T : String) (r : V → List V → Hp → VK → Prop) (x : V) (H : Hp) (t : (List V → Hp → Prop) → Prop) (Q : VK) : Prop := tyV K T x H ∧ t fun xs H2 => r x xs H2 Q
theorem x_bm {T : String} {r : V → List V → Hp → VK → Prop} {to : TE} {Q : VK} (k : to σ H fun x H1 => tyV K T x H1 ∧ ta σ H1 fun xs H2 => r x xs H2 Q) : tBM K T r to ta σ H Q := k
theorem x_bm0 {T : String} {r : V → List V → Hp → VK → Prop} {to : TE} {Q : VK} (k : to σ H fun x H1 => tyV K T x H1 ∧ r x [] H1 Q) : tBM0 K T r to σ H Q := k
theorem ty_lst {l : Addr} (h : H l = some (.lst xs)) : tyV K "list" (.ref l) H := .inl ⟨rfl, _, SqL.of h⟩
end
end Ch
/-! ### comprehensions -/
namespace Ch
open PySem PySem.Spec PyProof.Rows L2
def LcB (J : It) (g : TG) (tt : TT) (te : TE) (vs : List Nat) (σ : L2.St) (H1 : Hp) (Q : VK) : Prop := ∀ D, H1 D = none → ∃ W : Nat → Nat → Hp → Prop, (∃ m, W 0 m (upd H1 D (.lst []))) ∧ ∀ i m H, W i m H →
  (J.stop i H ∧ Q (.ref D) H) ∨ (J.go i H ∧ ∃ Nx : Hp → Prop, (∀ H', Nx H' → ∃ m', m' < m ∧ W (i + 1) m' H') ∧ ∀ x H', J.yld i H x H' → g x (wipe σ vs) H' fun σ2 H2 => wipe σ2 vs = wipe σ vs ∧ tt σ2 H2 fun b H3 =>
    if b = true then te σ2 H3 fun y H4 => ∃ acc, H4 D = some (.lst acc) ∧ acc.length < sizeLine ∧ Nx (upd H4 D (.lst (acc ++ [y]))) else Nx H3)
section
variable {σ : L2.St} {H : Hp} {Q : VK} {wi : TI} {g : TG} {tt : TT} {te : TE} {vs : List Nat} {J : It} {n : Nat} {G : Hp → Prop} {Y : Nat → Hp → V → Hp → Prop} {QT : Bool → Hp → Prop}
theorem x_lc (k : wi σ H fun J H1 => LcB J g tt te vs σ H1 Q) : tLc wi g tt te vs σ H Q := k
theorem x_yes (k : QT true H) : tYes σ H QT := k
/-- a comprehension that only makes new things: A tells of the items so far -/
theorem x_lcA (w : Walk J n G Y) (A : Nat → List V → Hp → Prop) (stab : ∀ i acc H D xs ys, H D = some (.lst xs) → A i acc H → A i acc (upd H D (.lst ys))) (h0 : ∀ D, H D = none → A 0 [] (upd H D (.lst []))) (hn : n ≤ 100000) (hG : ∀ H', Same H H' → G H')
    (hs : ∀ i x acc H1 H' (NT : V → Hp → Prop) (NF : Hp → Prop), (∀ y H4, Same H1 H4 → A (i + 1) (acc ++ [y]) H4 → NT y H4) → (∀ H3, Same H1 H3 → A (i + 1) acc H3 → NF H3) → i < n → Same H H1 → A i acc H1 → Y i H1 x H' →
      g x (wipe σ vs) H' fun σ2 H2 => wipe σ2 vs = wipe σ vs ∧ tt σ2 H2 fun b H3 => if b = true then te σ2 H3 NT else NF H3)
    (k : ∀ D acc H', H D = none → Same H H' → H' D = some (.lst acc) → A n acc H' → acc.length ≤ n → Q (.ref D) H') : LcB J g tt te vs σ H Q := by
  intro D hD
  refine lc_it w (fun i H1 => ∃ acc, H1 D = some (.lst acc) ∧ Same H H1 ∧ A i acc H1 ∧ acc.length ≤ i) ⟨[], upd_same, Same.new hD, h0 D hD, Nat.le_refl _⟩ (fun i H1 _ ⟨_, _, s1, _⟩ => hG H1 s1) ?_ ?_
  · rintro i x H1 H' hi ⟨acc, e1, s1, a1, l1⟩ y
    refine hs i x acc H1 H' _ _ ?_ ?_ hi s1 a1 y
    · intro y H4 s4 a4
      refine ⟨acc, s4 _ _ e1, by show acc.length < 2 ^ 24; omega, acc ++ [y], upd_same, Same.mut (s1.trans s4) hD, stab _ _ _ _ _ _ (s4 _ _ e1) a4, ?_⟩
      rw [List.length_append]
      exact Nat.succ_le_succ l1
    · intro H3 s3 a3
      exact ⟨acc, s3 _ _ e1, s1.trans s3, a3, Nat.le_succ_of_le l1⟩
  · rintro H1 ⟨acc, e1, s1, a1, l1⟩
    exact k D acc H1 hD s1 e1 a1 l1
end
end Ch
/-! ### the rules with the written part named -/
namespace Ch
open PySem PySem.Spec PyProof.Rows L2
section
variable {X : Cx} {e o a b tg iter value : Expr} {es : List Expr} {ta tb te tv : TE} {t : TA} {tgs : TGs} {f x : Str} {pos pos' p tpos : Pos} {n i kk : Nat} {elts : List Expr}
theorem op_eqK (K : PySem.W.Frag) (hu : X.A.units + 64 < cLine) (hK : X.K = K := by rfl) : OpR X (compareOp .Eq) (rEqU K) := by subst hK; exact op_eqU hu
theorem op_neK (K : PySem.W.Frag) (hu : X.A.units + 64 < cLine) (hK : X.K = K := by rfl) : OpR X (compareOp .NotEq) (rNeU K) := by subst hK; exact op_neU hu
theorem op_inK (K : PySem.W.Frag) (hK : X.K = K := by rfl) : OpR X (compareOp .In) (rInU K) := by subst hK; exact op_inU
theorem op_notInK (K : PySem.W.Frag) (hK : X.K = K := by rfl) : OpR X (compareOp .NotIn) (rNotInU K) := by subst hK; exact op_notInU
theorem ix_K (K : PySem.W.Frag) (hK : X.K = K := by rfl) : IxR X (rIx K) := by subst hK; exact ix_seq
theorem c_lenK (K : PySem.W.Frag) (hK : X.K = K := by rfl) : CallR X (.builtin "len") (rLn K) := by subst hK; exact c_len
theorem c_listK (K : PySem.W.Frag) (hK : X.K = K := by rfl) : CallR X (.type "list") (rLs K) := by subst hK; exact c_list
theorem c_tupleK (K : PySem.W.Frag) (hK : X.K = K := by rfl) : CallR X (.type "tuple") (rTu K) := by subst hK; exact c_tuple
theorem c_isiK (K : PySem.W.Frag) (hK : X.K = K := by rfl) : CallR X (.builtin "isinstance") (rIsi K) := by subst hK; exact call_isi
theorem c_isiTK (K : PySem.W.Frag) (hK : X.K = K := by rfl) : CallR X (.builtin "isinstance") (rIsiT K) := by subst hK; exact call_isiT
theorem c_sumK (K : PySem.W.Frag) (hc : X.calm = true) (hK : X.K = K := by rfl) : CallR X (.builtin "sum") (rSum K) := by subst hK; exact cr_sum hc
theorem pe_fldK (K : PySem.W.Frag) (he : PE X e ta) (hb : attributeBase e f X.env (eval e X.env) = eval e X.env := by rfl) (hK : X.K = K := by rfl) : PE X (.Attribute e f pos) (tFld K ta f) := by subst hK; exact pe_fld he hb
theorem ps_fldK (K : PySem.W.Frag) (ha : PE X o ta) (hv : PE X value tv) (hs : swapsWith value (some (.Attribute o f pos')) pos.line X.env = pure false := by rfl) (hK : X.K = K := by rfl) : PS X (.Assign [.Attribute o f pos'] value pos) (sFld K ta tv f) := by subst hK; exact ps_fld ha hv hs
theorem pi_listK (K : PySem.W.Frag) (hl : PE X e te) (hK : X.K = K := by rfl) : PI X tg e (iList K te) := by subst hK; exact pi_list hl
theorem pi_tupK (K : PySem.W.Frag) (hl : PE X e te) (hK : X.K = K := by rfl) : PI X tg e (iTup K te) := by subst hK; exact pi_tup hl
theorem pi_enumK (K : PySem.W.Frag) (hm : X.mg "enumerate" = none) (ha : PA X [e] t) (hK : X.K = K := by rfl) (hg : Gl X "enumerate" := by rfl) (hs : starEach [e] X.env = [(false, eval e X.env)] := by rfl) : PI X (.Tuple elts kk tpos) (.Call (.Name "enumerate" p) [e] [] pos) (iEnum K t) := by subst hK; exact pi_enum hg hm ha hs
theorem pi_enumTK (K : PySem.W.Frag) (hm : X.mg "enumerate" = none) (ha : PA X [e] t) (hK : X.K = K := by rfl) (hg : Gl X "enumerate" := by rfl) (hs : starEach [e] X.env = [(false, eval e X.env)] := by rfl) : PI X (.Tuple elts kk tpos) (.Call (.Name "enumerate" p) [e] [] pos) (iEnumT K t) := by subst hK; exact pi_enumT hg hm ha hs
theorem pg_tupK (K : PySem.W.Frag) (hc : X.calm = true) (h : PGs X es tgs) (hn : (assignEach es X.env).length = n := by rfl) (hst : (assignEach es X.env).findIdx? (·.1) = none := by rfl) (hK : X.K = K := by rfl) : PG X (.Tuple es kk pos) (gTup K n tgs) := by subst hK; exact pg_tup hc h hn hst
theorem pg_starK (K : PySem.W.Frag) (hc : X.calm = true) (h : PGs X es tgs) (hn : (assignEach es X.env).length = n := by rfl) (hst : (assignEach es X.env).findIdx? (·.1) = some i := by rfl) (hK : X.K = K := by rfl) : PG X (.Tuple es kk pos) (gStar K n i tgs) := by subst hK; exact pg_star hc h hn hst
theorem sl_listK (K : PySem.W.Frag) (hK : X.K = K := by rfl) : SlR X (rSlL K) := by subst hK; exact sl_list
theorem sl_tupK (K : PySem.W.Frag) (hK : X.K = K := by rfl) : SlR X (rSlT K) := by subst hK; exact sl_tup
theorem pe_bmK {T : String} {id : String} {r : V → List V → Hp → VK → Prop} {apos : Pos} {ea : Expr} (K : PySem.W.Frag) (pa : PlainAttrs T) (slot : Slot T f id) (hty : typeOf (.builtin id) = pure (.type "method_descriptor")) (hm : MtR X id r) (ho : PE X o ta) (ha : PA X (ea :: es) t) (hK : X.K = K := by rfl)
    (h3 : attributeBase o f X.env (eval o X.env) = eval o X.env := by rfl)
    (h4 : ((backTo pos (starEach (ea :: es) X.env)).all (fun x => !x.1) && (backToKw pos (keywordEach [] X.env)).all (fun x => x.1.isSome) && decide ((ea :: es).length + ([] : List Keyword).length + (if ([] : List Keyword).isEmpty then 0 else 1) < 30)) = true := by rfl)
    (h5 : (apos.endLine == pos.line) = true := by rfl) (h1 : starEach (ea :: es) X.env = (false, eval ea X.env) :: starEach es X.env := by rfl) (h2 : (backTo pos (starEach es X.env)).any (·.1) = false := by rfl) : PE X (.Call (.Attribute o f apos) (ea :: es) [] pos) (tBM K T r ta t) := by
  subst hK
  exact pe_bm pa slot hty hm ho ha h3 h4 h5 h1 h2
theorem pe_bm0K {T : String} {id : String} {r : V → List V → Hp → VK → Prop} {apos : Pos} (K : PySem.W.Frag) (pa : PlainAttrs T) (slot : Slot T f id) (hty : typeOf (.builtin id) = pure (.type "method_descriptor")) (hm : MtR X id r) (ho : PE X o ta) (hK : X.K = K := by rfl)
    (h3 : attributeBase o f X.env (eval o X.env) = eval o X.env := by rfl) (h5 : (apos.endLine == pos.line) = true := by rfl) : PE X (.Call (.Attribute o f apos) [] [] pos) (tBM0 K T r ta) := by
  subst hK
  exact pe_bm0 pa slot hty hm ho h3 h5
end
end Ch
namespace Ch
open PySem PySem.Spec PyProof.Rows L2
section
variable {σ : L2.St} {H : Hp} {v : V} {to ti : TE} {t : V → V → V → Hp → (Hp → Prop) → Prop} {QS : L2.St → Hp → Prop} {QH : Hp → Prop} {p : Addr} {xs : List V} {i : Int} {j : Nat}
theorem x_gSub (k : to σ H fun o H1 => ti σ H1 fun i H2 => t o i v H2 fun H3 => QS σ H3) : gSub to ti t v σ H QS := k
theorem x_setL (h : H p = some (.lst xs)) (e : ixN xs.length i = some j) (k : QH (upd H p (.lst (xs.set j v)))) : rSetL (.ref p) (.int i) v H QH := ⟨p, xs, i, j, rfl, rfl, h, e, k⟩
end
end Ch
namespace Ch
open L2
/-- two ways meet: what holds of every heap like that -/
theorem x_meet {G : Prop} {T : Hp → Prop} (R : Hp → Prop) (h1 : ∀ H, R H → T H) (h2 : (∀ H, R H → T H) → G) : G := h2 h1
end Ch
namespace Ch
open PySem PySem.Spec PyProof.Rows L2
theorem x_par3 {i j l : Nat} {ta : TA} {D : Ends} {σ : L2.St} {H : Hp} (k : ta σ H fun vs H1 => ∃ u v w, vs = [u, v, w] ∧ D.nx (((σ.set i (some u)).set j (some v)).set l (some w)) H1) : tPar3 i j l ta D σ H := k
theorem x_sum {K : PySem.W.Frag} {H : Hp} {Q : VK} {p : Addr} {ns : List Int} (h : SqL K H p (ns.map V.int)) (k : Q (.int ns.sum) H) : rSum K [.ref p] H Q := ⟨p, ns, rfl, h, k⟩
end Ch
namespace Ch
open PySem PySem.Spec PyProof.Rows L2
section
variable {σ : L2.St} {H : Hp} {Q : VK} {g : TG} {tt : TT} {te : TE} {vs : List Nat} {J : It} {n : Nat} {G : Hp → Prop} {Y : Nat → Hp → V → Hp → Prop}
/-- a comprehension by a word about the whole heap -/
theorem x_lcG (w : Walk J n G Y) (Pv : Addr → Nat → Hp → Prop) (h0 : ∀ D, H D = none → Pv D 0 (upd H D (.lst []))) (hG : ∀ D i H1, i ≤ n → Pv D i H1 → G H1)
    (hs : ∀ D i x H1 H', H D = none → i < n → Pv D i H1 → Y i H1 x H' → g x (wipe σ vs) H' fun σ2 H2 => wipe σ2 vs = wipe σ vs ∧ tt σ2 H2 fun b H3 =>
      if b = true then te σ2 H3 fun y H4 => ∃ acc, H4 D = some (.lst acc) ∧ acc.length < sizeLine ∧ Pv D (i + 1) (upd H4 D (.lst (acc ++ [y]))) else Pv D (i + 1) H3)
    (hd : ∀ D H1, H D = none → Pv D n H1 → Q (.ref D) H1) : LcB J g tt te vs σ H Q := fun D hD =>
  lc_it w (Pv D) (h0 D hD) (hG D) (fun i x H1 H' hi p y => hs D i x H1 H' hD hi p y) fun H1 p => hd D H1 hD p
theorem x_meet2 {G : Prop} {T : Addr → Hp → Prop} (R : Addr → Hp → Prop) (h1 : ∀ q H, R q H → T q H) (h2 : (∀ q H, R q H → T q H) → G) : G := h2 h1
theorem x_lstRg {te : L2.St → Hp → (Int → Int → Hp → Prop) → Prop} (k : te σ H fun a b H1 => RgOk a b ∧ ∀ q, H1 q = none → Q (.ref q) (upd H1 q (.lst (rgV a b)))) : tLstRg te σ H Q := k
def rRg1 (x : V) (H : Hp) (R : Int → Int → Hp → Prop) : Prop := ∃ n, x = .int n ∧ R 0 n H
theorem x_rg1 {ta : TE} {R : Int → Int → Hp → Prop} (k : ta σ H fun x H1 => rRg1 x H1 R) : tRg1 ta σ H R := k
theorem x_rg1At {R : Int → Int → Hp → Prop} {n : Int} (k : R 0 n H) : rRg1 (.int n) H R := ⟨n, rfl, k⟩
end
end Ch
namespace Ch
open PySem PySem.Spec PyProof.Rows L2
/-- if c: x = e, what is known of x behind it -/
theorem x_whenSet {c : Prop} [Decidable c] {D : Ends} {σ : L2.St} {H : Hp} {i : Nat} {te : TE} (R : V → Hp → Prop) (v0 : V) (h0 : σ.set i (some v0) = σ) (hF : ¬ c → R v0 H) (hT : c → te σ H R) (mono : ∀ Q : VK, (∀ v H', R v H' → Q v H') → te σ H R → te σ H Q) (h1 : ∀ v H', R v H' → D.nx (σ.set i (some v)) H') :
    if decide c = true then tAsg te (gName i) D σ H else tNext D σ H := by
  by_cases h : c
  · rw [decide_eq_true h]
    exact mono _ h1 (hT h)
  · rw [decide_eq_false h]
    show D.nx σ H
    have g := h1 v0 H (hF h)
    rw [h0] at g
    exact g
/-- the same, e told for any end -/
theorem x_whenSet' {c : Prop} [Decidable c] {D : Ends} {σ : L2.St} {H : Hp} {i : Nat} {te : TE} (R : V → Hp → Prop) (v0 : V) (h0 : σ.set i (some v0) = σ) (hF : ¬ c → R v0 H) (hT : c → ∀ Q : VK, (∀ v H', R v H' → Q v H') → te σ H Q) (h1 : ∀ v H', R v H' → D.nx (σ.set i (some v)) H') :
    if decide c = true then tAsg te (gName i) D σ H else tNext D σ H := by
  by_cases h : c
  · rw [decide_eq_true h]
    exact hT h _ h1
  · rw [decide_eq_false h]
    show D.nx σ H
    have g := h1 v0 H (hF h)
    rw [h0] at g
    exact g
end Ch
namespace Ch
open PySem PySem.Spec PyProof.Rows L2
section
variable {c : TT} {tb : TS} {D : Ends} {σ : L2.St} {H : Hp}
/-- while, a word with a measure -/
theorem x_while (W : Nat → L2.St → Hp → Prop) (m : Nat) (h0 : W m σ H) (hs : ∀ m σ H, W m σ H → c σ H fun b H1 => if b = true then ∃ N : L2.St → Hp → Prop, (∀ σ' H', N σ' H' → ∃ m', m' < m ∧ W m' σ' H') ∧ tb { D with nx := N, ct := N, bk := D.nx } σ H1 else D.nx σ H1) : tWhile c tb D σ H := ⟨W, ⟨m, h0⟩, hs⟩
theorem x_turn {W : Nat → L2.St → Hp → Prop} {m : Nat} (k : tb { D with nx := fun σ' H' => ∃ m', m' < m ∧ W m' σ' H', ct := fun σ' H' => ∃ m', m' < m ∧ W m' σ' H', bk := D.nx } σ H) : ∃ N : L2.St → Hp → Prop, (∀ σ' H', N σ' H' → ∃ m', m' < m ∧ W m' σ' H') ∧ tb { D with nx := N, ct := N, bk := D.nx } σ H := ⟨_, fun _ _ h => h, k⟩
end
end Ch
namespace Ch
open PySem PySem.Spec PyProof.Rows L2
/-- x = e1 if c else e2, what is known of x behind it -/
theorem x_ifSet {b : Bool} {σ : L2.St} {H : Hp} {ta tb : TE} {k : VK} (R : V → Hp → Prop) (hT : b = true → ∀ Q : VK, (∀ v H', R v H' → Q v H') → ta σ H Q) (hF : b = false → ∀ Q : VK, (∀ v H', R v H' → Q v H') → tb σ H Q) (h1 : ∀ v H', R v H' → k v H') :
    if b = true then ta σ H k else tb σ H k := by
  cases b with
  | true => exact hT rfl _ h1
  | false => exact hF rfl _ h1
theorem x_ifSetd {c : Prop} [Decidable c] {σ : L2.St} {H : Hp} {ta tb : TE} {k : VK} (R : V → Hp → Prop) (hT : c → ∀ Q : VK, (∀ v H', R v H' → Q v H') → ta σ H Q) (hF : ¬ c → ∀ Q : VK, (∀ v H', R v H' → Q v H') → tb σ H Q) (h1 : ∀ v H', R v H' → k v H') :
    if decide c = true then ta σ H k else tb σ H k := x_ifSet R (fun e => hT (of_decide_eq_true e)) (fun e => hF (of_decide_eq_false e)) h1
end Ch
namespace Ch
open PySem PySem.Spec PyProof.Rows L2
section
variable {X : Cx} {H : Hp} {Q : VK} {K : PySem.W.Frag} {p : Addr} {ns : List Int}
theorem c_minLK (K : PySem.W.Frag) (hc : X.calm = true) (hK : X.K = K := by rfl) : CallR X (.builtin "min") (rMin K) := by subst hK; exact cr_min hc
theorem c_maxLK (K : PySem.W.Frag) (hc : X.calm = true) (hK : X.K = K := by rfl) : CallR X (.builtin "max") (rMax K) := by subst hK; exact cr_max hc
theorem c_sortedK (K : PySem.W.Frag) (hK : X.K = K := by rfl) : CallR X (.builtin "sorted") (rSorted K) := by subst hK; exact cr_sorted
theorem x_minL (h : SqL K H p (ns.map V.int)) (h0 : 0 < ns.length) (k : ∀ m, m ∈ ns → (∀ y ∈ ns, m ≤ y) → Q (.int m) H) : rMin K [.ref p] H Q := ⟨p, ns, rfl, h, h0, k⟩
theorem x_maxL (h : SqL K H p (ns.map V.int)) (h0 : 0 < ns.length) (k : ∀ m, m ∈ ns → (∀ y ∈ ns, y ≤ m) → Q (.int m) H) : rMax K [.ref p] H Q := ⟨p, ns, rfl, h, h0, k⟩
theorem x_sorted (h : SqL K H p (ns.map V.int)) (h0 : ns.length < 64) (k : ∀ (ms : List Int) (q : Addr), ms.Perm ns → ms.Pairwise (· ≤ ·) → H q = none → Q (.ref q) (upd H q (.lst (ms.map V.int)))) : rSorted K [.ref p] H Q := ⟨p, ns, rfl, h, h0, k⟩
/-- a list of ints made by a range -/
def rgI (f : Int → Int) (n : Nat) : List Int := (List.range n).map fun j => f (j : Nat)
theorem rgI_len {f : Int → Int} {n : Nat} : (rgI f n).length = n := by unfold rgI; rw [List.length_map, List.length_range]
theorem rgI_snoc {f : Int → Int} {n : Nat} : rgI f (n + 1) = rgI f n ++ [f (n : Nat)] := by unfold rgI; rw [List.range_succ, List.map_append]; rfl
theorem rgI_at {f : Int → Int} {n : Nat} {y : Int} (h0 : 0 ≤ y) (h1 : y < n) : atI ((rgI f n).map V.int) y = some (.int (f y)) := by
  have e : y = ((y.toNat : Nat) : Int) := (Int.toNat_of_nonneg h0).symm
  rw [e]
  refine atI_nat ?_
  unfold rgI
  rw [List.getElem?_map, List.getElem?_map, List.getElem?_range (by omega)]
  rfl
theorem rgI_mem {f : Int → Int} {n : Nat} {z : Int} : z ∈ rgI f n ↔ ∃ y : Int, 0 ≤ y ∧ y < n ∧ f y = z := by
  unfold rgI
  constructor
  · intro h
    obtain ⟨j, hj, e⟩ := List.mem_map.mp h
    exact ⟨(j : Nat), by omega, by have := List.mem_range.mp hj; omega, e⟩
  · rintro ⟨y, h0, h1, e⟩
    refine List.mem_map.mpr ⟨y.toNat, List.mem_range.mpr (by omega), ?_⟩
    rw [Int.toNat_of_nonneg h0]
    exact e
end
end Ch

set_option linter.all false
set_option maxRecDepth 100000
set_option maxHeartbeats 4000000
namespace ChM
/-! ### the mirror of plans and effects -/
inductive Stp where
  | turn
  | mt (r : Bool) (n : Int)
  deriving DecidableEq
/-- (side, need) of each step -/
def sides : Int → List Stp → List (Int × Int)
  | _, [] => []
  | s, .turn :: r => (0, 0) :: sides (0 - s) r
  | s, .mt b n :: r => ((if b then s else 0 - s), n) :: sides s r
def fitsS (c : Int) (l : List Stp) : Prop := ∀ b n, Stp.mt b n ∈ l → 0 ≤ n ∧ n ≤ c
def turns : List Stp → Nat
  | [] => 0
  | .turn :: r => turns r + 1
  | .mt _ _ :: r => turns r
def turning (l : List Stp) : Bool := turns l % 2 == 1
structure Eff where
  c : Int
  lo : Int
  hi : Int
  ex : Int
  goal : Option Int
  tu : Bool
def mkE (c lo hi ex : Int) (g : Option Int) (t : Bool) : Eff := ⟨c, lo, hi, ex, if g = none ∧ lo = hi then some lo else g, t⟩
/-- max and min as Python's two-place ones say them -/
def mx (a b : Int) : Int := if b > a then b else a
def mn (a b : Int) : Int := if b < a then b else a
def Eff.atLeast (e : Eff) (n : Int) : Eff := match e.goal with
  | none => if n ≤ e.hi then mkE e.c (mx e.lo n) e.hi 0 none e.tu else mkE e.c e.hi e.hi (n - e.hi) (some n) e.tu
  | some g => if n ≤ g then e else mkE e.c e.lo e.hi (e.ex + n - g) (some n) e.tu
def Eff.mir (e : Eff) : Eff := mkE e.c (e.c - e.hi) (e.c - e.lo) e.ex (e.goal.map fun g => e.c - g) e.tu
def Eff.atMost (e : Eff) (m : Int) : Eff := (e.mir.atLeast (e.c - m)).mir
def Eff.carried (e : Eff) (x : Int) : Int := mx (mx (e.lo - x) (x - e.hi)) 0 + e.ex
def Eff.place (e : Eff) (x : Int) : Int := match e.goal with
  | none => mn (mx x e.lo) e.hi
  | some g => g
def Eff.fin (e : Eff) (x : Int) : Int := if e.tu then e.c - e.place x else e.place x
structure Eff.Ok (e : Eff) : Prop where
  lo0 : 0 ≤ e.lo
  lh : e.lo ≤ e.hi
  hc : e.hi ≤ e.c
  ex0 : 0 ≤ e.ex
  no : e.goal = none → e.ex = 0 ∧ e.lo < e.hi
  yes : ∀ g, e.goal = some g → 0 ≤ g ∧ g ≤ e.c
def nothing (c : Int) : Eff := mkE c 0 c 0 none false
def moved (c x s n : Int) : Int := if s = 1 then mx x n else if s = -1 then mn x (c - n) else x
def effStep (c : Int) (e : Eff) (p : Int × Int) : Eff := if p.1 = 1 then e.atLeast p.2 else if p.1 = -1 then e.atMost (c - p.2) else e
def effFold (c : Int) (l : List (Int × Int)) : Eff := l.foldl (effStep c) (nothing c)
def effOf (c : Int) (l : List Stp) : Eff :=
  let e := effFold c (sides 1 l)
  mkE c e.lo e.hi e.ex e.goal (turning l)
theorem mx_def (a b : Int) : (mx a b = a ∧ b ≤ a) ∨ (mx a b = b ∧ a < b) := by
  unfold mx
  split <;> omega
theorem mn_def (a b : Int) : (mn a b = a ∧ a ≤ b) ∨ (mn a b = b ∧ b < a) := by
  unfold mn
  split <;> omega
theorem mkE_none {c lo hi ex : Int} {t : Bool} (h : lo < hi) : mkE c lo hi ex none t = ⟨c, lo, hi, ex, none, t⟩ := by
  unfold mkE
  rw [if_neg (by omega)]
theorem mkE_eq {c lo ex : Int} {t : Bool} : mkE c lo lo ex none t = ⟨c, lo, lo, ex, some lo, t⟩ := by
  unfold mkE
  rw [if_pos ⟨rfl, rfl⟩]
theorem mkE_some {c lo hi ex g : Int} {t : Bool} : mkE c lo hi ex (some g) t = ⟨c, lo, hi, ex, some g, t⟩ := by
  unfold mkE
  rw [if_neg (by intro h; cases h.1)]
theorem mkE_cases {c lo hi : Int} {t : Bool} (h0 : 0 ≤ lo) (h1 : lo ≤ hi) (h2 : hi ≤ c) :
    (mkE c lo hi 0 none t).Ok ∧ ∀ x, (mkE c lo hi 0 none t).place x = mn (mx x lo) hi := by
  by_cases e : lo = hi
  · subst e
    rw [mkE_eq]
    refine ⟨⟨h0, h1, h2, Int.le_refl 0, (fun z => nomatch z), fun g hg => ?_⟩, fun x => ?_⟩
    · cases hg
      exact ⟨h0, h2⟩
    · show lo = mn (mx x lo) lo
      have := mx_def x lo
      have := mn_def (mx x lo) lo
      omega
  · rw [mkE_none (by omega)]
    exact ⟨⟨h0, h1, h2, Int.le_refl 0, fun _ => ⟨rfl, by show lo < hi; omega⟩, (fun g hg => nomatch hg)⟩, fun x => rfl⟩
theorem Ok_some {c lo hi ex g : Int} {t : Bool} (h0 : 0 ≤ lo) (h1 : lo ≤ hi) (h2 : hi ≤ c) (h3 : 0 ≤ ex) (h4 : 0 ≤ g) (h5 : g ≤ c) : (mkE c lo hi ex (some g) t).Ok := by
  rw [mkE_some]
  exact ⟨h0, h1, h2, h3, (fun z => nomatch z), fun g1 hg => by cases hg; exact ⟨h4, h5⟩⟩
@[simp] theorem mkE_c {c lo hi ex : Int} {g : Option Int} {t : Bool} : (mkE c lo hi ex g t).c = c := rfl
@[simp] theorem mkE_lo {c lo hi ex : Int} {g : Option Int} {t : Bool} : (mkE c lo hi ex g t).lo = lo := rfl
@[simp] theorem mkE_hi {c lo hi ex : Int} {g : Option Int} {t : Bool} : (mkE c lo hi ex g t).hi = hi := rfl
@[simp] theorem mkE_ex {c lo hi ex : Int} {g : Option Int} {t : Bool} : (mkE c lo hi ex g t).ex = ex := rfl
@[simp] theorem mkE_tu {c lo hi ex : Int} {g : Option Int} {t : Bool} : (mkE c lo hi ex g t).tu = t := rfl
theorem place_some {e : Eff} {g x : Int} (h : e.goal = some g) : e.place x = g := by
  unfold Eff.place
  rw [h]
theorem place_none {e : Eff} {x : Int} (h : e.goal = none) : e.place x = mn (mx x e.lo) e.hi := by
  unfold Eff.place
  rw [h]
theorem place_range {e : Eff} (h : e.Ok) {x : Int} (h0 : 0 ≤ x) (h1 : x ≤ e.c) : 0 ≤ e.place x ∧ e.place x ≤ e.c := by
  have a := h.lo0
  have b := h.lh
  have d := h.hc
  cases g : e.goal with
  | none =>
    rw [place_none g]
    have := mx_def x e.lo
    have := mn_def (mx x e.lo) e.hi
    omega
  | some y =>
    rw [place_some g]
    exact h.yes y g
theorem atLeast_ok {e : Eff} (h : e.Ok) {n : Int} (h0 : 0 ≤ n) (h1 : n ≤ e.c) :
    (e.atLeast n).Ok ∧ (e.atLeast n).c = e.c ∧ (e.atLeast n).tu = e.tu ∧ ∀ x, (e.atLeast n).place x = mx (e.place x) n ∧ (e.atLeast n).carried x = e.carried x + (mx (e.place x) n - e.place x) := by
  have a := h.lo0
  have b := h.lh
  have d := h.hc
  cases g : e.goal with
  | none =>
    obtain ⟨z, l⟩ := h.no g
    unfold Eff.atLeast
    rw [g]
    dsimp only
    by_cases q : n ≤ e.hi
    · rw [if_pos q]
      have m := mx_def e.lo n
      obtain ⟨o, p⟩ := mkE_cases (c := e.c) (lo := mx e.lo n) (hi := e.hi) (t := e.tu) (by omega) (by omega) d
      refine ⟨o, rfl, rfl, fun x => ⟨?_, ?_⟩⟩
      · rw [p, place_none g]
        have := mx_def x e.lo
        have := mx_def x (mx e.lo n)
        have := mn_def (mx x (mx e.lo n)) e.hi
        have := mn_def (mx x e.lo) e.hi
        have := mx_def (mn (mx x e.lo) e.hi) n
        omega
      · rw [place_none g]
        unfold Eff.carried
        simp only [mkE_lo, mkE_hi, mkE_ex]
        have := mx_def x e.lo
        have := mn_def (mx x e.lo) e.hi
        have := mx_def (mn (mx x e.lo) e.hi) n
        have := mx_def (mx e.lo n - x) (x - e.hi)
        have := mx_def (mx (mx e.lo n - x) (x - e.hi)) 0
        have := mx_def (e.lo - x) (x - e.hi)
        have := mx_def (mx (e.lo - x) (x - e.hi)) 0
        omega
    · rw [if_neg q]
      refine ⟨Ok_some (by omega) (by omega) d (by omega) h0 h1, rfl, rfl, fun x => ⟨?_, ?_⟩⟩
      · rw [place_none g, mkE_some]
        show n = _
        have := mx_def x e.lo
        have := mn_def (mx x e.lo) e.hi
        have := mx_def (mn (mx x e.lo) e.hi) n
        omega
      · rw [place_none g]
        unfold Eff.carried
        simp only [mkE_lo, mkE_hi, mkE_ex]
        have := mx_def x e.lo
        have := mn_def (mx x e.lo) e.hi
        have := mx_def (mn (mx x e.lo) e.hi) n
        have := mx_def (e.hi - x) (x - e.hi)
        have := mx_def (mx (e.hi - x) (x - e.hi)) 0
        have := mx_def (e.lo - x) (x - e.hi)
        have := mx_def (mx (e.lo - x) (x - e.hi)) 0
        omega
  | some y =>
    obtain ⟨y0, y1⟩ := h.yes y g
    unfold Eff.atLeast
    rw [g]
    dsimp only
    by_cases q : n ≤ y
    · rw [if_pos q]
      refine ⟨h, rfl, rfl, fun x => ?_⟩
      rw [place_some g]
      have := mx_def y n
      omega
    · rw [if_neg q]
      have := h.ex0
      refine ⟨Ok_some a b d (by omega) h0 h1, rfl, rfl, fun x => ⟨?_, ?_⟩⟩
      · rw [place_some g, mkE_some]
        show n = _
        have := mx_def y n
        omega
      · rw [place_some g]
        unfold Eff.carried
        simp only [mkE_lo, mkE_hi, mkE_ex]
        have := mx_def y n
        omega
theorem mir_ok {e : Eff} (h : e.Ok) : e.mir.Ok ∧ e.mir.c = e.c ∧ e.mir.tu = e.tu ∧ ∀ x, e.mir.place x = e.c - e.place (e.c - x) ∧ e.mir.carried x = e.carried (e.c - x) := by
  have a := h.lo0
  have b := h.lh
  have d := h.hc
  have car : ∀ x, e.mir.carried x = e.carried (e.c - x) := fun x => by
    unfold Eff.carried Eff.mir
    simp only [mkE_lo, mkE_hi, mkE_ex]
    have := mx_def (e.c - e.hi - x) (x - (e.c - e.lo))
    have := mx_def (mx (e.c - e.hi - x) (x - (e.c - e.lo))) 0
    have := mx_def (e.lo - (e.c - x)) (e.c - x - e.hi)
    have := mx_def (mx (e.lo - (e.c - x)) (e.c - x - e.hi)) 0
    omega
  cases g : e.goal with
  | none =>
    obtain ⟨z, l⟩ := h.no g
    have em : e.mir = mkE e.c (e.c - e.hi) (e.c - e.lo) 0 none e.tu := by
      unfold Eff.mir
      rw [g, z] <;> rfl
    obtain ⟨o, p⟩ := mkE_cases (c := e.c) (lo := e.c - e.hi) (hi := e.c - e.lo) (t := e.tu) (by omega) (by omega) (by omega)
    refine ⟨by rw [em]; exact o, rfl, rfl, fun x => ⟨?_, car x⟩⟩
    rw [em, p, place_none g]
    have := mx_def x (e.c - e.hi)
    have := mn_def (mx x (e.c - e.hi)) (e.c - e.lo)
    have := mx_def (e.c - x) e.lo
    have := mn_def (mx (e.c - x) e.lo) e.hi
    omega
  | some y =>
    obtain ⟨y0, y1⟩ := h.yes y g
    have em : e.mir = mkE e.c (e.c - e.hi) (e.c - e.lo) e.ex (some (e.c - y)) e.tu := by
      unfold Eff.mir
      rw [g] <;> rfl
    refine ⟨by rw [em]; exact Ok_some (by omega) (by omega) (by omega) h.ex0 (by omega) (by omega), rfl, rfl, fun x => ⟨?_, car x⟩⟩
    rw [em, mkE_some, place_some g] <;> rfl
theorem atMost_ok {e : Eff} (h : e.Ok) {m : Int} (h0 : 0 ≤ m) (h1 : m ≤ e.c) :
    (e.atMost m).Ok ∧ (e.atMost m).c = e.c ∧ (e.atMost m).tu = e.tu ∧ ∀ x, (e.atMost m).place x = mn (e.place x) m ∧ (e.atMost m).carried x = e.carried x + (e.place x - mn (e.place x) m) := by
  obtain ⟨o1, c1, t1, p1⟩ := mir_ok h
  obtain ⟨o2, c2, t2, p2⟩ := atLeast_ok o1 (n := e.c - m) (by omega) (by rw [c1]; omega)
  obtain ⟨o3, c3, t3, p3⟩ := mir_ok o2
  refine ⟨o3, by unfold Eff.atMost; rw [c3, c2, c1], by unfold Eff.atMost; rw [t3, t2, t1], fun x => ?_⟩
  obtain ⟨a3, b3⟩ := p3 x
  rw [c2, c1] at a3 b3
  obtain ⟨a2, b2⟩ := p2 (e.c - x)
  obtain ⟨a1, b1⟩ := p1 (e.c - x)
  have ex : e.c - (e.c - x) = x := by omega
  rw [ex] at a1 b1
  unfold Eff.atMost
  rw [a3, b3, a2, b2, a1, b1]
  have := mx_def (e.c - e.place x) (e.c - m)
  have := mn_def (e.place x) m
  omega
theorem nothing_ok {c : Int} (h : 0 ≤ c) : (nothing c).Ok ∧ ∀ x, 0 ≤ x → x ≤ c → (nothing c).place x = x ∧ (nothing c).carried x = 0 := by
  obtain ⟨o, p⟩ := mkE_cases (c := c) (lo := 0) (hi := c) (t := false) (by omega) h (by omega)
  refine ⟨o, fun x h0 h1 => ⟨?_, ?_⟩⟩
  · show (mkE c 0 c 0 none false).place x = x
    rw [p]
    have := mx_def x 0
    have := mn_def (mx x 0) c
    omega
  · show (mkE c 0 c 0 none false).carried x = 0
    unfold Eff.carried
    simp only [mkE_lo, mkE_hi, mkE_ex]
    have := mx_def (0 - x) (x - c)
    have := mx_def (mx (0 - x) (x - c)) 0
    omega
/-! ### steps one by one -/
def absI (a : Int) : Int := if a < 0 then -a else a
def simP (c : Int) : List (Int × Int) → Int → Int
  | [], x => x
  | p :: r, x => simP c r (moved c x p.1 p.2)
def simC (c : Int) : List (Int × Int) → Int → Int
  | [], _ => 0
  | p :: r, x => absI (moved c x p.1 p.2 - x) + simC c r (moved c x p.1 p.2)
def fits (c : Int) (l : List (Int × Int)) : Prop := ∀ p ∈ l, (p.1 = 1 ∨ p.1 = -1 ∨ p.1 = 0) ∧ 0 ≤ p.2 ∧ p.2 ≤ c
theorem effStep_ok {c : Int} {e : Eff} (h : e.Ok) (hc : e.c = c) {p : Int × Int} (hs : p.1 = 1 ∨ p.1 = -1 ∨ p.1 = 0) (h0 : 0 ≤ p.2) (h1 : p.2 ≤ c) :
    (effStep c e p).Ok ∧ (effStep c e p).c = c ∧ (effStep c e p).tu = e.tu ∧ ∀ x, (effStep c e p).place x = moved c (e.place x) p.1 p.2 ∧
      (effStep c e p).carried x = e.carried x + absI (moved c (e.place x) p.1 p.2 - e.place x) := by
  unfold effStep moved
  rcases hs with s | s | s
  · rw [if_pos s]
    obtain ⟨a, b, d, f⟩ := atLeast_ok h h0 (by omega)
    refine ⟨a, b.trans hc, d, fun x => ?_⟩
    rw [if_pos s, (f x).1, (f x).2]
    refine ⟨rfl, ?_⟩
    unfold absI
    have := mx_def (e.place x) p.2
    split <;> omega
  · rw [if_neg (by omega), if_pos s]
    obtain ⟨a, b, d, f⟩ := atMost_ok h (m := c - p.2) (by omega) (by omega)
    refine ⟨a, b.trans hc, d, fun x => ?_⟩
    rw [if_neg (by omega), if_pos s, (f x).1, (f x).2]
    refine ⟨rfl, ?_⟩
    unfold absI
    have := mn_def (e.place x) (c - p.2)
    split <;> omega
  · rw [if_neg (by omega), if_neg (by omega)]
    refine ⟨h, hc, rfl, fun x => ?_⟩
    rw [if_neg (by omega), if_neg (by omega)]
    refine ⟨rfl, ?_⟩
    unfold absI
    split <;> omega
theorem fold_ok {c : Int} : ∀ (l : List (Int × Int)) (e : Eff), e.Ok → e.c = c → fits c l →
    (l.foldl (effStep c) e).Ok ∧ (l.foldl (effStep c) e).c = c ∧ (l.foldl (effStep c) e).tu = e.tu ∧ ∀ x, (l.foldl (effStep c) e).place x = simP c l (e.place x) ∧ (l.foldl (effStep c) e).carried x = e.carried x + simC c l (e.place x)
  | [], e, h, hc, _ => ⟨h, hc, rfl, fun x => ⟨rfl, by show e.carried x = e.carried x + 0; omega⟩⟩
  | p :: r, e, h, hc, hf => by
    obtain ⟨hs, h0, h1⟩ := hf p List.mem_cons_self
    obtain ⟨a, b, d, f⟩ := effStep_ok h hc hs h0 h1
    obtain ⟨a2, b2, d2, f2⟩ := fold_ok r (effStep c e p) a b fun q hq => hf q (List.mem_cons_of_mem _ hq)
    refine ⟨a2, b2, d2.trans d, fun x => ?_⟩
    rw [List.foldl_cons, (f2 x).1, (f2 x).2, (f x).1, (f x).2]
    refine ⟨rfl, ?_⟩
    show _ = e.carried x + (absI (moved c (e.place x) p.1 p.2 - e.place x) + simC c r (moved c (e.place x) p.1 p.2))
    omega
theorem mkE_self {e : Eff} (h : e.Ok) (t : Bool) : mkE e.c e.lo e.hi e.ex e.goal t = { e with tu := t } := by
  unfold mkE
  cases g : e.goal with
  | none =>
    have := (h.no g).2
    rw [if_neg (by omega)]
  | some y =>
    rw [if_neg (by intro z; cases z.1)]
theorem sides_fits {c : Int} : ∀ (l : List Stp) (s : Int), (s = 1 ∨ s = -1) → 0 ≤ c → fitsS c l → fits c (sides s l)
  | [], _, _, _, _ => fun p hp => nomatch hp
  | .turn :: r, s, hs, h0, h => fun p hp => by
    rcases List.mem_cons.mp hp with e | hp
    · subst e
      exact ⟨.inr (.inr rfl), by show (0 : Int) ≤ 0; omega, h0⟩
    · exact sides_fits r (0 - s) (by omega) h0 (fun b n hm => h b n (List.mem_cons_of_mem _ hm)) p hp
  | .mt b n :: r, s, hs, h0, h => fun p hp => by
    rcases List.mem_cons.mp hp with e | hp
    · subst e
      refine ⟨?_, h b n List.mem_cons_self⟩
      show (if b = true then s else 0 - s) = 1 ∨ (if b = true then s else 0 - s) = -1 ∨ (if b = true then s else 0 - s) = 0
      split <;> omega
    · exact sides_fits r s hs h0 (fun b n hm => h b n (List.mem_cons_of_mem _ hm)) p hp
theorem effOf_ok {c : Int} {l : List Stp} (hc : 0 ≤ c) (hl : fitsS c l) :
    (effOf c l).Ok ∧ (effOf c l).c = c ∧ (effOf c l).tu = turning l ∧ ∀ x, 0 ≤ x → x ≤ c → (effOf c l).place x = simP c (sides 1 l) x ∧ (effOf c l).carried x = simC c (sides 1 l) x := by
  obtain ⟨n0, n1⟩ := nothing_ok hc
  obtain ⟨a, b, d, f⟩ := fold_ok (sides 1 l) (nothing c) n0 rfl (sides_fits l 1 (.inl rfl) hc hl)
  have e : effOf c l = ⟨c, (effFold c (sides 1 l)).lo, (effFold c (sides 1 l)).hi, (effFold c (sides 1 l)).ex, (effFold c (sides 1 l)).goal, turning l⟩ := by
    show mkE c (effFold c (sides 1 l)).lo (effFold c (sides 1 l)).hi (effFold c (sides 1 l)).ex (effFold c (sides 1 l)).goal (turning l) = _
    have h := mkE_self (e := effFold c (sides 1 l)) a (turning l)
    have hb : (effFold c (sides 1 l)).c = c := b
    rw [hb] at h
    exact h
  rw [e]
  have hcc : (effFold c (sides 1 l)).c = c := b
  have hhc : (effFold c (sides 1 l)).hi ≤ c := Int.le_trans a.hc (Int.le_of_eq hcc)
  refine ⟨⟨a.lo0, a.lh, hhc, a.ex0, a.no, fun g hg => ⟨(a.yes g hg).1, Int.le_trans (a.yes g hg).2 (Int.le_of_eq hcc)⟩⟩, rfl, rfl, fun x h0 h1 => ?_⟩
  obtain ⟨p1, p2⟩ := f x
  rw [(n1 x h0 h1).1, (n1 x h0 h1).2] at *
  refine ⟨p1, ?_⟩
  have p2' : (effFold c (sides 1 l)).carried x = 0 + simC c (sides 1 l) x := p2
  show (effFold c (sides 1 l)).carried x = _
  rw [p2']
  omega
end ChM

set_option Elab.async false
set_option linter.all false
set_option autoImplicit false
set_option maxRecDepth 100000
set_option maxHeartbeats 4000000
namespace Ch
open PySem PySem.Spec PyProof.Rows L2 ChM
/-! ### steps, plans -/
def roomS (b : Bool) : Str := if b then "red" else "blue"
def stepV : Stp → List V
  | .turn => [.str "turn"]
  | .mt b n => [.str (roomS b), .int n]
def StepsAt (H : Hp) : List V → List Stp → Prop := Paired fun v s => ∃ p, v = .ref p ∧ H p = some (.tup (stepV s))
theorem pr_len {α β : Type} {R : α → β → Prop} : ∀ {xs : List α} {ys : List β}, Paired R xs ys → xs.length = ys.length
  | _, _, .nil => rfl
  | _, _, .cons _ t => congrArg (· + 1) (pr_len t)
theorem pr_at {α β : Type} {R : α → β → Prop} : ∀ {xs : List α} {ys : List β} {i : Nat} {x : α}, Paired R xs ys → xs[i]? = some x → ∃ y, ys[i]? = some y ∧ R x y
  | _, _, _, _, .nil, e => nomatch e
  | _, _, 0, x, .cons r _, e => ⟨_, rfl, by cases e; exact r⟩
  | _, _, i + 1, x, .cons _ t, e => pr_at (i := i) t e
theorem pr_atR {α β : Type} {R : α → β → Prop} : ∀ {xs : List α} {ys : List β} {i : Nat} {y : β}, Paired R xs ys → ys[i]? = some y → ∃ x, xs[i]? = some x ∧ R x y
  | _, _, _, _, .nil, e => nomatch e
  | _, _, 0, x, .cons r _, e => ⟨_, rfl, by cases e; exact r⟩
  | _, _, i + 1, x, .cons _ t, e => pr_atR (i := i) t e
theorem pr_app {α β : Type} {R : α → β → Prop} : ∀ {xs xs' : List α} {ys ys' : List β}, Paired R xs ys → Paired R xs' ys' → Paired R (xs ++ xs') (ys ++ ys')
  | _, _, _, _, .nil, t => t
  | _, _, _, _, .cons r t, u => .cons r (pr_app t u)
theorem pr_im {α β : Type} {R R' : α → β → Prop} (f : ∀ a b, R a b → R' a b) : ∀ {xs : List α} {ys : List β}, Paired R xs ys → Paired R' xs ys
  | _, _, .nil => .nil
  | _, _, .cons r t => .cons (f _ _ r) (pr_im f t)
theorem pr_take {α β : Type} {R : α → β → Prop} : ∀ (n : Nat) {xs : List α} {ys : List β}, Paired R xs ys → Paired R (xs.take n) (ys.take n)
  | 0, _, _, _ => by rw [List.take_zero, List.take_zero]; exact .nil
  | n + 1, _, _, .nil => .nil
  | n + 1, _, _, .cons r t => .cons r (pr_take n t)
theorem pr_drop {α β : Type} {R : α → β → Prop} : ∀ (n : Nat) {xs : List α} {ys : List β}, Paired R xs ys → Paired R (xs.drop n) (ys.drop n)
  | 0, _, _, t => t
  | n + 1, _, _, .nil => .nil
  | n + 1, _, _, .cons r t => pr_drop n t
theorem pr_snoc {α β : Type} {R : α → β → Prop} {xs : List α} {ys : List β} {x : α} {y : β} (t : Paired R xs ys) (r : R x y) : Paired R (xs ++ [x]) (ys ++ [y]) := pr_app t (.cons r .nil)
theorem StepsAt.mono {H H' : Hp} {vs : List V} {l : List Stp} (e : Same H H') (h : StepsAt H vs l) : StepsAt H' vs l := pr_im (fun _ _ ⟨p, e1, e2⟩ => ⟨p, e1, e p _ e2⟩) h
structure PlanAt (C : Addr) (H : Hp) (p : Addr) (l : List Stp) : Prop where
  ex : ∃ dx t vs, H p = some (.ins C dx [("parts", .ref t)]) ∧ H t = some (.tup vs) ∧ StepsAt H vs l
theorem PlanAt.mono {C : Addr} {H H' : Hp} {p : Addr} {l : List Stp} (e : Same H H') (h : PlanAt C H p l) : PlanAt C H' p l := by
  obtain ⟨dx, t, vs, h1, h2, h3⟩ := h.ex
  exact ⟨dx, t, vs, e _ _ h1, e _ _ h2, h3.mono e⟩
/-- a step that a plan may have -/
def goodS (s : Stp) : Prop := ∀ b n, s = .mt b n → 0 ≤ n ∧ n ≤ 1000000000000000000
def goodP (l : List Stp) : Prop := (∀ s ∈ l, goodS s) ∧ l.length ≤ 60
theorem roomS_cases (b : Bool) : (b = true ∧ roomS b = "red") ∨ (b = false ∧ roomS b = "blue") := by
  cases b
  · exact .inr ⟨rfl, rfl⟩
  · exact .inl ⟨rfl, rfl⟩
/-- (side, need) -/
def pairV (p : Int × Int) : List V := [.int p.1, .int p.2]
def PairsAt (H : Hp) : List V → List (Int × Int) → Prop := Paired fun v s => ∃ p, v = .ref p ∧ H p = some (.tup (pairV s))
theorem PairsAt.mono {H H' : Hp} {vs : List V} {l : List (Int × Int)} (e : Same H H') (h : PairsAt H vs l) : PairsAt H' vs l := pr_im (fun _ _ ⟨p, e1, e2⟩ => ⟨p, e1, e p _ e2⟩) h
/-- a list at r, that is written -/
theorem PairsAt.mono2 {H H' : Hp} {vs : List V} {l : List (Int × Int)} {r : Addr} {xs : List V} {o : HO} (h : PairsAt H vs l) (e : Same H H') (hr : H' r = some (.lst xs)) : PairsAt (upd H' r o) vs l :=
  pr_im (fun _ _ ⟨p, e1, e2⟩ => ⟨p, e1, by rw [upd_ne (ne_of (e p _ e2) hr (by intro z; cases z))]; exact e p _ e2⟩) h
theorem StepsAt.mono2 {H H' : Hp} {vs : List V} {l : List Stp} {r : Addr} {xs : List V} {o : HO} (h : StepsAt H vs l) (e : Same H H') (hr : H' r = some (.lst xs)) : StepsAt (upd H' r o) vs l :=
  pr_im (fun _ _ ⟨p, e1, e2⟩ => ⟨p, e1, by rw [upd_ne (ne_of (e p _ e2) hr (by intro z; cases z))]; exact e p _ e2⟩) h
theorem PlanAt.mono2 {C : Addr} {H H' : Hp} {p r : Addr} {l : List Stp} {xs : List V} {o : HO} (h : PlanAt C H p l) (e : Same H H') (hr : H' r = some (.lst xs)) : PlanAt C (upd H' r o) p l := by
  obtain ⟨dx, t, vs, h1, h2, h3⟩ := h.ex
  exact ⟨dx, t, vs, by rw [upd_ne (ne_of (e p _ h1) hr (by intro z; cases z))]; exact e p _ h1, by rw [upd_ne (ne_of (e t _ h2) hr (by intro z; cases z))]; exact e t _ h2, h3.mono2 e hr⟩
/-! ### effects -/
def goalV : Option Int → V
  | none => .non
  | some g => .int g
def effF (e : Eff) : List (Str × V) := [("chairs", .int e.c), ("low", .int e.lo), ("high", .int e.hi), ("extra", .int e.ex), ("goal", goalV e.goal), ("turned", .bl e.tu)]
def EffAt (C : Addr) (H : Hp) (p : Addr) (e : Eff) : Prop := ∃ dx, H p = some (.ins C dx (effF e))
theorem EffAt.mono {C : Addr} {H H' : Hp} {p : Addr} {e : Eff} (s : Same H H') (h : EffAt C H p e) : EffAt C H' p e := let ⟨dx, q⟩ := h; ⟨dx, s _ _ q⟩
section
variable {H : Hp} {Q : VK} {K : PySem.W.Frag} {C p q : Addr} {e : Eff} {f : Str} {v : V}
theorem x_eff (h : EffAt C H p e) (c : Cls K C) (na : NoAttr K C f) (l : (effF e).lookup f = some v) (k : Q v H) : rFld K f (.ref p) H Q := let ⟨_, q⟩ := h; x_fldAt q c na l k
theorem eff_chairs : (effF e).lookup ("chairs" : Str) = some (.int e.c) := by unfold effF; kernel_rfl
theorem eff_low : (effF e).lookup ("low" : Str) = some (.int e.lo) := by unfold effF; kernel_rfl
theorem eff_high : (effF e).lookup ("high" : Str) = some (.int e.hi) := by unfold effF; kernel_rfl
theorem eff_extra : (effF e).lookup ("extra" : Str) = some (.int e.ex) := by unfold effF; kernel_rfl
theorem eff_goal : (effF e).lookup ("goal" : Str) = some (goalV e.goal) := by unfold effF; kernel_rfl
theorem eff_turned : (effF e).lookup ("turned" : Str) = some (.bl e.tu) := by unfold effF; kernel_rfl
/-- step == ("turn",) -/
def stepD : Stp → PyData
  | .turn => .tuple [.str "turn"]
  | .mt b n => .tuple [.str (roomS b), .int n]
theorem step_dp {s : Stp} (h : H p = some (.tup (stepV s))) : Dp K H (.ref p) (stepD s) := by
  cases s with
  | turn => exact .tup (SqT.of h) (.cons (.str _) .nil)
  | mt b n => exact .tup (SqT.of h) (.cons (.str _) (.cons (.int _) .nil))
theorem eq_turn {s : Stp} (h1 : H p = some (.tup (stepV s))) (h2 : H q = some (.tup [.str "turn"])) (k : Q (.bl (decide (s = .turn))) H) : rEqU K (.ref p) (.ref q) H Q := by
  refine x_eqDp (step_dp h1) (step_dp (s := .turn) h2) ?_ (by decide +kernel) ?_
  · cases s with
    | turn => decide +kernel
    | mt b n => cases b <;> kernel_rfl
  · cases s with
    | turn => exact k
    | mt b n =>
      have ez : PyData.eqv (stepD (.mt b n)) (stepD .turn) = false := by
        show (PyData.eqv (.str (roomS b)) (.str "turn") && false) = false
        rw [Bool.and_false]
      rw [ez]
      exact k
theorem step_len {s : Stp} : (stepV s).length = if s = .turn then 1 else 2 := by
  cases s <;> rfl
end
end Ch
/-! ### the draws' state: a list at st, written in place -/
namespace Ch
open PySem PySem.Spec PyProof.Rows L2 ChM
def SameB (st : Addr) (H H' : Hp) : Prop := ∀ b o, b ≠ st → H b = some o → H' b = some o
theorem SameB.refl (st : Addr) (H : Hp) : SameB st H H := fun _ _ _ h => h
theorem SameB.trans {st : Addr} {H H1 H2 : Hp} (a : SameB st H H1) (b : SameB st H1 H2) : SameB st H H2 := fun c o n h => b c o n (a c o n h)
theorem SameB.of {st : Addr} {H H' : Hp} (s : Same H H') : SameB st H H' := fun c o _ h => s c o h
theorem SameB.upd {st : Addr} {H : Hp} {o : HO} : SameB st H (upd H st o) := fun b u n h => by
  rw [upd_ne n]
  exact h
structure StAt (K : PySem.W.Frag) (H : Hp) (st a : Addr) (ns : List Int) : Prop where
  lst : ∃ pos m r : Int, H st = some (.lst [.ref a, .int pos, .int m, .int r]) ∧ 0 ≤ pos
  scr : ∀ H', SameB st H H' → SqL K H' a (ns.map V.int)
theorem StAt.mono {K : PySem.W.Frag} {H H' : Hp} {st a : Addr} {ns : List Int} (h : StAt K H st a ns) (s : Same H H') : StAt K H' st a ns := by
  obtain ⟨pos, m, r, h1, h2⟩ := h.lst
  exact ⟨⟨pos, m, r, s _ _ h1, h2⟩, fun H2 s2 => h.scr H2 ((SameB.of s).trans s2)⟩
theorem StAt.scr0 {K : PySem.W.Frag} {H : Hp} {st a : Addr} {ns : List Int} (h : StAt K H st a ns) : SqL K H a (ns.map V.int) := h.scr H (SameB.refl _ _)
theorem StAt.put {K : PySem.W.Frag} {H : Hp} {st a : Addr} {ns : List Int} {pos m r : Int} (h : StAt K H st a ns) (h0 : 0 ≤ pos) : StAt K (upd H st (.lst [.ref a, .int pos, .int m, .int r])) st a ns :=
  ⟨⟨pos, m, r, upd_same, h0⟩, fun H' s => h.scr H' (SameB.upd.trans s)⟩
theorem StAt.new {K : PySem.W.Frag} {H : Hp} {st a : Addr} {ns : List Int} {pos m r : Int} (hs : SqL K H a (ns.map V.int)) (hn : H st = none) (h0 : 0 ≤ pos) : StAt K (upd H st (.lst [.ref a, .int pos, .int m, .int r])) st a ns := by
  refine ⟨⟨pos, m, r, upd_same, h0⟩, fun H' s => ?_⟩
  have key : ∀ b o, H b = some o → H' b = some o := fun b o e => by
    have hb : b ≠ st := ne_of_none e hn
    refine s b o hb ?_
    rw [upd_ne hb]
    exact e
  rcases hs with (h | ⟨o, h⟩) | h
  · exact .inl (.inl (key _ _ h))
  · exact .inl (.inr ⟨o, key _ _ h⟩)
  · exact .inr h
/-- not the state: another kind of object, or one that came later -/
theorem StAt.ne {K : PySem.W.Frag} {H : Hp} {st a p : Addr} {ns : List Int} {o : HO} (h : StAt K H st a ns) (hp : H p = some o) (hd : ∀ xs, o ≠ .lst xs) : p ≠ st := by
  obtain ⟨_, _, _, h1, _⟩ := h.lst
  exact ne_of hp h1 (hd _)
theorem StAt.neN {K : PySem.W.Frag} {H : Hp} {st a p : Addr} {ns : List Int} (h : StAt K H st a ns) (hp : H p = none) : p ≠ st := by
  obtain ⟨_, _, _, h1, _⟩ := h.lst
  exact (ne_of_none h1 hp).symm
theorem StepsAt.monoB {K : PySem.W.Frag} {H H' : Hp} {st a : Addr} {ns : List Int} {vs : List V} {l : List Stp} (h : StAt K H st a ns) (s : SameB st H H') (hs : StepsAt H vs l) : StepsAt H' vs l :=
  pr_im (fun _ _ ⟨p, e1, e2⟩ => ⟨p, e1, s p _ (h.ne e2 fun xs z => nomatch z) e2⟩) hs
theorem PlanAt.monoB {K : PySem.W.Frag} {H H' : Hp} {st a C p : Addr} {ns : List Int} {l : List Stp} (h : StAt K H st a ns) (s : SameB st H H') (hp : PlanAt C H p l) : PlanAt C H' p l := by
  obtain ⟨dx, t, vs, h1, h2, h3⟩ := hp.ex
  exact ⟨dx, t, vs, s _ _ (h.ne h1 fun xs z => nomatch z) h1, s _ _ (h.ne h2 fun xs z => nomatch z) h2, StepsAt.monoB h s h3⟩
theorem SameB.free {K : PySem.W.Frag} {H H' : Hp} {st a p : Addr} {ns : List Int} (h : StAt K H' st a ns) (s : SameB st H H') (hp : H' p = none) : H p = none := by
  cases e : H p with
  | none => rfl
  | some o =>
    have := s p o (h.neN hp) e
    rw [hp] at this
    cases this
end Ch
namespace Ch
open PySem PySem.Spec PyProof.Rows L2 ChM
theorem StAt.putD {K : PySem.W.Frag} {H H1 : Hp} {st a D : Addr} {ns : List Int} {o : HO} (S0 : StAt K H st a ns) (S : StAt K H1 st a ns) (hD : H D = none) (sB : SameB st H H1) : StAt K (upd H1 D o) st a ns ∧ SameB st H (upd H1 D o) := by
  have sN : SameB st H (upd H1 D o) := fun b u hb e => by
    rw [upd_ne (ne_of_none e hD)]
    exact sB b u hb e
  obtain ⟨p1, p2, p3, p4, p5⟩ := S.lst
  exact ⟨⟨⟨p1, p2, p3, by rw [upd_ne (S0.neN hD).symm]; exact p4, p5⟩, fun H' s' => S0.scr H' (sN.trans s')⟩, sN⟩
end Ch

set_option Elab.async false
set_option linter.all false
set_option autoImplicit false
set_option maxRecDepth 100000
set_option maxHeartbeats 4000000
namespace ChH
open PySem PySem.Spec PyProof.Rows L2 He
/-! ### the facts of a head: Fa's, further Bools, defs at any address -/
abbrev Fx : Type := PySem.W.Frag → Bool
def obsC (fa : List Fa) (xs : List Fx) (fn : List He5.DefA) (K : PySem.W.Frag) : AlD := ((fa.all fun f => f.ok K) && (xs.all fun x => x K) && fn.all fun d => d.ok K, fn.map fun d => He5.fnA K (d.at_ K))
def SaysC (fa : List Fa) (xs : List Fx) (fn : List He5.DefA) (K : PySem.W.Frag) : Prop := obsC fa xs fn K = He5.valA fn
def obsCG (n : Nat) (fa : List Fa) (xs : List Fx) (fn : List He5.DefA) (g : Addr → Option Obj) : AlD := obsC fa xs fn (frG g (He5.asA g n))
def hookC (n : Nat) (fa : List Fa) (xs : List Fx) (fn : List He5.DefA) : PySem.W.Hook where
  α := AlD
  obs := fun s => obsCG n fa xs fn s.heap.get?
  val := fun _ => He5.valA fn
  says := fun _ h => ∃ K : PySem.W.Frag, K.In h ∧ SaysC fa xs fn K
  of := fun _ _ e => ⟨_, frG_in, e⟩
  keeps := fun _ _ _ ⟨K, hK, c⟩ k => ⟨K, hK.keeps k, c⟩
theorem obsCG_eq {n : Nat} {fa : List Fa} {xs : List Fx} {fn : List He5.DefA} {g : Addr → Option Obj} {s : Shared} (h : ∀ a, g a = s.heap.get? a) : obsCG n fa xs fn g = (hookC n fa xs fn).obs s := by
  rw [show g = s.heap.get? from funext h]
  rfl
def fdOf (K : PySem.W.Frag) (a : Addr) : FuncData := match K.lookup a with
  | some ⟨_, _, .func fd, _⟩ => fd
  | _ => default
section
variable {fa : List Fa} {xs : List Fx} {fn : List He5.DefA} {K : PySem.W.Frag}
theorem says_1 (c : SaysC fa xs fn K) : ((fa.all fun f => f.ok K) && (xs.all fun x => x K) && fn.all fun d => d.ok K) = true := congrArg (fun z : AlD => z.1) c
theorem SaysC.fact (c : SaysC fa xs fn K) (i : Nat) {f : Fa} (h : fa[i]? = some f := by rfl) : f.ok K = true :=
  List.all_eq_true.mp (ba (ba (says_1 c)).1).1 f (List.mem_of_getElem? h)
theorem SaysC.ex (c : SaysC fa xs fn K) (i : Nat) {x : Fx} (h : xs[i]? = some x := by rfl) : x K = true :=
  List.all_eq_true.mp (ba (ba (says_1 c)).1).2 x (List.mem_of_getElem? h)
theorem SaysC.df (c : SaysC fa xs fn K) (i : Nat) {d : He5.DefA} (h : fn[i]? = some d := by rfl) : FunD K d.name d.qual d.params d.body d.scope (d.dvs K) (d.kws K) (d.at_ K) (fdOf K (d.at_ K)) := by
  have e : fn.map (fun d => He5.fnA K (d.at_ K)) = fn.map He5.DefA.val := congrArg (fun z : AlD => z.2) c
  have e2 : (fn.map fun d => He5.fnA K (d.at_ K))[i]? = (fn.map He5.DefA.val)[i]? := by rw [e]
  rw [List.getElem?_map, List.getElem?_map, h] at e2
  obtain ⟨fd, F⟩ := He5.DefA.funD (Option.some.inj e2) (List.all_eq_true.mp (ba (says_1 c)).2 d (List.mem_of_getElem? h))
  have ed : fdOf K (d.at_ K) = fd := by
    obtain ⟨oc, od, dV, kV, doc, pm, an, cdv, ct, osl, e, l, _⟩ := F.ex
    unfold fdOf
    rw [l]
  rw [ed]
  exact F
end
/-! ### a property, a class's constant, a class read -/
def prB (C m : Str) (K : PySem.W.Frag) : Bool := eqO (PySem.W.findIn K (.ref (ga K C)) m) (some (some (.ref (ma K (ga K C) m)))) && (eqO (PySem.W.specialIn K (.ref (ma K (ga K C) m)) "__get__") (some (some (.builtin "property.__get__"))) &&
  (decide (PySem.W.takesIn K (.ref (ma K (ga K C) m)) = some true) && (match PySem.W.recIn K (ma K (ga K C) m) "property" with
    | some (.ref _ :: _) => true
    | _ => false)))
abbrev gp (C m : Str) (K : PySem.W.Frag) : Addr := He5.wf K (ga K C) "property" m
theorem pr_ok {K : PySem.W.Frag} {C m : Str} (h : prB C m K = true) : PropOf K (ga K C) m (ma K (ga K C) m) (gp C m K) := by
  obtain ⟨h1, h⟩ := ba h
  obtain ⟨h2, h⟩ := ba h
  obtain ⟨h3, h4⟩ := ba h
  refine ⟨eqO_ok h1, eqO_ok h2, of_decide_eq_true h3, ?_⟩
  unfold gp He5.wf
  split at h4
  · rename_i f r e
    exact ⟨r, by rw [e]⟩
  · cases h4
def rdB (C : Str) (K : PySem.W.Frag) : Bool := PySem.W.readsIn K (ga K C) (.type "type") && eqO (PySem.W.specialIn K (.ref (ga K C)) "__getattribute__") (some (some (.builtin "type.__getattribute__")))
theorem rd_ok {K : PySem.W.Frag} {C : Str} (h : rdB C K = true) : ClX.CRead K (ga K C) (.type "type") := by
  obtain ⟨h1, h2⟩ := ba h
  exact ⟨h1, eqO_ok h2⟩
def cvB (C f : Str) (v : Dv) (K : PySem.W.Frag) : Bool := match PySem.W.findCls K (.ref (ga K C)) (.type "type") f with
  | some (.val u) => relB (v.v K) u
  | _ => false
theorem cv_ok {K : PySem.W.Frag} {C f : Str} {v : Dv} (h : cvB C f v K = true) : ∃ u, ClX.CVal K (ga K C) (.type "type") f (v.v K) u := by
  unfold cvB at h
  split at h
  · rename_i u e
    exact ⟨u, e, relB_ok h⟩
  · cases h
/-- a def's function object is that of its def (a class's method, by name) -/
def keB (C : Str) (K : PySem.W.Frag) : Bool := PySem.W.keepIn K (.ref (ga K C))
end ChH
/-! ### a classmethod -/
namespace ChH
open PySem PySem.Spec PyProof.Rows L2 He
abbrev gc (C m : Str) (K : PySem.W.Frag) : Addr := He5.wf K (ga K C) "classmethod" m
def cmB (C m : Str) (K : PySem.W.Frag) : Bool := (match PySem.W.findCls K (.ref (ga K C)) (.type "type") m with
  | some (.get (.builtin b) (.ref p) .none (.ref c)) => decide (b = "classmethod.__get__") && (decide (p = ma K (ga K C) m) && decide (c = ga K C))
  | _ => false) && ((match PySem.W.recIn K (ma K (ga K C) m) "classmethod" with
    | some (.ref _ :: _) => true
    | _ => false) && PySem.W.fnIn K (gc C m K))
theorem cm_ok {K : PySem.W.Frag} {C m : Str} (h : cmB C m K = true) : ClX.CMet K (ga K C) (.type "type") m (ma K (ga K C) m) (gc C m K) := by
  obtain ⟨h1, h⟩ := ba h
  obtain ⟨h2, h3⟩ := ba h
  refine ⟨?_, ?_, h3⟩
  · split at h1
    · rename_i b p c e
      obtain ⟨a1, h1⟩ := ba h1
      obtain ⟨a2, a3⟩ := ba h1
      rw [e, of_decide_eq_true a1, of_decide_eq_true a2, of_decide_eq_true a3]
    · cases h1
  · unfold gc He5.wf
    split at h2
    · rename_i f r e
      exact ⟨r, by rw [e]⟩
    · cases h2
end ChH
/-! ### a tuple of texts that stands in the written part -/
namespace ChH
open PySem PySem.Spec PyProof.Rows L2 He
def strOf : Value → Option Str
  | .str z _ => some z
  | _ => none
def tpsB (x : Str) (ys : List Str) (K : PySem.W.Frag) : Bool := match K.lookup (ga K x) with
  | some ⟨c, _, .seq its _, _⟩ => decide (c = .type "tuple") && decide (its.toList.map strOf = ys.map some)
  | _ => false
theorem vals_strs : ∀ {us : List Value} {ys : List Str}, us.map strOf = ys.map some → Vals (ys.map V.str) us
  | [], [], _ => .nil
  | u :: us, y :: ys, h => by
    injection h with h1 h2
    cases u with
    | str z t => cases h1; exact .cons ⟨t, rfl⟩ (vals_strs h2)
    | _ => cases h1
  | [], y :: ys, h => by cases h
  | u :: us, [], h => by cases h
theorem tps_ok {x : Str} {ys : List Str} {K : PySem.W.Frag} (hl : ys.length ≤ 1000) (h : tpsB x ys K = true) : ∀ H, SqT K H (ga K x) (ys.map V.str) := by
  unfold tpsB at h
  split at h
  · rename_i c dd its n sl el
    obtain ⟨h1, h2⟩ := ba h
    have v := vals_strs (of_decide_eq_true h2)
    intro H
    refine .inr ⟨_, its, n, el, of_decide_eq_true h1, rfl, ?_, v⟩
    have := v.length
    rw [List.length_map] at this
    have hs := sizeLine_eq
    have : its.size = its.toList.length := by simp
    omega
  · cases h
end ChH

set_option Elab.async false
set_option linter.all false
set_option maxRecDepth 100000
set_option maxHeartbeats 4000000
/-! ### an own exception class called with keywords: its __new__ takes no notice of them -/
namespace ChZ
open PySem PySem.W PySem.Calls PyProof.Rows PySem.HandSPX
section
variable {M : Model} {prog : Program} {w : World} {A : Around} {E : Value → Shared → Prop} {R : Result → Shared → Prop} {h : Heap} {g : Array GenState} {d : Drawn} {t : Nat} {os : OsState}
variable {nm q : Str} {C N : Addr} {bs bm bmB : List Value} {hdct : Bool} {sn : List Str} {sub : List Value} {ab : Bool} {col : Option Bool} {dd : Option Addr} {k0 k1 k2 k3 k5 : Option Value} {B newId initId : String} {kw : List (Str × Value)}
theorem newcheck_kw (F : ExcBaseFacts B newId initId bmB) (hT : ∀ X : String, bm.contains (.type X) = bmB.contains (.type X)) {Q : Unit → Shared → Prop}
    (hC : h.get? C = some (excClassObj nm q C N bs bm hdct sn sub ab col dd k0 k1 k2 k3 k5 newId)) (hq : Q () ⟨h, g, d, t, os⟩) :
    wpAny M A (checkBuiltinCall newId ⟨[.ref C], kw⟩) Q E ⟨h, g, d, t, os⟩ := by
  have inB : (Value.ref C :: bm).contains (.type B) = true := by
    rw [List.contains_cons, hT, F.hasB, Bool.or_true]
  have ns := F.noStar
  simp only [checkBuiltinCall, F.newKind,
    F.newSplit, F.newRow]
  repeat (first
    | refine wpAny_loadPart_at hC ?_
    | (refine wpAny_isSubtype_exc hC ?_; rw [inB])
    | refine wpAny_staticBase_exc hC ?_
    | refine wpAny_madeBy_exc hC ?_
    | simp only [bne_self_eq_false, Bool.false_eq_true, if_false]
    | wp_step)
  exact hq
theorem new_kw (F : ExcBaseFacts B newId initId bmB) (hT : ∀ X : String, bm.contains (.type X) = bmB.contains (.type X))
    (hC : h.get? C = some (excClassObj nm q C N bs bm hdct sn sub ab col dd k0 k1 k2 k3 k5 newId))
    (hq : R (.ok (.ret (.ref (h.objs.size + 1)))) ⟨(h.push (kdv_tup [])).push (excO C h.objs.size), g, d, t, os⟩) :
    codeAny (model prog w) A (.builtin newId ⟨[.ref C], kw⟩) R ⟨h, g, d, t, os⟩ := by
  have he := F.ends
  have inB : (Value.ref C :: bm).contains (.type B) = true := by
    rw [List.contains_cons, hT, F.hasB, Bool.or_true]
  have inA : (Value.ref C :: bm).contains (.type "AttributeError") = false := by
    rw [List.contains_cons, hT, F.noAttr]
    rfl
  have inN : (Value.ref C :: bm).contains (.type "NameError") = false := by
    rw [List.contains_cons, hT, F.noName]
    rfl
  refine codeAny_builtinAt F.entry ?_
  unfold Builtin.«BaseException.__new__»
  refine PySem.wpAt_bind ?_
  show PySem.wpAt _ _ _ (stack >>= _) _ _ _
  refine PySem.wpAt_bind (PySem.wpAt_stack fun p below => PySem.wpAt_of_wpAny ?_)
  wp_walk
  refine PySem.wpAt_of_wpAny ?_
  rw [F.owner]
  repeat (first
    | with_reducible refine wpAny_madeHere_exc F.canon hC ?_
    | with_reducible refine wpAny_loadPart_at hC ?_
    | (with_reducible refine wpAny_isSubtype_exc hC ?_
       first
       | rw [inB]
       | rw [inA]
       | rw [inN])
    | wp_step)
  show R _ _
  rw [Heap.size_push]
  exact hq
theorem tcall_kw (F : ExcBaseFacts B newId initId bmB) (hT : ∀ X : String, bm.contains (.type X) = bmB.contains (.type X)) {fI : Addr} {Q : Fin → Shared → Prop}
    (hC : h.get? C = some (excClassObj nm q C N bs bm hdct sn sub ab col dd k0 k1 k2 k3 k5 newId))
    (hi : Looks (model prog w) h (typeLookup (.ref C) "__init__") (some (.ref fI))) (hb : ∀ self, Looks (model prog w) h (bindSpecial (.ref fI) self) (.ref fI, [self]))
    (hq : codeAny (model prog w) A (.call (.ref fI) ⟨[.ref (h.objs.size + 1)], kw⟩)
      (fun r s' => match r with
        | .ok (.ret v) => v = .none ∧ Q (.done (.ret (.ref (h.objs.size + 1)))) s'
        | .ok _ => False
        | .error e => E e s')
      ⟨(h.push (kdv_tup [])).push (excO C h.objs.size), g, d, t, os⟩) :
    wpAny (model prog w) A (Builtin.«type.__call__» ⟨[.ref C], kw⟩) Q E ⟨h, g, d, t, os⟩ := by
  repeat (first
    | with_reducible refine wpAny_loadPart_at hC ?_
    | with_reducible refine wpAny_madeBy_exc hC ?_
    | wp_step)
  refine codeAny_call_builtin_code (Code.quiet_builtin _ F.quiet) (newcheck_kw F hT hC ?_)
  refine new_kw F hT hC ?_
  show wpAny _ _ _ _ _ _
  have kk : ∀ b o, h.get? b = some o → ((h.push (kdv_tup [])).push (excO C h.objs.size)).get? b = some o := fun b o e => Heap.get?_push_of_some _ (Heap.get?_push_of_some _ e)
  have hC2 := kk _ _ hC
  have hg2 : ((h.push (kdv_tup [])).push (excO C h.objs.size)).get? (h.objs.size + 1) = some (excO C h.objs.size) := by heap_get
  have inC : (Value.ref C :: bm).contains (.ref C) = true := by simp
  have j1 := hi.keeps kk
  have j2 := (hb (.ref (h.objs.size + 1))).keeps kk
  unfold isInstance
  repeat (first
    | with_reducible refine wpAny_loadPart_at hg2 ?_
    | (with_reducible refine wpAny_isSubtype_exc hC2 ?_
       rw [inC])
    | wp_step)
  show wpAny _ _ (typeLookup (.ref C) _) _ _ _
  refine j1.at ?_
  refine wpAny_holding (wpAny_bind (j2.at ?_))
  refine wpAny_bind (wpAny_call (codeAny_mono hq fun r s' z => ?_))
  rcases r with e | (v | _ | _ | _)
  · exact z
  · exact z.elim
  · exact z.elim
  · exact z.elim
  · obtain ⟨rfl, z⟩ := z
    first
    | exact wpAny_pure (wpAny_pure z)
    | (wp_walk; exact z)
theorem call_kw (F : ExcBaseFacts B newId initId bmB) (hT : ∀ X : String, bm.contains (.type X) = bmB.contains (.type X)) {fI : Addr}
    (hC : h.get? C = some (excClassObj nm q C N bs bm hdct sn sub ab col dd k0 k1 k2 k3 k5 newId))
    (hi : Looks (model prog w) h (typeLookup (.ref C) "__init__") (some (.ref fI))) (hb : ∀ self, Looks (model prog w) h (bindSpecial (.ref fI) self) (.ref fI, [self]))
    (hq : codeAny (model prog w) (A.under (.builtin "type.__call__" ⟨[.ref C], kw⟩)) (.call (.ref fI) ⟨[.ref (h.objs.size + 1)], kw⟩) (InitBack (h.objs.size + 1) R)
      ⟨(h.push (kdv_tup [])).push (excO C h.objs.size), g, d, t, os⟩) :
    codeAny (model prog w) A (.call (.ref C) ⟨[], kw⟩) R ⟨h, g, d, t, os⟩ := by
  have f1 := tc_lookup
  have f2 := tc_bind (.ref C)
  have ty : (⟨h, g, d, t, os⟩ : Shared).TypeIs (.ref C) "type" := ⟨_, hC, rfl⟩
  refine codeAny_of_tree ?_
  show wpAny _ _ (callAny (.ref C) _) _ _ _
  repeat (any_goals (first
    | assumption
    | with_reducible refine wpAny_loadPart_at hC ?_
    | wp_step))
  refine ⟨rfl, ?_⟩
  refine codeAny_call_builtin_at (Code.quiet_builtin _ (by decide +kernel)) entry_typeCall (wpAny_check_type_call_sub hC (tcall_kw F hT hC hi hb ?_))
  refine codeAny_mono hq fun r s' z => ?_
  rcases r with e | (v | _ | _ | _) <;> exact z
end
end ChZ
/-! ### raise C(f = e), C's __init__(self, *, f) calling an own base's __init__ -/
namespace Ch
open PySem PySem.Spec PyProof.Rows L2
/-- what __init__(self, *, f) keeps -/
def spXI (f : Str) (C : Addr) : Sp := fun vs H Q _ => ∃ (a : Addr) (v : V), vs = [.ref a, v] ∧ H a = some (exo a C none) ∧
  ∀ d, H d = none → d ≠ a → Q .non (upd (upd H d (exd d [(f, v)])) a (exo a C (some d)))
def tRx (C : Addr) (f : Str) (tk : TA) : L2.St → Hp → XK → Prop := fun σ H Q => tk σ H fun zs H1 => ∃ v, zs = [v] ∧ ∀ d, H1 d = none → Q (.ref C) (some d) (upd H1 d (.xd [(f, v)]))
theorem left_xd {H : Hp} {a C d : Addr} {f : Str} {v : V} (ha : H a = none) (hda : d ≠ a) :
    upd (L2.del (upd (upd (upd H a (exo a C none)) d (exd d [(f, v)])) a (exo a C (some d))) a) d (.xd [(f, v)]) = upd H d (.xd [(f, v)]) := by
  funext b
  by_cases h1 : b = d
  · rw [h1, upd_same, upd_same]
  · rw [upd_ne h1, upd_ne h1]
    by_cases h2 : b = a
    · rw [h2, del_same, ha]
    · rw [del_ne h2, upd_ne h2, upd_ne h1, upd_ne h2]
theorem pmk_kw {X : Cx} {CX : CXT} {x f : Str} {C fI : Addr} {k : Nat} {fd : FuncData} {kws : List Keyword} {tk : TA} {p pos : Pos} (T : OexC X.K C) (iC : PySem.W.findIn X.K (.ref C) "__init__" = some (some (.ref fI)))
    (tI : PySem.W.typeIn X.K (.ref fI) = some (.type "function")) (F1 : FnOk X.prog X.w X.K X.mg X.base CX k fI fd ["self", f] (spXI f C)) (hr : Room (k + 1) X.A)
    (hb : ∀ (s : Shared) (u v : Value), BindsTo s fd ⟨[u], [(f, v)]⟩ [("self", u), (f, v)]) (hx : Passes CX X (fun _ _ _ => False)) (hg : Gl X x) (hm : X.mg x = some (.ref C)) (hkw : PK X kws tk)
    (hall : (backToKw pos (keywordEach kws X.env)).all (·.1.isSome) = true := by rfl) (hks : (backToKw pos (keywordEach kws X.env)).filterMap (·.1) = [f] := by rfl) (hdb : (x == ("__debug__" : Str)) = false := by decide)
    (hpl : ((backTo pos (starEach [] X.env)).any (·.1) || (backToKw pos (keywordEach kws X.env)).any (·.1.isNone)) = false := by rfl) : PMk X (.Call (.Name x p) [] kws pos) (tRx C f tk) := by
  intro pins s σ H Q I h
  obtain ⟨nm, q, N, bs, bm, sn, sub, ab, col, dd, k0, k1, k2, k3, k5, hC, hbm⟩ := T.cls
  refine wpAny_Call_Name_kw (ld_glob I hg hm ?_ hdb)
  refine PySem.W.callWith_KW0 (h₀ := X.base) I.ok.mod.kin T.kC hall ?_ hpl
  refine thn (hkw.run pos pins s σ H _ I h) fun ws s2 ⟨zs, H1, I1, rz, v, ez, hq⟩ => ⟨I1.kIn, ?_⟩
  rw [hks]
  subst ez
  cases rz with
  | @cons _ u _ ur ru rn =>
    cases rn
    show wpAny _ _ (call (.ref C) [] [(f, u)]) _ _ _
    obtain ⟨hp, g, dr, tk', os⟩ := s2
    have hsz : hp.objs.size ≤ hp.objs.size + 1 := Nat.le_succ _
    have hn : H1 (hp.objs.size + 1) = none := I1.hok.fresh hsz
    have kk : ∀ b o, hp.get? b = some o → ((hp.push (PySem.W.kdv_tup [])).push (PySem.HandSPX.excO C hp.objs.size)).get? b = some o := fun b o e => Heap.get?_push_of_some _ (Heap.get?_push_of_some _ e)
    have hget : ((hp.push (PySem.W.kdv_tup [])).push (PySem.HandSPX.excO C hp.objs.size)).get? (hp.objs.size + 1) = some (PySem.HandSPX.excO C hp.objs.size) := by heap_get
    have I2 : Inv X pins σ (upd H1 (hp.objs.size + 1) (exo (hp.objs.size + 1) C none)) ⟨(hp.push (PySem.W.kdv_tup [])).push (PySem.HandSPX.excO C hp.objs.size), g, dr, tk', os⟩ :=
      I1.laid (t' := tk') (a := hp.objs.size + 1) (o := exo (hp.objs.size + 1) C none) (h' := (hp.push (PySem.W.kdv_tup [])).push (PySem.HandSPX.excO C hp.objs.size)) kk hsz (exo_ok hget)
    have r2 : Vals [V.ref (hp.objs.size + 1), v] [Value.ref (hp.objs.size + 1), u] := .cons rfl (.cons ru .nil)
    have hsp : spXI f C [V.ref (hp.objs.size + 1), v] (upd H1 (hp.objs.size + 1) (exo (hp.objs.size + 1) C none))
        (fun w H2 => w = .non ∧ ∃ d, H1 d = none ∧ d ≠ hp.objs.size + 1 ∧ H2 = upd (upd (upd H1 (hp.objs.size + 1) (exo (hp.objs.size + 1) C none)) d (exd d [(f, v)])) (hp.objs.size + 1) (exo (hp.objs.size + 1) C (some d))) (fun _ _ _ => False) :=
      ⟨_, v, rfl, upd_same, fun d hd hne => ⟨rfl, d, by rw [upd_ne hne] at hd; exact hd, hne, rfl⟩⟩
    refine wpAny_call (ChZ.call_kw PySem.F.excBase_ValueError (fun Y => PySem.HandSPX.refsVE_contains Y bm hbm) (I1.kIn _ _ hC) (PySem.W.looks_findIn I1.kIn iC) (fun self => PySem.W.bind_fn I1.kIn self tI)
      (codeAny_mono (F1.run _ X.stack _ _ ⟨[Value.ref (hp.objs.size + 1)], [(f, u)]⟩ [Value.ref (hp.objs.size + 1), u] _ _ (fun _ _ _ => False) (hr.make C [] [(f, u)]) (I2.env0.make C [] [(f, u)]) (hb _ _ _) r2 hsp) fun r s' hq' => ?_))
    cases r with
    | error er => exact hx pins σ _ _ er s' I2 hq'
    | ok fl =>
      cases fl with
      | ret u' =>
        obtain ⟨w, H2, os2, bare2, un2, hok2, rv, ev, d, hd1, hda, eH⟩ := hq'
        subst ev
        have q2 := hq d hd1
        rw [← left_xd (C := C) hn hda, ← eH] at q2
        have ea : H2 (hp.objs.size + 1) = some (exo (hp.objs.size + 1) C (some d)) := by rw [eH, upd_same]
        have ed : H2 d = some (exd d [(f, v)]) := by rw [eH, upd_ne hda, upd_same]
        obtain ⟨h2, g2, d2, t2, os'⟩ := s'
        exact ⟨rv, mk_end (raises_own T.exC T.tyC) I1 hsz kk un2 hok2 os2 bare2 ea ed hd1 q2⟩
      | next => exact False.elim hq'
      | brk => exact False.elim hq'
      | cont => exact False.elim hq'
/-- B.__init__(self, ..), B an own class that takes ValueError's -/
theorem pe_cinit {X : Cx} {x : Str} {B : Addr} {e : Expr} {es : List Expr} {ta : TA} {p1 p2 pos : Pos} {pl : Sem Bool} (hg : Gl X x) (hm : X.mg x = some (.ref B)) (r : ClX.CRead X.K B (.type "type"))
    (vB : PySem.W.findCls X.K (.ref B) (.type "type") "__init__" = some (.val (.builtin "ValueError.__init__"))) (ha : PA X (e :: es) ta) (hdb : (x == ("__debug__" : Str)) = false := by decide)
    (hc : eval (.Call (.Attribute (.Name x p1) "__init__" p2) (e :: es) [] pos) X.env = (do
      let ov ← eval (.Name x p1) X.env
      standAt p2.atName
      let (f, first) ← holding [ov] (getMethod ov "__init__" pl)
      callWith pos f first (backTo pos (starEach (e :: es) X.env)) (backToKw pos (keywordEach [] X.env))) := by rfl)
    (he : starEach (e :: es) X.env = (false, eval e X.env) :: starEach es X.env := by rfl) (hpl : (backTo pos (starEach es X.env)).any (·.1) = false := by rfl) :
    PE X (.Call (.Attribute (.Name x p1) "__init__" p2) (e :: es) [] pos) (tVeI X.K ta) := by
  refine ⟨fun pins s σ H Q I h => ?_⟩
  refine PySem.W.methodCall_KW (ld_glob I hg hm ?_ hdb) hc
  refine PySem.W.method_cls I.kIn r.ga (PySem.W.cls_value I.kIn r.rd vB (by rfl) ?_)
  show wpAny _ _ (callWith pos (Value.builtin "ValueError.__init__") [] (backTo pos (starEach (e :: es) X.env)) []) _ _ _
  refine PyProof.Rows.callWith_method1 (thn (ha.run pos pins _ σ H _ (I.tok _) h) fun us s1 ⟨vs, H1, I1, r1, a, C, ws, ev, hl, T, ea, q⟩ => ?_) he hpl
  subst ev
  cases r1 with
  | @cons _ u0 _ ur ra rw' =>
    obtain rfl : u0 = Value.ref a := ra
    have hlen : ur.length ≤ sizeLine := by
      rw [← Paired.length rw', sizeLine_eq]
      omega
    exact oinit_ok T I1 ea hlen fun s' J => ⟨.non, H1, J, rfl, q⟩
end Ch
/-! ### what the head tells of such a class -/
namespace ChH
open PySem PySem.Spec PyProof.Rows L2 He
def oexB (x : Str) (K : PySem.W.Frag) : Bool := (match K.lookup (ga K x) with
  | some ⟨.type "type", _, .cls cd, sl⟩ => (match cd.mro, sl.toList with
    | .ref C' :: bm, [_, _, _, _, some (.builtin n), _] => decide (C' = ga K x) && (decide (n = "ValueError.__new__") && (!cd.hasDel && (cd.hasDict && PySem.HandSPX.refsVE bm)))
    | _, _ => false)
  | _ => false) && (eqO (PySem.W.findIn K (.ref (ga K x)) "__setattr__") (some (some (.builtin "object.__setattr__"))) && (decide (PySem.W.subIn K (.ref (ga K x)) (.type "BaseException") = some true) &&
    (decide (PySem.W.typeIn K (.ref (ga K x)) = some (.type "type")) && (PySem.W.keepIn K (.ref (ga K x)) && (eqO (PySem.W.findIn K (.ref (ga K x)) "__init__") (some (some (.ref (ma K (ga K x) "__init__")))) &&
      decide (PySem.W.typeIn K (.ref (ma K (ga K x) "__init__")) = some (.type "function")))))))
structure Oex (K : PySem.W.Frag) (x : Str) : Prop where
  T : OexC K (ga K x)
  iC : PySem.W.findIn K (.ref (ga K x)) "__init__" = some (some (.ref (ma K (ga K x) "__init__")))
  tI : PySem.W.typeIn K (.ref (ma K (ga K x) "__init__")) = some (.type "function")
theorem oex_ok {K : PySem.W.Frag} {x : Str} (h : oexB x K = true) : Oex K x := by
  obtain ⟨h1, h⟩ := ba h
  obtain ⟨h2, h⟩ := ba h
  obtain ⟨h3, h⟩ := ba h
  obtain ⟨h4, h⟩ := ba h
  obtain ⟨h5, h⟩ := ba h
  obtain ⟨h6, h7⟩ := ba h
  refine ⟨⟨?_, eqO_ok h2, of_decide_eq_true h3, of_decide_eq_true h4, h5⟩, eqO_ok h6, of_decide_eq_true h7⟩
  split at h1
  · rename_i dd cd sl ho
    split at h1
    · rename_i C' bm k0 k1 k2 k3 n k5 hmr hs
      obtain ⟨a1, h1⟩ := ba h1
      obtain ⟨a2, h1⟩ := ba h1
      obtain ⟨a3, h1⟩ := ba h1
      obtain ⟨a4, a5⟩ := ba h1
      have a1 := of_decide_eq_true a1
      have a2 := of_decide_eq_true a2
      subst a1 a2
      obtain ⟨nm, bs, mro, ns, qn, hd, sn, sub, ab, col, del⟩ := cd
      dsimp only at hmr a3 a4
      have a3 : del = false := by cases del <;> first | rfl | exact absurd a3 (by decide)
      subst hmr a3 a4
      have hsl : sl = #[k0, k1, k2, k3, some (.builtin "ValueError.__new__"), k5] := by
        obtain ⟨l⟩ := sl
        simp only at hs
        rw [hs]
      subst hsl
      exact ⟨nm, qn, ns, bs, bm, sn, sub, ab, col, dd, k0, k1, k2, k3, k5, ho, a5⟩
    · cases h1
  · cases h1
def viB (x : Str) (K : PySem.W.Frag) : Bool := match PySem.W.findCls K (.ref (ga K x)) (.type "type") "__init__" with
  | some (.val (.builtin n)) => decide (n = "ValueError.__init__")
  | _ => false
theorem vi_ok {K : PySem.W.Frag} {x : Str} (h : viB x K = true) : PySem.W.findCls K (.ref (ga K x)) (.type "type") "__init__" = some (.val (.builtin "ValueError.__init__")) := by
  unfold viB at h
  split at h
  · rename_i n e
    rw [e, of_decide_eq_true h]
  · cases h
end ChH

set_option Elab.async false
set_option linter.all false
set_option autoImplicit false
set_option maxRecDepth 100000
set_option maxHeartbeats 4000000
/-! ### a def whose code object is told; its table of code objects -/
namespace Ch
open PySem PySem.Spec PyProof.Rows L2 LamX ChM
section
variable {P : Program} {w : World} {K : PySem.W.Frag} {mg : Str → Option Value} {base : Heap} {x qual : Str} {params : Arguments} {body : List Stmt} {scope : Scope} {kws : List (Str × V)} {f : Addr} {fd : FuncData}
theorem fnok_code {CX : CXT} {N ps : List Str} {k : Nat} {sp : Sp} (F : FunD K x qual params body scope [] kws f fd) (S : FnScope N ps scope) (len : ∀ vs H Q E, sp vs H Q E → vs.length = ps.length)
    (body_ok : ∀ (cdv : Value) (A : Around) (outer : List Env) (s : Shared) (H : Hp) (vs : List V) (Q : VK) (E : XK), fd.code = cdv → Room k (A.deeper (envOfC qual scope s.heap.objs.size f cdv)) → sp vs H Q E →
      ∃ t, PSs (cxOf CX P w K mg base N qual scope f cdv A outer s H E) body t ∧ t { nx := fun _ H' => Q .non H', rt := Q } (start N vs) H) : FnOk P w K mg base CX (k + 1) f fd ps sp := by
  obtain ⟨oc, od, dV, kV, doc, pm, an, cdv, ct, osl, rfl, lk, hcd, _, _⟩ := F.ex
  exact fn_of lk hcd S len fun A outer s H vs Q E hr hsp => body_ok cdv A outer s H vs Q E rfl hr hsp
/-- keyword-only parameter k, given -/
theorem kbind1 {k : Str} (F : FunD K x qual params body scope [] [] f fd) (h : ∀ (kV doc pm : Value) (an : Option Addr) (cdv ct u v : Value), bindArgs (PySem.W.fnOf x qual params body scope .none kV doc pm an cdv ct) ⟨[u], [(k, v)]⟩ = pure [(("self" : Str), u), (k, v)]) :
    ∀ (s : Shared) (u v : Value), BindsTo s fd ⟨[u], [(k, v)]⟩ [("self", u), (k, v)] := by
  obtain ⟨oc, od, dV, kV, doc, pm, an, cdv, ct, osl, rfl, lk, hcd, hD, _⟩ := F.ex
  rcases hD with ⟨_, rfl⟩ | ⟨ne, _⟩
  · exact fun s u v => BindsTo.of_eq (h kV doc pm an cdv ct u v)
  · exact absurd rfl ne
/-- x(lambda: body) -/
theorem pe_lamF {X : Cx} {T : List (Addr × Str)} {TT : (XK → Hp → VK → Prop) → Hp → VK → Prop} {x a : Str} {g c P : Addr} {k : Nat} {pg : Arguments} {bg : List Stmt} {sg : Scope} {fd : FuncData} {Ng : List Str}
    {params : Arguments} {body : Expr} {scope : Scope} {t : XK → TE} {p lpos pos : Pos} (F : FunD X.K x x pg bg sg [] [] g fd) (hm : X.mg x = some (.ref g)) (hb : Binds X.K fd [a] []) (Sg : FnScope Ng [a] sg)
    (hG : ∀ cdg : Value, GivesTo X Ng x sg g cdg bg a (X.env.qual ++ "<lambda>") TT) (TB : TabB X.base X.mg c P) (hcode : X.env.code = .ref c) (hmT : (P, X.env.qual ++ "<lambda>") ∈ T) (hu : ∀ p ∈ T, p.1 = P → p.2 = X.env.qual ++ "<lambda>")
    (hr : Room (k + 2) X.A) (L : LamS X.env.scope scope) (hbody : ∀ (A : Around) (outer : List Env) (s : Shared) (H : Hp) (E : XK) (f c' : Addr), Room k (A.deeper (lamEnv X scope s.heap.objs.size f c')) → PE (lamCx X A outer s H E scope f c') body (t E)) (hg : Gl X x)
    (hNg : Ng[0]? = some a) (hva : Vis sg a) (hdef : defaultsOf params X.env = ([], []))
    (hbind : ∀ (q : Str) (cl : List (Str × Addr)) (pm cv ctv : Value), bindArgs (PySem.W.kla_fn "<lambda>" q params body scope cl pm cv ctv) ⟨[], []⟩ = pure [])
    (hdb : (x == ("__debug__" : Str)) = false := by decide) (hd : (a == ("__debug__" : Str)) = false := by decide) (hcd : (a == ("__classdict__" : Str)) = false := by decide) :
    PE X (.Call (.Name x p) [.Lambda params body scope lpos] [] pos) (tLam T TT t) := by
  obtain ⟨oc, od, dV, kV, doc, pm, an, cdv, ct, osl, rfl, lk, hcd', _, _⟩ := id F.ex
  exact pe_lamcall hg hm F.kp lk hcd' hb Sg hNg hva (hG cdv) TB hcode hmT hu hr L hdef hbind hbody hdb hd hcd
end
/-! ### heaps whose tables of code objects grow -/
section
variable {H H' : Hp}
theorem ExtN.same {H1 : Hp} (a : ExtN H H1) (b : Same H1 H') : ExtN H H' := a.trans (ExtN.of b)
theorem ExtN.lst (e : ExtN H H') {a : Addr} {xs : List V} (h : H a = some (.lst xs)) : H' a = some (.lst xs) := e a _ h fun ps z => nomatch z
theorem ExtN.tup (e : ExtN H H') {a : Addr} {xs : List V} (h : H a = some (.tup xs)) : H' a = some (.tup xs) := e a _ h fun ps z => nomatch z
theorem ExtN.ins (e : ExtN H H') {a C dx : Addr} {fs : List (Str × V)} (h : H a = some (.ins C dx fs)) : H' a = some (.ins C dx fs) := e a _ h fun ps z => nomatch z
theorem ExtN.steps (e : ExtN H H') {vs : List V} {l : List Stp} (h : StepsAt H vs l) : StepsAt H' vs l := pr_im (fun _ _ ⟨p, e1, e2⟩ => ⟨p, e1, ExtN.tup e e2⟩) h
theorem ExtN.plan (e : ExtN H H') {C p : Addr} {l : List Stp} (h : PlanAt C H p l) : PlanAt C H' p l := by
  obtain ⟨dx, t, vs, h1, h2, h3⟩ := h.ex
  exact ⟨dx, t, vs, ExtN.ins e h1, ExtN.tup e h2, ExtN.steps e h3⟩
theorem ExtN.seqL {K : PySem.W.Frag} (e : ExtN H H') {a : Addr} {xs : List V} (h : SqL K H a xs) : SqL K H' a xs := by
  rcases h with (h | ⟨o, h⟩) | h
  · exact .inl (.inl (ExtN.lst e h))
  · exact .inl (.inr ⟨o, e _ _ h fun ps z => nomatch z⟩)
  · exact .inr h
theorem ExtN.free (e : ExtN H H') {a : Addr} (h : H' a = none) : H a = none ∨ ∃ ps, H a = some (.tbl ps) := by
  cases q : H a with
  | none => exact .inl rfl
  | some o =>
    cases o with
    | tbl ps => exact .inr ⟨ps, rfl⟩
    | _ => exact absurd (h.symm.trans (e a _ q fun ps z => nomatch z)) (by simp)
theorem ExtN.st {K : PySem.W.Frag} (e : ExtN H H') {st a : Addr} {ns : List Int} (h : StAt K H st a ns) : StAt K H' st a ns := by
  obtain ⟨pos, m, r, h1, h2⟩ := h.lst
  refine ⟨⟨pos, m, r, ExtN.lst e h1, h2⟩, fun H2 s2 => ?_⟩
  rcases ExtN.seqL e h.scr0 with (q | ⟨o, q⟩) | q
  · by_cases z : a = st
    · rcases h.scr (upd H st (.tup [])) SameB.upd with (y | ⟨o, y⟩) | y
      · rw [z, upd_same] at y; cases y
      · rw [z, upd_same] at y; cases y
      · exact .inr y
    · exact .inl (.inl (s2 a _ z q))
  · have z : a ≠ st := ne_of q (ExtN.lst e h1) fun z => nomatch z
    exact .inl (.inr ⟨o, s2 a _ z q⟩)
  · exact .inr q
/-- tables stay where nothing but lists is written -/
theorem tabs_keep {T : List (Addr × Str)} (t : Tabs T H) (k : ∀ b o, (∀ xs, o ≠ .lst xs) → H b = some o → H' b = some o) : Tabs T H' := fun p hp => by
  obtain ⟨ps, h1, h2, h3⟩ := t p hp
  refine ⟨ps, k _ _ (fun xs z => nomatch z) h1, h2, fun pos cv hc => ?_⟩
  obtain ⟨c, e1, e2⟩ := h3 pos cv hc
  exact ⟨c, e1, k _ _ (fun xs z => by unfold CodeO at z; cases z) e2⟩
theorem tabs_same {T : List (Addr × Str)} (t : Tabs T H) (k : Same H H') : Tabs T H' := Tabs.ext t k
theorem tabs_B {K : PySem.W.Frag} {T : List (Addr × Str)} {st a : Addr} {ns : List Int} (t : Tabs T H) (S : StAt K H st a ns) (k : SameB st H H') : Tabs T H' := tabs_keep t fun b o hd e => k b o (S.ne e hd) e
end
/-! ### readings -/
section
variable {σ : L2.St} {H : Hp} {Q : VK} {K : PySem.W.Frag} {QX : XK} {D : Ends}
theorem x_rx {C : Addr} {f : Str} {tk : TA} (k : tk σ H fun zs H1 => ∃ v, zs = [v] ∧ ∀ d, H1 d = none → QX (.ref C) (some d) (upd H1 d (.xd [(f, v)]))) : tRx C f tk σ H QX := k
theorem x_rx1 {A : V → Prop} {v : V} (k : A v) : ∃ u, [v] = [u] ∧ A u := ⟨v, rfl, k⟩
theorem x_vei {ta : TA} (k : ta σ H fun vs H1 => ∃ (a C : Addr) (ws : List V), vs = .ref a :: ws ∧ ws.length ≤ 1000 ∧ OexC K C ∧ H1 a = some (exo a C none) ∧ Q .non H1) : tVeI K ta σ H Q := k
theorem x_lam {T : List (Addr × Str)} {TT : (XK → Hp → VK → Prop) → Hp → VK → Prop} {t : XK → TE} (h : Tabs T H) (k : ∀ H1, ExtN H H1 → Tabs T H1 → TT (fun E H' Q' => t E σ H' Q') H1 Q) : tLam T TT t σ H Q := ⟨h, k⟩
end
end Ch
/-! ### what the head tells of a def's table -/
namespace ChH
open PySem PySem.Spec PyProof.Rows L2 He LamX
def cdA (K : PySem.W.Frag) (f : Addr) : Addr := match (fdOf K f).code with
  | .ref c => c
  | _ => 0
def tbA (K : PySem.W.Frag) (f : Addr) : Addr := match K.lookup (cdA K f) with
  | some ⟨_, _, .fields vs, _⟩ => (match (vs[11]? : Option Value) with
    | some (.ref P) => P
    | _ => 0)
  | _ => 0
def tabB (x : Str) (K : PySem.W.Frag) : Bool := (match (fdOf K (ga K x)).code with
  | .ref c => (match K.lookup c with
    | some ⟨.type t, _, .fields vs, _⟩ => decide (t = "code") && ((match (vs[11]? : Option Value) with
      | some (.ref P) => decide (c ≠ P) && (match K.lookup P with
        | none => true
        | some _ => false)
      | _ => false) && ((match vs.getD 18 .none with
      | .str _ _ => true
      | _ => false) && ((match vs.getD 7 .none with
      | .int _ _ => true
      | _ => false) && ((match vs.getD 9 .none with
      | .bool _ => true
      | _ => false) && (match vs.getD 10 .none with
      | .int _ _ => true
      | _ => false)))))
    | _ => false)
  | _ => false)
structure TabOk (K : PySem.W.Frag) (f : Addr) : Prop where
  code : (fdOf K f).code = .ref (cdA K f)
  none_ : K.lookup (tbA K f) = none
  hd : ∀ h : Heap, K.In h → PySem.W.CodeHd h (cdA K f) (tbA K f)
  lk : ∃ e dd vs sl, K.lookup (cdA K f) = some ⟨e, dd, .fields vs, sl⟩ ∧ vs[11]? = some (.ref (tbA K f))
theorem tab_ok {K : PySem.W.Frag} {x : Str} (h : tabB x K = true) : TabOk K (ga K x) := by
  unfold tabB at h
  split at h
  · rename_i c ec
    have eC : cdA K (ga K x) = c := by unfold cdA; rw [ec]
    split at h
    · rename_i t dd vs sl el
      obtain ⟨h1, h⟩ := ba h
      obtain ⟨h2, h⟩ := ba h
      obtain ⟨h3, h⟩ := ba h
      obtain ⟨h4, h⟩ := ba h
      obtain ⟨h5, h6⟩ := ba h
      have h1 := of_decide_eq_true h1
      subst h1
      split at h2
      · rename_i P eP
        obtain ⟨a1, a2⟩ := ba h2
        have eT : tbA K (ga K x) = P := by unfold tbA; rw [eC, el]; dsimp only; rw [eP]
        have g11 : vs.getD 11 .none = .ref P := by
          rw [Array.getD_eq_getD_getElem?, eP]
          rfl
        split at h3
        · rename_i s1 t1 e18
          split at h4
          · rename_i i7 t7 e7
            split at h5
            · rename_i b9 e9
              split at h6
              · rename_i i10 t10 e10
                refine ⟨ec.trans (by rw [eC]), ?_, fun hh KX => ?_, ⟨_, _, _, _, by rw [eC]; exact el, by rw [eT]; exact eP⟩⟩
                · rw [eT]
                  split at a2
                  · assumption
                  · cases a2
                · rw [eC, eT]
                  exact ⟨_, vs, s1, t1, i7, t7, b9, i10, t10, KX _ _ el, rfl, rfl, eP, g11, e18, e7, e9, e10, of_decide_eq_true a1⟩
              · cases h6
            · cases h5
          · cases h4
        · cases h3
      · cases h2
    · cases h
  · cases h
def tneB (x y : Str) (K : PySem.W.Frag) : Bool := decide (tbA K (ga K x) ≠ tbA K (ga K y))
theorem tne_ok {K : PySem.W.Frag} {x y : Str} (h : tneB x y K = true) : tbA K (ga K x) ≠ tbA K (ga K y) := of_decide_eq_true h
def nfB (x f : Str) (K : PySem.W.Frag) : Bool := eqO (PySem.W.findIn K (.ref (ga K x)) f) (some none)
theorem nf_ok {K : PySem.W.Frag} {x f : Str} (h : nfB x f K = true) : PySem.W.findIn K (.ref (ga K x)) f = some none := eqO_ok h
def xfF (x : Str) (K : PySem.W.Frag) : Bool := L2.xfB K (ga K x)
theorem xf_ok {K : PySem.W.Frag} {x : Str} (h : xfF x K = true) : L2.XfC K (ga K x) := L2.xfB_ok h
end ChH
namespace Ch
open PySem PySem.Spec PyProof.Rows L2
theorem x_ost {K : PySem.W.Frag} {f : Str} {to te : TE} {D : Ends} {σ : L2.St} {H : Hp} (k : te σ H fun y H1 => to σ H1 fun x H2 => ∃ a C : Addr, x = .ref a ∧ OexC K C ∧ PySem.W.findIn K (.ref C) f = some none ∧
  ((H2 a = some (exo a C none) ∧ ∀ dx, H2 dx = none → dx ≠ a → D.nx σ (upd (upd H2 dx (exd dx [(f, y)])) a (exo a C (some dx)))) ∨
    ∃ (dx : Addr) (fs : List (Str × V)), H2 a = some (exo a C (some dx)) ∧ H2 dx = some (exd dx fs) ∧ fs.length ≤ 900 ∧ D.nx σ (upd H2 dx (exd dx ((f, y) :: fs))))) : tOst K f to te D σ H := k
end Ch
/-! ### the end of a law whose defs make lambdas -/
namespace Ch
open PySem PySem.Spec PyProof.Rows L2 LamX
theorem walk_tab {l : PySem.W.OpenLaw} {n k : Nat} {q : Program} {loose : List Str} {XP : (Str → Option Value) → Heap → Prop} {YP : World → Heap → Prop} {d : DefRec} {CX : CXT} {x : Str}
    (hn : l.most = some n) (hn2 : n ≤ sizeLine) (hdf : d.params.defaults = []) (hr : Room k callerA)
    (F : ∀ (w : World) (mg : Str → Option Value) (fa : Addr) (h : Heap), YP w h → h.Ns mainGlobals mg → mg d.name = some (.ref fa) →
      ∃ K : PySem.W.Frag, K.In h ∧ ((∀ (y : Str) (fy : Addr), ((recsOf q).any fun e => e.name == y) = true → mg y = some (.ref fy) → OwnTab K fy h) → LawAtS l w K CX k n x mg fa h))
    (hCX : ∀ (H : Hp) (s : Shared) (e : Value) (s' : Shared), CX [] H s (fun _ _ _ => False) e s' → False) : PySem.W.WalkO q loose XP YP l.row.toRowW d [] (fun f vs => PySem.call f vs) := by
  refine Att.attach_callB hn hdf fun w s₀ s₁ mg mb fa o pm cd doc a vs ns G Y ho hd hcd hmg hobj hints hlen hbits hg => ?_
  obtain ⟨K, KX, FF⟩ := F w mg fa _ Y G.T.g hmg
  have own : ∀ (y : Str) (fy : Addr), ((recsOf q).any fun e => e.name == y) = true → mg y = some (.ref fy) → OwnTab K fy s₁.heap := by
    intro y fy hy hmy c P o1 fd1 e dd vs1 sl k1 k2 k3 k4 k5
    obtain ⟨dL, hm, hn1⟩ := List.any_eq_true.mp hy
    have en : dL.name = y := beq_iff_eq.mp hn1
    obtain ⟨a', o', fd', c', P', h1, h2, h3, h4, h5, h6⟩ := G.T.tab dL hm
    rw [en, hmy] at h1
    cases h1
    have g1 := KX _ _ k1
    rw [g1] at h2
    cases h2
    rw [k2] at h3
    cases h3
    rw [k3] at h4
    cases h4
    obtain ⟨⟨oc, vc, u1, _, u3, u4⟩, hP⟩ := h6
    have g2 := KX _ _ k4
    rw [g2] at u1
    cases u1
    cases u3
    rw [k5] at u4
    cases u4
    exact hP
  obtain ⟨fd, cs, sp, hT, nT, C, hb, hsp, hF⟩ := FF own
  exact law_callTs KX G.T.g G.T.b G.T.builtins G.T.nolimit hg hT nT C G.T.bmain hobj hints (Nat.le_trans hlen hn2) hr hF hb (fun H hH hS => hsp H a ns hlen hbits hH hS) fun H e s' => hCX H s₁ e s'
end Ch
namespace ChH
open PySem PySem.Spec PyProof.Rows L2 He LamX
/-- the table at the start -/
theorem TabOk.empty {K : PySem.W.Frag} {x : Str} {f : Addr} {h : Heap} {qual : Str} {ps : Arguments} {bd : List Stmt} {sc : Scope} (T : TabOk K f) (F : FunD K x qual ps bd sc [] [] f (fdOf K f)) (own : OwnTab K f h) :
    h.get? (tbA K f) = some { cls := .none, data := .fields #[] } := by
  obtain ⟨e, dd, vs, sl, l1, l2⟩ := T.lk
  obtain ⟨oc, od, dV, kV, doc, pm, an, cdv, ct, osl, ef, lk, _⟩ := F.ex
  exact own _ _ _ _ _ _ _ _ lk rfl T.code l1 l2
end ChH
/-! ### a look at the head that leaves the tables of code objects out -/
namespace ChH
open PySem PySem.Spec PyProof.Rows L2 He
def noTab (g : Addr → Option Obj) (a : Addr) : Bool := match g a with
  | some ⟨.none, _, .fields _, _⟩ => false
  | _ => true
def obsTG (n : Nat) (fa : List Fa) (xs : List Fx) (fn : List He5.DefA) (g : Addr → Option Obj) : AlD := obsC fa xs fn (frG g ((He5.asA g n).filter (noTab g)))
def hookT (n : Nat) (fa : List Fa) (xs : List Fx) (fn : List He5.DefA) : PySem.W.Hook where
  α := AlD
  obs := fun s => obsTG n fa xs fn s.heap.get?
  val := fun _ => He5.valA fn
  says := fun _ h => ∃ K : PySem.W.Frag, K.In h ∧ SaysC fa xs fn K
  of := fun _ _ e => ⟨_, frG_in, e⟩
  keeps := fun _ _ _ ⟨K, hK, c⟩ k => ⟨K, hK.keeps k, c⟩
theorem obsTG_eq {n : Nat} {fa : List Fa} {xs : List Fx} {fn : List He5.DefA} {g : Addr → Option Obj} {s : Shared} (h : ∀ a, g a = s.heap.get? a) : obsTG n fa xs fn g = (hookT n fa xs fn).obs s := by
  rw [show g = s.heap.get? from funext h]
  rfl
end ChH
namespace Ch
open PySem PySem.Spec PyProof.Rows L2 LamX
theorem takes_len {X : Cx} {W : WX} (t : Takes X W) : Takes X (fun cls d σ H => σ.length = X.N.length → W cls d σ H) := fun u s' ⟨a, B, sI, pins, σ, H, cls, d, e, I, nb, up, sky, na, os, ag, w⟩ =>
  t u s' ⟨a, B, sI, pins, σ, H, cls, d, e, I, nb, up, sky, na, os, ag, w (by first | exact I.len | exact I.len.symm)⟩
theorem x_xf {a : Addr} {cls : Value} {d : Option Addr} {C : Addr} {f : Str} {te : TE} {σ : L2.St} {H : Hp} {Q : VK} (k : te σ H fun x H1 => x = .ref a ∧ cls = .ref C ∧ ∃ (dd : Addr) (fs : List (Str × V)) (v : V), d = some dd ∧ H1 dd = some (.xd fs) ∧ fs.lookup f = some v ∧ Q v H1) : tXf a cls d C f te σ H Q := k
/-- try: return a() / except X as e: return (nm, e.f) -/
def TTx (CT : Addr) (nm f : Str) : (XK → Hp → VK → Prop) → Hp → VK → Prop := fun tl H Q =>
  tl (fun cls d H' => cls = .ref CT ∧ ∃ dd v, d = some dd ∧ H' dd = some (.xd [(f, v)]) ∧ ∀ t, H' t = none → Q (.ref t) (upd H' t (.tup [.str nm, v]))) H Q
theorem x_TTx {CT : Addr} {nm f : Str} {tl : XK → Hp → VK → Prop} {H : Hp} {Q : VK} (k : tl (fun cls d H' => cls = .ref CT ∧ ∃ dd v, d = some dd ∧ H' dd = some (.xd [(f, v)]) ∧ ∀ t, H' t = none → Q (.ref t) (upd H' t (.tup [.str nm, v]))) H Q) : TTx CT nm f tl H Q := k
/-- try: return a() / except X: return (nm,) -/
def TTn (CN : Addr) (nm : Str) : (XK → Hp → VK → Prop) → Hp → VK → Prop := fun tl H Q =>
  tl (fun cls _ H' => cls = .ref CN ∧ ∀ t, H' t = none → Q (.ref t) (upd H' t (.tup [.str nm]))) H Q
theorem x_TTn {CN : Addr} {nm : Str} {tl : XK → Hp → VK → Prop} {H : Hp} {Q : VK} (k : tl (fun cls _ H' => cls = .ref CN ∧ ∀ t, H' t = none → Q (.ref t) (upd H' t (.tup [.str nm]))) H Q) : TTn CN nm tl H Q := k
end Ch

set_option Elab.async false
set_option linter.all false
set_option autoImplicit false
set_option maxRecDepth 100000
set_option maxHeartbeats 4000000
/-! ### max of a tuple of ints -/
namespace Ch
open PySem PySem.Spec PyProof.Rows L2
section
variable {prog : Program} {w : World} {A : Around} {E : Value → Shared → Prop} {s : Shared}
theorem max_intTup {l : Addr} {xs : Array (Int × Tok)} {Q : Value → Shared → Prop} (hh : A.handled = none) (hl : s.heap.IsTuple l (intItems xs)) (hne : 0 < xs.size)
    (h : ∀ v h' tk, (intItems xs)[argBest (fun i j => decide (numAt xs i > numAt xs j)) (xs.size - 1)]? = some v → (∀ b o, s.heap.get? b = some o → h'.get? b = some o) → Q v { s with heap := h', toks := tk }) :
    wpAny (model prog w) A (call (.builtin "max") [.ref l]) Q E s := by
  have hlt : l < s.heap.objs.size := by
    obtain ⟨o, ho, _⟩ := hl
    exact Heap.lt_size ho
  refine call_max_walk (wpAny_pyIter_tuple hl ?_)
  refine ⟨_, [_, l], [_], _, _, _, _, rfl, Walks.tuple (A := A.in1) hh _ l (Nat.ne_of_lt hlt) (intItems xs),
    ⟨⟨_, Heap.get?_push_size _ rfl, rfl, rfl⟩, hl.push _⟩, fun c hc => ?_, by simpa [intItems] using hne, CmpOf.ints_gt (numAt xs) (fun _ _ => intItems_at), fun v h' tk hP hk => ?_⟩
  · show c < (s.heap.push _).objs.size
    rw [Heap.size_push]
    rcases List.mem_cons.mp hc with rfl | hc
    · exact Nat.lt_succ_self _
    · rcases List.mem_cons.mp hc with rfl | hc
      · exact Nat.lt_succ_of_lt hlt
      · cases hc
  · refine h v h' tk (by simpa [intItems] using hP) fun b o e => hk b o (fun hm => ?_) (Heap.get?_push_of_some _ e)
    rcases List.mem_cons.mp hm with e1 | hm
    · exact absurd (e1 ▸ Heap.lt_size e) (Nat.lt_irrefl _)
    · cases hm
theorem maxT_raw {l : Addr} {its : List Value} {ns : List Int} {Q : Value → Shared → Prop} (hh : A.handled = none) (hl : s.heap.IsTuple l its.toArray) (hi : IntsAre its ns) (hne : 0 < ns.length)
    (h : ∀ h' tk M t', (∀ b o, s.heap.get? b = some o → h'.get? b = some o) → M ∈ ns → (∀ a, a ∈ ns → a ≤ M) → Q (.int M t') { s with heap := h', toks := tk }) : wpAny (model prog w) A (call (.builtin "max") [.ref l]) Q E s := by
  obtain ⟨xs, e⟩ := hi.allInts.items
  have hn : numsOf (intItems xs).toList = ns := by rw [← e]; exact hi.numsOf
  rw [nums_intItems] at hn
  subst hn
  rw [e] at hl
  have hsz : 0 < xs.size := by simpa using hne
  refine max_intTup hh hl hsz fun v h' tk hv hk => ?_
  obtain ⟨t, rfl⟩ := intItems_at hv
  obtain ⟨h1, h2⟩ := argBest_gt (numAt xs) (xs.size - 1)
  refine h h' tk _ t hk ?_ fun a ha => ?_
  · rw [numAt_eq]; exact PySem.getD_mem (by rw [List.length_map, Array.length_toList]; omega)
  · obtain ⟨j, hj, rfl⟩ := mem_getD ha
    rw [List.length_map, Array.length_toList] at hj
    rw [← numAt_eq]; exact h2 j (by omega)
end
def rMaxT (K : PySem.W.Frag) : List V → Hp → VK → Prop := fun vs H Q => ∃ (a : Addr) (ns : List Int), vs = [V.ref a] ∧ SqT K H a (ns.map V.int) ∧ 0 < ns.length ∧ ∀ m, m ∈ ns → (∀ y, y ∈ ns → y ≤ m) → Q (.int m) H
theorem cr_maxT {X : Cx} (hc : X.calm = true) : CallR X (.builtin "max") (rMaxT X.K) := by
  intro pins s σ H vs us Q I r h
  obtain ⟨a, ns, rfl, hs, hne, q⟩ := h
  obtain ⟨its, rv, hl, _⟩ := I.tuple hs
  rw [Vals.ref1 r]
  exact maxT_raw (I.ok.hd hc) hl rv.ints hne fun h' tk m t' hk h1 h2 => ⟨.int _, H, I.kept hk, ⟨_, rfl⟩, q m h1 h2⟩
theorem c_maxTK {X : Cx} (K : PySem.W.Frag) (hc : X.calm = true) (hK : X.K = K := by rfl) : CallR X (.builtin "max") (rMaxT K) := by subst hK; exact cr_maxT hc
theorem x_maxT {H : Hp} {Q : VK} {K : PySem.W.Frag} {p : Addr} {ns : List Int} (h : SqT K H p (ns.map V.int)) (h0 : 0 < ns.length) (k : ∀ m, m ∈ ns → (∀ y ∈ ns, y ≤ m) → Q (.int m) H) : rMaxT K [.ref p] H Q := ⟨p, ns, rfl, h, h0, k⟩
end Ch
/-! ### xs[i] op= e -/
namespace Ch
open PySem PySem.Spec PyProof.Rows L2
def rGetL (K : PySem.W.Frag) : V → V → Hp → VK → Prop := fun x y H Q => ∃ p xs i v, x = .ref p ∧ y = .int i ∧ SqL K H p xs ∧ 0 ≤ i ∧ atI xs i = some v ∧ Q v H
theorem get_list {X : Cx} : PGet X (rGetL X.K) := by
  intro pins s σ H x y v u Q I rx ry h
  obtain ⟨p, xs, i, z, rfl, rfl, hq, h0, he, q⟩ := h
  cases rx
  obtain ⟨t, rfl⟩ := ry
  obtain ⟨its, r, pl, hz⟩ := I.list hq
  obtain ⟨j, h1, h2, h3, h4, h5⟩ := atI_get he
  obtain ⟨w, ew, rw'⟩ := r.get h2
  have hl := r.length
  have hn := line63
  have hj : i.toNat = j := by
    rw [seqIndex_of h0 h5] at h1
    exact Option.some.inj h1
  exact wpAny_getItem_list pl.isList h0 (by omega) (by rw [hj]; simpa using ew) ⟨z, H, I, rw', q⟩
theorem get_listK {X : Cx} (K : PySem.W.Frag) (hK : X.K = K := by rfl) : PGet X (rGetL K) := by subst hK; exact get_list
section
variable {σ : L2.St} {H : Hp} {D : Ends} {K : PySem.W.Frag} {p : Addr} {xs : List V} {i : Int} {v : V} {Q : VK}
theorem x_augS {to ti te : TE} {tget : V → V → Hp → VK → Prop} {tip : TIp} {tset : TSet} (k : to σ H fun o H1 => ti σ H1 fun i H2 => tget o i H2 fun x H3 => te σ H3 fun y H4 => tip x y H4 fun z H5 => tset o i z H5 fun H6 => D.nx σ H6) : tAugS to ti te tget tip tset D σ H := k
theorem x_getL (h : SqL K H p xs) (h0 : 0 ≤ i) (e : atI xs i = some v) (k : Q v H) : rGetL K (.ref p) (.int i) H Q := ⟨p, xs, i, v, rfl, rfl, h, h0, e, k⟩
end
end Ch
/-! ### cls(*e), cls a local name -/
namespace Ch
open PySem PySem.Spec PyProof.Rows L2
def tMkV (i : Nat) (C : Addr) (sp : Sp) (E : XK) (t : TA) : TE := fun σ H Q => σ[i]? = some (some (.ref C)) ∧ tMk C sp E t σ H Q
theorem pe_mkSV {X : Cx} {CX : CXT} {k i : Nat} {f C : Addr} {sp : Sp} {E : XK} {x : Str} {np pos sp_ : Pos} {e : Expr} {ta : TE} (M : Mk X.K C f) (F : FnR X.prog X.w X.K X.mg X.base CX k f sp) (hr : Room (k + 1) X.A) (hx : Passes CX X E) (hN : X.N[i]? = some x) (hv : Vis X.env.scope x) (he : PE X e ta)
    (hd : (x == ("__debug__" : Str)) = false := by decide) (hcd : (x == ("__classdict__" : Str)) = false := by decide)
    (hst : starEach [.Starred e sp_] X.env = [(true, eval e X.env)] := by rfl) : PE X (.Call (.Name x np) [.Starred e sp_] [] pos) (tMkV i C sp E (tStarA X.K ta)) := by
  refine ⟨fun pins s σ H Q I h => ?_⟩
  obtain ⟨hs, h⟩ := h
  refine wpAny_Call_Name_kw (thn ((pe_var (pos := np) (i := i) hN hv hd hcd).run pins s σ H (fun v H1 => v = .ref C ∧ H1 = H) I ⟨.ref C, hs, rfl, rfl⟩) fun u s1 ⟨v, H1, I1, r1, ev, eH⟩ => ?_)
  subst ev
  rw [eH] at I1
  cases r1
  refine PySem.W.callWith_S (h₀ := X.base) I1.ok.mod.kin M.kp (thn (he.run pins s1 σ H _ I1 h) fun v s1 ⟨y, H1, I1, ry, a, xs, ey, hxs, q⟩ => ?_) hst
  subst ey
  obtain rfl : v = Value.ref a := ry
  exact StX.star_any I1 hxs fun us s2 I2 rv => ⟨I2.kIn, StX.run_makeR M F hr hx I2 rv q⟩
end Ch

set_option Elab.async false
set_option linter.all false
set_option autoImplicit false
set_option maxRecDepth 100000
set_option maxHeartbeats 4000000
/-! ### several except clauses, with and without a name -/
namespace Ch
open PySem PySem.Spec PyProof.Rows L2
structure Cl where
  c : Value
  i : Option Nat
  ts : Addr → Value → Option Addr → TS
def Cl.run (k : Cl) (D : Ends) (a : Addr) (cls : Value) (d : Option Addr) (σ : L2.St) (H : Hp) : Prop := match k.i with
  | none => k.ts a cls d D σ H
  | some i => k.ts a cls d { nx := fun σ' H' => D.nx (σ'.set i none) H', rt := D.rt, bk := fun σ' H' => D.bk (σ'.set i none) H', ct := fun σ' H' => D.ct (σ'.set i none) H' } (σ.set i (some (.ref a))) H
def wCl (K : PySem.W.Frag) (Wout : WX) (D : Ends) : List Cl → WX
  | [] => Wout
  | k :: r => fun cls d σ H => ∃ b, PySem.W.exmOne K cls k.c = some b ∧ (b = true → ∀ a, H a = none → k.run D a cls d σ H) ∧ (b = false → wCl K Wout D r cls d σ H)
inductive ClOk (X : Cx) : List ExceptHandler → List Cl → Prop
  | nil : ClOk X [] []
  | bare {x : Str} {c : Value} {ts : Addr → Value → Option Addr → TS} {b₀ : Stmt} {suite : List Stmt} {np pos' : Pos} {hds : List ExceptHandler} {l : List Cl} (hc : Names X x c)
      (hsu : ∀ (a : Addr) (oe : Obj) (cls : Value) (d : Option Addr) (pn : List (Addr × Obj)), Zc cls d oe → (∃ vs, oe.data = .fields vs) → PSs (X.suite a ((a, oe) :: pn)) (b₀ :: suite) (ts a cls d)) (r : ClOk X hds l) :
      ClOk X (.ExceptHandler (some (.Name x np)) none (b₀ :: suite) pos' :: hds) (⟨c, none, ts⟩ :: l)
  | as {x n : Str} {i : Nat} {c : Value} {ts : Addr → Value → Option Addr → TS} {b₀ : Stmt} {suite : List Stmt} {np pos' : Pos} {hds : List ExceptHandler} {l : List Cl} (hi : X.N[i]? = some n) (hln : X.env.kindOf n = some .local) (hc : Names X x c)
      (hsu : ∀ (a : Addr) (oe : Obj) (cls : Value) (d : Option Addr) (pn : List (Addr × Obj)), Zc cls d oe → (∃ vs, oe.data = .fields vs) → PSs (X.suite a ((a, oe) :: pn)) (b₀ :: suite) (ts a cls d)) (r : ClOk X hds l) :
      ClOk X (.ExceptHandler (some (.Name x np)) (some n) (b₀ :: suite) pos' :: hds) (⟨c, some i, ts⟩ :: l)
section
variable {X : Cx} {body : List Stmt} {h₀ : ExceptHandler} {hds : List ExceptHandler} {l : List Cl} {pos : Pos} {tb : WX → TS} {Wout : WX}
theorem ps_try_cl (hs : X.stack = X.env :: X.outer) (hf : X.env.frame = some X.env.locals) (hN : X.N.Nodup) (tk : Takes X Wout)
    (hb : ∀ (W : WX) (pn : List (Addr × Obj)) (xe : Value → Shared → Prop), Takes (X.tr pn xe) W → PassesOwn (model X.prog X.w) X.A X.env xe → PSs (X.tr pn xe) body (tb W))
    (hh : ClOk X (h₀ :: hds) l) : PS X (.Try body (h₀ :: hds) [] [] pos) (fun D σ H => tb (wCl X.K Wout D l) D σ H) := by
  refine ⟨fun pins s σ H D I h => ?_⟩
  have ok := I.ok
  have hfr : X.A.frames = some (X.env :: X.outer) := by rw [ok.frames, hs]
  refine wpAny_Try_except ?_
  refine wpAny_mono ((hb (wCl X.K Wout D l) (X.pn ++ pins) (fun e s₁ => wpAny (model X.prog X.w) X.A (noteFrame e X.env) (fun _ s₂ => wpAny (model X.prog X.w) X.A (setFlight e none) (fun _ s₃ =>
    wpAny (model X.prog X.w) X.A (handleBy e X.env (h₀ :: hds)) (SP X pins D) X.xe s₃) X.xe s₂) X.xe s₁) (fun u s' xx => ?_) PassesOwn.looking).run [] s σ H D (I.toTry _) h) (fun f s1 hsp => ?_) (fun e s1 he => he)
  · obtain ⟨a, B, sI, pins', σ', H', cls, d, rfl, J', nb, up, sky, na, os, ag, w⟩ := xx
    have J : Inv X pins σ' H' sI := J'.ofTry ok
    have sky' : Sky B (X.env :: X.outer) a (Zc cls d) X.env.locals s'.heap := by rw [← hs]; exact sky
    show wpAny (model X.prog X.w) X.A (noteFrame (.ref a) X.env) _ _ _
    refine Sky.land Zc.steady hfr hf sky' fun h3 fl3 up3 => ?_
    have J3 : Inv X pins σ' H' { s' with heap := h3 } := J.landed nb fl3.1 (up.trans up3) os ag
    obtain ⟨oe3, vs3, he3, hz3, hd3⟩ := fl3.there
    have notFr : ∀ {h : Heap} {o : Obj} {vs : Array Value}, h.FunFrames B (X.env :: X.outer) → h.get? a = some o → o.data = .fields vs → a ∉ frs (X.env :: X.outer) := fun {h o vs} ff e dd hm => by
      obtain ⟨_, o', e', hnf⟩ := ff.mem hm
      rw [e] at e'; cases e'
      exact hnf _ dd
    have nfr := notFr fl3.2.2.1 he3 hd3
    have nL : a ≠ X.env.locals := fun z => nfr (List.mem_filterMap.mpr ⟨X.env, List.mem_cons_self, by rw [hf, z]⟩)
    have nF : a ∉ X.fs := fun hm => by
      obtain ⟨e, he, q⟩ := List.mem_filterMap.mp hm
      exact nfr (List.mem_filterMap.mpr ⟨e, List.mem_cons_of_mem _ he, q⟩)
    have S3 := J3.suite he3 hd3 na nL nF
    have LT : PySem.W.Looks (model X.prog X.w) h3 (typeOf (.ref a)) cls := fun A Q E s k q => wpAny_typeOf_ref (k _ _ he3) (by rw [hz3.1]; exact q)
    have test : ∀ {x : Str} {c : Value} {np : Pos}, Names X x c → ∀ {Q : Value → Shared → Prop} {E : Value → Shared → Prop}, Q c { s' with heap := h3 } → wpAny (model X.prog X.w) (X.A.mark (some (.ref a))) (eval (.Name x np) X.env) Q E { s' with heap := h3 } := fun {x c np} hc {Q E} q => by
      obtain ⟨hg, hdbg, hm | ⟨hm, hv, hnn⟩⟩ := hc
      · exact ld_glob (X := X.suite a ((a, oe3) :: (X.pn ++ pins))) S3 hg hm q hdbg
      · exact ld_blt (X := X.suite a ((a, oe3) :: (X.pn ++ pins))) S3 hg hm hv q hnn hdbg
    have go : ∀ {hds' : List ExceptHandler} {l' : List Cl}, ClOk X hds' l' → wCl X.K Wout D l' cls d σ' H' →
        wpAny (model X.prog X.w) X.A (handleBy (.ref a) X.env hds') (SP X pins D) X.xe { s' with heap := h3 } := by
      intro hds' l' hk
      induction hk with
      | nil =>
        intro w
        refine wpAny_handleBy_nil ?_
        obtain ⟨k1, k2, k3, oe, vs, T, oT, ts', he, hz, hd, h1, hr⟩ := id fl3
        unfold PySem.passOn
        refine wpAny_bind (wpAny_field he hd h1 ?_)
        rw [if_neg (show ¬ ((Value.ref T == Value.none) = true) from by simp)]
        have fin : wpAny (model X.prog X.w) X.A (setFlight (.ref a) X.env.frame) (fun _ s4 => wpAny (model X.prog X.w) X.A (throw (.ref a) : Sem Flow) (SP X pins D) X.xe s4) X.xe { s' with heap := h3 } := by
          rw [hf]
          refine HandSPX.setFlight_upZ fl3 fun h4 hh4 up4 => wpAny_throw (tk _ _ ?_)
          exact ⟨a, B, sI, pins, σ', H', cls, d, rfl, J, nb, (up.trans up3).trans up4, .inr (.inr (by rw [hs]; exact hh4)), na, os, ag, w⟩
        first
          | exact wpAny_bind (wpAny_pure (wpAny_bind fin))
          | exact wpAny_bind fin
      | @bare x c ts b₀ suite np pos' hds2 l2 hc hsu r ih =>
        intro w
        obtain ⟨b, hb1, hyes, hno⟩ := w
        refine wpAny_handleBy_cons (codeAny_handlers_test ?_) (by intro q; cases q)
        have LM := PySem.W.exm_one (M := model X.prog X.w) (J3.kIn) LT hb1
        refine test hc (LM.here ?_)
        cases b with
        | true =>
          refine codeAny_handlers_suite ?_
          refine HandSPX.lands_againZ fl3 fun h4 fl4 up4 => ?_
          have J4 : Inv X pins σ' H' { s' with heap := h4 } := J.landed nb fl4.1 ((up.trans up3).trans up4) os ag
          obtain ⟨oe4, vs4, he4, hz4, hd4⟩ := fl4.there
          have S4 := J4.suite he4 hd4 na nL nF
          refine wpAny_mono ((hsu a oe4 cls d (X.pn ++ pins) hz4 ⟨_, hd4⟩).run [] _ _ H' _ S4 (hyes rfl a na)) (fun f s6 hsp => ?_) (fun _ _ z => False.elim z)
          cases f with
          | next =>
            obtain ⟨σ6, H6, S6, q6⟩ := hsp
            exact ⟨_, _, S6.unsuite ok, q6⟩
          | brk =>
            obtain ⟨σ6, H6, S6, q6⟩ := hsp
            exact ⟨_, _, S6.unsuite ok, q6⟩
          | cont =>
            obtain ⟨σ6, H6, S6, q6⟩ := hsp
            exact ⟨_, _, S6.unsuite ok, q6⟩
          | ret u =>
            obtain ⟨v6, σ6, H6, S6, r6, q6⟩ := hsp
            exact ⟨_, _, _, S6.unsuite ok, r6, q6⟩
        | false =>
          show wpAny _ X.A (handleBy (.ref a) X.env hds2) _ _ _
          exact ih (hno rfl)
      | @as x n i c ts b₀ suite np pos' hds2 l2 hi hln hc hsu r ih =>
        intro w
        obtain ⟨b, hb1, hyes, hno⟩ := w
        have hloc : Loc X.env.scope n := .inl hln
        refine wpAny_handleBy_cons (codeAny_handlers_test ?_) (by intro q; cases q)
        have LM := PySem.W.exm_one (M := model X.prog X.w) (J3.kIn) LT hb1
        refine test hc (LM.here ?_)
        cases b with
        | true =>
          refine codeAny_handlers_suite_as ?_
          refine HandSPX.lands_againZ fl3 fun h4 fl4 up4 => ?_
          have J4 : Inv X pins σ' H' { s' with heap := h4 } := J.landed nb fl4.1 ((up.trans up3).trans up4) os ag
          obtain ⟨oe4, vs4, he4, hz4, hd4⟩ := fl4.there
          have S4 := J4.suite he4 hd4 na nL nF
          refine store_ok (X := X.suite a ((a, oe4) :: (X.pn ++ pins))) (v := .ref a) S4 hN hi hloc rfl (fun s5 S5 => ?_) (.inr hln)
          refine wpAny_mono ((hsu a oe4 cls d (X.pn ++ pins) hz4 ⟨_, hd4⟩).run [] s5 _ H' _ S5 (hyes rfl a na)) (fun f s6 hsp => ?_) (fun _ _ z => False.elim z)
          have end_ : ∀ {σ6 : L2.St} {H6 : Hp} {Q : Shared → Prop}, Inv (X.suite a ((a, oe4) :: (X.pn ++ pins))) [] σ6 H6 s6 → (∀ s7, Inv X pins (σ6.set i none) H6 s7 → Q s7) →
              wpAny (model X.prog X.w) X.A (do bindName X.env n .none; unbindBehindTheSuite X.env n pos') (fun _ s7 => Q s7) X.xe s6 := fun {σ6 H6 Q} S6 hq => gone_ok (S6.unsuite ok) hN hi hln hq
          cases f with
          | next =>
            obtain ⟨σ6, H6, S6, q6⟩ := hsp
            exact end_ S6 fun s7 J7 => ⟨_, _, J7, q6⟩
          | brk =>
            obtain ⟨σ6, H6, S6, q6⟩ := hsp
            exact end_ S6 fun s7 J7 => ⟨_, _, J7, q6⟩
          | cont =>
            obtain ⟨σ6, H6, S6, q6⟩ := hsp
            exact end_ S6 fun s7 J7 => ⟨_, _, J7, q6⟩
          | ret u =>
            obtain ⟨v6, σ6, H6, S6, r6, q6⟩ := hsp
            exact end_ S6 fun s7 J7 => ⟨_, _, _, J7, r6, q6⟩
        | false =>
          show wpAny _ X.A (handleBy (.ref a) X.env hds2) _ _ _
          exact ih (hno rfl)
    exact go hh w
  · cases f with
    | next =>
      obtain ⟨σ', H', J', q⟩ := hsp
      exact wpAny_execs_nil ⟨σ', H', J'.ofTry ok, q⟩
    | brk =>
      obtain ⟨σ', H', J', q⟩ := hsp
      exact ⟨σ', H', J'.ofTry ok, q⟩
    | cont =>
      obtain ⟨σ', H', J', q⟩ := hsp
      exact ⟨σ', H', J'.ofTry ok, q⟩
    | ret u =>
      obtain ⟨v, σ', H', J', r, q⟩ := hsp
      exact ⟨v, σ', H', J'.ofTry ok, r, q⟩
end
end Ch

namespace Ch
open PySem PySem.Spec PyProof.Rows L2
/-- a def whose code object is told, by a positional promise -/
theorem def_code {P : Program} {w : World} {K : PySem.W.Frag} {mg : Str → Option Value} {base : Heap} {x qual : Str} {params : Arguments} {body : List Stmt} {scope : Scope} {kws : List (Str × V)} {f : Addr} {fd : FuncData} {CX : CXT} {N ps : List Str} {k : Nat} {sp : Sp}
    (F : FunD K x qual params body scope [] kws f fd) (S : FnScope N ps scope)
    (hb : ∀ (kV doc pm : Value) (an : Option Addr) (cdv ct : Value) (us : List Value), us.length = ps.length → bindArgs (PySem.W.fnOf x qual params body scope .none kV doc pm an cdv ct) ⟨us, []⟩ = pure (ps.zip us))
    (len : ∀ vs H Q E, sp vs H Q E → vs.length = ps.length)
    (body_ok : ∀ (cdv : Value) (A : Around) (outer : List Env) (s : Shared) (H : Hp) (vs : List V) (Q : VK) (E : XK), fd.code = cdv → Room k (A.deeper (envOfC qual scope s.heap.objs.size f cdv)) → sp vs H Q E →
      ∃ t, PSs (cxOf CX P w K mg base N qual scope f cdv A outer s H E) body t ∧ t { nx := fun _ H' => Q .non H', rt := Q } (start N vs) H) : FnR P w K mg base CX (k + 1) f sp := by
  have G := fnok_code F S len body_ok
  refine (G.raw (F.bindsN hb) .nil).imp fun vs H Q E h => ?_
  rw [List.append_nil]
  exact h
end Ch

set_option Elab.async false
set_option linter.all false
set_option autoImplicit false
set_option maxRecDepth 100000
set_option maxHeartbeats 4000000
/-! an except suite that works (tuple targets, calls) and then raises again: a bare raise -/
namespace Ch
open PySem PySem.Spec PyProof.Rows L2
/-! ### unpacking a tuple while an exception is handled -/
section
variable {prog : Program} {w : World} {A : Around} {E : Value → Shared → Prop} {s : Shared}
theorem next_tuple_end_hot {it t x1 : Addr} {i : Nat} {items : Array Value} {Q : Option Value → Shared → Prop} (hot : HotX.HotAt A x1 s.heap) (hne : x1 ≠ it)
    (hit : IsTupIter s.heap it t i) (ht : IsTup s.heap t items) (hx : items[i]? = none)
    (hQ : ∀ h', Heap.ExtBut it s.heap h' → Q none { s with heap := h' }) : wpAny (model prog w) A (pyNext (.ref it)) Q E s := by
  obtain ⟨o, ho, hc, hd⟩ := id hit
  obtain ⟨ol, hol, _, nl, hdl⟩ := ht
  obtain ⟨hh, o1, vs1, h1, d1, c1⟩ := hot
  unfold pyNext
  refine wpAny_bind (wpAny_attempt (wpAny_callSpecial?_slot (name := Str.ofString "__next__") hit.typeIs slot_tupleiter_next
    (wpAny_call_entry slot_tupleiter_next hit.typeIs entry_tupleiter_next ?_ (args_tupleiter_next _))))
  show wpAny _ _ (field (.ref it) 0 >>= _) _ _ s
  refine wpAny_bind (wpAny_field ho hd (x := .ref t) rfl ?_)
  show wpAny _ _ (if (Value.ref t == Value.none) = true then _ else _) _ _ s
  rw [if_neg (show ¬ ((Value.ref t == Value.none) = true) from Bool.false_ne_true)]
  show wpAny _ _ (field (.ref it) 1 >>= _) _ _ s
  refine wpAny_bind (wpAny_field ho hd (x := .int i 0) rfl ?_)
  show wpAny _ _ (seqItems? (.ref t) >>= _) _ _ s
  refine wpAny_bind (wpAny_seqItems hol hdl ?_)
  simp only [Int.toNat_natCast, hx]
  refine wpAny_bind (wpAny_rule (wpAny_bind (wpAny_setField ho hd (by simp) ?_)))
  show wpAny _ _ (newExc (.type "StopIteration") [] >>= _) _ _ _
  refine wpAny_bind ?_
  simp only [newExc, newTuple]
  refine wpAny_bind (wpAny_newObj_type ?_ (by size_fits))
  refine wpAny_bind (m := firstArgMember _ _) (wpAny_of_eq (a := Value.none) (by first | rfl | (simp only [firstArgMember]; rfl)) ?_)
  refine wpAny_newObj_type ?_ (by size_fits)
  have g1 : ∀ b u, b ≠ it → s.heap.get? b = some u → (s.heap.update it (Obj.mapFields (·.setIfInBounds 0 .none))).get? b = some u := fun b u hb e => (Heap.get?_update_other _ _ (Ne.symm hb)).trans e
  refine HotX.raiseNew_hot ⟨hh, o1, vs1, Heap.get?_push_of_some _ (Heap.get?_push_of_some _ (g1 _ _ hne h1)), d1, c1⟩ (Nat.ne_of_lt (Heap.lt_size (Heap.get?_push_of_some _ (g1 _ _ hne h1)))) (Heap.get?_push_size _ rfl) rfl (by first | (simp; done) | (simp; omega) | (simp only [Array.size_append]; simp; omega)) ?_
  refine wpAny_bind (wpAny_isInstance (T := "StopIteration") (b := true) ⟨_, Heap.get?_update_self _ (Heap.get?_push_size _ rfl) rfl, rfl⟩ isSubtype_stop ?_)
  refine wpAny_pure (hQ _ fun b u hb e => ?_)
  have e1 := Heap.get?_push_of_some { cls := .type "tuple", data := .seq #[] } (g1 _ _ hb e)
  rw [Heap.get?_update_other _ _ (Nat.ne_of_gt (Heap.lt_size e1))]
  exact Heap.get?_push_of_some _ e1
theorem unpack_tuple_hot {t x1 : Addr} {items : Array Value} {Q : List Value → Shared → Prop} (hot : HotX.HotAt A x1 s.heap) (ht : IsTup s.heap t items)
    (hQ : ∀ h', Heap.ExtBut s.heap.objs.size s.heap h' → Q items.toList { s with heap := h' }) : wpAny (model prog w) A (unpackItems (.ref t) items.size none) Q E s := by
  have hlt : t ≠ s.heap.objs.size := by obtain ⟨o, ho, _⟩ := ht; exact Nat.ne_of_lt (Heap.lt_size ho)
  obtain ⟨hh, o1, vs1, h1, d1, c1⟩ := hot
  have x1lt : x1 ≠ s.heap.objs.size := Nat.ne_of_lt (Heap.lt_size h1)
  unfold unpackItems
  refine wpAny_bind ?_
  · unfold notIterableAtAll
    refine wpAny_bind (wpAny_specialOf ht.typeIs slot_tuple_iter.lookup ?_)
    refine wpAny_pure ?_
    simp only [Bool.false_eq_true, if_false]
    refine wpAny_bind (wpAny_holding (iter_tuple ht ?_))
    refine wpAny_bind (wpAny_holding (draw_tuple hlt items.size 0 _ _ ⟨_, Heap.get?_push_size _ rfl, rfl, rfl⟩ (ht.push _) (by omega) fun h₁ hit₁ hs₁ => ?_))
    have hall : List.take items.size (List.drop 0 items.toList) = items.toList := by
      rw [List.drop_zero]; exact List.take_of_length_le (by simp)
    rw [hall]
    rw [if_neg (by simp)]
    have ht₁ : IsTup h₁ t items := (ht.push _).extBut hs₁.extBut hlt
    have hot₁ : HotX.HotAt A x1 h₁ := ⟨hh, o1, vs1, hs₁.extBut x1 _ x1lt (Heap.get?_push_of_some _ h1), d1, c1⟩
    refine wpAny_bind (wpAny_holding (next_tuple_end_hot hot₁ x1lt hit₁ ht₁ (by simp) fun h₂ he₂ => ?_))
    simp only [Option.isSome_none, Bool.false_eq_true, if_false]
    refine wpAny_pure (hQ h₂ fun b o hb e => he₂ b o hb (hs₁.extBut b o hb (Heap.get?_push_of_some _ e)))
end
section
variable {X : Cx} {pos : Pos}
/-- (a, b, ..) = a tuple of that length, while an exception is handled -/
theorem pg_tupH {es : List Expr} {k : Nat} {t : TGs} {n : Nat} {K : PySem.W.Frag} (hot : L2H.HotC X) (h : PGs X es t)
    (hn : (assignEach es X.env).length = n := by rfl) (hst : (assignEach es X.env).findIdx? (·.1) = none := by rfl) (hK : X.K = K := by rfl) : PG X (.Tuple es k pos) (gTup K n t) := by
  subst hK
  refine ⟨fun pins s σ H v u Q I r hw => ?_⟩
  obtain ⟨a, xs, e1, hq, hl, hw⟩ := hw
  subst e1
  cases r
  obtain ⟨its, rv, ht, hz⟩ := I.tuple hq
  obtain ⟨x1, hx1⟩ := hot.at I
  rw [assign_Tuple]
  refine wpAny_bind (wpAny_standAt ?_)
  unfold unpack
  rw [show (assignEach es X.env).length = its.toArray.size by simp [hn, ← hl, rv.length], hst]
  refine wpAny_bind (wpAny_holding (unpack_tuple_hot hx1 ht fun h' hx => ?_))
  have I1 : Inv X pins σ H { s with heap := h' } := I.kept (t' := s.toks) fun b o e => hx b o (Nat.ne_of_lt (Heap.lt_size e)) e
  exact h.run pins _ σ H xs _ Q I1 (by simpa using rv) hw
end
/-! ### raise, bare -/
/-- what a bare raise wants in this context -/
structure ReOk (Y : Cx) (W : L2.St → Hp → Prop) : Prop where
  run : ∀ (pos : Pos) (pins : List (Addr × Obj)) (s : Shared) (σ : L2.St) (H : Hp) (Q : Flow → Shared → Prop), Inv Y pins σ H s → W σ H → wpAny (model Y.prog Y.w) Y.A (exec (.Raise none none pos) Y.env) Q Y.xe s
theorem ps_bare {Y : Cx} {W : L2.St → Hp → Prop} {pos : Pos} (h : ReOk Y W) : PS Y (.Raise none none pos) (fun _ σ H => W σ H) := ⟨fun pins s σ H _ I q => h.run pos pins s σ H _ I q⟩
section
variable {X : Cx} {pins : List (Addr × Obj)} {σ σ' : L2.St} {H H' : Hp} {s sI : Shared} {B h4 : Heap} {a T : Addr} {oe oT : Obj} {Wout : WX} {cls : Value} {d : Option Addr}
/-- the state without the exception's two objects -/
theorem inv_hide (J : Inv X pins σ' H' sI) (old : ∀ b o, sI.heap.get? b = some o → b ≠ a ∧ b ≠ T) {Y : Cx} (hY : Y = L2H.suiteX X a ((a, oe) :: (T, oT) :: (X.pn ++ pins))) {pn' : List (Addr × Obj)}
    (I : Inv Y pn' σ H s) {G : Heap} (g1 : ∀ b, b ≠ a → b ≠ T → G.get? b = s.heap.get? b) : Inv X [] σ H { s with heap := G } := by
  subst hY
  have pa := I.pin (a, oe) (List.mem_append_left _ List.mem_cons_self)
  have pT := I.pin (T, oT) (List.mem_append_left _ (List.mem_cons_of_mem _ List.mem_cons_self))
  have there : ∀ b o, X.s_0.heap.get? b = some o → b ∉ X.ex → b ≠ a ∧ b ≠ T := fun b o e hx => by
    obtain ⟨o', e'⟩ := J.base.there b o e hx
    exact old b o' e'
  have cellNe : ∀ c v, s.heap.IsCell c v → c ≠ a ∧ c ≠ T := fun c v hc => by
    obtain ⟨o, ho, hd⟩ := hc
    constructor
    · intro z; rw [z, pa.1] at ho; cases ho; exact pa.2.2.2.2 _ hd
    · intro z; rw [z, pT.1] at ho; cases ho; exact pT.2.2.2.2 _ hd
  have isC : ∀ c v, s.heap.IsCell c v → G.IsCell c v := fun c v hc => by
    obtain ⟨n1, n2⟩ := cellNe c v hc
    obtain ⟨o, ho, hd⟩ := hc
    exact ⟨o, (g1 c n1 n2).trans ho, hd⟩
  have u := I.base
  refine ⟨J.ok, I.os, I.bare, ⟨fun b o e n hb hx => ?_, fun b o e n hb hx => ?_, u.free, fun b o e hx => ?_, u.tups, u.frzs, u.tbls⟩, ?_, fun x c e => ?_, I.free, I.freeC, fun p hp => ?_, fun b o q => ?_, I.len⟩
  · have z := there b o e hx
    exact (g1 b z.1 z.2).trans (u.keep b o e n hb hx)
  · have z := there b o e hx
    obtain ⟨sl, q⟩ := u.slot b o e n hb hx
    exact ⟨sl, (g1 b z.1 z.2).trans q⟩
  · have z := there b o e hx
    obtain ⟨o', q⟩ := u.there b o e hx
    exact ⟨o', (g1 b z.1 z.2).trans q⟩
  · obtain ⟨m, ⟨o, es, ep, ho, hd, hk, hm⟩, hl⟩ := I.loc
    refine ⟨m, ⟨o, es, ep, (g1 _ (Ne.symm pa.2.2.1) (Ne.symm pT.2.2.1)).trans ho, hd, hk, hm⟩, fun i x v e1 e2 e3 => ?_⟩
    obtain ⟨w, r, l⟩ := hl i x v e1 e2 e3
    refine ⟨w, r, ?_⟩
    rcases l with l | ⟨l1, c, l2, l3⟩
    · exact .inl l
    · exact .inr ⟨l1, c, l2, isC c _ l3⟩
  · obtain ⟨v, hv⟩ := I.cell x c e
    exact ⟨v, isC c v hv⟩
  · have hp' : p ∈ X.pn := by simpa using hp
    have q := I.pin p (List.mem_append_left _ (List.mem_cons_of_mem _ (List.mem_cons_of_mem _ (List.mem_append_left _ hp'))))
    have z := old p.1 p.2 (J.pin p (List.mem_append_left _ hp')).1
    exact ⟨(g1 _ z.1 z.2).trans q.1, q.2⟩
  · refine (I.hok b o q).stay (fun c w hc r => ?_) (fun _ r => r) fun _ _ r => r
    have na : c ≠ a := fun z => by
      have n := pa.2.1
      rcases hc with hc | hc
      · rw [hc] at z; rw [← z, q] at n; cases n
      · rw [z] at hc; rw [hc] at n; cases n
    have nT : c ≠ T := fun z => by
      have n := pT.2.1
      rcases hc with hc | hc
      · rw [hc] at z; rw [← z, q] at n; cases n
      · rw [z] at hc; rw [hc] at n; cases n
    exact (g1 c na nT).trans r
theorem re_ok (hs : X.stack = X.env :: X.outer) (hf : X.env.frame = some X.env.locals) (tk : L2.Takes X Wout) (J : Inv X pins σ' H' sI) (old : ∀ b o, sI.heap.get? b = some o → b ≠ a ∧ b ≠ T)
    {vs ts : Array Value} (hz : Zc cls d oe) (hd : oe.data = .fields vs) (h1 : vs[1]? = some (.ref T)) (hTe : T ≠ a) (hdT : oT.data = .fields ts) (h3 : ts[3]? = some .none) :
    ReOk (L2H.suiteX X a ((a, oe) :: (T, oT) :: (X.pn ++ pins))) (Wout cls d) := by
  refine ⟨fun pos pn' s σ H Q I w => ?_⟩
  have pa := I.pin (a, oe) (List.mem_append_left _ List.mem_cons_self)
  have pT := I.pin (T, oT) (List.mem_append_left _ (List.mem_cons_of_mem _ List.mem_cons_self))
  obtain ⟨G, gy, gn⟩ := restrict s.heap fun b => !(b == a) && !(b == T)
  have g1 : ∀ b, b ≠ a → b ≠ T → G.get? b = s.heap.get? b := fun b x y => gy b (by simp [x, y])
  have gsub : ∀ b o, G.get? b = some o → s.heap.get? b = some o ∧ b ≠ a ∧ b ≠ T := fun b o e => by
    by_cases x : b = a
    · rw [gn b (by simp [x])] at e; cases e
    · by_cases y : b = T
      · rw [gn b (by simp [y])] at e; cases e
      · exact ⟨(g1 b x y).symm.trans e, x, y⟩
  have I6 := inv_hide J old rfl I g1
  obtain ⟨B', by_, bn⟩ := restrict s.heap fun b => !(b == a) && !(b == T) && !(decide (b ∈ frs X.stack))
  have bsub : ∀ b o, B'.get? b = some o → s.heap.get? b = some o := fun b o e => by
    cases q : (!(b == a) && !(b == T) && !(decide (b ∈ frs X.stack))) with
    | true => exact (by_ b q).symm.trans e
    | false => rw [bn b q] at e; cases e
  have fl : HandSPX.FlyingZ B' (X.env :: X.outer) a (Zc cls d) s.heap := by
    refine ⟨bsub, bn a (by simp), ?_, oe, vs, T, oT, ts, pa.1, hz, hd, h1, bn T (by simp), hTe, pT.1, hdT, h3⟩
    rw [← hs]
    exact funFrames_none I.stack fun L hL => bn L (by simp [show L ∈ frs X.stack from hL])
  refine PySem.wpAny_Raise_bare ?_
  unfold PySem.raiseBare raiseStmt
  dsimp only
  refine wpAny_bind (wpAny_handled ?_)
  have hh : (L2H.suiteX X a ((a, oe) :: (T, oT) :: (X.pn ++ pins))).A.handled = some (.ref a) := rfl
  rw [hh]
  dsimp only
  refine wpAny_bind (wpAny_rule ?_)
  refine wpAny_bind (wpAny_field pa.1 hd h1 ?_)
  rw [if_neg (show ¬ ((Value.ref T == Value.none) = true) from by simp)]
  have fin : wpAny (model X.prog X.w) (X.A.mark (some (.ref a))) (setFlight (.ref a) X.env.frame) (fun _ s4 => wpAny (model X.prog X.w) (X.A.mark (some (.ref a))) (throw (.ref a) : Sem Flow) Q X.xe s4) X.xe s := by
    rw [hf]
    refine HandSPX.setFlight_upZ fl fun h5 hh5 up5 => wpAny_throw (tk _ _ ?_)
    refine ⟨a, B', { s with heap := G }, [], σ, H, cls, d, rfl, I6, fun b o e hb => ?_, fun b o e hn => ?_, .inr (.inr (by rw [hs]; exact hh5)), pa.2.1, rfl, I.bare, w⟩
    · obtain ⟨e1, e2, e3⟩ := gsub b o e
      rw [by_ b (by simp [e2, e3, show b ∉ frs X.stack from hb])]
      exact e1
    · exact up5 b o (gsub b o e).1 hn
  first
    | exact wpAny_bind (wpAny_pure (wpAny_bind fin))
    | exact wpAny_bind fin
end
section
variable {X : Cx} {x : Str} {c : Value} {body suite : List Stmt} {b₀ : Stmt} {np pos pos' : Pos} {tb : WX → TS} {ts : Addr → Value → Option Addr → TS} {Wout : WX}
/-- try: .. except X: a suite that works while the exception is handled, and may raise it again -/
theorem ps_try_re (hs : X.stack = X.env :: X.outer) (hf : X.env.frame = some X.env.locals) (hc : Names X x c) (hpa : ∀ hd : Option Value, PassesOwnAt (model X.prog X.w) (X.A.mark hd) X.A X.env X.xe) (tk : L2.Takes X Wout)
    (hb : ∀ (W : WX) (pn : List (Addr × Obj)) (xe : Value → Shared → Prop), L2N.Takes (X.tr pn xe) W → PassesOwn (model X.prog X.w) X.A X.env xe → PSs (X.tr pn xe) body (tb W))
    (hsu : ∀ (a : Addr) (oe : Obj) (cls : Value) (d : Option Addr) (pn : List (Addr × Obj)), L2H.HotC (L2H.suiteX X a ((a, oe) :: pn)) → ReOk (L2H.suiteX X a ((a, oe) :: pn)) (Wout cls d) →
      PSs (L2H.suiteX X a ((a, oe) :: pn)) (b₀ :: suite) (ts a cls d)) :
    PS X (.Try body [.ExceptHandler (some (.Name x np)) none (b₀ :: suite) pos'] [] [] pos) (fun D σ H => tb (wOnly X.K c ts Wout D) D σ H) := by
  refine ⟨fun pins s σ H D I h => ?_⟩
  have ok := I.ok
  have hfr : X.A.frames = some (X.env :: X.outer) := by rw [ok.frames, hs]
  refine wpAny_Try_except ?_
  refine wpAny_mono ((hb (wOnly X.K c ts Wout D) (X.pn ++ pins) (fun e s₁ => wpAny (model X.prog X.w) X.A (noteFrame e X.env) (fun _ s₂ => wpAny (model X.prog X.w) X.A (setFlight e none) (fun _ s₃ =>
    wpAny (model X.prog X.w) X.A (handleBy e X.env [.ExceptHandler (some (.Name x np)) none (b₀ :: suite) pos']) (SP X pins D) X.xe s₃) X.xe s₂) X.xe s₁) (fun u s' xx => ?_) PassesOwn.looking).run [] s σ H D (I.toTry _) h) (fun f s1 hsp => ?_) (fun e s1 he => he)
  · obtain ⟨a, B, sI, pins', σ', H', cls, d, rfl, J', nb, up, sky, na, os, ag, b, hb1, hyes, hno⟩ := xx
    have J : Inv X pins σ' H' sI := J'.ofTry ok
    have sky' : Sky B (X.env :: X.outer) a (L2N.Zn cls d) X.env.locals s'.heap := by rw [← hs]; exact sky
    show wpAny (model X.prog X.w) X.A (noteFrame (.ref a) X.env) _ _ _
    refine L2N.Sky.land L2N.Zn.steady hfr hf sky' fun h3 fl3 up3 => ?_
    have J3 : Inv X pins σ' H' { s' with heap := h3 } := J.landed nb fl3.1 (up.trans up3) os ag
    obtain ⟨oe3, vs3, he3, hz3, hd3⟩ := fl3.there
    have notFr : ∀ {h : Heap} {t : Addr} {o : Obj} {vs : Array Value}, h.FunFrames B (X.env :: X.outer) → h.get? t = some o → o.data = .fields vs → t ∉ frs (X.env :: X.outer) := fun {h t o vs} ff e dd hm => by
      obtain ⟨_, o', e', hnf⟩ := ff.mem hm
      rw [e] at e'; cases e'
      exact hnf _ dd
    have offs : ∀ {t : Addr}, t ∉ frs (X.env :: X.outer) → t ≠ X.env.locals ∧ t ∉ X.fs := fun {t} n => ⟨fun z => n (List.mem_filterMap.mpr ⟨X.env, List.mem_cons_self, by rw [hf, z]⟩), fun hm => by
      obtain ⟨e, he, q⟩ := List.mem_filterMap.mp hm
      exact n (List.mem_filterMap.mpr ⟨e, List.mem_cons_of_mem _ he, q⟩)⟩
    obtain ⟨nL, nF⟩ := offs (notFr fl3.2.2.1 he3 hd3)
    have S3 := J3.suite he3 hd3 na nL nF
    refine wpAny_handleBy_cons (codeAny_handlers_test ?_) (by intro q; cases q)
    have LT : PySem.W.Looks (model X.prog X.w) h3 (typeOf (.ref a)) cls := fun A Q E s k q => wpAny_typeOf_ref (k _ _ he3) (by rw [hz3.1]; exact q)
    have LM := PySem.W.exm_one (M := model X.prog X.w) (J3.kIn) LT hb1
    have test : ∀ {Q : Value → Shared → Prop} {E : Value → Shared → Prop}, Q c { s' with heap := h3 } → wpAny (model X.prog X.w) (X.A.mark (some (.ref a))) (eval (.Name x np) X.env) Q E { s' with heap := h3 } := fun {Q E} q => by
      obtain ⟨hg, hdbg, hm | ⟨hm, hv, hnn⟩⟩ := hc
      · exact ld_glob (X := X.suite a ((a, oe3) :: (X.pn ++ pins))) S3 hg hm q hdbg
      · exact ld_blt (X := X.suite a ((a, oe3) :: (X.pn ++ pins))) S3 hg hm hv q hnn hdbg
    refine test (LM.here ?_)
    cases b with
    | true =>
      refine codeAny_handlers_suite ?_
      refine HandSPX.lands_againZ fl3 fun h4 fl4 up4 => ?_
      have J4 : Inv X pins σ' H' { s' with heap := h4 } := J.landed nb fl4.1 ((up.trans up3).trans up4) os ag
      obtain ⟨b1, b2, b3, oe4, vs4, T, oT, ts4, he4, hz4, hd4, h14, hnT, hTe, hT, hdT, h34⟩ := id fl4
      have nfa := notFr b3 he4 hd4
      have nfT := notFr b3 hT hdT
      have hTn : H' T = none := (J.inGround nb).gone hnT
      have old : ∀ b o, sI.heap.get? b = some o → b ≠ a ∧ b ≠ T := fun b o e => by
        by_cases hm : b ∈ frs X.stack
        · rw [hs] at hm
          exact ⟨fun z => nfa (z ▸ hm), fun z => nfT (z ▸ hm)⟩
        · have e' := nb b o e hm
          exact ⟨(fun z => by
            rw [z, b2] at e'
            cases e'), (fun z => by
            rw [z, hnT] at e'
            cases e')⟩
      have S4 : Inv (L2H.suiteX X a ((a, oe4) :: (T, oT) :: (X.pn ++ pins))) [] σ' H' { s' with heap := h4 } := by
        have S5 := L2H.suiteX_of (X := X) (J4.suite he4 hd4 na (offs nfa).1 (offs nfa).2)
        have o5 := S5.ok
        refine ⟨⟨o5.mod, o5.kind, o5.glob, o5.blt, o5.above, o5.inj, o5.has, o5.cab, (fun z => absurd (show false = true from z) Bool.false_ne_true), o5.frames, o5.stk, o5.exf, o5.bs, o5.bsz, o5.noex, o5.exfs, o5.funs, o5.frf⟩, S5.os, S5.bare, S5.base, S5.loc, S5.cell, S5.free, S5.freeC, fun p hp => ?_, S5.hok, S5.len⟩
        have hp' : p ∈ (a, oe4) :: (T, oT) :: (X.pn ++ pins) := by rw [List.append_nil] at hp; exact hp
        rcases List.mem_cons.mp hp' with e | hp'
        · exact S5.pin p (by rw [List.append_nil, e]; exact List.mem_cons_self)
        · rcases List.mem_cons.mp hp' with e | hp'
          · rw [e]
            exact ⟨hT, hTn, (offs nfT).1, (offs nfT).2, fun v z => by
              have z' : oT.data = .cell v := z
              rw [hdT] at z'; cases z'⟩
          · exact S5.pin p (by rw [List.append_nil]; exact List.mem_cons_of_mem _ hp')
      have hot : L2H.HotC (L2H.suiteX X a ((a, oe4) :: (T, oT) :: (X.pn ++ pins))) := ⟨(a, oe4), ⟨rfl, vs4, hd4, hz4.2.2 vs4 hd4⟩, List.mem_cons_self⟩
      have reok := re_ok hs hf tk J old hz4.zc hd4 h14 hTe hdT h34
      have unS : ∀ {σ6 : L2.St} {H6 : Hp} {s6 : Shared}, Inv (L2H.suiteX X a ((a, oe4) :: (T, oT) :: (X.pn ++ pins))) [] σ6 H6 s6 → Inv X pins σ6 H6 s6 := fun {σ6 H6 s6} S =>
        ⟨ok, S.os, S.bare, S.base, S.loc, S.cell, S.free, S.freeC, fun p hp => S.pin p (List.mem_append_left _ (List.mem_cons_of_mem _ (List.mem_cons_of_mem _ hp))), S.hok, S.len⟩
      refine wpAny_mono ((hsu a oe4 cls d ((T, oT) :: (X.pn ++ pins)) hot reok).run [] _ _ H' _ S4 (hyes rfl a na)) (fun f s6 hsp => ?_) (fun e6 s6 z => hpa (some (.ref a)) e6 s6 z)
      cases f with
      | next =>
        obtain ⟨σ6, H6, S6, q6⟩ := hsp
        exact ⟨_, _, unS S6, q6⟩
      | brk =>
        obtain ⟨σ6, H6, S6, q6⟩ := hsp
        exact ⟨_, _, unS S6, q6⟩
      | cont =>
        obtain ⟨σ6, H6, S6, q6⟩ := hsp
        exact ⟨_, _, unS S6, q6⟩
      | ret u =>
        obtain ⟨v6, σ6, H6, S6, r6, q6⟩ := hsp
        exact ⟨_, _, _, unS S6, r6, q6⟩
    | false =>
      show wpAny _ X.A (handleBy (.ref a) X.env []) _ _ _
      refine wpAny_handleBy_nil ?_
      have flz := L2H.flyingZ_imp (fun o z => z.zc) fl3
      obtain ⟨k1, k2, k3, oe, vs, T, oT, ts', he, hz, hd, h1, hr⟩ := id flz
      unfold PySem.passOn
      refine wpAny_bind (wpAny_field he hd h1 ?_)
      rw [if_neg (show ¬ ((Value.ref T == Value.none) = true) from by simp)]
      have fin : wpAny (model X.prog X.w) X.A (setFlight (.ref a) X.env.frame) (fun _ s4 => wpAny (model X.prog X.w) X.A (throw (.ref a) : Sem Flow) (SP X pins D) X.xe s4) X.xe { s' with heap := h3 } := by
        rw [hf]
        refine HandSPX.setFlight_upZ flz fun h4 hh4 up4 => wpAny_throw (tk _ _ ?_)
        exact ⟨a, B, sI, pins, σ', H', cls, d, rfl, J, nb, (up.trans up3).trans up4, .inr (.inr (by rw [hs]; exact hh4)), na, os, ag, hno rfl⟩
      first
        | exact wpAny_bind (wpAny_pure (wpAny_bind fin))
        | exact wpAny_bind fin
  · cases f with
    | next =>
      obtain ⟨σ', H', J', q⟩ := hsp
      exact wpAny_execs_nil ⟨σ', H', J'.ofTry ok, q⟩
    | brk =>
      obtain ⟨σ', H', J', q⟩ := hsp
      exact ⟨σ', H', J'.ofTry ok, q⟩
    | cont =>
      obtain ⟨σ', H', J', q⟩ := hsp
      exact ⟨σ', H', J'.ofTry ok, q⟩
    | ret u =>
      obtain ⟨v, σ', H', J', r, q⟩ := hsp
      exact ⟨v, σ', H', J'.ofTry ok, r, q⟩
end
end Ch

set_option Elab.async false
set_option linter.all false
set_option autoImplicit false
set_option maxRecDepth 100000
set_option maxHeartbeats 4000000
/-! calls whose errors are wished for at the caller's slots; o.m( *e); cls(e, k = v); calls while an error is handled -/
namespace Ch
open PySem PySem.Spec PyProof.Rows L2
section
variable {X : Cx} {CX : CXT} {k : Nat} {f C g p : Addr} {sp : Sp} {E : L2.St → XK} {x m : Str} {np pos apos : Pos} {e o : Expr} {es : List Expr} {ta : TE} {t : TA}
theorem run_fnRS {pins : List (Addr × Obj)} {σ : L2.St} {H : Hp} {s : Shared} {Ex : XK} {Q : VK} {us : List Value} {vs : List V} (F : FnR X.prog X.w X.K X.mg X.base CX k f sp) (hr : Room k X.A) (hx : PassesAt CX X σ Ex) (I : Inv X pins σ H s) (r : Vals vs us) (h : sp vs H Q Ex) :
    codeAny (model X.prog X.w) X.A (.call (.ref f) ⟨us, []⟩) (fun r s' => match r with | .ok (.ret v) => EP X pins σ Q v s' | .ok _ => False | .error e => X.xe e s') s := by
  refine codeAny_mono (F X.A X.stack s H us vs Q Ex hr I.env0 r h) fun r s' hq => ?_
  cases r with
  | error e => exact hx pins H s e s' I hq
  | ok fl =>
    cases fl with
    | ret u => exact I.after hq
    | next => exact False.elim hq
    | brk => exact False.elim hq
    | cont => exact False.elim hq
def tMethRS (C : Addr) (m : Str) (sp : Sp) (E : L2.St → XK) (ta : TE) (t : TA) : TE := fun σ H Q => ta σ H (rMeth' C m fun p H1 => t σ H1 fun vs H2 => sp (.ref p :: vs) H2 Q (E σ))
where rMeth' (C : Addr) (m : Str) (k : Addr → Hp → Prop) (x : V) (H : Hp) : Prop := ∃ a dx fs, x = .ref a ∧ H a = some (.ins C dx fs) ∧ fs.lookup m = none ∧ k a H
/-- o.m(e, ..), what is raised is wished for at the slots -/
theorem pe_methRS {pl : Sem Bool} (c : Cls X.K C) (hm : Meth X.K C m f) (F : FnR X.prog X.w X.K X.mg X.base CX k f sp) (hr : Room k X.A) (hx : ∀ σ, PassesAt CX X σ (E σ)) (ho : PE X o ta) (ha : PA X (e :: es) t)
    (hst : starEach (e :: es) X.env = (false, eval e X.env) :: starEach es X.env := by rfl) (hpl : (backTo pos (starEach es X.env)).any (·.1) = false := by rfl)
    (ht : eval (.Call (.Attribute o m apos) (e :: es) [] pos) X.env = (do
      let rv ← eval o X.env
      standAt apos.atName
      let (fn, first) ← holding [rv] (getMethod rv m pl)
      callWith pos fn first (backTo pos (starEach (e :: es) X.env)) (backToKw pos (keywordEach [] X.env))) := by rfl) :
    PE X (.Call (.Attribute o m apos) (e :: es) [] pos) (tMethRS C m sp E ta t) := by
  refine ⟨fun pins s σ H Q I h => PySem.W.methodCall_KW (pl := pl) (thn (ho.run pins s σ H _ I h) fun u s1 ⟨y, H1, I1, ry, a, dx, fs, ey, ea, l, q⟩ => ?_) ht⟩
  subst ey
  obtain rfl : u = Value.ref a := ry
  refine getmeth_ok I1 ea c hm l (PySem.W.callWith_K (first := [.ref a]) (h₀ := X.base) I.ok.mod.kin hm.kp (thn (ha.run pos pins s1 σ H1 _ I1 q) fun us s2 ⟨vs, H2, I2, r, q2⟩ => ⟨I2.kIn, ?_⟩) hst hpl)
  exact wpAny_call (run_fnRS (us := .ref a :: us) (vs := .ref a :: vs) F hr (hx σ) I2 (.cons rfl r) q2)
theorem x_methRS {σ : L2.St} {H : Hp} {Q : VK} (k : ta σ H fun x H1 => ∃ a dx fs, x = .ref a ∧ H1 a = some (.ins C dx fs) ∧ fs.lookup m = none ∧ t σ H1 fun vs H2 => sp (.ref a :: vs) H2 Q (E σ)) : tMethRS C m sp E ta t σ H Q := k
end
theorem pe_mkSK {X : Cx} {CX : CXT} {k : Nat} {f C : Addr} {sp : Sp} {E : XK} {x : Str} {np pos sp_ : Pos} {e : Expr} {ta : TE} (K : PySem.W.Frag) (M : Mk X.K C f) (F : FnR X.prog X.w X.K X.mg X.base CX k f sp) (hr : Room (k + 1) X.A) (hm : X.mg x = some (.ref C)) (hx : Passes CX X E) (hg : Gl X x) (he : PE X e ta) (hK : X.K = K := by rfl) (hd : (x == ("__debug__" : Str)) = false := by decide)
    (hst : starEach [.Starred e sp_] X.env = [(true, eval e X.env)] := by rfl) : PE X (.Call (.Name x np) [.Starred e sp_] [] pos) (tMk C sp E (tStarA K ta)) := by
  subst hK
  exact pe_mkS M F hr hm hx hg he hd hst
/-- what is raised is wished for at all slots -/
theorem pass_all {X : Cx} {W : WX} (tk : Takes X W) : Passes (L2.CX X.prog X.w) X (fun cls d H => ∀ σ, W cls d σ H) := passes_call tk fun _ _ σ _ h => h σ
theorem x_neSd {K : PySem.W.Frag} {H : Hp} {Q : VK} {a b : Str} (k : Q (.bl (!decide (a = b))) H) : rNeU K (.str a) (.str b) H Q := .inl ⟨rfl, by rw [show decide (V.str a = V.str b) = decide (a = b) by simp]; exact k⟩
/-! ### cls(e, .., k = v), cls a name of the def -/
def tMakeKV (i : Nat) (C : Addr) (n m : Nat) (sp : Sp) (gV : List V → List V → List V) (E : XK) (t tk : TA) : TE := fun σ H Q => σ[i]? = some (some (.ref C)) ∧ tMakeK C n m sp gV E t tk σ H Q
theorem pe_makeKV {X : Cx} {CX : CXT} {k n i : Nat} {C f : Addr} {fd : FuncData} {ps ks : List Str} {sp : Sp} {g : List Value → List Value → List Value} {gV : List V → List V → List V} {E : XK} {x : Str} {e : Expr} {es : List Expr} {kws : List Keyword} {t tk : TA} {p pos : Pos}
    (M : Mk X.K C f) (F : FnOk X.prog X.w X.K X.mg X.base CX k f fd ps sp) (hr : Room (k + 1) X.A) (hN : X.N[i]? = some x) (hv : Vis X.env.scope x) (hb : KBn X.K fd ps (n + 1) ks g gV) (hx : Passes CX X E) (ha : PA X (e :: es) t) (hkw : PK X kws tk)
    (hall : (backToKw pos (keywordEach kws X.env)).all (·.1.isSome) = true := by rfl) (hks : (backToKw pos (keywordEach kws X.env)).filterMap (·.1) = ks := by rfl) (hd : (x == ("__debug__" : Str)) = false := by decide) (hcd : (x == ("__classdict__" : Str)) = false := by decide)
    (he : starEach (e :: es) X.env = (false, eval e X.env) :: starEach es X.env := by rfl) (hpl : ((backTo pos (starEach (e :: es) X.env)).any (·.1) || (backToKw pos (keywordEach kws X.env)).any (·.1.isNone)) = false := by rfl) :
    PE X (.Call (.Name x p) (e :: es) kws pos) (tMakeKV i C n ks.length sp gV E t tk) := by
  refine ⟨fun pins s σ H Q I h => ?_⟩
  obtain ⟨hs, h⟩ := h
  refine wpAny_Call_Name_kw (thn ((pe_var (pos := p) (i := i) hN hv hd hcd).run pins s σ H (fun v H1 => v = .ref C ∧ H1 = H) I ⟨.ref C, hs, rfl, rfl⟩) fun u s0 ⟨v, H0, I0, r0, ev, eH⟩ => ?_)
  subst ev
  rw [eH] at I0
  cases r0
  refine PySem.W.callWith_KW (h₀ := X.base) I0.ok.mod.kin M.kp hall (thn (ha.run pos pins s0 σ H _ I0 h) fun us s1 ⟨vs, H1, I1, r, q⟩ => ?_) hpl he
  refine thn (hkw.run pos pins s1 σ H1 _ I1 q) fun ws s2 ⟨zs, H2, I2, rz, l1, l2, q2⟩ => ⟨I2.kIn, ?_⟩
  rw [hks]
  exact run_makeK M F hr hb hx I2 r rz l1 l2 q2
theorem x_mkKV {i : Nat} {C : Addr} {n m : Nat} {sp : Sp} {gV : List V → List V → List V} {E : XK} {t tk : TA} {σ : L2.St} {H : Hp} {Q : VK} (hs : σ[i]? = some (some (.ref C))) (k : tMakeK C n m sp gV E t tk σ H Q) : tMakeKV i C n m sp gV E t tk σ H Q := ⟨hs, k⟩
theorem x_methSt {K : PySem.W.Frag} {C g : Addr} {m : Str} {sp : Sp} {E : XK} {ta te : TE} {σ : L2.St} {H : Hp} {Q : VK} (k : ta σ H fun x H1 => ∃ a dx fs, x = .ref a ∧ H1 a = some (.ins C dx fs) ∧ fs.lookup m = none ∧
  ∀ q, H1 q = none → te σ (upd H1 q (.met g a)) fun y H2 => ∃ b vs, y = .ref b ∧ SqT K H2 b vs ∧ H2 q = some (.met g a) ∧ sp (.ref a :: vs) H2 Q E) : L2.tMethS K C m g sp E ta te σ H Q := k
/-! ### while an error is handled -/
theorem roomH_mark {k : Nat} {A : Around} {hd : Option Value} (r : Room k A) : L2H.RoomH k (A.mark hd) := ⟨r.dp, r.un⟩
theorem passH0 {X : Cx} (σ : L2.St) : PassesAt CX0 X σ (fun _ _ _ => False) := fun _ _ _ _ _ _ z => False.elim z
section
variable {P : Program} {w : World} {K : PySem.W.Frag} {mg : Str → Option Value} {base : Heap} {x qual : Str} {params : Arguments} {body : List Stmt} {scope : Scope} {kws : List (Str × V)} {f : Addr} {fd : FuncData}
theorem fnh_ok {CX : CXT} {N ps : List Str} {k : Nat} {sp : Sp} (F : FunD K x qual params body scope [] kws f fd) (S : FnScope N ps scope) (len : ∀ vs H Q E, sp vs H Q E → vs.length = ps.length)
    (body_ok : ∀ (cdv : Value) (A : Around) (outer : List Env) (s : Shared) (H : Hp) (vs : List V) (Q : VK) (E : XK) (p : Addr × Obj), L2H.Hot1 A p → L2H.RoomH k (A.deeper (envOfC qual scope s.heap.objs.size f cdv)) → sp vs H Q E →
      ∃ t, PSs (L2H.cxH CX P w K mg base N qual scope f cdv A outer s H E p) body t ∧ t { nx := fun _ H' => Q .non H', rt := Q } (start N vs) H) : L2H.FnH P w K mg base CX (k + 1) f fd ps sp := by
  obtain ⟨oc, od, dV, kV, doc, pm, an, cdv, ct, osl, e1, lk, hcd, hD, hK⟩ := F.ex
  subst e1
  exact L2H.fn_ofH lk hcd S len fun A outer s H vs Q E p hot hr hsp => body_ok cdv A outer s H vs Q E p hot hr hsp
end
/-- the context of such a def's body bears the error -/
theorem hot_cxH {CX : CXT} {P : Program} {w : World} {K : PySem.W.Frag} {mg : Str → Option Value} {base : Heap} {N : List Str} {qual : Str} {scope : Scope} {f : Addr} {cd : Value} {A : Around} {outer : List Env} {s : Shared} {H : Hp} {E : XK} {p : Addr × Obj} (h : L2H.Hot1 A p) :
    L2H.HotC (L2H.cxH CX P w K mg base N qual scope f cd A outer s H E p) := ⟨p, h, List.mem_singleton.mpr rfl⟩
theorem x_methH {C : Addr} {m : Str} {sp : Sp} {E : L2.St → XK} {ta : TE} {t : TA} {σ : L2.St} {H : Hp} {Q : VK} (k : ta σ H fun x H1 => ∃ a dx fs, x = .ref a ∧ H1 a = some (.ins C dx fs) ∧ fs.lookup m = none ∧ t σ H1 fun vs H2 => sp (x :: vs) H2 Q (E σ)) : L2H.tMethH C m sp E ta t σ H Q := k
end Ch
/-! ### a method that is taken as a value -/
namespace ChH
open PySem PySem.Spec PyProof.Rows L2 He
def bmB (C m : Str) (K : PySem.W.Frag) : Bool := (Fa.meth C m).ok K && (eqO (PySem.W.specialIn K (.ref (ma K (ga K C) m)) "__get__") (some (some (.builtin "function.__get__"))) && (decide (PySem.W.takesIn K (.ref (ma K (ga K C) m)) = some false) &&
  (!(PySem.W.copiedNames.contains m) && PySem.W.fnIn K (ma K (ga K C) m))))
theorem bm_ok {K : PySem.W.Frag} {C m : Str} (h : bmB C m K = true) : BMeth K (ga K C) m (ma K (ga K C) m) := by
  obtain ⟨h1, h⟩ := ba h
  obtain ⟨h2, h⟩ := ba h
  obtain ⟨h3, h⟩ := ba h
  obtain ⟨h4, h5⟩ := ba h
  exact ⟨He.meth_ok h1, eqO_ok h2, of_decide_eq_true h3, by simpa using h4, h5⟩
end ChH

set_option Elab.async false
set_option linter.all false
set_option autoImplicit false
set_option maxRecDepth 100000
set_option maxHeartbeats 4000000
/-! raising promises that also tell the exception's context (None): for a suite that works while it is handled -/
namespace Ch
open PySem PySem.Spec PyProof.Rows L2
section
variable {X : Cx}
theorem mk_endN {pins : List (Addr × Obj)} {σ : L2.St} {H1 H2 : Hp} {Q : XK} {hp hp2 h2 : Heap} {g1 g2 : Array GenState} {d1 d2 : Drawn} {t1 t2 : Nat} {os1 os2 : OsState} {a C d : Addr} {fs : List (Str × V)} (T : Raises X (.ref C)) (I1 : Inv X pins σ H1 ⟨hp, g1, d1, t1, os1⟩)
    (ha : hp.objs.size ≤ a) (k : ∀ b o, hp.get? b = some o → hp2.get? b = some o) (un : Un (frs X.stack) [] (upd H1 a (exo a C none)) H2 hp2 h2) (hok : HOk X.prog X.w H2 h2) (ho : os2 = os1) (hb : AllBare g2)
    (ea : H2 a = some (exo a C (some d))) (ed : H2 d = some (exd d fs)) (hd1 : H1 d = none) (q : Q (.ref C) (some d) (upd (L2.del H2 a) d (.xd fs))) : L2N.MkP X pins σ Q (.ref a) ⟨h2, g2, d2, t2, os2⟩ := by
  obtain ⟨t0, G, J, kG, ge, hoe, na⟩ := mk_end0 (d2 := d2) (t2 := t2) I1 ha k un hok ho hb ea ed hd1
  exact ⟨a, _, _, ⟨G, g2, d2, t2, os2⟩, _, .ref C, some d, rfl, J, kG, ge, hoe, ⟨rfl, rfl, fun vs e => by cases e; rfl⟩, rfl, rfl, na, rfl, hb, T, q⟩
end
theorem pmk_kwN {X : Cx} {CX : CXT} {x f : Str} {C fI : Addr} {k : Nat} {fd : FuncData} {kws : List Keyword} {tk : TA} {p pos : Pos} (T : OexC X.K C) (iC : PySem.W.findIn X.K (.ref C) "__init__" = some (some (.ref fI)))
    (tI : PySem.W.typeIn X.K (.ref fI) = some (.type "function")) (F1 : FnOk X.prog X.w X.K X.mg X.base CX k fI fd ["self", f] (spXI f C)) (hr : Room (k + 1) X.A)
    (hb : ∀ (s : Shared) (u v : Value), BindsTo s fd ⟨[u], [(f, v)]⟩ [("self", u), (f, v)]) (hx : Passes CX X (fun _ _ _ => False)) (hg : Gl X x) (hm : X.mg x = some (.ref C)) (hkw : PK X kws tk)
    (hall : (backToKw pos (keywordEach kws X.env)).all (·.1.isSome) = true := by rfl) (hks : (backToKw pos (keywordEach kws X.env)).filterMap (·.1) = [f] := by rfl) (hdb : (x == ("__debug__" : Str)) = false := by decide)
    (hpl : ((backTo pos (starEach [] X.env)).any (·.1) || (backToKw pos (keywordEach kws X.env)).any (·.1.isNone)) = false := by rfl)   : L2N.PMk X (.Call (.Name x p) [] kws pos) (tRx C f tk) := by
  intro pins s σ H Q I h
  obtain ⟨nm, q, N, bs, bm, sn, sub, ab, col, dd, k0, k1, k2, k3, k5, hC, hbm⟩ := T.cls
  refine wpAny_Call_Name_kw (ld_glob I hg hm ?_ hdb)
  refine PySem.W.callWith_KW0 (h₀ := X.base) I.ok.mod.kin T.kC hall ?_ hpl
  refine thn (hkw.run pos pins s σ H _ I h) fun ws s2 ⟨zs, H1, I1, rz, v, ez, hq⟩ => ⟨I1.kIn, ?_⟩
  rw [hks]
  subst ez
  cases rz with
  | @cons _ u _ ur ru rn =>
    cases rn
    show wpAny _ _ (call (.ref C) [] [(f, u)]) _ _ _
    obtain ⟨hp, g, dr, tk', os⟩ := s2
    have hsz : hp.objs.size ≤ hp.objs.size + 1 := Nat.le_succ _
    have hn : H1 (hp.objs.size + 1) = none := I1.hok.fresh hsz
    have kk : ∀ b o, hp.get? b = some o → ((hp.push (PySem.W.kdv_tup [])).push (PySem.HandSPX.excO C hp.objs.size)).get? b = some o := fun b o e => Heap.get?_push_of_some _ (Heap.get?_push_of_some _ e)
    have hget : ((hp.push (PySem.W.kdv_tup [])).push (PySem.HandSPX.excO C hp.objs.size)).get? (hp.objs.size + 1) = some (PySem.HandSPX.excO C hp.objs.size) := by heap_get
    have I2 : Inv X pins σ (upd H1 (hp.objs.size + 1) (exo (hp.objs.size + 1) C none)) ⟨(hp.push (PySem.W.kdv_tup [])).push (PySem.HandSPX.excO C hp.objs.size), g, dr, tk', os⟩ :=
      I1.laid (t' := tk') (a := hp.objs.size + 1) (o := exo (hp.objs.size + 1) C none) (h' := (hp.push (PySem.W.kdv_tup [])).push (PySem.HandSPX.excO C hp.objs.size)) kk hsz (exo_ok hget)
    have r2 : Vals [V.ref (hp.objs.size + 1), v] [Value.ref (hp.objs.size + 1), u] := .cons rfl (.cons ru .nil)
    have hsp : spXI f C [V.ref (hp.objs.size + 1), v] (upd H1 (hp.objs.size + 1) (exo (hp.objs.size + 1) C none))
        (fun w H2 => w = .non ∧ ∃ d, H1 d = none ∧ d ≠ hp.objs.size + 1 ∧ H2 = upd (upd (upd H1 (hp.objs.size + 1) (exo (hp.objs.size + 1) C none)) d (exd d [(f, v)])) (hp.objs.size + 1) (exo (hp.objs.size + 1) C (some d))) (fun _ _ _ => False) :=
      ⟨_, v, rfl, upd_same, fun d hd hne => ⟨rfl, d, by rw [upd_ne hne] at hd; exact hd, hne, rfl⟩⟩
    refine wpAny_call (ChZ.call_kw PySem.F.excBase_ValueError (fun Y => PySem.HandSPX.refsVE_contains Y bm hbm) (I1.kIn _ _ hC) (PySem.W.looks_findIn I1.kIn iC) (fun self => PySem.W.bind_fn I1.kIn self tI)
      (codeAny_mono (F1.run _ X.stack _ _ ⟨[Value.ref (hp.objs.size + 1)], [(f, u)]⟩ [Value.ref (hp.objs.size + 1), u] _ _ (fun _ _ _ => False) (hr.make C [] [(f, u)]) (I2.env0.make C [] [(f, u)]) (hb _ _ _) r2 hsp) fun r s' hq' => ?_))
    cases r with
    | error er => exact hx pins σ _ _ er s' I2 hq'
    | ok fl =>
      cases fl with
      | ret u' =>
        obtain ⟨w, H2, os2, bare2, un2, hok2, rv, ev, d, hd1, hda, eH⟩ := hq'
        subst ev
        have q2 := hq d hd1
        rw [← left_xd (C := C) hn hda, ← eH] at q2
        have ea : H2 (hp.objs.size + 1) = some (exo (hp.objs.size + 1) C (some d)) := by rw [eH, upd_same]
        have ed : H2 d = some (exd d [(f, v)]) := by rw [eH, upd_ne hda, upd_same]
        obtain ⟨h2, g2, d2, t2, os'⟩ := s'
        exact ⟨rv, mk_endN (raises_own T.exC T.tyC) I1 hsz kk un2 hok2 os2 bare2 ea ed hd1 q2⟩
      | next => exact False.elim hq'
      | brk => exact False.elim hq'
      | cont => exact False.elim hq'

theorem cxn_zc {P : Program} {w : World} {outer : List Env} {H : Hp} {s s' : Shared} {E : XK} {u : Value} (c : L2N.CX P w outer H s E u s') : L2.CX P w outer H s E u s' := by
  obtain ⟨a, B, H', cls, d, e, fl, hok, ub, na, os, ag, hE⟩ := c
  obtain ⟨f1, f2, f3, oe, vs, T, oT, ts, he, hz, r⟩ := fl
  exact ⟨a, B, H', cls, d, e, ⟨f1, f2, f3, oe, vs, T, oT, ts, he, hz.zc, r⟩, hok, ub, na, os, ag, hE⟩
theorem fnok_zc {P : Program} {w : World} {K : PySem.W.Frag} {mg : Str → Option Value} {base : Heap} {k : Nat} {f : Addr} {fd : FuncData} {ps : List Str} {sp : Sp} (F : FnOk P w K mg base (L2N.CX P w) k f fd ps sp) : FnOk P w K mg base (L2.CX P w) k f fd ps sp := by
  refine ⟨F.len, fun A outer s H args us vs Q E hr e0 hb r hs => codeAny_mono (F.run A outer s H args us vs Q E hr e0 hb r hs) fun z s' hq => ?_⟩
  cases z with
  | error er => exact cxn_zc hq
  | ok fl => cases fl <;> exact hq
theorem fnr_zc {P : Program} {w : World} {K : PySem.W.Frag} {mg : Str → Option Value} {base : Heap} {k : Nat} {f : Addr} {sp : Sp} (F : FnR P w K mg base (L2N.CX P w) k f sp) : FnR P w K mg base (L2.CX P w) k f sp := by
  refine fun A outer s H us vs Q E hr e0 r hs => codeAny_mono (F A outer s H us vs Q E hr e0 r hs) fun z s' hq => ?_
  cases z with
  | error er => exact cxn_zc hq
  | ok fl => cases fl <;> exact hq
end Ch

set_option Elab.async false
set_option linter.all false
set_option autoImplicit false
set_option maxRecDepth 100000
set_option maxHeartbeats 4000000
/-! the match statement: readings of patterns, of cases, of the statement -/
namespace Ch
open PySem PySem.Spec PyProof.Rows L2
/-- a pattern's reading: a miss, or the values that its names get -/
abbrev TPat := V → Hp → (Option (List V) → Hp → Prop) → Prop
abbrev TPats := List V → Hp → (Option (List V) → Hp → Prop) → Prop
def RelB (ns : List Str) (b : Option (List V)) (r : Option (List (Str × Value))) : Prop :=
  match b, r with
  | none, none => True
  | some vs, some bs => bs.map (·.1) = ns ∧ Vals vs (bs.map (·.2))
  | _, _ => False
theorem RelB.miss {ns : List Str} : RelB ns none none := trivial
theorem RelB.nil : RelB [] (some []) (some []) := ⟨rfl, .nil⟩
/-- a pattern, the names that it binds (in order), its reading -/
structure PPt (X : Cx) (p : Pattern) (ns : List Str) (t : TPat) : Prop where
  run : ∀ (pins : List (Addr × Obj)) (s : Shared) (σ : L2.St) (H : Hp) (v : V) (u : Value) (Q : Option (List V) → Hp → Prop), Inv X pins σ H s → RelV v u → t v H Q →
    wpAny (model X.prog X.w) X.A (matchPattern p X.env u) (fun r s' => ∃ b H', Inv X pins σ H' s' ∧ RelB ns b r ∧ Q b H') X.xe s
/-- alternatives -/
structure POr (X : Cx) (ps : List Pattern) (t : TPat) : Prop where
  run : ∀ (pins : List (Addr × Obj)) (s : Shared) (σ : L2.St) (H : Hp) (v : V) (u : Value) (Q : Option (List V) → Hp → Prop), Inv X pins σ H s → RelV v u → t v H Q →
    wpAny (model X.prog X.w) X.A (matchFirst ps X.env u) (fun r s' => ∃ b H', Inv X pins σ H' s' ∧ RelB [] b r ∧ Q b H') X.xe s
/-- patterns in a row -/
structure PPts (X : Cx) (ps : List Pattern) (ns : List Str) (t : TPats) : Prop where
  run : ∀ (pins : List (Addr × Obj)) (s : Shared) (σ : L2.St) (H : Hp) (vs : List V) (us : List Value) (Q : Option (List V) → Hp → Prop), Inv X pins σ H s → Vals vs us → t vs H Q →
    wpAny (model X.prog X.w) X.A (matchEach ps X.env us) (fun r s' => ∃ b H', Inv X pins σ H' s' ∧ RelB ns b r ∧ Q b H') X.xe s
/-- the names of a case get their values -/
structure PNs (X : Cx) (ns : List Str) (t : TGs) : Prop where
  run : ∀ (pins : List (Addr × Obj)) (s : Shared) (σ : L2.St) (H : Hp) (vs : List V) (us : List Value) (Q : L2.St → Hp → Prop), Inv X pins σ H s → Vals vs us → t vs σ H Q →
    wpAny (model X.prog X.w) X.A (assignInOrder (ns.map (bindName X.env)) us) (fun _ s' => ∃ σ' H', Inv X pins σ' H' s' ∧ Q σ' H') X.xe s
/-- cases, tried in a row -/
structure PCs (X : Cx) (cs : List MatchCase) (t : V → TS) : Prop where
  run : ∀ (first : Bool) (pins : List (Addr × Obj)) (s : Shared) (σ : L2.St) (H : Hp) (D : Ends) (v : V) (u : Value), Inv X pins σ H s → RelV v u → t v D σ H →
    wpAny (model X.prog X.w) X.A (matchCases cs X.env u first) (SP X pins D) X.xe s

section
variable {X : Cx} {pos pos' : Pos}
/-! ### patterns -/
def qText (x : Str) : TPat := fun v H Q => ∃ y, v = .str y ∧ if y = x then Q (some []) H else Q none H
theorem qp_text {x : Str} {j} : PPt X (.MatchValue (.Constant (.str x) j pos) pos') [] (qText x) := by
  refine ⟨fun pins s σ H v u Q I r h => ?_⟩
  obtain ⟨y, e, h⟩ := h
  subst e
  obtain ⟨tk, rfl⟩ := r
  refine wpAny_matchPattern_Value (Calls.Constant_str ?_)
  refine eq_str ?_
  refine wpAny_truthy_bool ?_
  by_cases e : y = x
  · subst e
    rw [if_pos rfl] at h
    rw [if_pos (by simp)]
    exact ⟨some [], H, I.tok _, RelB.nil, h⟩
  · rw [if_neg e] at h
    rw [if_neg (by simpa using e)]
    exact ⟨none, H, I.tok _, RelB.miss, h⟩
def qCap : TPat := fun v H Q => Q (some [v]) H
theorem qp_cap {x : Str} : PPt X (.MatchAs none (some x) pos) [x] qCap := by
  refine ⟨fun pins s σ H v u Q I r h => ?_⟩
  exact wpAny_matchPattern_Capture ⟨some [v], H, I, ⟨rfl, .cons r .nil⟩, h⟩
def qAny : TPat := fun v H Q => Q (some []) H
theorem qp_any : PPt X (.MatchAs none none pos) [] qAny := by
  refine ⟨fun pins s σ H v u Q I r h => ?_⟩
  exact wpAny_matchPattern_Capture ⟨some [], H, I, RelB.nil, h⟩
def qMiss : TPat := fun v H Q => Q none H
theorem qo_nil : POr X [] qMiss := ⟨fun _ _ _ H _ _ _ I _ h => wpAny_matchFirst_nil ⟨none, H, I, RelB.miss, h⟩⟩
def qOr (t u : TPat) : TPat := fun v H Q => t v H fun b H1 => match b with | some l => Q (some l) H1 | none => u v H1 Q
theorem qo_cons {p : Pattern} {ps : List Pattern} {t u : TPat} (h1 : PPt X p [] t) (h2 : POr X ps u) : POr X (p :: ps) (qOr t u) := by
  refine ⟨fun pins s σ H v w Q I r h => ?_⟩
  refine wpAny_matchFirst_cons (thn (h1.run pins s σ H v w _ I r h) fun r' s1 ⟨b, H1, I1, rb, q1⟩ => ?_)
  cases b with
  | none =>
    cases r' with
    | none => exact h2.run pins s1 σ H1 v w Q I1 r q1
    | some _ => exact rb.elim
  | some l =>
    cases r' with
    | none => exact rb.elim
    | some bs => exact ⟨some l, H1, I1, rb, q1⟩
theorem qp_or {ps : List Pattern} {t : TPat} (h : POr X ps t) (hn : namesOfAll (ps.take 1) = [] := by rfl) : PPt X (.MatchOr ps pos) [] t := by
  refine ⟨fun pins s σ H v w Q I r q => ?_⟩
  refine wpAny_matchPattern_Or (thn (h.run pins s σ H v w Q I r q) fun r' s1 ⟨b, H1, I1, rb, q1⟩ => ?_)
  cases b with
  | none =>
    cases r' with
    | none => exact ⟨none, H1, I1, RelB.miss, q1⟩
    | some _ => exact rb.elim
  | some l =>
    cases r' with
    | none => exact rb.elim
    | some bs =>
      obtain ⟨e1, e2⟩ := rb
      have : bs = [] := by simpa using e1
      subst this
      cases e2
      rw [hn]
      exact ⟨some [], H1, I1, RelB.nil, q1⟩
/-! ### patterns in a row -/
def qNil : TPats := fun vs H Q => vs = [] ∧ Q (some []) H
def qCons (t : TPat) (u : TPats) : TPats := fun vs H Q => ∃ v r, vs = v :: r ∧ t v H fun b H1 => match b with
  | none => Q none H1
  | some l => u r H1 fun b' H2 => match b' with | none => Q none H2 | some l' => Q (some (l ++ l')) H2
theorem qps_nil : PPts X [] [] qNil := by
  refine ⟨fun pins s σ H vs us Q I r h => ?_⟩
  obtain ⟨e, h⟩ := h
  subst e
  cases r
  exact wpAny_matchEach_nil ⟨some [], H, I, RelB.nil, h⟩
theorem qps_cons {p : Pattern} {ps : List Pattern} {ns ms : List Str} {t : TPat} {u : TPats} (h1 : PPt X p ns t) (h2 : PPts X ps ms u) (hp : p.isStar = false := by rfl) : PPts X (p :: ps) (ns ++ ms) (qCons t u) := by
  refine ⟨fun pins s σ H vs us Q I r h => ?_⟩
  obtain ⟨v, vr, e, h⟩ := h
  subst e
  cases r with
  | cons ra rb =>
    refine wpAny_matchEach_cons (thn (h1.run pins s σ H _ _ _ I ra h) fun r' s1 ⟨b, H1, I1, rl, q1⟩ => ?_) hp
    cases b with
    | none =>
      cases r' with
      | none => exact ⟨none, H1, I1, RelB.miss, q1⟩
      | some _ => exact rl.elim
    | some l =>
      cases r' with
      | none => exact rl.elim
      | some bs =>
        refine thn (h2.run pins s1 σ H1 _ _ _ I1 rb q1) fun r2 s2 ⟨b2, H2, I2, rl2, q2⟩ => ?_
        cases b2 with
        | none =>
          cases r2 with
          | none => exact ⟨none, H2, I2, RelB.miss, q2⟩
          | some _ => exact rl2.elim
        | some l2 =>
          cases r2 with
          | none => exact rl2.elim
          | some bs2 => exact ⟨some (l ++ l2), H2, I2, ⟨by rw [List.map_append, rl.1, rl2.1], by rw [List.map_append]; exact Vals.append rl.2 rl2.2⟩, q2⟩
/-- [p1, .., pn] against a tuple -/
def qSeqT (K : PySem.W.Frag) (n : Nat) (t : TPats) : TPat := fun v H Q => ∃ a xs, v = .ref a ∧ SqT K H a xs ∧ if xs.length = n then t xs H Q else Q none H
theorem qp_seqT {ps : List Pattern} {ns : List Str} {t : TPats} {n : Nat} (hc : X.calm = true) (h : PPts X ps ns t) (hn : ps.length = n := by rfl)
    (hstar : ps.findIdx? (·.isStar) = none := by rfl) (hwild : (ps.all fun p => p.isWildcard || (p.isStar && p.names.isEmpty)) = false := by rfl) : PPt X (.MatchSequence ps pos) ns (qSeqT X.K n t) := by
  refine ⟨fun pins s σ H v u Q I r ⟨a, xs, e, hq, hw⟩ => ?_⟩
  subst e
  cases r
  obtain ⟨its, rv, ht, hz⟩ := I.tuple hq
  have el : its.length = xs.length := rv.length.symm
  have fit : ((its.toArray.size : Nat) : Int) < 2 ^ 63 := by
    rw [sizeLine_eq] at hz
    simp [el]
    omega
  by_cases q : xs.length = n
  · rw [if_pos q] at hw
    refine matchSeq_tuple_hit ht fit (by simp [el, q, hn]) ?_ hstar hwild
    rw [show ps.length = its.toArray.size by simp [el, q, hn]]
    refine unpackItems_tuple (s := { s with toks := s.toks + 1 + 1 }) (I.ok.hd hc) ht fun h' hx => ?_
    have I1 : Inv X pins σ H { s with toks := s.toks + 1 + 1, heap := h' } := I.kept (t' := s.toks + 1 + 1) fun b o e => hx b o (Nat.ne_of_lt (Heap.lt_size e)) e
    exact h.run pins _ σ H xs _ Q I1 (by simpa using rv) hw
  · rw [if_neg q] at hw
    exact matchSeq_tuple_miss ht fit (by simp [el, hn]; exact q) ⟨none, H, I.tok _, RelB.miss, hw⟩ hstar hwild
theorem qp_seqTK {ps : List Pattern} {ns : List Str} {t : TPats} {n : Nat} (K : PySem.W.Frag) (hc : X.calm = true) (h : PPts X ps ns t) (hn : ps.length = n := by rfl)
    (hstar : ps.findIdx? (·.isStar) = none := by rfl) (hwild : (ps.all fun p => p.isWildcard || (p.isStar && p.names.isEmpty)) = false := by rfl) (hK : X.K = K := by rfl) : PPt X (.MatchSequence ps pos) ns (qSeqT K n t) := by
  subst hK
  exact qp_seqT hc h hn hstar hwild
/-- [p1, .., pn] against a list -/
def qSeqL (n : Nat) (t : TPats) : TPat := fun v H Q => ∃ a xs, v = .ref a ∧ H a = some (.lst xs) ∧ if xs.length = n then t xs H Q else Q none H
theorem qp_seqL {ps : List Pattern} {ns : List Str} {t : TPats} {n : Nat} (hc : X.calm = true) (h : PPts X ps ns t) (hn : ps.length = n := by rfl)
    (hstar : ps.findIdx? (·.isStar) = none := by rfl) (hwild : (ps.all fun p => p.isWildcard || (p.isStar && p.names.isEmpty)) = false := by rfl) : PPt X (.MatchSequence ps pos) ns (qSeqL n t) := by
  refine ⟨fun pins s σ H v u Q I r ⟨a, xs, e, hq, hw⟩ => ?_⟩
  subst e
  cases r
  obtain ⟨hz, its, k, rv, el', ho⟩ := I.lstM hq
  have ht : s.heap.IsList a its.toArray := ⟨_, ho, rfl, _, rfl⟩
  have el : its.length = xs.length := el'.symm
  have fit : ((its.toArray.size : Nat) : Int) < 2 ^ 63 := by
    rw [sizeLine_eq] at hz
    simp [el]
    omega
  by_cases q : xs.length = n
  · rw [if_pos q] at hw
    refine matchSeq_list_hit ht fit (by simp [el, q, hn]) ?_ hstar hwild
    rw [show ps.length = its.toArray.size by simp [el, q, hn]]
    refine PySem.W.kun_itemsOf (s := { s with toks := s.toks + 1 + 1 }) (I.ok.hd hc) ht fun h' hx => ?_
    have I1 : Inv X pins σ H { s with toks := s.toks + 1 + 1, heap := h' } := I.kept (t' := s.toks + 1 + 1) fun b o e => hx b o (Nat.ne_of_lt (Heap.lt_size e)) e
    exact h.run pins _ σ H xs _ Q I1 (by simpa using rv) hw
  · rw [if_neg q] at hw
    exact matchSeq_list_miss ht fit (by simp [el, hn]; exact q) ⟨none, H, I.tok _, RelB.miss, hw⟩ hstar hwild
/-! ### names -/
theorem qn_nil : PNs X [] gNil := by
  refine ⟨fun pins s σ H vs us Q I r h => ?_⟩
  obtain ⟨e, h⟩ := h
  subst e
  cases r
  exact wpAny_assignInOrder_none ⟨σ, H, I, h⟩
theorem qn_cons {x : Str} {ns : List Str} {i : Nat} {t : TGs} (hN : X.N.Nodup) (hi : X.N[i]? = some x) (hx : Loc X.env.scope x) (h2 : PNs X ns t)
    (hf : X.fn x = true ∨ X.env.scope.names.lookup x = some .local := by first | exact .inl rfl | exact .inr rfl | assumption) : PNs X (x :: ns) (gCons (gName i) t) := by
  refine ⟨fun pins s σ H vs us Q I r h => ?_⟩
  obtain ⟨v, vr, e1, h⟩ := h
  subst e1
  cases r with
  | cons r rr =>
    refine wpAny_assignInOrder_more (wpAny_bindName (store_ok I hN hi hx r (fun s1 I1 => ?_) hf))
    exact h2.run pins s1 _ H _ _ Q I1 rr h
/-! ### cases -/
def cEnd : V → TS := fun _ D σ H => D.nx σ H
theorem qc_nil : PCs X [] cEnd := ⟨fun _ _ _ σ H _ _ _ I _ h => wpAny_matchCases_nil ⟨σ, H, I, h⟩⟩
def cCase (tp : TPat) (tn : TGs) (tb : TS) (tr : V → TS) : V → TS := fun v D σ H => tp v H fun b H1 => match b with
  | none => tr v D σ H1
  | some vs => tn vs σ H1 fun σ' H2 => tb D σ' H2
theorem qc_case {p : Pattern} {ns : List Str} {body : List Stmt} {rest : List MatchCase} {tp : TPat} {tn : TGs} {tb : TS} {tr : V → TS} (hp : PPt X p ns tp) (hn : PNs X ns tn) (hb : PSs X body tb) (hr : PCs X rest tr) :
    PCs X (⟨p, none, body⟩ :: rest) (cCase tp tn tb tr) := by
  refine ⟨fun first pins s σ H D v u I r h => ?_⟩
  refine wpAny_matchCases_cons (thn (hp.run pins s σ H v u _ I r h) fun r' s1 ⟨b, H1, I1, rb, q1⟩ => ?_)
  cases b with
  | none =>
    cases r' with
    | none => exact hr.run false pins s1 σ H1 D v u I1 r q1
    | some _ => exact rb.elim
  | some vs =>
    cases r' with
    | none => exact rb.elim
    | some bs =>
      obtain ⟨e1, e2⟩ := rb
      have e3 : (bs.map fun (n, _) => bindName X.env n) = ns.map (bindName X.env) := by
        rw [← e1, List.map_map]; rfl
      show wpAny _ _ (assignInOrder (bs.map fun (n, _) => bindName X.env n) (bs.map (·.2))) _ _ _
      rw [e3]
      exact thn (hn.run pins s1 σ H1 vs _ _ I1 e2 q1) fun _ s2 ⟨σ2, H2, I2, q2⟩ => hb.run pins s2 σ2 H2 D I2 q2
def cGuard (tp : TPat) (tn : TGs) (tg : TT) (tb : TS) (tr : V → TS) : V → TS := fun v D σ H => tp v H fun b H1 => match b with
  | none => tr v D σ H1
  | some vs => tn vs σ H1 fun σ' H2 => tg σ' H2 fun ok H3 => if ok = true then tb D σ' H3 else tr v D σ' H3
theorem qc_guard {p : Pattern} {g : Expr} {ns : List Str} {body : List Stmt} {rest : List MatchCase} {tp : TPat} {tn : TGs} {tg : TT} {tb : TS} {tr : V → TS} (hp : PPt X p ns tp) (hn : PNs X ns tn) (hg : PT X g tg) (hb : PSs X body tb) (hr : PCs X rest tr) :
    PCs X (⟨p, some g, body⟩ :: rest) (cGuard tp tn tg tb tr) := by
  refine ⟨fun first pins s σ H D v u I r h => ?_⟩
  refine wpAny_matchCases_cons (thn (hp.run pins s σ H v u _ I r h) fun r' s1 ⟨b, H1, I1, rb, q1⟩ => ?_)
  cases b with
  | none =>
    cases r' with
    | none => exact hr.run false pins s1 σ H1 D v u I1 r q1
    | some _ => exact rb.elim
  | some vs =>
    cases r' with
    | none => exact rb.elim
    | some bs =>
      obtain ⟨e1, e2⟩ := rb
      have e3 : (bs.map fun (n, _) => bindName X.env n) = ns.map (bindName X.env) := by
        rw [← e1, List.map_map]; rfl
      show wpAny _ _ (assignInOrder (bs.map fun (n, _) => bindName X.env n) (bs.map (·.2))) _ _ _
      rw [e3]
      refine thn (hn.run pins s1 σ H1 vs _ _ I1 e2 q1) fun _ s2 ⟨σ2, H2, I2, q2⟩ => ?_
      refine thn (hg.run pins s2 σ2 H2 _ I2 q2) fun ok s3 ⟨H3, I3, q3⟩ => ?_
      cases ok with
      | true => exact hb.run pins s3 σ2 H3 D I3 q3
      | false => exact hr.run false pins s3 σ2 H3 D v u I3 r q3
/-! ### the statement -/
def tMatch (te : TE) (tc : V → TS) : TS := fun D σ H => te σ H fun v H1 => tc v D σ H1
theorem ps_match {e : Expr} {cs : List MatchCase} {te : TE} {tc : V → TS} (he : PE X e te) (hc : PCs X cs tc) : PS X (.Match e cs pos) (tMatch te tc) := by
  refine ⟨fun pins s σ H D I h => ?_⟩
  exact wpAny_Match (thn (he.run pins s σ H _ I h) fun u s1 ⟨v, H1, I1, r1, q1⟩ => hc.run true pins s1 σ H1 D v u I1 r1 q1)
end
end Ch
/-! ### steps -/
namespace Ch
open PySem PySem.Spec PyProof.Rows L2
section
variable {K : PySem.W.Frag} {σ : L2.St} {H : Hp} {D : Ends} {te : TE} {tc tr : V → TS} {tp : TPat} {tn : TGs} {tg : TT} {tb : TS} {t : TPat} {u ts : TPats} {Q : Option (List V) → Hp → Prop} {v : V} {x y : Str} {a : Addr} {xs r : List V} {n : Nat}
theorem x_match (k : te σ H fun v H1 => tc v D σ H1) : tMatch te tc D σ H := k
theorem x_case (k : tp v H fun b H1 => match b with | none => tr v D σ H1 | some vs => tn vs σ H1 fun σ' H2 => tb D σ' H2) : cCase tp tn tb tr v D σ H := k
theorem x_cguard (k : tp v H fun b H1 => match b with | none => tr v D σ H1 | some vs => tn vs σ H1 fun σ' H2 => tg σ' H2 fun ok H3 => if ok = true then tb D σ' H3 else tr v D σ' H3) : cGuard tp tn tg tb tr v D σ H := k
theorem x_cend (k : D.nx σ H) : cEnd v D σ H := k
theorem x_seqTn (h : SqT K H a xs) (hl : xs.length ≠ n) (k : Q none H) : qSeqT K n ts (.ref a) H Q := ⟨a, xs, rfl, h, by rw [if_neg hl]; exact k⟩
theorem x_seqTy (h : SqT K H a xs) (hl : xs.length = n) (k : ts xs H Q) : qSeqT K n ts (.ref a) H Q := ⟨a, xs, rfl, h, by rw [if_pos hl]; exact k⟩
theorem x_qcons (k : t v H fun b H1 => match b with
    | none => Q none H1
    | some l => u r H1 fun b' H2 => match b' with | none => Q none H2 | some l' => Q (some (l ++ l')) H2) : qCons t u (v :: r) H Q := ⟨v, r, rfl, k⟩
theorem x_qnil (k : Q (some []) H) : qNil [] H Q := ⟨rfl, k⟩
theorem x_qcap (k : Q (some [v]) H) : qCap v H Q := k
theorem x_qany (k : Q (some []) H) : qAny v H Q := k
theorem x_qtxt (k : Q (some []) H) : qText x (.str x) H Q := ⟨x, rfl, by rw [if_pos rfl]; exact k⟩
theorem x_qtxtN (h : y ≠ x) (k : Q none H) : qText x (.str y) H Q := ⟨y, rfl, by rw [if_neg h]; exact k⟩
end
end Ch

set_option Elab.async false
set_option linter.all false
set_option autoImplicit false
set_option maxRecDepth 100000
set_option maxHeartbeats 4000000
/-! ### super() in a def of a class: such a def has the cell __class__, and its body is told under wpAt -/
namespace SuX
open PySem PySem.Spec PyProof.Rows L2 NdefX
/-- what the whole text must be -/
class SupP (P : Program) (file : outParam Str) : Prop where
  file : ((P.main.file : Str) == file) = true
  top : (P.main.scope.names.lookup ("super" : Str)).isSome = false
/-- a def with the cell __class__ -/
structure FunS (K : PySem.W.Frag) (x qual : Str) (params : Arguments) (body : List Stmt) (scope : Scope) (kws : List (Str × V)) (D : Addr) (file : Str) (f : Addr) (fd : FuncData) (F : NF) : Prop where
  ex : ∃ (oc : Value) (od : Option Addr) (kV doc pm : Value) (an : Option Addr) (ct : Value) (osl : Array (Option Value)) (cc : Addr),
    F.name = x ∧ F.qual = qual ∧ F.params = params ∧ F.body = body ∧ F.scope = scope ∧ F.cl = [(("__class__" : Str), cc)] ∧ fd = PySem.W.fnX x qual params body scope [(("__class__" : Str), cc)] .none kV doc pm an (.ref F.c) ct ∧
    K.lookup f = some ⟨oc, od, .func fd, osl⟩ ∧ PySem.W.codeIn K (.ref F.c) qual = true ∧ KwdV K kV kws ∧ (∃ oc od sl, K.lookup cc = some ⟨oc, od, .cell (some (.ref D)), sl⟩)
  code : ∃ oc od vs sl tf, K.lookup F.c = some ⟨oc, od, .fields vs, sl⟩ ∧ vs[2]? = some (.str file tf)
  cls : ∃ cd, PySem.W.clsIn K D = some cd
  kp : PySem.W.keepIn K (.ref f) = true
/-- the method that super() finds, for an instance of C in a def of the class D -/
structure SupIn (K : PySem.W.Frag) (C D : Addr) (m : Str) (g : Addr) : Prop where
  sub : PySem.W.mroIn K C (.ref D) = some true
  at_ : PySem.W.ks_superIn K C D m = some (some (.ref g))
  typ : PySem.W.typeIn K (.ref g) = some (.type "function")
  op : PySem.W.nsIn K cStatics "thirdparty.any" = some none
  fi : PySem.W.fnIn K g = true
/-! ### bodies -/
structure PSA (X : Cx) (B body : List Stmt) (t : TS) : Prop where
  run : ∀ (pins : List (Addr × Obj)) (s : Shared) (σ : L2.St) (H : Hp) (D : Ends), Inv X pins σ H s → t D σ H → _root_.PySem.wpAt (model X.prog X.w) X.A (.func B X.env) (execs body X.env) (SP X pins D) X.xe s
structure PS1 (X : Cx) (B : List Stmt) (st : Stmt) (t : TS) : Prop where
  run : ∀ (pins : List (Addr × Obj)) (s : Shared) (σ : L2.St) (H : Hp) (D : Ends), Inv X pins σ H s → t D σ H → _root_.PySem.wpAt (model X.prog X.w) X.A (.func B X.env) (exec st X.env) (SP X pins D) X.xe s
section
variable {X : Cx} {B rest : List Stmt} {st : Stmt} {t u : TS}
theorem psa_of (h : PSs X rest t) : PSA X B rest t := ⟨fun pins s σ H D I q => wpAt_of_wpAny (h.run pins s σ H D I q)⟩
theorem ps1_of (h : PS X st t) : PS1 X B st t := ⟨fun pins s σ H D I q => wpAt_of_wpAny (h.run pins s σ H D I q)⟩
theorem psa_cons (h1 : PS1 X B st t) (h2 : PSA X B rest u) : PSA X B (st :: rest) (tSeq t u) := by
  refine ⟨fun pins s σ H D I h => ?_⟩
  refine ks_wpAt_execs_cons (ks_wpAt_mono (h1.run pins s σ H { D with nx := u D } I h) (fun f s1 q => ?_) fun _ _ z => z)
  cases f with
  | next =>
    obtain ⟨σ', H', I', q⟩ := q
    exact h2.run pins s1 σ' H' D I' q
  | ret v => exact q
  | brk => exact q
  | cont => exact q
end
/-! ### super().m -/
section
variable {X : Cx} {pins : List (Addr × Obj)} {σ : L2.St} {H : Hp} {s : Shared} {o C D dx so g : Addr} {fs : List (Str × V)} {m : Str} {A : Around} {E : Value → Shared → Prop}
/-- the body's own def stands here -/
structure SupX (X : Cx) (i : Nat) (D : Addr) : Prop where
  ex : ∃ (x qual : Str) (params : Arguments) (body : List Stmt) (scope : Scope) (kws : List (Str × V)) (file : Str) (f : Addr) (fd : FuncData) (F : NF) (ar : Arg) (_ : SupP X.prog file), FunS X.K x qual params body scope kws D file f fd F ∧ (X.env.func = some f ∧ X.env.code = .ref F.c ∧ X.env.scope = scope ∧ ∀ cc, F.cl = [(("__class__" : Str), cc)] → X.env.cells.lookup ("__class__" : Str) = some cc) ∧ (params.posonlyargs ++ params.args).head? = some ar ∧ X.N[i]? = some ar.arg ∧ scope.names.lookup ar.arg = some .local ∧ (ar.arg == ("__debug__" : Str)) = false
  hks : X.env.kindOf "super" = some .globalImplicit
  hkc : X.env.kindOf "__class__" = some .free
  hm : X.mg "super" = none
theorem sup_base {i : Nat} {B : List Stmt} {p0 p1 : Pos} {whole : Sem Value} {Q : Value → Shared → Prop} (S : SupX X i D) (I : Inv X pins σ H s) (hσ : σ[i]? = some (some (.ref o))) (e : H o = some (.ins C dx fs)) (hsub : PySem.W.mroIn X.K C (.ref D) = some true)
    (hat : (m == ("__class__" : Str)) = false) (h : ∀ so s', Inv X pins σ H s' → s'.heap.get? so = some (PySem.W.ks_superObj D o C) → Q (.ref so) s') :
    _root_.PySem.wpAt (model X.prog X.w) X.A (.func B X.env) (attributeBase (.Call (.Name "super" p0) [] [] p1) m X.env whole) Q E s := by
  obtain ⟨x, qual, params, body, scope, kws, file, f, fd, F, ar, SP, FS, ⟨hef, hec, hes, hel⟩, har, hN, hka, hnd⟩ := S.ex
  obtain ⟨oc, od, kV, doc, pm, an, ct, osl, cc, n1, n2, n3, n4, n5, n6, efd, lk, hcd, hK, ⟨oc2, od2, sl2, lcc⟩⟩ := FS.ex
  obtain ⟨oc3, od3, vs, sl3, tf, lcode, hvs⟩ := FS.code
  obtain ⟨cdD, hD⟩ := FS.cls
  have KX := I.kIn
  have hks := S.hks
  have hkc := S.hkc
  obtain ⟨oD, hD1, hD2⟩ : ∃ oD, s.heap.get? D = some oD ∧ oD.data = .cls cdD := by
    unfold PySem.W.clsIn at hD
    split at hD
    · rename_i c d cd' sl ho
      cases hD
      exact ⟨_, KX _ _ ho, rfl⟩
    · cases hD
  subst efd
  have hself : ∃ m', s.heap.Ns X.env.locals m' ∧ m' ar.arg = some (.ref o) := by
    obtain ⟨m', hn, hl⟩ := I.loc
    have hvis : Vis X.env.scope ar.arg := by
      refine .inl ?_
      rw [hes]
      exact hka
    obtain ⟨u, ru, lu⟩ := hl i ar.arg (.ref o) hN hσ hvis
    obtain rfl : u = Value.ref o := ru
    rcases lu with ⟨_, z⟩ | ⟨z, _⟩
    · exact ⟨m', hn, z⟩
    · have hloc : X.env.kindOf ar.arg = some .local := by
        show X.env.scope.names.lookup ar.arg = some .local
        rw [hes]
        exact hka
      rw [hloc] at z
      rcases z with z | z <;> cases z
  obtain ⟨m', hns, hself⟩ := hself
  obtain ⟨mA, J, _, _, _⟩ := ins_get I.hok e
  obtain ⟨od', IA, _⟩ := J.look
  have hcl : X.env.cells.lookup ("__class__" : Str) = some cc := hel cc n6
  refine ks_wpAt_super_base (f := f) (cc := F.c) (fd := PySem.W.fnX x qual params body scope [(("__class__" : Str), cc)] .none kV doc pm an (.ref F.c) ct) (ar := ar) hks hkc hat hef (KX _ _ lk) rfl har hec (KX _ _ lcode) rfl hvs SP.file SP.top ?_
  obtain ⟨mb, hb1, hb2⟩ := I.mod.blt
  refine PySem.W.ks_loadName_global I.ok.kind hks (Calls.loadGlobal_builtin (by rw [I.ok.glob]; exact I.mod.glob.keeps I.bk) S.hm (by rw [I.ok.blt]; exact hb1.keeps I.bk) ((hb2 "super" (by decide)).trans (show bootBuiltins (Str.ofString "super") = some (.type "super") by kernel_rfl)) ⟨rfl, ?_⟩)
  refine wpAny_loadName_free I.ok.kind hkc hcl ⟨_, KX _ _ lcc, rfl⟩ ?_
  have hkl : X.env.kindOf ar.arg = some .local := by
    show X.env.scope.names.lookup ar.arg = some .local
    rw [hes]
    exact hka
  refine wpAny_loadName_local I.ok.kind hkl hns hself ?_
  refine ks_wpAny_isType_cls hD1 hD2 ⟨rfl, ?_⟩
  obtain ⟨hh, gg, d, tk, os⟩ := s
  refine ks_wpAny_call_super hD1 hD2 IA.at_ IA.cls (fun c z => ?_) (PySem.W.looks_mroIn KX hsub) (fun h' z k => ?_)
  · have := IA.no
    unfold PySem.W.notCls at this
    rw [z] at this
    exact Bool.noConfusion this
  · refine h _ _ ?_ z
    exact I.un (h' := h') (t' := tk) (Un.kept k) (I.hok.kept k)
theorem sup_ne {cd : ClassData} {x : Addr} {ox : Obj} {odx : Option Obj} {h : Heap} (KX : X.K.In h) (I : PySem.W.InstAt h x ox C odx) (hc : PySem.W.clsIn X.K C = some cd) : x ≠ C := PySem.W.ks_ne KX I hc
theorem sup_get {b : Bool} {Q : Value → Shared → Prop} (I : Inv X pins σ H s) (hso : s.heap.get? so = some (PySem.W.ks_superObj D o C)) (e : H o = some (.ins C dx fs)) (SI : SupIn X.K C D m g) (hn : (m == ("__class__" : Str)) = false)
    (h : ∀ q s', H q = none → Inv X pins σ (upd H q (.met g o)) s' → Q (.ref q) s') : wpAny (model X.prog X.w) A (getAttr (.ref so) m b) Q E s := by
  have KX := I.kIn
  obtain ⟨mA, J, _, _, _⟩ := ins_get I.hok e
  obtain ⟨od', IA, _⟩ := J.look
  have hm := SI.at_
  have h0 := h s.heap.objs.size { s with heap := s.heap.push (PySem.W.methodObj (.ref g) (.ref o)), toks := s.toks + 1 } (I.hok.fresh (Nat.le_refl _))
    (I.laid (t' := s.toks + 1) (a := s.heap.objs.size) (o := .met g o) (fun b u z => Heap.get?_push_of_some _ z) (Nat.le_refl _)
      (show (s.heap.push (PySem.W.methodObj (.ref g) (.ref o))).get? s.heap.objs.size = some (PySem.W.methodObj (.ref g) (.ref o)) from Heap.get?_push_size s.heap rfl))
  obtain ⟨hh, gg, d, t, os⟩ := s
  cases hc : PySem.W.clsIn X.K C with
  | none => unfold PySem.W.ks_superIn at hm; rw [hc] at hm; cases hm
  | some cd =>
    unfold PySem.W.ks_superIn at hm
    rw [hc] at hm
    obtain ⟨of, hof, hofc⟩ : ∃ of, hh.get? g = some of ∧ of.cls = .type "function" := by
      have ht' : (X.K.lookup g).map (·.cls) = some (.type "function") := SI.typ
      cases z : X.K.lookup g with
      | none => rw [z] at ht'; cases ht'
      | some of => rw [z] at ht'; exact ⟨of, KX _ _ z, Option.some.inj ht'⟩
    have hno : PySem.W.Looks (model X.prog X.w) hh (opaqueClassAbove (.ref C)) none := PySem.W.looks_opaque KX SI.op
    have hC : PySem.W.Looks (model X.prog X.w) hh (mroOf (.ref C)) cd.mro := fun A Q E s k q => wpAny_bind ((PySem.W.looks_clsIn KX hc) A _ E s k (wpAny_pure q))
    have hlk := F.ks_slot_super_ga.lookup
    have hT : ∀ t', (⟨hh, gg, d, t', os⟩ : Shared).TypeIs (.ref so) "super" := fun _ => ⟨_, hso, rfl⟩
    unfold getAttr getAttrBy
    refine wpAny_bind (wpAny_mkText (wpAny_holding (wpAny_bind (wpAny_typeOf (hT _) (wpAny_bind (wpAny_of_eq hlk ?_))))))
    show wpAny _ _ (getAttrByItsOwn (.ref so) (.str m t) (.type "super") (.builtin "super.__getattribute__") true b) _ _ _
    unfold getAttrByItsOwn hookBefore callGetattribute boundAndCalled
    refine wpAny_bind (wpAny_of_eq (show (if onTheHeap (.type "super") then typeLookup (.type "super") "__getattr__" else pure none) = pure none from rfl) ?_)
    refine wpAny_bind (wpAny_attempt (wpAny_holding ?_))
    rw [show (b && onTheHeap (Value.builtin "super.__getattribute__")) = false by cases b <;> rfl, if_neg Bool.false_ne_true]
    show wpAny _ _ (bindSpecial (.builtin "super.__getattribute__") (.ref so) >>= _) _ _ _
    refine wpAny_bind (wpAny_of_eq (F.ks_slot_super_ga.bind _) ?_)
    refine wpAny_mono (Q := fun v s' => v = .ref hh.objs.size ∧ s' = ⟨hh.push (PySem.W.methodObj (.ref g) (.ref o)), gg, d, t + 1, os⟩) (E := fun _ _ => False)
      (wpAny_call_entry F.ks_slot_super_ga (hT _) F.ks_entry_super_ga (ks_wpAny_super_ga hso hno hC rfl KX hm hof hofc (PySem.W.ks_ne KX IA hc) hn ⟨_, rfl, rfl, rfl⟩) (F.ks_gaArgs_super _ _)) (fun v s' hv => ?_) fun _ _ z => z.elim
    obtain ⟨rfl, rfl⟩ := hv
    exact wpAny_pure h0
theorem sup_meth {pl : Sem Bool} {Q : Value × List Value → Shared → Prop} (I : Inv X pins σ H s) (hso : s.heap.get? so = some (PySem.W.ks_superObj D o C)) (e : H o = some (.ins C dx fs)) (SI : SupIn X.K C D m g) (hn : (m == ("__class__" : Str)) = false)
    (h : ∀ q s', H q = none → Inv X pins σ (upd H q (.met g o)) s' → Q (.ref q, []) s') : wpAny (model X.prog X.w) A (getMethod (.ref so) m pl) Q E s := by
  have hlk := F.ks_slot_super_ga.lookup
  have hcan := F.ks_canon_super_ga
  have hT : s.TypeIs (.ref so) "super" := ⟨_, hso, rfl⟩
  unfold getMethod
  refine wpAny_bind (wpAny_specialOf hT hlk ?_)
  show wpAny _ _ (if (Manifest.canonical "super.__getattribute__" != "object.__getattribute__") = true then _ else _) _ _ _
  rw [if_pos hcan]
  refine wpAny_bind (sup_get I hso e SI hn fun q s' hq I' => wpAny_pure (h q s' hq I'))
end
/-! ### super().m(..) as a statement -/
def tSup (K : PySem.W.Frag) (D : Addr) (m : Str) (g : Addr) (i : Nat) (sp : Sp) (E : XK) (t : TA) : TS := fun De σ H => ∃ o C dx fs, σ[i]? = some (some (.ref o)) ∧ H o = some (.ins C dx fs) ∧ SupIn K C D m g ∧
  ∀ q, H q = none → t σ (upd H q (.met g o)) fun vs H2 => H2 q = some (.met g o) ∧ sp (.ref o :: vs) H2 (fun _ H3 => De.nx σ H3) E
section
variable {X : Cx} {CX : CXT} {k i : Nat} {D g : Addr} {m : Str} {sp : Sp} {E : XK} {B : List Stmt} {p0 p1 apos pos p p2 : Pos} {e e2 : Expr} {es : List Expr} {t : TA} {t1 t2 : TE}
theorem ps1_sup {pl : Sem Bool} (S : SupX X i D) (F : FnR X.prog X.w X.K X.mg X.base CX k g sp) (hr : Room k X.A) (hx : Passes CX X E) (ha : PA X (e :: es) t) (hat : (m == ("__class__" : Str)) = false := by decide)
    (hst : starEach (e :: es) X.env = (false, eval e X.env) :: starEach es X.env := by rfl) (hpl : (backTo pos (starEach es X.env)).any (·.1) = false := by rfl)
    (he : eval (.Call (.Attribute (.Call (.Name "super" p0) [] [] p1) m apos) (e :: es) [] pos) X.env = (do
      let ov ← attributeBase (.Call (.Name "super" p0) [] [] p1) m X.env (eval (.Call (.Name "super" p0) [] [] p1) X.env)
      standAt apos.atName
      let (f, first) ← holding [ov] (getMethod ov m pl)
      callWith pos f first (backTo pos (starEach (e :: es) X.env)) []) := by rfl)
    (hs : swapsWith (.Call (.Attribute (.Call (.Name "super" p0) [] [] p1) m apos) (e :: es) [] pos) none p.line X.env = pure false := by rfl) :
    PS1 X B (.Expr (.Call (.Attribute (.Call (.Name "super" p0) [] [] p1) m apos) (e :: es) [] pos) p) (tSup X.K D m g i sp E t) := by
  refine ⟨fun pins s σ H De I ⟨o, C, dx, fs, hσ, ho, SI, q⟩ => ?_⟩
  refine ks_wpAt_Expr_any ?_ I.quiet hs
  refine ks_wpAt_MethodCall (sup_base S I hσ ho SI.sub hat fun so s1 I1 hso => sup_meth I1 hso ho SI hat fun qa s2 hqa I2 => ?_) he
  refine callwith_met (a := o) (by rw [hst]; show ((false || (backTo pos (starEach es X.env)).any (·.1)) || false) = false; rw [hpl]; rfl) SI.fi ?_
  rw [hst]
  have hz := ha.run pos pins s2 σ _ _ I2 (q qa hqa)
  rw [hst] at hz
  refine Calls.evalArgs_plain (thn hz fun us s3 ⟨vs, H3, I3, r, hm, hsp⟩ => ?_)
  refine ⟨met_P I3 hm, wpAny_call (PySem.W.method_call (met_P I3 hm).1 (codeAny_mono (run_fnR (us := Value.ref o :: us) (vs := V.ref o :: vs) F hr hx I3 (.cons rfl r) hsp) fun rr s4 hq => ?_))⟩
  cases rr with
  | error er => exact hq
  | ok fl =>
    cases fl with
    | ret v =>
      obtain ⟨x, H4, I4, _, q4⟩ := hq
      exact ⟨σ, H4, I4, q4⟩
    | next => exact hq
    | brk => exact hq
    | cont => exact hq
end
/-! ### such a def by its body -/
/-- its names: the parameters first; __class__ is its one captured name -/
structure SScope (N P : List Str) (sc : Scope) : Prop where
  kind : sc.kind = .function
  co : sc.isCoroutine = false
  gen : sc.isGenerator = false
  nd : N.Nodup
  pre : N.take P.length = P
  par : ∀ x ∈ P, sc.names.lookup x = some .local ∨ sc.names.lookup x = some .cell
  free : ∀ y ∈ sc.names, y.2 = .free → y.1 = ("__class__" : Str)
  cls : ∀ y ∈ sc.names, y.1 = ("__class__" : Str) → y.2 = .free
  clsN : ("__class__" : Str) ∉ N
def sscB (N P : List Str) (sc : Scope) : Bool :=
  decide (sc.kind = .function) && !sc.isCoroutine && !sc.isGenerator && decide N.Nodup && decide (N.take P.length = P) && P.all (fun x => decide (sc.names.lookup x = some .local) || decide (sc.names.lookup x = some .cell)) && sc.names.all (fun y => !decide (y.2 = .free) || decide (y.1 = ("__class__" : Str))) && sc.names.all (fun y => !decide (y.1 = ("__class__" : Str)) || decide (y.2 = .free)) && decide (("__class__" : Str) ∉ N)
theorem sscope_by {N P : List Str} {sc : Scope} (h : sscB N P sc = true) : SScope N P sc := by
  unfold sscB at h
  simp only [Bool.and_eq_true, Bool.not_eq_true', decide_eq_true_eq, List.all_eq_true, Bool.or_eq_true, decide_eq_false_iff_not] at h
  obtain ⟨⟨⟨⟨⟨⟨⟨⟨h1, h2⟩, h3⟩, h4⟩, h5⟩, h6⟩, h7⟩, h8⟩, h9⟩ := h
  exact ⟨h1, h2, h3, h4, h5, h6, fun y hy e => (h7 y hy).elim (fun z => absurd e z) id, fun y hy e => (h8 y hy).elim (fun z => absurd e z) id, h9⟩
theorem cellsFrom_acc : ∀ (names : List (Str × NameKind)) (n : Nat) (acc : List (Str × Addr)), cellsFrom n names acc = cellsFrom n names [] ++ acc
  | [], _, _ => rfl
  | (name, kind) :: r, n, acc => by
    unfold cellsFrom
    split
    · rw [cellsFrom_acc r (n + 1) ((name, n) :: acc), cellsFrom_acc r (n + 1) [(name, n)], List.append_assoc]
      rfl
    · exact cellsFrom_acc r n acc
theorem cellsFrom_name : ∀ {names : List (Str × NameKind)} {n : Nat} {acc : List (Str × Addr)} {y : Str} {c : Addr}, (y, c) ∈ cellsFrom n names acc → (y, NameKind.cell) ∈ names ∨ (y, c) ∈ acc
  | [], _, _, _, _, h => .inr h
  | (name, kind) :: r, n, acc, y, c, h => by
    unfold cellsFrom at h
    split at h
    · rename_i hk
      rcases cellsFrom_name h with z | z
      · exact .inl (List.mem_cons_of_mem _ z)
      · rcases List.mem_cons.mp z with z | z
        · cases z
          exact .inl (by rw [show kind = NameKind.cell from beq_iff_eq.mp hk]; exact List.mem_cons_self)
        · exact .inr z
    · rcases cellsFrom_name h with z | z
      · exact .inl (List.mem_cons_of_mem _ z)
      · exact .inr z
section
variable {M : Model} {A : Around} {E : Value → Shared → Prop} {s₀ s : Shared} {m cm : Str → Option Value} {env : Env} {cs : List (Str × Addr)}
theorem stLS {n : Str} {v : Value} {Q : Unit → Shared → Prop} (x : InCallC s₀ env.locals m cs cm s) (hk : env.scope.kind = .function) (hl : env.kindOf n = some .local)
    (h : ∀ s', InCallC s₀ env.locals (fun y => if y = n then some v else m y) cs cm s' → Q () s') : wpAny M A (storeName env n v) Q E s := by
  refine wpAny_storeName_local hl x.toInCall.ns (fun h' hn' hs' => h _ ⟨⟨?_, hn', fun b o e => ?_, x.toInCall.fresh⟩, fun k c hc => ?_, x.apart, x.above⟩) (by rw [hk]; rfl)
  · obtain ⟨h₁, tk, rfl⟩ := x.toInCall.same
    exact ⟨h', _, rfl⟩
  · exact hs'.extBut b o (Nat.ne_of_lt (Nat.lt_of_lt_of_le (Heap.lt_size e) x.toInCall.fresh)) (x.toInCall.keep b o e)
  · exact (x.cell k c hc).sameBut hs' (Nat.ne_of_gt (x.above k c (PySem.mem_of_lookup hc)))
theorem stCS {n : Str} {c : Addr} {v : Value} {Q : Unit → Shared → Prop} (x : InCallC s₀ env.locals m cs cm s) (hk : env.scope.kind = .function) (hl : env.kindOf n = some .cell)
    (hc : cs.lookup n = some c) (he : env.cells.lookup n = some c)
    (h : ∀ s', InCallC s₀ env.locals m cs (fun y => if y = n then some v else cm y) s' → Q () s') : wpAny M A (storeName env n v) Q E s := by
  have hLc := x.above n c (PySem.mem_of_lookup hc)
  refine wpAny_storeName_cell hk hl he (x.cell n c hc) fun h' hc' hs' => h _ ⟨⟨?_, x.toInCall.ns.sameBut hs' (Nat.ne_of_lt hLc), fun b o e => ?_, x.toInCall.fresh⟩, fun k c' hk' => ?_, x.apart, x.above⟩
  · obtain ⟨h₁, tk, rfl⟩ := x.toInCall.same
    exact ⟨h', _, rfl⟩
  · exact hs'.extBut b o (Nat.ne_of_lt (Nat.lt_trans (Nat.lt_of_lt_of_le (Heap.lt_size e) x.toInCall.fresh) hLc)) (x.toInCall.keep b o e)
  · by_cases hkn : k = n
    · subst hkn
      rw [hc] at hk'; cases hk'
      simpa using hc'
    · rw [if_neg hkn]
      exact (x.cell k c' hk').sameBut hs' fun e => hkn (name_of_addr x.apart (PySem.mem_of_lookup hk') (e ▸ PySem.mem_of_lookup hc))
theorem bindParamsS (f : Str × Value → PUnit → Sem (ForInStep PUnit)) (hf : ∀ n v u, f (n, v) u = (do storeName env n v; pure (.yield ⟨⟩))) (hk : env.scope.kind = .function) (he : ∀ n c, cs.lookup n = some c → env.cells.lookup n = some c) :
    ∀ (binds : List (Str × Value)) (m cm : Str → Option Value) (s : Shared) (Q : PUnit → Shared → Prop), InCallC s₀ env.locals m cs cm s →
      (∀ x ∈ binds, env.kindOf x.1 = some .local ∨ (env.kindOf x.1 = some .cell ∧ (cs.lookup x.1).isSome = true)) →
      (∀ s', InCallC s₀ env.locals (bindL env.kindOf binds m) cs (bindC env.kindOf binds cm) s' → Q ⟨⟩ s') → wpAny M A (forIn binds ⟨⟩ f) Q E s
  | [], m, cm, s, Q, x, _, h => by rw [List.forIn_nil]; exact wpAny_pure (h s x)
  | (n, v) :: r, m, cm, s, Q, x, hkind, h => by
    rw [List.forIn_cons, hf]
    have hr : ∀ y ∈ r, env.kindOf y.1 = some .local ∨ (env.kindOf y.1 = some .cell ∧ (cs.lookup y.1).isSome = true) := fun y hy => hkind y (List.mem_cons_of_mem _ hy)
    rcases hkind (n, v) List.mem_cons_self with hl | ⟨hl, hc⟩
    · refine wpAny_bind (wpAny_bind (stLS x hk hl fun s' x' => wpAny_pure (bindParamsS f hf hk he r _ _ s' Q x' hr fun s'' x'' => h s'' ?_)))
      unfold bindL bindC; rw [if_pos hl, if_pos hl]; exact x''
    · obtain ⟨c, hc⟩ := Option.isSome_iff_exists.mp hc
      have hnl : ¬ env.kindOf n = some .local := by rw [hl]; decide
      refine wpAny_bind (wpAny_bind (stCS x hk hl hc (he n c hc) fun s' x' => wpAny_pure (bindParamsS f hf hk he r _ _ s' Q x' hr fun s'' x'' => h s'' ?_)))
      unfold bindL bindC; rw [if_neg hnl, if_neg hnl]; exact x''
end
theorem newFunctionEnvS {M : Model} {A : Around} {E : Value → Shared → Prop} {s : Shared} {scope : Scope} {globals : Addr} {cl : List (Str × Addr)} {binds : List (Str × Value)} {qual : Str} {func : Option Addr} {code : Value} {builtins : Addr} {Q : Env → Shared → Prop}
    (hk : scope.kind = .function)
    (hkind : ∀ x ∈ binds, scope.names.lookup x.1 = some .local ∨ (scope.names.lookup x.1 = some .cell ∧ ((cellsFrom (s.heap.objs.size + 1) scope.names []).lookup x.1).isSome = true))
    (hQ : ∀ env, env = newEnv scope s.heap.objs.size globals (cellsFrom (s.heap.objs.size + 1) scope.names [] ++ cl) qual func code none builtins →
      ∀ s', InCallC s env.locals (bindL env.kindOf binds fun _ => none) (cellsFrom (s.heap.objs.size + 1) scope.names []) (bindC env.kindOf binds fun _ => none) s' → Q env s') :
    wpAny M A (newFunctionEnv scope globals cl binds qual func code none builtins) Q E s := by
  simp only [newFunctionEnv, Option.isSome_none, Bool.false_eq_true, if_false]
  refine wpAny_bind (wpAny_alloc ?_)
  refine wpAny_bind (wpAny_layCells _ (fun name kind cells => by cases hkc : kind == NameKind.cell <;> simp [hkc]) _ _ _ _ ?_)
  have ok := cellsFrom_ok scope.names (s.heap.push { cls := .type "frame", data := .dict #[] }) (s.heap.objs.size + 1) [] ⟨fun _ _ hm => (nomatch hm), List.Pairwise.nil⟩ (by rw [Heap.size_push]; exact Nat.le_refl _)
  rw [Heap.size_push] at ok
  rw [show ({ s with heap := s.heap.push { cls := .type "frame", data := .dict #[] } } : Shared).heap.objs.size = s.heap.objs.size + 1 from Heap.size_push ..]
  rw [cellsFrom_acc scope.names _ cl]
  refine wpAny_bind (bindParamsS (s₀ := s) (cs := cellsFrom (s.heap.objs.size + 1) scope.names []) (env := newEnv scope s.heap.objs.size globals (cellsFrom (s.heap.objs.size + 1) scope.names [] ++ cl) qual func code none builtins)
    _ (fun _ _ _ => rfl) hk (fun n c e => by show (_ ++ cl).lookup n = _; rw [List.lookup_append, e]; rfl) binds (fun _ => none) (fun _ => none) _ _
    ⟨⟨⟨_, _, rfl⟩, (Heap.Ns.new s.heap (.type "frame")).keeps (pushCells_keeps _ _), fun b o e => pushCells_keeps _ _ b o (Heap.get?_push_of_some _ e), Nat.le_refl _⟩,
      fun n c hc => (ok.empty n c (PySem.mem_of_lookup hc)).1, ok.apart, fun n c hm => (ok.empty n c hm).2⟩
    hkind fun s' x => wpAny_pure (hQ _ rfl s' x))
abbrev nfC (x qual : Str) (params : Arguments) (body : List Stmt) (scope : Scope) (cc cA : Addr) : NF := ⟨x, qual, params, body, scope, [(("__class__" : Str), cc)], cA⟩
/-- the context of its body, at its entry -/
abbrev envS (F : NF) (f L : Addr) : Env := newEnv F.scope L mainGlobals (cellsFrom (L + 1) F.scope.names [] ++ F.cl) (F.qual ++ ".<locals>.") (some f) (.ref F.c) none builtinsNs
def scx (CX : CXT) (P : Program) (w : World) (K : PySem.W.Frag) (mg : Str → Option Value) (base : Heap) (N : List Str) (F : NF) (f : Addr) (A : Around) (outer : List Env) (s : Shared) (H : Hp) (E : XK) : Cx where
  prog := P
  w := w
  K := K
  mg := mg
  base := base
  A := A.deeper (envS F f s.heap.objs.size)
  N := N
  s_0 := s
  H_0 := H
  env := envS F f s.heap.objs.size
  outer := outer
  stack := envS F f s.heap.objs.size :: outer
  ex := []
  calm := true
  fn := fun x => decide (x ≠ ("__class__" : Str))
  pn := []
  xe := fun e s' => wpAny (model P w) (A.deeper (envS F f s.heap.objs.size)) (leaving (envS F f s.heap.objs.size) e) (fun _ s'' => CX outer H s E e s'') (fun e' s'' => CX outer H s E e' s'') s'
section
variable {CX : CXT} {P : Program} {w : World} {K : PySem.W.Frag} {mg : Str → Option Value} {base : Heap} {N ps : List Str} {F : NF} {f cc : Addr} {A : Around} {outer : List Env} {s s1 : Shared} {H : Hp} {E : XK} {us : List Value} {vs : List V}
theorem inv_startS (S : SScope N ps F.scope) (hcl : F.cl = [(("__class__" : Str), cc)]) (hcc : H cc = none) (hcv : ∃ v, s.heap.IsCell cc v) (hfree : F.scope.names.lookup ("__class__" : Str) = some .free) (hd : A.handled = none) (e0 : Env0 P w K mg base A outer s H) (hl : vs.length = ps.length) (r : Vals vs us)
    (x : InCallC s s.heap.objs.size (bindL (envS F f s.heap.objs.size).kindOf (ps.zip us) fun _ => none) (cellsFrom (s.heap.objs.size + 1) F.scope.names []) (bindC (envS F f s.heap.objs.size).kindOf (ps.zip us) fun _ => none) s1) :
    Inv (scx CX P w K mg base N F f A outer s H E) [] (start N vs) H s1 := by
  have hpl : ps.length ≤ N.length := by have := congrArg List.length S.pre; rw [List.length_take] at this; omega
  obtain ⟨h1, tk, rfl, hk⟩ := x.done
  have noA : ∀ b : Addr, b ∉ (scx CX P w K mg base N F f A outer s H E).ex := fun b z => absurd (show b ∈ ([] : List Addr) from z) (by simp)
  have hccL : cc < s.heap.objs.size := by
    obtain ⟨v, o, ho, _⟩ := hcv
    exact Heap.lt_size ho
  -- a cell of the frame: its own, or __class__'s
  have key : ∀ y c, (envS F f s.heap.objs.size).cells.lookup y = some c → ((cellsFrom (s.heap.objs.size + 1) F.scope.names []).lookup y = some c ∧ y ≠ ("__class__" : Str)) ∨ (y = ("__class__" : Str) ∧ c = cc) := fun y c e => by
    have e : (cellsFrom (s.heap.objs.size + 1) F.scope.names [] ++ F.cl).lookup y = some c := e
    rw [List.lookup_append] at e
    cases q : (cellsFrom (s.heap.objs.size + 1) F.scope.names []).lookup y with
    | some c' =>
      rw [q] at e
      cases e
      refine .inl ⟨rfl, fun z => ?_⟩
      rcases cellsFrom_name (PySem.mem_of_lookup q) with hm | hm
      · have := S.cls _ hm z
        cases this
      · cases hm
    | none =>
      rw [q, hcl] at e
      have hm := PySem.mem_of_lookup (show List.lookup y [(("__class__" : Str), cc)] = some c from e)
      rw [List.mem_singleton] at hm
      exact .inr ⟨congrArg Prod.fst hm, congrArg Prod.snd hm⟩
  have hclook : (envS F f s.heap.objs.size).cells.lookup ("__class__" : Str) = some cc := by
    show (cellsFrom (s.heap.objs.size + 1) F.scope.names [] ++ F.cl).lookup ("__class__" : Str) = some cc
    rw [List.lookup_append]
    cases q : (cellsFrom (s.heap.objs.size + 1) F.scope.names []).lookup ("__class__" : Str) with
    | some c' =>
      rcases cellsFrom_name (PySem.mem_of_lookup q) with hm | hm
      · have := S.cls _ hm rfl
        cases this
      · cases hm
    | none =>
      rw [hcl]
      rfl
  have up : ∀ {y c}, (cellsFrom (s.heap.objs.size + 1) F.scope.names []).lookup y = some c → (envS F f s.heap.objs.size).cells.lookup y = some c := fun {y c} e => by
    show (cellsFrom (s.heap.objs.size + 1) F.scope.names [] ++ F.cl).lookup y = some c
    rw [List.lookup_append, e]
    rfl
  refine ⟨⟨e0.mod, S.kind, rfl, rfl, Nat.le_refl _, fun y z c h1 h2 => ?_, fun y hy => ?_, fun y c hy h => ?_, fun _ => hd, Around.frames_deeper e0.frames, .inr ⟨rfl, rfl⟩, fun b z => absurd z (noA b), e0.bs, e0.bsz, fun b _ _ => noA b, fun b z => absurd z (noA b), e0.funs, e0.frf⟩,
    rfl, e0.bare, Un.kept hk, ⟨_, x.toInCall.ns, fun i y v h1 h2 h3 => ?_⟩, fun y c h => ?_, e0.hok.fresh (Nat.le_refl _), fun y c h => ?_, fun p hp => absurd (show p ∈ ([] : List (Addr × Obj)) from hp) (by simp), e0.hok.kept hk, ?_⟩
  · rcases key y c h1 with ⟨a, _⟩ | ⟨a, a2⟩ <;> rcases key z c h2 with ⟨b, _⟩ | ⟨b, b2⟩
    · exact name_of_addr x.apart (PySem.mem_of_lookup a) (PySem.mem_of_lookup b)
    · have := x.above y c (PySem.mem_of_lookup a)
      rw [b2] at this
      exact absurd hccL (Nat.not_lt.mpr (Nat.le_of_lt this))
    · have := x.above z c (PySem.mem_of_lookup b)
      rw [a2] at this
      exact absurd hccL (Nat.not_lt.mpr (Nat.le_of_lt this))
    · rw [a, b]
  · have hy : F.scope.names.lookup y = some .cell ∨ F.scope.names.lookup y = some .free := hy
    rcases hy with hy | hy
    · obtain ⟨c, hc⟩ := cell_has (n := s.heap.objs.size + 1) hy
      exact ⟨c, up hc⟩
    · have : y = ("__class__" : Str) := S.free _ (PySem.mem_of_lookup hy) rfl
      subst this
      exact ⟨cc, hclook⟩
  · have hy : decide (y ≠ ("__class__" : Str)) = true := hy
    rcases key y c h with ⟨a, _⟩ | ⟨a, _⟩
    · exact Nat.le_of_lt (x.above y c (PySem.mem_of_lookup a))
    · exact absurd a (of_decide_eq_true hy)
  · have hi : i < vs.length := by
      unfold L2.start at h2
      by_cases hi : i < vs.length
      · exact hi
      · rw [List.getElem?_append_right (by simpa using hi)] at h2
        rw [List.getElem?_replicate] at h2
        split at h2 <;> cases h2
    have ha : vs[i]? = some v := by
      unfold L2.start at h2
      rw [List.getElem?_append_left (by simpa using hi), List.getElem?_map] at h2
      cases e : vs[i]? with
      | none => rw [e] at h2; cases h2
      | some a => rw [e] at h2; cases h2; rfl
    obtain ⟨u, hu, rv⟩ := r.get ha
    have hp : ps[i]? = some y := by
      rw [← S.pre, List.getElem?_take_of_lt (by omega)]; exact h1
    have ndP : ps.Nodup := by rw [← S.pre]; exact S.nd.sublist (List.take_sublist _ _)
    refine ⟨u, rv, ?_⟩
    rcases S.par y (List.mem_of_getElem? hp) with k | k
    · exact .inl ⟨k, bindL_get ndP hp hu k⟩
    · obtain ⟨c, e⟩ := cell_has (n := s.heap.objs.size + 1) k
      refine .inr ⟨.inl k, c, up e, ?_⟩
      have q := x.cell y c e
      rw [bindC_get ndP hp hu (by show F.scope.names.lookup y ≠ _; rw [k]; decide)] at q
      exact q
  · rcases key y c h with ⟨a, _⟩ | ⟨_, a⟩
    · exact ⟨_, x.cell y c a⟩
    · obtain ⟨v, o, ho, hv⟩ := hcv
      exact ⟨v, o, by rw [a]; exact hk _ _ ho, hv⟩
  · rcases key y c h with ⟨a, _⟩ | ⟨_, a⟩
    · exact e0.hok.fresh (Nat.le_of_lt (x.above y c (PySem.mem_of_lookup a)))
    · rw [a]
      exact hcc
  · unfold L2.start
    show _ = N.length
    rw [List.length_append, List.length_map, List.length_replicate]
    omega
end
section
variable {CX : CXT} {P : Program} {w : World} {K : PySem.W.Frag} {mg : Str → Option Value} {base : Heap} {k : Nat} {f D : Addr} {x qual file : Str} {params : Arguments} {body : List Stmt} {scope : Scope} {kws : List (Str × V)} {fd : FuncData} {F : NF} {N ps : List Str} {sp : Sp}
/-- the def stands at its own body's context -/
theorem FunS.sup {A : Around} {outer : List Env} {s : Shared} {H : Hp} {E : XK} {i : Nat} {ar : Arg} [SP : SupP P file] (FS : FunS K x qual params body scope kws D file f fd F) (S : SScope N ps scope) (har : (params.posonlyargs ++ params.args).head? = some ar) (hN : N[i]? = some ar.arg) (hka : scope.names.lookup ar.arg = some .local)
    (hks : scope.names.lookup ("super" : Str) = some .globalImplicit) (hkc : scope.names.lookup ("__class__" : Str) = some .free) (hm : mg "super" = none) (hnd : (ar.arg == ("__debug__" : Str)) = false) : SupX (scx CX P w K mg base N F f A outer s H E) i D := by
  obtain ⟨oc, od, kV, doc, pm, an, ct, osl, cc, n1, n2, n3, n4, n5, n6, efd, lk, hcd, hK, lcc⟩ := id FS.ex
  refine ⟨⟨x, qual, params, body, scope, kws, file, f, fd, F, ar, SP, FS, ⟨rfl, rfl, n5, fun c2 hc2 => ?_⟩, har, hN, hka, hnd⟩, ?_, ?_, hm⟩
  · show (cellsFrom (s.heap.objs.size + 1) F.scope.names [] ++ F.cl).lookup ("__class__" : Str) = some c2
    rw [List.lookup_append]
    cases q : (cellsFrom (s.heap.objs.size + 1) F.scope.names []).lookup ("__class__" : Str) with
    | some c' =>
      rcases cellsFrom_name (PySem.mem_of_lookup q) with hm | hm
      · rw [n5] at hm
        have := S.cls _ hm rfl
        cases this
      · cases hm
    | none =>
      rw [hc2]
      rfl
  · show F.scope.names.lookup ("super" : Str) = _
    rw [n5]
    exact hks
  · show F.scope.names.lookup ("__class__" : Str) = _
    rw [n5]
    exact hkc
theorem run_bndS (hfree : scope.names.lookup ("__class__" : Str) = some .free) {A : Around} {outer : List Env} {s : Shared} {H : Hp} {args : Args} {Q : VK} {E : XK} {G : List V → Hp → Prop} (FS : FunS K x qual params body scope kws D file f fd F) (S : SScope N ps scope) (hr : Room (k + 1) A) (e0 : Env0 P w K mg base A outer s H)
    (hb : StX.Bnd CX P w K mg base fd args ps A outer s H E G)
    (hbody : ∀ (cc cA : Addr), FunS K x qual params body scope kws D file f fd (nfC x qual params body scope cc cA) → ∀ (s2 : Shared) (H2 : Hp) (vs : List V), G vs H2 → Room k (A.deeper (envS (nfC x qual params body scope cc cA) f s2.heap.objs.size)) →
      ∃ t, PSA (scx CX P w K mg base N (nfC x qual params body scope cc cA) f A outer s2 H2 E) body body t ∧ t { nx := fun _ H' => Q .non H', rt := Q } (start N vs) H2) : codeAny (model P w) A (.call (.ref f) args) (CR CX outer P w H s Q E) s := by
  have hF : ∃ cc cA, F = nfC x qual params body scope cc cA := by
    obtain ⟨oc, od, kV, doc, pm, an, ct, osl, cc, n1, n2, n3, n4, n5, n6, _⟩ := id FS.ex
    obtain ⟨f1, f2, f3, f4, f5, f6, f7⟩ := F
    dsimp only at n1 n2 n3 n4 n5 n6
    subst n1 n2 n3 n4 n5 n6
    exact ⟨_, _, rfl⟩
  obtain ⟨cc0, cA0, hF⟩ := hF
  subst hF
  replace hbody := hbody cc0 cA0 FS
  generalize hFF : nfC x qual params body scope cc0 cA0 = F at FS hbody
  obtain ⟨oc, od, kV, doc, pm, an, ct, osl, cc, n1, n2, n3, n4, n5, n6, efd, lk, hcd, hK, lcc⟩ := id FS.ex
  have KX : K.In s.heap := e0.mod.kin.keeps fun b o e => (e0.bs b o e).1
  subst efd
  refine codeAny_call_function hr.depth (KX _ _ lk) rfl S.co S.gen rfl (PySem.W.codeRec_of KX hcd) ?_
  refine hb _ _ _ fun s2 H2 vs us e2 un ho hx r hl g => ?_
  have KX2 : K.In s2.heap := e0.mod.kin.keeps fun b o e => (e2.bs b o e).1
  have lim : s2.heap.NoLimit := e0.mod.nolimit.keeps fun b o e => (e2.bs b o e).1
  obtain ⟨oc2, od2, sl2, lcc⟩ := lcc
  have S' : SScope N ps F.scope := by rw [n5]; exact S
  have hfr : F.scope.names.lookup ("__class__" : Str) = some .free := by rw [n5]; exact hfree
  have hkind : ∀ y ∈ ps.zip us, scope.names.lookup y.1 = some .local ∨ (scope.names.lookup y.1 = some .cell ∧ ((cellsFrom (s2.heap.objs.size + 1) scope.names []).lookup y.1).isSome = true) := fun y hy => by
    rcases S.par y.1 (List.of_mem_zip hy).1 with q | q
    · exact .inl q
    · exact .inr ⟨q, PySem.W.cellsFrom_some _ _ _ (.inl q)⟩
  have eenv : newEnv scope s2.heap.objs.size mainGlobals (cellsFrom (s2.heap.objs.size + 1) scope.names [] ++ [(("__class__" : Str), cc)]) (qual ++ ".<locals>.") (some f) (.ref F.c) none builtinsNs = envS F f s2.heap.objs.size := by
    unfold envS
    rw [n2, n5, n6]
  refine newFunctionEnvS (s := s2) S.kind hkind fun env he s1 x => ?_
  subst he
  refine ⟨lim.keeps x.toInCall.keep, ?_⟩
  obtain ⟨t, ht, hq⟩ := hbody s2 H2 vs g (hr.deeper _)
  have I : Inv (scx CX P w K mg base N F f A outer s2 H2 E) [] (start N vs) H2 s1 := by
    refine inv_startS S' n6 (e2.bs _ _ (e0.mod.kin _ _ lcc)).2 ⟨_, _, KX2 _ _ lcc, rfl⟩ hfr hr.hd e2 hl r ?_
    rw [← eenv]
    rw [n5]
    exact x
  have hrun := ht.run [] _ _ _ _ I hq
  have hcode : codeAny (model P w) A (.func body (envS F f s2.heap.objs.size)) (CR CX outer P w H s Q E) s1 := by
    refine ks_codeAny_funcAt (ks_wpAt_mono hrun (fun fl s' hs => ?_) fun e s' hs => ?_)
    · have fin : ∀ {σ' : L2.St} {H' : Hp} {v' : V} {u' : Value}, Inv (scx CX P w K mg base N F f A outer s2 H2 E) [] σ' H' s' → L2.RelV v' u' → Q v' H' → CE outer P w H s Q u' s' :=
        fun {σ' H' v' u'} J rv' q => ⟨v', H', J.os.trans ho, J.bare, un.trans J.base, J.hok, rv', q⟩
      cases fl with
      | ret u' =>
        obtain ⟨v', σ', H', J, rv', q⟩ := hs
        exact fin J rv' q
      | next =>
        obtain ⟨σ', H', J, q⟩ := hs
        exact fin (v' := V.non) (u' := Value.none) J rfl q
      | brk =>
        obtain ⟨_, _, _, q⟩ := hs
        exact False.elim q
      | cont =>
        obtain ⟨_, _, _, q⟩ := hs
        exact False.elim q
    · exact wpAny_mono hs (fun _ s'' z => hx e s'' z) fun e' s'' z => hx e' s'' z
  rw [← eenv] at hcode
  exact hcode
/-- .. with the written parameters -/
theorem fnokS (hfree : scope.names.lookup ("__class__" : Str) = some .free) (FS : FunS K x qual params body scope kws D file f fd F) (S : SScope N ps scope) (len : ∀ vs H Q E, sp vs H Q E → vs.length = ps.length)
    (hbody : ∀ (cc cA : Addr), FunS K x qual params body scope kws D file f fd (nfC x qual params body scope cc cA) → ∀ (A : Around) (outer : List Env) (s : Shared) (H : Hp) (vs : List V) (Q : VK) (E : XK), Room k (A.deeper (envS (nfC x qual params body scope cc cA) f s.heap.objs.size)) → sp vs H Q E →
      ∃ t, PSA (scx CX P w K mg base N (nfC x qual params body scope cc cA) f A outer s H E) body body t ∧ t { nx := fun _ H' => Q .non H', rt := Q } (start N vs) H) : FnOk P w K mg base CX (k + 1) f fd ps sp := by
  refine ⟨len, fun A outer s H args us vs Q E hr e0 hb r hsp => ?_⟩
  refine run_bndS hfree (G := fun xs H2 => xs = vs ∧ H2 = H) FS S hr e0 (fun A' Ex Q' h => hb _ _ _ _ (h s H vs us e0 Un.refl rfl (fun _ _ z => z) r (len _ _ _ _ hsp) ⟨rfl, rfl⟩)) fun cc cA FS' s2 H2 xs ⟨ex, eH⟩ hr' => ?_
  subst ex eH
  exact hbody cc cA FS' A outer s2 H2 xs Q E hr' hsp
theorem FunS.bindsN (FS : FunS K x qual params body scope kws D file f fd F) (hb : ∀ (kV doc pm : Value) (an : Option Addr) (cdv ct : Value) (us : List Value), us.length = ps.length → bindArgs (PySem.W.fnOf x qual params body scope .none kV doc pm an cdv ct) ⟨us, []⟩ = pure (ps.zip us)) : Binds K fd ps [] := by
  obtain ⟨oc, od, kV, doc, pm, an, ct, osl, cc, n1, n2, n3, n4, n5, n6, efd, lk, hcd, hK, lcc⟩ := id FS.ex
  subst efd
  intro s us X hl
  refine BindsTo.of_eq ?_
  rw [List.append_nil]
  exact hb kV doc pm an (.ref F.c) ct us (by simpa using hl)
/-- a def without stars, by positions -/
theorem defS_ok (hfree : scope.names.lookup ("__class__" : Str) = some .free) (FS : FunS K x qual params body scope kws D file f fd F) (S : SScope N ps scope)
    (hb : ∀ (kV doc pm : Value) (an : Option Addr) (cdv ct : Value) (us : List Value), us.length = ps.length → bindArgs (PySem.W.fnOf x qual params body scope .none kV doc pm an cdv ct) ⟨us, []⟩ = pure (ps.zip us)) (len : ∀ vs H Q E, sp vs H Q E → vs.length = ps.length)
    (hbody : ∀ (cc cA : Addr), FunS K x qual params body scope kws D file f fd (nfC x qual params body scope cc cA) → ∀ (A : Around) (outer : List Env) (s : Shared) (H : Hp) (vs : List V) (Q : VK) (E : XK), Room k (A.deeper (envS (nfC x qual params body scope cc cA) f s.heap.objs.size)) → sp vs H Q E →
      ∃ t, PSA (scx CX P w K mg base N (nfC x qual params body scope cc cA) f A outer s H E) body body t ∧ t { nx := fun _ H' => Q .non H', rt := Q } (start N vs) H) : FnR P w K mg base CX (k + 1) f sp := by
  refine ((fnokS hfree FS S len hbody).raw (FS.bindsN hb) .nil).imp fun vs H Q E h => ?_
  rw [List.append_nil]
  exact h
/-- def f(a, .., *v) -/
theorem starS_ok {pv : Str} (hfree : scope.names.lookup ("__class__" : Str) = some .free) (FS : FunS K x qual params body scope kws D file f fd F) (S : SScope N (ps ++ [pv]) scope) (hCX : StX.CXUp CX)
    (hb : ∀ (kV doc pm : Value) (an : Option Addr) (cdv ct : Value) (us rest : List Value), us.length = ps.length → bindArgs (PySem.W.fnOf x qual params body scope .none kV doc pm an cdv ct) ⟨us ++ rest, []⟩ = (newTuple rest >>= fun t => pure (ps.zip us ++ [(pv, t)])))
    (hbody : ∀ (cc cA : Addr), FunS K x qual params body scope kws D file f fd (nfC x qual params body scope cc cA) → ∀ (A : Around) (outer : List Env) (s : Shared) (H : Hp) (vs : List V) (Q : VK) (E : XK), Room k (A.deeper (envS (nfC x qual params body scope cc cA) f s.heap.objs.size)) → sp vs H Q E →
      ∃ t, PSA (scx CX P w K mg base N (nfC x qual params body scope cc cA) f A outer s H E) body body t ∧ t { nx := fun _ H' => Q .non H', rt := Q } (start N vs) H) :
    FnR P w K mg base CX (k + 1) f (fun vs H Q E => ∃ ws rest, vs = ws ++ rest ∧ ws.length = ps.length ∧ rest.length ≤ sizeLine ∧ ∀ p, H p = none → sp (ws ++ [V.ref p]) (upd H p (.tup rest)) Q E) := by
  obtain ⟨oc, od, kV, doc, pm, an, ct, osl, cc, n1, n2, n3, n4, n5, n6, efd, lk, hcd, hK, lcc⟩ := id FS.ex
  intro A outer s H us vs Q E hr e0 r hsp
  obtain ⟨ws, rest, ev, hl, hz, hq⟩ := hsp
  subst ev
  obtain ⟨u1, u2, eu, r1, r2⟩ := StX.vals_split r
  subst eu
  have hn : H s.heap.objs.size = none := e0.hok.fresh (Nat.le_refl _)
  have hl1 : u1.length = ps.length := by rw [← r1.length]; exact hl
  have hl2 : u2.length ≤ sizeLine := by rw [← r2.length]; exact hz
  refine run_bndS hfree FS S hr e0 (G := fun xs H2 => ∃ p, H p = none ∧ xs = ws ++ [V.ref p] ∧ H2 = upd H p (.tup rest)) (fun A' Ex Q' h => ?_) fun cc cA FS' s2 H2 xs ⟨p, hp, ex, eH⟩ hr' => ?_
  · have hb1 : bindArgs fd ⟨u1 ++ u2, []⟩ = (newTuple u2 >>= fun t => pure (ps.zip u1 ++ [(pv, t)])) := by
      subst efd
      exact hb kV doc pm an (.ref F.c) ct u1 u2 hl1
    rw [hb1]
    refine wpAny_bind (wpAny_newTuple (wpAny_pure ?_) hl2)
    have new : ObjOk P w (upd H s.heap.objs.size (.tup rest)) (s.heap.push ({ cls := .type "tuple", data := .seq u2.toArray } : Obj)) s.heap.objs.size (.tup rest) := ⟨hz, u2, r2, ⟨_, Heap.get?_push_size _ rfl, rfl, _, rfl⟩⟩
    have un := StX.un_laid (fs := frs outer) (s := s) (o := ({ cls := .type "tuple", data := .seq u2.toArray } : Obj)) (u := .tup rest) hn
    have z := h _ _ (ws ++ [V.ref s.heap.objs.size]) (u1 ++ [Value.ref s.heap.objs.size]) (StX.env0_laid e0 new) un rfl (fun e s' => hCX outer s H _ _ E e s' un (fun b o q => Heap.get?_push_of_some _ q) rfl) (r1.append (.cons rfl .nil))
      (by rw [List.length_append, List.length_append, hl] <;> rfl) ⟨_, hn, rfl, rfl⟩
    rw [List.zip_append hl1.symm] at z
    exact z
  · subst ex eH
    exact hbody cc cA FS' A outer s2 _ _ Q E hr' (hq p hp)
end
/-! ### super().m(e, *y) -/
def tSupS (K : PySem.W.Frag) (D : Addr) (m : Str) (g : Addr) (i : Nat) (sp : Sp) (E : XK) (t1 t2 : TE) : TS := fun De σ H => ∃ o C dx fs, σ[i]? = some (some (.ref o)) ∧ H o = some (.ins C dx fs) ∧ SupIn K C D m g ∧
  ∀ q, H q = none → t1 σ (upd H q (.met g o)) fun y1 H2 => t2 σ H2 fun y2 H3 => ∃ b vs, y2 = .ref b ∧ (SqT K H3 b vs ∨ SqL K H3 b vs) ∧ H3 q = some (.met g o) ∧ sp (.ref o :: y1 :: vs) H3 (fun _ H4 => De.nx σ H4) E
section
variable {X : Cx} {CX : CXT} {k i : Nat} {D g : Addr} {m : Str} {sp : Sp} {E : XK} {B : List Stmt} {p0 p1 apos pos p p2 : Pos} {e1 e2 : Expr} {t1 t2 : TE}
theorem ps1_supS (S : SupX X i D) (F : FnR X.prog X.w X.K X.mg X.base CX k g sp) (hr : Room k X.A) (hx : Passes CX X E) (h1 : PE X e1 t1) (h2 : PE X e2 t2) (hat : (m == ("__class__" : Str)) = false := by decide)
    (hst : starEach [e1, .Starred e2 p2] X.env = [(false, eval e1 X.env), (true, eval e2 X.env)] := by rfl)
    (hs : swapsWith (.Call (.Attribute (.Call (.Name "super" p0) [] [] p1) m apos) [e1, .Starred e2 p2] [] pos) none p.line X.env = pure false := by rfl) :
    PS1 X B (.Expr (.Call (.Attribute (.Call (.Name "super" p0) [] [] p1) m apos) [e1, .Starred e2 p2] [] pos) p) (tSupS X.K D m g i sp E t1 t2) := by
  refine ⟨fun pins s σ H De I ⟨o, C, dx, fs, hσ, ho, SI, q⟩ => ?_⟩
  refine ks_wpAt_Expr_any ?_ I.quiet hs
  have hke : backToKw pos (keywordEach [] X.env) = [] := rfl
  have hform : methodCallForm ([e1, Expr.Starred e2 p2].length + ([] : List Keyword).length) (backTo pos [(false, eval e1 X.env), (true, eval e2 X.env)]) [] = false := rfl
  have hpos : methodCallPos false (.Call (.Name "super" p0) [] [] p1) X.env apos pos = pure pos := rfl
  have hcal : ∀ ov, calleeOf false (.Call (.Name "super" p0) [] [] p1) X.env ov m = (getAttr ov m true >>= fun v => pure (v, [])) := fun _ => rfl
  rw [arm_eval_Call, hst, hke]
  refine _root_.PySem.wpAt_bind (sup_base S I hσ ho SI.sub hat fun so s1 I1 hso => wpAt_of_wpAny ?_)
  refine wpAny_bind (wpAny_standAt ?_)
  unfold methodCall
  rw [hform, hpos, hcal]
  refine wpAny_bind (wpAny_holding (wpAny_bind (sup_get I1 hso ho SI hat fun qa s2 hqa I2 => wpAny_pure ?_)))
  refine wpAny_bind (wpAny_pure ?_)
  refine PySem.W.ks_call (P := PySem.W.MethP X.K qa g (.ref o)) rfl (PySem.W.keeps_M SI.fi) (Calls.evalArgs_plain (Calls.spliced_cons (thn (h1.run pins s2 σ _ _ I2 (q qa hqa)) fun v1 s3 ⟨y1, H2, I3, ry1, q2⟩ =>
    PySem.W.ks_spliced (thn (h2.run pins s3 σ H2 _ I3 q2) fun v2 s4 ⟨y2, H3, I4, ry2, t, vs, ey, ht, hm, hsp⟩ => ?_))))
  subst ey
  obtain rfl : v2 = Value.ref t := ry2
  refine StX.star_any I4 ht fun us s5 I5 rv => Calls.spliced_nil ?_
  refine ⟨met_P I5 hm, ?_⟩
  show wpAny (model X.prog X.w) X.A (call (.ref qa) (v1 :: (us ++ [])) []) _ X.xe s5
  rw [List.append_nil]
  refine wpAny_call (PySem.W.method_call (met_P I5 hm).1 (codeAny_mono (run_fnR (us := Value.ref o :: v1 :: us) (vs := V.ref o :: y1 :: vs) F hr hx I5 (.cons rfl (.cons ry1 rv)) hsp) fun rr s6 hq => ?_))
  cases rr with
  | error er => exact hq
  | ok fl =>
    cases fl with
    | ret v =>
      obtain ⟨x, H4, I4, _, q4⟩ := hq
      exact ⟨σ, H4, I4, q4⟩
    | next => exact hq
    | brk => exact hq
    | cont => exact hq
end
end SuX

set_option Elab.async false
set_option linter.all false
set_option autoImplicit false
set_option maxRecDepth 100000
set_option maxHeartbeats 4000000
/-! ### what the head tells of defs with the cell __class__ -/
namespace ChH
open PySem PySem.Spec PyProof.Rows L2 He NdefX SuX
structure DefS where
  d : He5.DefA
  cls : Str
def fnS (K : PySem.W.Frag) (a : Addr) : FnW := match K.lookup a with
  | some ⟨_, _, .func fd, _⟩ => some (fd.name, fd.qualname, fd.params, fd.body, fd.scope, fd.globals, [], fd.builtins)
  | _ => none
def cellB (K : PySem.W.Frag) (D : Addr) (cl : List (Str × Addr)) : Bool := match cl with
  | [(x, cc)] => decide (x = ("__class__" : Str)) && (match K.lookup cc with
    | some ⟨_, _, .cell (some (.ref E)), _⟩ => decide (E = D)
    | _ => false)
  | _ => false
def fileB (K : PySem.W.Frag) (file : Str) (cd : Value) : Bool := match cd with
  | .ref c => (match K.lookup c with
    | some ⟨_, _, .fields vs, _⟩ => (match (vs[2]? : Option Value) with
      | some (Value.str f _) => decide (f = file)
      | _ => false)
    | _ => false)
  | _ => false
def noneB : Value → Bool
  | .none => true
  | _ => false
def suOk (file : Str) (K : PySem.W.Frag) (d : DefS) : Bool := PySem.W.keepIn K (.ref (d.d.at_ K)) && ((PySem.W.clsIn K (ga K d.cls)).isSome && (match K.lookup (d.d.at_ K) with
  | some ⟨_, _, .func fd, _⟩ => PySem.W.codeIn K fd.code d.d.qual && (noneB fd.defaults && (kwdB K fd.kwdefaults (d.d.kws K) && (cellB K (ga K d.cls) fd.closure && fileB K file fd.code)))
  | _ => false))
/-- the def as the layer's NF -/
def nfOf (K : PySem.W.Frag) (a : Addr) : NF := match K.lookup a with
  | some ⟨_, _, .func fd, _⟩ => ⟨fd.name, fd.qualname, fd.params, (match fd.body with | .stmts b => b | _ => []), fd.scope, fd.closure, (match fd.code with | .ref c => c | _ => 0)⟩
  | _ => ⟨"", "", default, [], default, [], 0⟩
theorem su_funS {file : Str} {K : PySem.W.Frag} {d : DefS} (e : fnS K (d.d.at_ K) = d.d.val) (c : suOk file K d = true) : FunS K d.d.name d.d.qual d.d.params d.d.body d.d.scope (d.d.kws K) (ga K d.cls) file (d.d.at_ K) (fdOf K (d.d.at_ K)) (nfOf K (d.d.at_ K)) := by
  obtain ⟨kp, c⟩ := ba c
  obtain ⟨hcls, c2⟩ := ba c
  unfold fnS at e
  unfold fdOf nfOf
  cases q : K.lookup (d.d.at_ K) with
  | none =>
    rw [q] at c2
    cases c2
  | some o =>
    obtain ⟨oc, od, dt, osl⟩ := o
    rw [q] at c2 e
    cases dt with
    | func fd =>
      obtain ⟨n1, n2, n3, n4, n5, n6, n7, n8, n9, n10, n11, n12, n13, n14, n15⟩ := fd
      have e2 : (some (n1, n2, n3, n4, n5, n6, [], n15) : FnW) = some (d.d.name, d.d.qual, d.d.params, .stmts d.d.body, d.d.scope, mainGlobals, [], builtinsNs) := e
      simp only [Option.some.injEq, Prod.mk.injEq, true_and] at e2
      obtain ⟨h1, h2, h3, h4, h5, h6, h8⟩ := e2
      subst h1 h2 h3 h4 h5 h6 h8
      have c3 : (PySem.W.codeIn K n13 d.d.qual && (noneB n8 && (kwdB K n9 (d.d.kws K) && (cellB K (ga K d.cls) n7 && fileB K file n13)))) = true := c2
      obtain ⟨k1, k2⟩ := ba c3
      obtain ⟨k3, k4⟩ := ba k2
      obtain ⟨k5, k6⟩ := ba k4
      obtain ⟨k7, k8⟩ := ba k6
      have h8 : n8 = .none := by
        unfold noneB at k3
        split at k3
        · rfl
        · cases k3
      subst h8
      obtain ⟨cd, hcd⟩ := Option.isSome_iff_exists.mp hcls
      unfold cellB at k7
      split at k7
      · rename_i x cc
        obtain ⟨k9, k10⟩ := ba k7
        have hx := of_decide_eq_true k9
        subst hx
        split at k10
        · rename_i o1 o2 E o3 hE
          have hD := of_decide_eq_true k10
          subst hD
          unfold fileB at k8
          split at k8
          · rename_i c
            split at k8
            · rename_i a1 a2 vs a3 hv
              split at k8
              · rename_i f tk hf
                have := of_decide_eq_true k8
                subst this
                exact ⟨⟨oc, od, n9, n10, n11, n12, n14, osl, cc, rfl, rfl, rfl, rfl, rfl, rfl, rfl, q, k1, kwdB_ok k5, ⟨_, _, _, hE⟩⟩, ⟨_, _, vs, _, tk, hv, hf⟩, ⟨cd, hcd⟩, kp⟩
              · cases k8
            · cases k8
          · cases k8
        · cases k10
      · cases k7
    | _ => cases c2
/-! ### the method that super() finds -/
def supB (C D m E : Str) (K : PySem.W.Frag) : Bool := decide (PySem.W.mroIn K (ga K C) (.ref (ga K D)) = some true) && (eqO (PySem.W.ks_superIn K (ga K C) (ga K D) m) (some (some (.ref (ma K (ga K E) m)))) &&
  (decide (PySem.W.typeIn K (.ref (ma K (ga K E) m)) = some (.type "function")) && (decide (PySem.W.nsIn K cStatics "thirdparty.any" = some none) && PySem.W.fnIn K (ma K (ga K E) m))))
theorem sup_ok {C D m E : Str} {K : PySem.W.Frag} (h : supB C D m E K = true) : SupIn K (ga K C) (ga K D) m (ma K (ga K E) m) := by
  obtain ⟨h1, h⟩ := ba h
  obtain ⟨h2, h⟩ := ba h
  obtain ⟨h3, h⟩ := ba h
  obtain ⟨h4, h5⟩ := ba h
  exact ⟨of_decide_eq_true h1, eqO_ok h2, of_decide_eq_true h3, of_decide_eq_true h4, h5⟩
/-- an inherited method, property -/
def imB (C E m : Str) (K : PySem.W.Frag) : Bool := decide (ma K (ga K C) m = ma K (ga K E) m)
theorem im_ok {C E m : Str} {K : PySem.W.Frag} (h : imB C E m K = true) : ma K (ga K C) m = ma K (ga K E) m := of_decide_eq_true h
def ipB (C E m : Str) (K : PySem.W.Frag) : Bool := decide (gp C m K = gp E m K)
theorem ip_ok {C E m : Str} {K : PySem.W.Frag} (h : ipB C E m K = true) : gp C m K = gp E m K := of_decide_eq_true h
/-! ### the hook -/
def obsU (file : Str) (fa : List Fa) (xs : List Fx) (fn : List He5.DefA) (su : List DefS) (K : PySem.W.Frag) : AlD := ((obsC fa xs fn K).1 && su.all fun d => suOk file K d, (obsC fa xs fn K).2 ++ su.map fun d => fnS K (d.d.at_ K))
def valU (fn : List He5.DefA) (su : List DefS) : AlD := (true, fn.map He5.DefA.val ++ su.map fun d => d.d.val)
def SaysU (file : Str) (fa : List Fa) (xs : List Fx) (fn : List He5.DefA) (su : List DefS) (K : PySem.W.Frag) : Prop := obsU file fa xs fn su K = valU fn su
def obsUG (n : Nat) (file : Str) (fa : List Fa) (xs : List Fx) (fn : List He5.DefA) (su : List DefS) (g : Addr → Option Obj) : AlD := obsU file fa xs fn su (frG g ((He5.asA g n).filter (noTab g)))
def hookU (n : Nat) (file : Str) (fa : List Fa) (xs : List Fx) (fn : List He5.DefA) (su : List DefS) : PySem.W.Hook where
  α := AlD
  obs := fun s => obsUG n file fa xs fn su s.heap.get?
  val := fun _ => valU fn su
  says := fun _ h => ∃ K : PySem.W.Frag, K.In h ∧ SaysU file fa xs fn su K
  of := fun _ _ e => ⟨_, frG_in, e⟩
  keeps := fun _ _ _ ⟨K, hK, c⟩ k => ⟨K, hK.keeps k, c⟩
theorem obsUG_eq {n : Nat} {file : Str} {fa : List Fa} {xs : List Fx} {fn : List He5.DefA} {su : List DefS} {g : Addr → Option Obj} {s : Shared} (h : ∀ a, g a = s.heap.get? a) : obsUG n file fa xs fn su g = (hookU n file fa xs fn su).obs s := by
  rw [show g = s.heap.get? from funext h]
  rfl
section
variable {file : Str} {fa : List Fa} {xs : List Fx} {fn : List He5.DefA} {su : List DefS} {K : PySem.W.Frag}
theorem saysU_both (c : SaysU file fa xs fn su K) : SaysC fa xs fn K ∧ (su.all fun d => suOk file K d) = true ∧ (su.map fun d => fnS K (d.d.at_ K)) = su.map fun d => d.d.val := by
  have h1 : ((obsC fa xs fn K).1 && su.all fun d => suOk file K d) = true := congrArg (fun z : AlD => z.1) c
  have h2 : (obsC fa xs fn K).2 ++ (su.map fun d => fnS K (d.d.at_ K)) = fn.map He5.DefA.val ++ su.map fun d => d.d.val := congrArg (fun z : AlD => z.2) c
  obtain ⟨a1, a2⟩ := ba h1
  obtain ⟨b1, b2⟩ := List.append_inj h2 (by show (fn.map _).length = (fn.map _).length; rw [List.length_map, List.length_map])
  refine ⟨?_, a2, b2⟩
  show obsC fa xs fn K = (true, fn.map He5.DefA.val)
  exact Prod.ext a1 b1
theorem SaysU.c (c : SaysU file fa xs fn su K) : SaysC fa xs fn K := (saysU_both c).1
def SaysS (file : Str) (su : List DefS) (K : PySem.W.Frag) : Prop := (su.all fun d => suOk file K d) = true ∧ (su.map fun d => fnS K (d.d.at_ K)) = su.map fun d => d.d.val
theorem SaysU.s (c : SaysU file fa xs fn su K) : SaysS file su K := (saysU_both c).2
theorem SaysS.fs (c : SaysS file su K) (i : Nat) {d : DefS} (h : su[i]? = some d := by rfl) : FunS K d.d.name d.d.qual d.d.params d.d.body d.d.scope (d.d.kws K) (ga K d.cls) file (d.d.at_ K) (fdOf K (d.d.at_ K)) (nfOf K (d.d.at_ K)) := by
  have e2 : (su.map fun d => fnS K (d.d.at_ K))[i]? = (su.map fun d => d.d.val)[i]? := by rw [c.2]
  rw [List.getElem?_map, List.getElem?_map, h] at e2
  exact su_funS (Option.some.inj e2) (List.all_eq_true.mp c.1 d (List.mem_of_getElem? h))
end
end ChH
/-! ### constants of a class, isinstance, alternatives -/
namespace ChH
open PySem PySem.Spec PyProof.Rows L2 He
def conB (C f : Str) (v : Dv) (K : PySem.W.Frag) : Bool := match PySem.W.findIn K (.ref (ga K C)) f with
  | some (some u) => relB (v.v K) u && (decide (PySem.W.specialIn K u "__get__" = some none) && decide (PySem.W.copiedNames.contains f = false))
  | _ => false
theorem con_ok {K : PySem.W.Frag} {C f : Str} {v : Dv} (h : conB C f v K = true) : ∃ u, Con K (ga K C) f (v.v K) u := by
  unfold conB at h
  split at h
  · rename_i u e
    obtain ⟨h1, h⟩ := ba h
    obtain ⟨h2, h3⟩ := ba h
    exact ⟨u, e, relB_ok h1, of_decide_eq_true h2, of_decide_eq_true h3⟩
  · cases h
structure IsC (K : PySem.W.Frag) (C : Addr) : Prop where
  c1 : PySem.W.findIn K (.ref C) "__class__" = some (some (.builtin "object.__class__"))
  c2 : PySem.W.specialIn K (.builtin "object.__class__") "__get__" = some (some (.builtin "getset_descriptor.__get__"))
  c3 : PySem.W.takesIn K (.builtin "object.__class__") = some true
  c4 : PySem.W.mroIn K C (.type "object") = some true
def iscB (C : Str) (K : PySem.W.Frag) : Bool := decide (PySem.W.findIn K (.ref (ga K C)) "__class__" = some (some (.builtin "object.__class__"))) && (decide (PySem.W.specialIn K (.builtin "object.__class__") "__get__" = some (some (.builtin "getset_descriptor.__get__"))) &&
  (decide (PySem.W.takesIn K (.builtin "object.__class__") = some true) && decide (PySem.W.mroIn K (ga K C) (.type "object") = some true)))
theorem isc_ok {K : PySem.W.Frag} {C : Str} (h : iscB C K = true) : IsC K (ga K C) := by
  obtain ⟨h1, h⟩ := ba h
  obtain ⟨h2, h⟩ := ba h
  obtain ⟨h3, h4⟩ := ba h
  exact ⟨of_decide_eq_true h1, of_decide_eq_true h2, of_decide_eq_true h3, of_decide_eq_true h4⟩
end ChH
namespace SuX
open PySem PySem.Spec PyProof.Rows L2 ChH
section
variable {X : Cx} {K : PySem.W.Frag} {e : Expr} {t u ta : TE} {σ : L2.St} {H : Hp} {Q : VK} {f : Str} {pos : Pos}
def tAlt (t u : TE) : TE := fun σ H Q => t σ H Q ∨ u σ H Q
theorem pe_alt (a : PE X e t) (b : PE X e u) : PE X e (tAlt t u) := ⟨fun pins s σ H Q I h => h.elim (a.run pins s σ H Q I) (b.run pins s σ H Q I)⟩
theorem x_altL (k : t σ H Q) : tAlt t u σ H Q := .inl k
theorem x_altR (k : u σ H Q) : tAlt t u σ H Q := .inr k
theorem pe_conK (K : PySem.W.Frag) (he : PE X e ta) (hb : attributeBase e f X.env (eval e X.env) = eval e X.env := by rfl) (hK : X.K = K := by rfl) : PE X (.Attribute e f pos) (tCon K ta f) := by
  subst hK
  exact pe_con he hb
theorem x_con {p C dx : Addr} {fs : List (Str × V)} {v : V} (k : ta σ H fun x H1 => ∃ a C dx fs v u, x = .ref a ∧ H1 a = some (.ins C dx fs) ∧ Cls K C ∧ Con K C f v u ∧ fs.lookup f = none ∧ Q v H1) : tCon K ta f σ H Q := k
theorem x_isiO {p C D dx : Addr} {fs : List (Str × V)} {b : Bool} (h : H p = some (.ins C dx fs)) (c : Cls K C) (i : IsC K C) (k : PySem.W.kitOne K (.ref C) (.ref D) = some b) (q : Q (.bl b) H) : rIsi K [.ref p, .ref D] H Q :=
  ⟨.ref p, .ref D, .ref C, .ref D, b, rfl, .own D, .base (.ins h c i.c1 i.c2 i.c3 i.c4), k, q⟩
end
end SuX

set_option Elab.async false
set_option linter.all false
set_option autoImplicit false
set_option maxRecDepth 100000
set_option maxHeartbeats 4000000
/-! ### generators whose consumer holds more than its list: while the generator sleeps, the objects at Cs may change, too -/
namespace G2
open PySem PySem.Spec PyProof.Rows L2 GenW
structure Slept2 (S : Addr) (Cs : List Addr) (v : Value) (s s' : Shared) : Prop where
  os : s'.os = s.os
  bare : AllBare s'.gens
  keep : ∀ b o, b ≠ S → b ∉ Cs → s.heap.get? b = some o → s'.heap.get? b = some o
  own : ∀ acc c, s.heap.get? S = some (lstObj acc c) → ∃ c', s'.heap.get? S = some (lstObj (acc.push v) c')
  oth : ∀ b ∈ Cs, ∃ o, s'.heap.get? b = some o ∧ ∀ v, o.data ≠ .cell v
/-- running: ys is out and stands in the list at S; the objects at Cs are as they were when it was woken (s₀) -/
def GI2 (X : Cx) (S : Addr) (Cs : List Addr) (s₀ : Shared) (ip : List (Addr × Obj)) (ys : List V) (σ : L2.St) (H : Hp) (s : Shared) : Prop :=
  ∃ (acc : Array Value) (c : Nat), Vals ys acc.toList ∧ Inv X ((S, lstObj acc c) :: (pinsAt Cs s₀.heap ++ ip)) σ H s ∧ ∀ b ∈ Cs, ∃ o, s₀.heap.get? b = some o ∧ ∀ v, o.data ≠ .cell v
section
variable {X : Cx} {S : Addr} {Cs : List Addr} {s₀ s s' : Shared} {ip : List (Addr × Obj)} {ys : List V} {σ : L2.St} {H : Hp}
theorem GI2.list (h : GI2 X S Cs s₀ ip ys σ H s) : H S = none ∧ S ≠ X.env.locals ∧ S ∉ X.fs ∧ ∃ (acc : Array Value) (c : Nat), Vals ys acc.toList ∧ s.heap.get? S = some (lstObj acc c) := by
  obtain ⟨acc, c, r, I, _⟩ := h
  obtain ⟨h1, h2, h3, h4, _⟩ := I.pin (S, lstObj acc c) (List.mem_append_right _ List.mem_cons_self)
  exact ⟨h2, h3, h4, acc, c, r, h1⟩
theorem GI2.oth (h : GI2 X S Cs s₀ ip ys σ H s) {b : Addr} (hb : b ∈ Cs) : H b = none ∧ b ≠ X.env.locals ∧ b ∉ X.fs ∧ ∃ o, s₀.heap.get? b = some o ∧ s.heap.get? b = some o ∧ ∀ v, o.data ≠ .cell v := by
  obtain ⟨acc, c, r, I, hC⟩ := h
  obtain ⟨o, e, d⟩ := hC b hb
  obtain ⟨h1, h2, h3, h4, _⟩ := I.pin (b, o) (List.mem_append_right _ (List.mem_cons_of_mem _ (List.mem_append_left _ (mem_pinsAt hb e))))
  exact ⟨h2, h3, h4, o, e, h1, d⟩
theorem GI2.none (h : GI2 X S Cs s₀ ip ys σ H s) {b : Addr} (hb : b ∈ S :: Cs) : H b = none := by
  rcases List.mem_cons.mp hb with z | z
  · rw [z]; exact h.list.1
  · exact (h.oth z).1
theorem GI2.woken {x : V} {v : Value} (hS : S ∉ Cs) (hpn : ∀ p ∈ X.pn, p.1 ∉ S :: Cs) (hip : ∀ p ∈ ip, p.1 ∉ S :: Cs) (hA : ∀ b ∈ S :: Cs, Apart X b) (h : GI2 X S Cs s₀ ip ys σ H s) (rv : RelV x v) (z : Slept2 S Cs v s s') :
    GI2 X S Cs s' ip (ys ++ [x]) σ H s' := by
  have hN := fun b hb => h.none (b := b) hb
  obtain ⟨_, hSL, hSf, _⟩ := h.list
  have hO := fun b hb => h.oth (b := b) hb
  obtain ⟨acc, c, r, I, hC⟩ := h
  have eS : s.heap.get? S = some (lstObj acc c) := (I.pin (S, lstObj acc c) (List.mem_append_right _ List.mem_cons_self)).1
  have I0 : Inv X ip σ H s := I.pins_of fun p hp => I.pin p (List.mem_append_right _ (List.mem_cons_of_mem _ (List.mem_append_right _ hp)))
  have nt : ∀ b u, H b = some u → b ∉ S :: Cs := fun b u q hb => by rw [hN b hb] at q; cases q
  obtain ⟨z1, z2, z3, z4, z5⟩ := z
  obtain ⟨c', eS'⟩ := z4 acc c eS
  obtain ⟨hh, g, d, t, o⟩ := s'
  have ho : o = s.os := z1
  subst ho
  have kp : ∀ b ob, b ∉ S :: Cs → s.heap.get? b = some ob → hh.get? b = some ob := fun b ob hb q => z3 b ob (fun e => hb (by rw [e]; exact List.mem_cons_self)) (fun e => hb (List.mem_cons_of_mem _ e)) q
  have J : Inv X ip σ H { s with heap := hh, gens := g, drawn := d, toks := t } := by
    refine I0.step (g' := g) (t' := t) (d' := d) (ch := S :: Cs) (fun b hb => ?_)
      (fun b ob _ _ hc q _ => kp b ob hc q) (fun b ob _ _ hc q _ => ⟨ob.slots, kp b ob hc q⟩) (fun _ _ _ _ n => n) (fun b ob hc q => ⟨ob, kp b ob hc q⟩)
      (fun _ _ q => q) (fun _ _ _ q => q) (fun b ps q => ⟨#[], by rw [q]; simp⟩) (fun m hm => ?_) (fun b u q => ?_) z2
    · obtain ⟨a1, a2, a3⟩ := hA b hb
      refine ⟨.inr a1, a2, a3, fun p hp e => ?_⟩
      rcases List.mem_append.mp hp with hp | hp
      · exact hpn p hp (by rw [e]; exact hb)
      · exact hip p hp (by rw [e]; exact hb)
    · obtain ⟨ob, es, ep, ho, r⟩ := hm
      refine ⟨ob, es, ep, kp _ ob (fun hb => ?_) ho, r⟩
      exact (hA _ hb).2.1 rfl
    · refine (I0.hok b u q).stay (fun c v hc y => kp c v ?_ y) (fun _ y => y) fun _ _ y => y
      rcases hc with y | y
      · rw [y]; exact nt b u q
      · exact nt c _ y
  refine ⟨acc.push v, c', ?_, J.pins_of fun p hp => ?_, z5⟩
  · rw [Array.toList_push]
    exact r.append (.cons rv .nil)
  · rcases List.mem_cons.mp hp with hp | hp
    · rw [hp]
      exact ⟨eS', hN S List.mem_cons_self, hSL, hSf, fun v q => by cases q⟩
    · rcases List.mem_append.mp hp with hp | hp
      · obtain ⟨hb, e⟩ := of_pinsAt hp
        obtain ⟨o', e', d'⟩ := z5 p.1 hb
        obtain ⟨h1, h2, h3, _⟩ := hO p.1 hb
        have e2 : hh.get? p.1 = some p.2 := e
        have e3 : hh.get? p.1 = some o' := e'
        rw [e2] at e3
        cases e3
        exact ⟨e, h1, h2, h3, d'⟩
      · exact J.pin p (List.mem_append_right _ hp)
end
/-! #### the protocol -/
def GY2 (X : Cx) (S : Addr) (Cs : List Addr) : Protocol := fun n s₀ v s kap =>
  ∃ ys x ip σ H, n + 1 + ys.length = sizeLine ∧ RelV x v ∧ GI2 X S Cs s₀ ip ys σ H s ∧ ∀ s', Slept2 S Cs v s s' → kap (.send .none) s'
def GR2 (X : Cx) (S : Addr) (Cs : List Addr) (Q : List V → VK) (F : Value → Shared → Prop) : GenEnd := fun n s₀ r s => match r with
  | .ok (.ret u) => ∃ ys v ip σ H, n + ys.length = sizeLine ∧ GI2 X S Cs s₀ ip ys σ H s ∧ RelV v u ∧ Q ys v H
  | .ok _ => False
  | .error e => F e s
def GSP2 (X : Cx) (S : Addr) (Cs : List Addr) (s₀ : Shared) (ip : List (Addr × Obj)) (D : GEnds) (ys : List V) (f : Flow) (s : Shared) : Prop :=
  match f with
  | .next => ∃ σ H, GI2 X S Cs s₀ ip ys σ H s ∧ D.nx ys σ H
  | .brk => ∃ σ H, GI2 X S Cs s₀ ip ys σ H s ∧ D.bk ys σ H
  | .cont => ∃ σ H, GI2 X S Cs s₀ ip ys σ H s ∧ D.ct ys σ H
  | .ret u => ∃ v σ H, GI2 X S Cs s₀ ip ys σ H s ∧ RelV v u ∧ D.rt ys v H
structure GC2 (X : Cx) (S : Addr) (Cs : List Addr) (ip : List (Addr × Obj)) (A : Around) (c : Code) (fs : List Frame) (gd : Bool → Bool) : Prop where
  dis : S ∉ Cs
  pn : ∀ p ∈ X.pn, p.1 ∉ S :: Cs
  ip : ∀ p ∈ ip, p.1 ∉ S :: Cs
  apart : ∀ b ∈ S :: Cs, Apart X b
  over : A.over c fs = X.A
  split : splitAtGen fs = none
  guard : fs.any Frame.guarded = false
  gd : gd false = false
structure GK2 (X : Cx) (S : Addr) (Cs : List Addr) (ip : List (Addr × Obj)) (A : Around) (R : GenEnd) (c : Code) (fs : List Frame) (K : Flow → Sem PySem.Fin) (J : Value → Sem PySem.Fin) (D : GEnds) : Prop where
  ok : ∀ (n : Nat) (ys : List V) (s₀ s : Shared) (f : Flow), n + ys.length = sizeLine → GSP2 X S Cs s₀ ip D ys f s → Seg (model X.prog X.w) A R (GY2 X S Cs) n s₀ c (K f) fs s
  exc : ∀ (n : Nat) (s₀ : Shared) (e : Value) (s : Shared), X.xe e s → Seg (model X.prog X.w) A R (GY2 X S Cs) n s₀ c (J e) fs s
structure GS2 (X : Cx) (st : Stmt) (t : TGn) : Prop where
  run : ∀ (A : Around) (S : Addr) (Cs : List Addr) (ip : List (Addr × Obj)) (R : GenEnd) (n : Nat) (ys : List V) (s₀ : Shared) (c : Code) (fs : List Frame) (K : Flow → Sem PySem.Fin) (J : Value → Sem PySem.Fin) (gd : Bool → Bool) (lv : List Value → List Value) (s : Shared) (σ : L2.St) (H : Hp) (D : GEnds),
    GC2 X S Cs ip A c fs gd → n + ys.length = sizeLine → GK2 X S Cs ip A R c fs K J D → GI2 X S Cs s₀ ip ys σ H s → t D ys σ H →
    Seg (model X.prog X.w) A R (GY2 X S Cs) n s₀ c ((exec st X.env).wrap K J gd lv) fs s
structure GSs2 (X : Cx) (st : List Stmt) (t : TGn) : Prop where
  run : ∀ (A : Around) (S : Addr) (Cs : List Addr) (ip : List (Addr × Obj)) (R : GenEnd) (n : Nat) (ys : List V) (s₀ : Shared) (c : Code) (fs : List Frame) (K : Flow → Sem PySem.Fin) (J : Value → Sem PySem.Fin) (gd : Bool → Bool) (lv : List Value → List Value) (s : Shared) (σ : L2.St) (H : Hp) (D : GEnds),
    GC2 X S Cs ip A c fs gd → n + ys.length = sizeLine → GK2 X S Cs ip A R c fs K J D → GI2 X S Cs s₀ ip ys σ H s → t D ys σ H →
    Seg (model X.prog X.w) A R (GY2 X S Cs) n s₀ c ((execs st X.env).wrap K J gd lv) fs s
section
variable {X : Cx} {st : Stmt} {rest : List Stmt}
theorem sp_gsp2 {S : Addr} {Cs : List Addr} {s₀ : Shared} {acc : Array Value} {c : Nat} {ip : List (Addr × Obj)} {s : Shared} {D : GEnds} {ys : List V} {f : Flow} (r : Vals ys acc.toList) (hC : ∀ b ∈ Cs, ∃ o, s₀.heap.get? b = some o ∧ ∀ v, o.data ≠ .cell v)
    (h : SP X ((S, lstObj acc c) :: (pinsAt Cs s₀.heap ++ ip)) (D.at ys) f s) : GSP2 X S Cs s₀ ip D ys f s := by
  cases f with
  | next => obtain ⟨σ, H, I, q⟩ := h; exact ⟨σ, H, ⟨acc, c, r, I, hC⟩, q⟩
  | brk => obtain ⟨σ, H, I, q⟩ := h; exact ⟨σ, H, ⟨acc, c, r, I, hC⟩, q⟩
  | cont => obtain ⟨σ, H, I, q⟩ := h; exact ⟨σ, H, ⟨acc, c, r, I, hC⟩, q⟩
  | ret u => obtain ⟨v, σ, H, I, r1, q⟩ := h; exact ⟨v, σ, H, ⟨acc, c, r, I, hC⟩, r1, q⟩
theorem gs2_ps {t : TS} (h : PS X st t) : GS2 X st (tPlain t) := by
  refine ⟨fun A S Cs ip R n ys s₀ c fs K J gd lv s σ H D g hn k hI ht => ?_⟩
  obtain ⟨acc, cc, r, I, hC⟩ := hI
  refine seg_wrap ?_
  rw [g.over]
  exact wpAny_mono (h.run _ s σ H (D.at ys) I ht) (fun f s' hs => k.ok n ys s₀ s' f hn (sp_gsp2 r hC hs)) fun x s' hx => k.exc n s₀ x s' hx
theorem gss2_pss {t : TS} (h : PSs X rest t) : GSs2 X rest (tPlain t) := by
  refine ⟨fun A S Cs ip R n ys s₀ c fs K J gd lv s σ H D g hn k hI ht => ?_⟩
  obtain ⟨acc, cc, r, I, hC⟩ := hI
  refine seg_wrap ?_
  rw [g.over]
  exact wpAny_mono (h.run _ s σ H (D.at ys) I ht) (fun f s' hs => k.ok n ys s₀ s' f hn (sp_gsp2 r hC hs)) fun x s' hx => k.exc n s₀ x s' hx
theorem gss2_nil : GSs2 X [] tG0 := by
  refine ⟨fun A S Cs ip R n ys s₀ c fs K J gd lv s σ H D g hn k hI ht => ?_⟩
  exact seg_execs_nil (k.ok n ys s₀ s .next hn ⟨σ, H, hI, ht⟩)
theorem gss2_cons {t u : TGn} (a : GS2 X st t) (b : GSs2 X rest u) : GSs2 X (st :: rest) (tGThen t u) := by
  refine ⟨fun A S Cs ip R n ys s₀ c fs K J gd lv s σ H D g hn k hI ht => ?_⟩
  refine seg_execs_cons ?_
  refine a.run A S Cs ip R n ys s₀ c fs _ J gd lv s σ H { D with nx := fun ys' σ' H' => u D ys' σ' H' } g hn ⟨fun n' ys' s₀' s' f hn' hs => ?_, k.exc⟩ hI ht
  cases f with
  | next =>
    obtain ⟨σ', H', I', q⟩ := hs
    exact b.run A S Cs ip R n' ys' s₀' c fs K J gd lv s' σ' H' D g hn' k I' q
  | brk => exact k.ok n' ys' s₀' s' .brk hn' hs
  | cont => exact k.ok n' ys' s₀' s' .cont hn' hs
  | ret u => exact k.ok n' ys' s₀' s' (.ret u) hn' hs
theorem gs2_yield {e : Expr} {yp pos : Pos} {te : TE} (he : PE X e te) (hco : X.env.scope.isCoroutine = false := by rfl) (hi : interactive X.env = false := by rfl) : GS2 X (.Expr (.Yield (some e) yp) pos) (tGYield te) := by
  refine ⟨fun A S Cs ip R n ys s₀ c fs K J gd lv s σ H D g hn k hI ht => ?_⟩
  obtain ⟨hlt, ht⟩ := ht
  obtain ⟨n, rfl⟩ : ∃ m, n = m + 1 := ⟨n - 1, by omega⟩
  obtain ⟨acc, cc, r, I, hC⟩ := hI
  refine seg_Expr_Yield g.split g.gd g.guard ?_ hco hi
  rw [g.over]
  refine wpAny_mono (he.run _ s σ H _ I ht) (fun v s' hv => ?_) fun x s' hx => k.exc _ s₀ x s' hx
  obtain ⟨x, H1, I1, rv, q⟩ := hv
  have G1 : GI2 X S Cs s₀ ip ys σ H1 s' := ⟨acc, cc, r, I1, hC⟩
  intro kap hk
  refine ⟨ys, x, ip, σ, H1, hn, rv, G1, fun s'' z => hk .none s'' ?_⟩
  refine k.ok n (ys ++ [x]) s'' s'' .next ?_ ⟨σ, H1, G1.woken g.dis g.pn g.ip g.apart rv z, q⟩
  rw [List.length_append, List.length_singleton]; omega
end
/-! #### for -/
section
variable {prog : Program} {w : World} {A : Around} {R : GenEnd} {Y : Protocol} {n : Nat} {s₀ : Shared} {c : Code} {fs : List Frame} {s : Shared} {env : Env} {K : Flow → Sem PySem.Fin} {J : Value → Sem PySem.Fin} {gd : Bool → Bool} {lv : List Value → List Value}
abbrev noted (env : Env) (x : Value) : Sem PySem.Fin := (do noteFrame x env; theTreesLotGoes x : Sem Unit).bind fun _ => .raise x
theorem seg_For {target iter : Expr} {body : List Stmt} {pos : Pos}
    (h : wpAny (model prog w) (A.over c fs) (eval iter env) (fun v s1 => wpAny (model prog w) (A.over c fs) (pyIter v) (fun it s2 => ∀ p, Seg (model prog w) A R Y n s₀ (.forLoop target it body [] env) ((model prog w).den (.forLoop target it body [] env))
      (.ret (fun r => ((match r with | .ok f => (.pure f : Sem Flow) | .error e => .raise e).onRaise (cameBack env)).wrap K J gd lv) none (gd false) (lv []) c p [] :: fs) s2)
        (fun x s' => Seg (model prog w) A R Y n s₀ c (J x) fs s') s1) (fun x s' => Seg (model prog w) A R Y n s₀ c (J x) fs s') s)
    (hs : ∀ x, foldedSetIterable iter env x = pure x) :
    Seg (model prog w) A R Y n s₀ c ((exec (.For target iter body [] pos) env).wrap K J gd lv) fs s := by
  rw [exec_For]
  refine seg_bind_wrap (wpAny_standAt ?_)
  refine seg_bind_wrap (wpAny_mono h (fun v s1 h1 => ?_) fun _ _ z => z)
  refine seg_bind_wrap (wpAny_of_eq (hs v) ?_)
  refine seg_bind_wrap (wpAny_standAt ?_)
  refine seg_bind_wrap (wpAny_holding (wpAny_mono h1 (fun it s2 h2 => ?_) fun _ _ z => z))
  exact seg_call h2
theorem seg_forLoop {target : Expr} {it : Value} {body : List Stmt}
    (h : wpAny (model prog w) (A.over (.forLoop target it body [] env) fs) (pyNext it) (fun r s1 => match r with
      | none => Seg (model prog w) A R Y n s₀ (.block [] env) ((model prog w).den (.block [] env)) fs s1
      | some v => wpAny (model prog w) (A.over (.forLoop target it body [] env) fs) (letOwnedTupleGo target it v) (fun _ s2 => wpAny (model prog w) (A.over (.forLoop target it body [] env) fs) (assign target env v) (fun _ s3 =>
          Seg (model prog w) A R Y n s₀ (.forLoop target it body [] env) ((execs body env).wrap (fun f => match f with
            | .next | .cont => .pure (.again (.forLoop target it body [] env))
            | .brk => .pure (.done .next)
            | .ret v => .pure (.done (.ret v))) (noted env) id id) fs s3)
          (fun x s' => Seg (model prog w) A R Y n s₀ (.forLoop target it body [] env) (noted env x) fs s') s2) (fun x s' => Seg (model prog w) A R Y n s₀ (.forLoop target it body [] env) (noted env x) fs s') s1)
      (fun x s' => Seg (model prog w) A R Y n s₀ (.forLoop target it body [] env) (noted env x) fs s') s) :
    Seg (model prog w) A R Y n s₀ (.forLoop target it body [] env) ((model prog w).den (.forLoop target it body [] env)) fs s := by
  show Seg _ A R Y n s₀ _ ((forTurn target it body [] env).onRaise (fun x => do noteFrame x env; theTreesLotGoes x)) fs s
  unfold forTurn
  rw [Sem.onRaise_eq_wrap]
  refine seg_bind_wrap (wpAny_standAt ?_)
  refine seg_bind_wrap (wpAny_onRaise (wpAny_mono h (fun r s1 h1 => ?_) fun _ _ h' => wpAny_standAt h'))
  cases r with
  | none => exact seg_again rfl h1
  | some v =>
    refine seg_bind_wrap (wpAny_mono h1 (fun _ s2 h2 => ?_) fun _ _ z => z)
    refine seg_bind_wrap (wpAny_mono h2 (fun _ s3 h3 => ?_) fun _ _ z => z)
    rw [Sem.bind_eq_wrap', Sem.wrap_wrap]
    rw [Sem.wrap_congr (execs body env) _ _ (K' := fun f => match f with
            | .next | .cont => .pure (.again (.forLoop target it body [] env))
            | .brk => .pure (.done .next)
            | .ret v => .pure (.done (.ret v))) (H' := noted env) (fun f => by cases f <;> rfl) (fun e => by first | rfl | exact Sem.bind_eq_wrap _ _)]
    exact h3
end
end G2

set_option Elab.async false
set_option linter.all false
set_option autoImplicit false
set_option maxRecDepth 100000
set_option maxHeartbeats 4000000
namespace G2
open PySem PySem.Spec PyProof.Rows L2 GenW
/-- for, around yields -/
def tGFor (wi : TI) (g : TG) (tb : TGn) : TGn := fun D ys σ H => wi σ H fun J H1 => ∃ W : Nat → Nat → List V → L2.St → Hp → Prop, (∃ m, W 0 m ys σ H1) ∧ ∀ i m ys σ H, W i m ys σ H →
  (J.stop i H ∧ D.nx ys σ H) ∨ (J.go i H ∧ ∃ N : List V → L2.St → Hp → Prop, (∀ ys' σ' H', N ys' σ' H' → ∃ m', m' < m ∧ W (i + 1) m' ys' σ' H') ∧ ∀ x H', J.yld i H x H' → g x σ H' fun σ2 H2 => tb { D with nx := N, ct := N, bk := D.nx } ys σ2 H2)
section
variable {X : Cx}
theorem gc_loop2 {S : Addr} {Cs : List Addr} {ip ip' : List (Addr × Obj)} {A : Around} {c c' : Code} {fs : List Frame} {gd : Bool → Bool} {k : Result → Sem PySem.Fin} {l kp : List Value} {p : Pos} (g : GC2 X S Cs ip A c fs gd) (hip : ∀ p ∈ ip', p.1 ∉ S :: Cs) (hw : c'.weight = 0) (hu : c'.cUnits = 0) :
    GC2 X S Cs ip' A c' (.ret k none (gd false) l c p kp :: fs) id where
  dis := g.dis
  pn := g.pn
  ip := hip
  apart := g.apart
  over := (over_loop hw hu).trans g.over
  split := by
    show (splitAtGen fs).map _ = none
    rw [g.split]; rfl
  guard := by
    show (gd false || fs.any Frame.guarded) = false
    rw [g.gd, g.guard]; rfl
  gd := rfl
theorem seg_back {S : Addr} {Cs : List Addr} {ip : List (Addr × Obj)} {A : Around} {R : GenEnd} {c : Code} {fs : List Frame} {K : Flow → Sem PySem.Fin} {J : Value → Sem PySem.Fin} {gd : Bool → Bool} {lv : List Value → List Value} {D : GEnds} {n : Nat} {s₀ s : Shared} {e : Value}
    (g : GC2 X S Cs ip A c fs gd) (k : GK2 X S Cs ip A R c fs K J D) (h : cameBackBy (model X.prog X.w) X.A X.env X.xe e s) :
    Seg (model X.prog X.w) A R (GY2 X S Cs) n s₀ c (((Sem.raise e : Sem Flow).onRaise (cameBack X.env)).wrap K J gd lv) fs s := by
  show Seg _ _ _ _ _ _ _ (((cameBack X.env e).bind fun _ => (Sem.raise e : Sem Flow)).wrap K J gd lv) _ _
  rw [Sem.bind_eq_wrap, Sem.wrap_wrap]
  refine seg_wrap ?_
  rw [g.over]
  exact wpAny_mono h (fun _ s' hx => k.exc n s₀ e s' hx) fun x s' hx => k.exc n s₀ x s' hx
theorem gs2_for {tg iter : Expr} {body : List Stmt} {wi : TI} {g : TG} {tb : TGn} {pos : Pos} (hp : PassesOwn (model X.prog X.w) X.A X.env X.xe) (hc : X.calm = true) (hi : PI X tg iter wi) (hg : PG X tg g) (hb : GSs2 X body tb)
    (hs : ∀ x, foldedSetIterable iter X.env x = pure x := by intro _; rfl) : GS2 X (.For tg iter body [] pos) (tGFor wi g tb) := by
  refine ⟨fun A S Cs ip R n ys s₀ c fs K J gd lv s σ H D gc hn k hI h => ?_⟩
  obtain ⟨acc0, cc0, r0, I, hC0⟩ := hI
  refine seg_For ?_ hs
  rw [gc.over]
  refine wpAny_mono (hi.run _ s σ H _ I h) (fun v s1 h1 => wpAny_mono h1 (fun itv s2 h2 p => ?_) fun x s' hx => k.exc n s₀ x s' hx) fun x s' hx => k.exc n s₀ x s' hx
  obtain ⟨it, fp, tn, J', H2, e, I2, T, st2, f2, W, ⟨m0, w0⟩, turn⟩ := h2
  subst e
  -- the iterator's own objects are none of the consumer's
  have fS : ∀ b ∈ fp, b ∉ S :: Cs := fun b hb z => by
    obtain ⟨_, _, _, _, _, f6⟩ := f2 b hb
    rcases List.mem_cons.mp z with z | z
    · exact f6 (S, lstObj acc0 cc0) (List.mem_append_right _ List.mem_cons_self) z.symm
    · obtain ⟨o, e, _⟩ := hC0 b z
      exact f6 (b, o) (List.mem_append_right _ (List.mem_cons_of_mem _ (List.mem_append_left _ (mem_pinsAt z e)))) rfl
  have fI : ∀ b ∈ fp, ∀ p ∈ X.pn ++ ip, p.1 ≠ b := fun b hb p hp => by
    obtain ⟨_, _, _, _, _, f6⟩ := f2 b hb
    rcases List.mem_append.mp hp with z | z
    · exact f6 p (List.mem_append_left _ z)
    · exact f6 p (List.mem_append_right _ (List.mem_cons_of_mem _ (List.mem_append_right _ z)))
  have stat : ∀ {acc : Array Value} {cc : Nat} {s₀ : Shared} {H' : Hp}, (∀ b ∈ fp, H' b = none) → ∀ b ∈ fp, FpOk X ((S, lstObj acc cc) :: (pinsAt Cs s₀.heap ++ ip)) H' b := fun {acc cc s₀ H'} hn b hb => by
    obtain ⟨_, f2', f3, f4, f5, _⟩ := f2 b hb
    refine ⟨hn b hb, f2', f3, f4, f5, fun p hp z => ?_⟩
    rcases List.mem_append.mp hp with y | y
    · exact fI b hb p (List.mem_append_left _ y) z
    · rcases List.mem_cons.mp y with y | y
      · rw [y] at z
        exact fS b hb (by rw [← z]; exact List.mem_cons_self)
      · rcases List.mem_append.mp y with y | y
        · exact fS b hb (by rw [← z]; exact List.mem_cons_of_mem _ (of_pinsAt y).1)
        · exact fI b hb p (List.mem_append_right _ y) z
  have gl := fun (kk : Result → Sem PySem.Fin) (ip' : List (Addr × Obj)) (hip : ∀ p ∈ ip', p.1 ∉ S :: Cs) => gc_loop2 (k := kk) (c' := .forLoop tg (.ref it) body [] X.env) (l := lv []) (kp := []) (p := p) gc hip rfl rfl
  have loop : ∀ (m i n : Nat) (ys : List V) (s₀ s : Shared) (σ : L2.St) (H : Hp), n + ys.length = sizeLine → W i m ys σ H → GI2 X S Cs s₀ ip ys σ H s → tn i s.heap → (∀ b ∈ fp, H b = none) →
      Seg (model X.prog X.w) A R (GY2 X S Cs) n s₀ (.forLoop tg (.ref it) body [] X.env) ((model X.prog X.w).den (.forLoop tg (.ref it) body [] X.env))
        (.ret (fun r => ((match r with | .ok f => (.pure f : Sem Flow) | .error e => .raise e).onRaise (cameBack X.env)).wrap K J gd lv) none (gd false) (lv []) c p [] :: fs) s := by
    intro m
    induction m using Nat.strongRecOn with
    | ind m ih =>
      intro i n ys s₀ s σ H hn w hI st fr
      have ee : ∀ (n : Nat) (s₀ : Shared) (x : Value) (s' : Shared), X.xe x s' → Seg (model X.prog X.w) A R (GY2 X S Cs) n s₀ (.forLoop tg (.ref it) body [] X.env) (noted X.env x)
          (.ret (fun r => ((match r with | .ok f => (.pure f : Sem Flow) | .error e => .raise e).onRaise (cameBack X.env)).wrap K J gd lv) none (gd false) (lv []) c p [] :: fs) s' := fun n s₀ x s' hx => by
        unfold noted
        rw [Sem.bind_eq_wrap]
        refine seg_wrap ?_
        rw [(gl _ ip gc.ip).over]
        refine wpAny_bind (wpAny_mono (hp x s' hx) (fun _ s'' hcb => wpAny_theTreesLotGoes ?_) fun y s'' hcb => ?_)
        · exact seg_leaf (.error x) (seg_back gc k hcb)
        · exact seg_leaf (.error y) (seg_back gc k hcb)
      obtain ⟨acc, cc, r, I, hC⟩ := hI
      refine seg_forLoop ?_
      rw [(gl _ ip gc.ip).over]
      rcases turn i m ys σ H w with ⟨stop, qn⟩ | ⟨go, N, hN, step⟩
      · refine wpAny_mono (T.done X rfl rfl rfl hc i _ s σ H (fun _ _ => False) I (stat fr) st stop) (fun rr s1 ⟨hr, I1⟩ => ?_) fun _ _ z => z.elim
        subst hr
        exact seg_leaf (.ok .next) (k.ok n ys s₀ s1 .next hn ⟨σ, H, ⟨acc, cc, r, I1, hC⟩, qn⟩)
      · refine wpAny_mono (T.item X rfl rfl rfl hc i _ s σ H (fun _ _ => False) I (stat fr) st go) (fun rr s4 ⟨u, hr, h4⟩ => ?_) fun _ _ z => z.elim
        subst hr
        refine wpAny_mono h4 (fun _ s5 ⟨x, H5, I5, r5, y5, st5, fr5⟩ => ?_) fun _ _ z => z.elim
        have I5' := I5.pinned (stat fr5) (T.obj _ _ st5)
        refine wpAny_mono (hg.run _ s5 σ H5 x u _ I5' r5 (step x H5 y5)) (fun _ s6 ⟨σ6, H6, I6, q6⟩ => ?_) fun x s' hx => ee n s₀ x s' hx
        have ipn : ∀ p ∈ ip ++ pinsAt fp s5.heap, p.1 ∉ S :: Cs := fun p hp => (List.mem_append.mp hp).elim (gc.ip p) fun z => fS p.1 (of_pinsAt z).1
        have I6' : Inv X ((S, lstObj acc cc) :: (pinsAt Cs s₀.heap ++ (ip ++ pinsAt fp s5.heap))) σ6 H6 s6 := by
          rw [← List.append_assoc, ← List.cons_append]
          exact I6
        have less : ∀ {s₀' s7 : Shared} {ys' : List V} {σ7 : L2.St} {H7 : Hp}, GI2 X S Cs s₀' (ip ++ pinsAt fp s5.heap) ys' σ7 H7 s7 → GI2 X S Cs s₀' ip ys' σ7 H7 s7 ∧ tn (i + 1) s7.heap ∧ ∀ b ∈ fp, H7 b = none := fun {s₀' s7 ys' σ7 H7} ⟨a7, c7, r7, I7, hC7⟩ => by
          have pf : ∀ b ∈ fp, ∀ o, s5.heap.get? b = some o → s7.heap.get? b = some o ∧ H7 b = none := fun b hb o e => by
            have z := I7.pin (b, o) (List.mem_append_right _ (List.mem_cons_of_mem _ (List.mem_append_right _ (List.mem_append_right _ (mem_pinsAt hb e)))))
            exact ⟨z.1, z.2.1⟩
          refine ⟨⟨a7, c7, r7, I7.pins_of fun p hp => I7.pin p (List.mem_append_right _ ?_), hC7⟩, T.keep _ _ _ st5 fun b hb o e => (pf b hb o e).1, fun b hb => ?_⟩
          · rcases List.mem_cons.mp hp with z | z
            · rw [z]; exact List.mem_cons_self
            · rcases List.mem_append.mp z with z | z
              · exact List.mem_cons_of_mem _ (List.mem_append_left _ z)
              · exact List.mem_cons_of_mem _ (List.mem_append_right _ (List.mem_append_left _ z))
          · obtain ⟨o, e, _⟩ := T.obj _ _ st5 b hb
            exact (pf b hb o e).2
        refine hb.run A S Cs (ip ++ pinsAt fp s5.heap) R n ys s₀ _ _ _ _ id id s6 σ6 H6 { D with nx := N, ct := N, bk := D.nx } (gl _ _ ipn) hn ⟨fun n' ys' s₀' s3 f hn' hs' => ?_, fun n' s₀' x s3 hx => ee n' s₀' x s3 hx⟩ ⟨acc, cc, r, I6', hC⟩ q6
        cases f with
        | next =>
          obtain ⟨σ3, H3, I3, n3⟩ := hs'
          obtain ⟨m', hm, w3⟩ := hN ys' σ3 H3 n3
          obtain ⟨i1, i2, i3⟩ := less I3
          exact seg_again rfl (ih m' hm (i + 1) n' ys' s₀' s3 σ3 H3 hn' w3 i1 i2 i3)
        | cont =>
          obtain ⟨σ3, H3, I3, n3⟩ := hs'
          obtain ⟨m', hm, w3⟩ := hN ys' σ3 H3 n3
          obtain ⟨i1, i2, i3⟩ := less I3
          exact seg_again rfl (ih m' hm (i + 1) n' ys' s₀' s3 σ3 H3 hn' w3 i1 i2 i3)
        | brk =>
          obtain ⟨σ3, H3, I3, n3⟩ := hs'
          exact seg_leaf (.ok .next) (k.ok n' ys' s₀' s3 .next hn' ⟨σ3, H3, (less I3).1, n3⟩)
        | ret v =>
          obtain ⟨v3, σ3, H3, I3, r3, n3⟩ := hs'
          exact seg_leaf (.ok (.ret v)) (k.ok n' ys' s₀' s3 (.ret v) hn' ⟨v3, σ3, H3, (less I3).1, r3, n3⟩)
  exact loop m0 0 n ys s₀ s2 σ H2 hn w0 ⟨acc0, cc0, r0, I2, hC0⟩ st2 fun b hb => (f2 b hb).1
end
end G2

set_option Elab.async false
set_option linter.all false
set_option autoImplicit false
set_option maxRecDepth 100000
set_option maxHeartbeats 4000000
namespace G2
open PySem PySem.Spec PyProof.Rows L2 GenW
/-- an item is handed out -/
def YItem2 (s : Shared) (S : Addr) (Cs : List Addr) (a : Addr) (g : Nat) : Protocol := fun n s₀ v s1 kap =>
  s1.os = s.os ∧ AllBare s1.gens ∧ s1.heap.NoLimit ∧ s1.heap.IsGen a g ∧ (∃ (acc : Array Value) (c : Nat), s1.heap.get? S = some (lstObj acc c) ∧ n + 1 + acc.size = sizeLine) ∧ (∀ b ∈ Cs, ∀ o, s₀.heap.get? b = some o → s1.heap.get? b = some o) ∧
    ∀ s', Slept2 S Cs v s1 s' → kap (.send .none) s'
/-- the end of a run -/
def REnd2 (P : Program) (w : World) (outer : List Env) (H : Hp) (s : Shared) (ex : List Addr) (S : Addr) (Cs : List Addr) (a : Addr) (g : Nat) (Q : List V → Hp → Prop) (E : XK) : GenEnd := fun n s₀ r s1 =>
  ((r = .ok (.ret .none) ∨ r = .ok .next) ∧ (∃ H' ys acc c, s1.os = s.os ∧ AllBare s1.gens ∧ Un (frs outer) ex H H' s.heap s1.heap ∧ HOk P w H' s1.heap ∧ H' S = none ∧ (∀ b ∈ Cs, H' b = none) ∧ s1.heap.get? S = some (lstObj acc c) ∧ Vals ys acc.toList ∧ ys.length ≤ sizeLine ∧ Q ys H') ∧
    ∀ b ∈ Cs, ∀ o, s₀.heap.get? b = some o → s1.heap.get? b = some o) ∨
  ∃ e, r = .error e ∧ CX P w outer H s E e s1 ∧ s1.heap.IsGen a g
/-- what a call of a generator def gives -/
def GMade2 (P : Program) (w : World) (k : Nat) (outer : List Env) (H : Hp) (s : Shared) (ex : List Addr) (Q : List V → Hp → Prop) (E : XK) (u : Value) (s' : Shared) : Prop :=
  ∃ (a : Addr) (g : Nat) (c : Code), u = .ref a ∧ s.heap.objs.size ≤ a ∧ a < s'.heap.objs.size ∧ s'.heap.IsGen a g ∧ s'.gens[g]? = some (.fresh c) ∧ s'.os = s.os ∧ AllBare s'.gens ∧ s'.heap.NoLimit ∧ (∀ b o, s.heap.get? b = some o → s'.heap.get? b = some o) ∧
    ∀ (A : Around) (S : Addr) (Cs : List Addr) (s2 : Shared), Room k A → A.frames = some outer → S ∉ Cs → (∀ b ∈ S :: Cs, s'.heap.objs.size ≤ b) → (∀ b o, s'.heap.get? b = some o → s2.heap.get? b = some o) → (∃ c, s2.heap.get? S = some (lstObj #[] c)) →
      (∀ b ∈ Cs, ∃ o, s2.heap.get? b = some o ∧ ∀ v, o.data ≠ .cell v) → s2.os = s.os → AllBare s2.gens →
      Seg (model P w) A (REnd2 P w outer H s ex S Cs a g Q E) (YItem2 s S Cs a g) sizeLine s2 c ((model P w).den c) [] s2
structure GFn2 (P : Program) (w : World) (K : PySem.W.Frag) (mg : Str → Option Value) (base : Heap) (k : Nat) (f : Addr) (fd : FuncData) (ps : List Str) (sp : SpG) : Prop where
  len : ∀ vs H Q E, sp vs H Q E → vs.length = ps.length
  run : ∀ (A : Around) (outer : List Env) (s : Shared) (H : Hp) (args : Args) (us : List Value) (vs : List V) (Q : List V → Hp → Prop) (E : XK), Room k A → Env0 P w K mg base A outer s H → BindsTo s fd args (ps.zip us) → Vals vs us → sp vs H Q E →
    codeAny (model P w) A (.call (.ref f) args) (fun r s' => match r with | .ok (.ret u) => GMade2 P w k outer H s [] Q E u s' | _ => False) s
/-- THE RULE: a generator def, by its body -/
theorem gfn2_of {P : Program} {w : World} {K : PySem.W.Frag} {mg : Str → Option Value} {base : Heap} {k : Nat} {f : Addr} {name qual : Str} {params : Arguments} {body : List Stmt} {scope : Scope} {dV kV doc pm cdv ct oc : Value} {an od : Option Addr}
    {osl : Array (Option Value)} {N ps : List Str} {sp : SpG} (lk : K.lookup f = some ⟨oc, od, .func (PySem.W.fnOf name qual params body scope dV kV doc pm an cdv ct), osl⟩) (hcd : PySem.W.codeIn K cdv qual = true) (S : GScope N ps scope)
    (len : ∀ vs H Q E, sp vs H Q E → vs.length = ps.length)
    (hbody : ∀ (A : Around) (outer : List Env) (s : Shared) (H : Hp) (vs : List V) (Q : List V → Hp → Prop) (E : XK) (pn : List (Addr × Obj)), Room k (A.deeper (envOfC qual scope s.heap.objs.size f cdv)) → sp vs H Q E →
      ∃ t, GSs2 (gcxOf P w K mg base N qual scope f cdv A outer s H E pn) body t ∧ t { nx := fun ys _ H' => Q ys H', rt := fun ys v H' => v = .non ∧ Q ys H' } [] (start N vs) H) :
    GFn2 P w K mg base (k + 1) f (PySem.W.fnOf name qual params body scope dV kV doc pm an cdv ct) ps sp := by
  refine ⟨len, fun A outer s H args us vs Q E hr e0 hb r hsp => ?_⟩
  have hl := len _ _ _ _ hsp
  have KX : K.In s.heap := e0.mod.kin.keeps fun b o e => (e0.bs b o e).1
  have lim : s.heap.NoLimit := e0.mod.nolimit.keeps fun b o e => (e0.bs b o e).1
  have hkind : ∀ y ∈ ps.zip us, scope.names.lookup y.1 = some .local ∨ (scope.names.lookup y.1 = some .cell ∧ ((cellsFrom (s.heap.objs.size + 1) scope.names []).lookup y.1).isSome = true) := fun ⟨n, v⟩ hy => by
    rcases S.par n (List.of_mem_zip hy).1 with q | q
    · exact .inl q
    · exact .inr ⟨q, PySem.W.cellsFrom_some _ _ _ (.inl q)⟩
  refine codeAny_call_generator hr.depth (KX _ _ lk) rfl S.co S.gen rfl (PySem.W.codeRec_of KX hcd) (hb _ _ _ _ ?_)
  refine wpAny_newFunctionEnv_cells S.kind hkind fun env he s1 x => ?_
  subst he
  have lim1 : s1.heap.NoLimit := lim.keeps x.toInCall.keep
  refine ⟨lim1, ?_⟩
  obtain ⟨h1, tk, es1, hk1⟩ := x.done
  have os1 : s1.os = s.os := by rw [es1]
  have gen1 : s1.gens = s.gens := by rw [es1]
  have lt1 : s.heap.objs.size < s1.heap.objs.size := x.toInCall.ns.lt
  have sz1 : s.heap.objs.size ≤ s1.heap.objs.size := Nat.le_of_lt lt1
  have kp1 : ∀ b o, s.heap.get? b = some o → s1.heap.get? b = some o := x.toInCall.keep
  have main : ∀ (go : Obj) (nm qn : Value) (tk2 : Nat), go.cls = .type "generator" → go.data = .fields #[.int s1.gens.size 0, nm, qn] → go.slots = #[] → (∀ h : Heap, (h.push go).get? h.objs.size = some go) →
      GMade2 P w (k + 1) outer H s [] Q E (.ref s1.heap.objs.size) { s1 with gens := s1.gens.push (.fresh (.func body (envOfC qual scope s.heap.objs.size f cdv))), toks := tk2, heap := s1.heap.push go } := by
    intro go nm qn tk2 hgc hgd0 hgs hgp
    have hgen : ∀ h : Heap, h.get? s1.heap.objs.size = some go → h.IsGen s1.heap.objs.size s1.gens.size := fun h e => ⟨go, nm, qn, e, hgc, hgd0, hgs⟩
    have hpushed : (s1.heap.push go).get? s1.heap.objs.size = some go := hgp _
    refine ⟨s1.heap.objs.size, s1.gens.size, _, rfl, sz1, ?_, hgen _ hpushed, Array.getElem?_push_size .., os1, ?_, lim1.keeps fun b o e => Heap.get?_push_of_some _ e, fun b o e => Heap.get?_push_of_some _ (kp1 b o e), ?_⟩
    · show _ < (s1.heap.push _).objs.size
      rw [Heap.size_push]; exact Nat.lt_succ_self _
    · exact AllBare.push (by rw [gen1]; exact e0.bare) rfl
    intro Aw Sx Cs s2 hrw hfr hdis hSx hk2 hSo hCo hos hba
    have e0w : Env0 P w K mg base Aw outer s H := ⟨hfr, e0.mod, e0.bs, e0.bsz, e0.funs, e0.frf, e0.hok, e0.bare⟩
    obtain ⟨t, ht, hq⟩ := hbody Aw outer s H vs Q E [(s1.heap.objs.size, go)] (hrw.deeper _) hsp
    have I1 : Inv (gcxOf P w K mg base N qual scope f cdv Aw outer s H E []) [] (start N vs) H s1 := inv_startG S hrw.hd e0w hl r x
    have kp2 : ∀ b o, s1.heap.get? b = some o → s2.heap.get? b = some o := fun b o e => hk2 b o (Heap.get?_push_of_some _ e)
    have I2 : Inv (gcxOf P w K mg base N qual scope f cdv Aw outer s H E []) [] (start N vs) H s2 :=
      I1.call' (ch := []) (hos.trans os1.symm) (Un.kept kp2) (I1.hok.kept kp2) hba fun b z => by simp at z
    have hSz : ∀ b ∈ Sx :: Cs, s1.heap.objs.size < b := fun b hb => by
      have hSx' : (s1.heap.push go).objs.size ≤ b := hSx b hb
      rw [Heap.size_push] at hSx'
      exact hSx'
    obtain ⟨cS, heS⟩ := hSo
    have hea : s2.heap.get? s1.heap.objs.size = some go := hk2 s1.heap.objs.size go hpushed
    have hgd : ∀ v, go.data ≠ .cell v := fun v q => by rw [hgd0] at q; cases q
    have young : ∀ b, s1.heap.objs.size ≤ b → H b = none ∧ b ≠ s.heap.objs.size ∧ b ∉ frs outer ∧ s.heap.objs.size ≤ b ∧ ∀ y c, (cellsFrom (s.heap.objs.size + 1) scope.names []).lookup y = some c → c ≠ b := fun b hb => by
      refine ⟨I1.hok.fresh hb, Nat.ne_of_gt (Nat.lt_of_lt_of_le lt1 hb), I1.nofs hb, Nat.le_trans sz1 hb, fun y c e z => ?_⟩
      obtain ⟨v, ob, ho, _⟩ := I1.cell y c e
      have := Heap.lt_size ho
      rw [z] at this
      exact absurd (Nat.lt_of_lt_of_le this hb) (Nat.lt_irrefl _)
    have hG : GI2 (gcxOf P w K mg base N qual scope f cdv Aw outer s H E [(s1.heap.objs.size, go)]) Sx Cs s2 [] [] (start N vs) H s2 := by
      refine ⟨#[], cS, .nil, Inv.pinnedG I2 fun p hp => ?_, hCo⟩
      rcases List.mem_append.mp hp with z | z
      · rw [List.mem_singleton.mp z]
        obtain ⟨y1, y2, y3, _, _⟩ := young s1.heap.objs.size (Nat.le_refl _)
        exact ⟨hea, y1, y2, y3, hgd⟩
      · rcases List.mem_cons.mp z with z | z
        · rw [z]
          obtain ⟨y1, y2, y3, _, _⟩ := young Sx (Nat.le_of_lt (hSz Sx List.mem_cons_self))
          exact ⟨heS, y1, y2, y3, fun v q => by cases q⟩
        · rw [List.append_nil] at z
          obtain ⟨hb, e⟩ := of_pinsAt z
          obtain ⟨o, e', d⟩ := hCo p.1 hb
          rw [e] at e'
          cases e'
          obtain ⟨y1, y2, y3, _, _⟩ := young p.1 (Nat.le_of_lt (hSz p.1 (List.mem_cons_of_mem _ hb)))
          exact ⟨e, y1, y2, y3, d⟩
    have hAp : ∀ b ∈ Sx :: Cs, Apart (gcxOf P w K mg base N qual scope f cdv Aw outer s H E [(s1.heap.objs.size, go)]) b := fun b hb => by
      obtain ⟨_, y2, _, y4, y5⟩ := young b (Nat.le_of_lt (hSz b hb))
      exact ⟨y4, y2, y5⟩
    have hpn : ∀ p ∈ [(s1.heap.objs.size, go)], p.1 ∉ Sx :: Cs := fun p hp z => by
      rw [List.mem_singleton.mp hp] at z
      exact Nat.lt_irrefl _ (hSz _ z)
    have pinned : ∀ {ip : List (Addr × Obj)} {ys : List V} {s₀' s' : Shared} {σ' : L2.St} {H' : Hp}, GI2 (gcxOf P w K mg base N qual scope f cdv Aw outer s H E [(s1.heap.objs.size, go)]) Sx Cs s₀' ip ys σ' H' s' → s'.heap.IsGen s1.heap.objs.size s1.gens.size := fun {ip ys s₀' s' σ' H'} hI => by
      obtain ⟨acc, cc, _, J, _⟩ := hI
      exact hgen _ (J.pin (s1.heap.objs.size, go) (List.mem_append_left _ (List.mem_singleton.mpr rfl))).1
    refine seg_func ?_
    refine seg_imp (R := GR2 (gcxOf P w K mg base N qual scope f cdv Aw outer s H E [(s1.heap.objs.size, go)]) Sx Cs (fun ys v H' => v = .non ∧ Q ys H') fun e s' => CX P w outer H s E e s' ∧ ∀ p ∈ [(s1.heap.objs.size, go)], s'.heap.get? p.1 = some p.2)
      (Y := GY2 (gcxOf P w K mg base N qual scope f cdv Aw outer s H E [(s1.heap.objs.size, go)]) Sx Cs) (fun n s₀ r s1' hR => ?_) (fun n s₀ v s1' kap kap' hkk hY => ?_) sizeLine ?_
    · cases r with
      | error e =>
        obtain ⟨q1, q2⟩ := hR
        exact .inr ⟨e, rfl, q1, hgen _ (q2 (s1.heap.objs.size, go) (List.mem_singleton.mpr rfl))⟩
      | ok fl =>
        cases fl with
        | next => exact False.elim hR
        | brk => exact False.elim hR
        | cont => exact False.elim hR
        | ret u =>
          obtain ⟨ys, v, ip, σ', H', hn, hI, rv, ev, hQ⟩ := hR
          subst ev
          have eu : u = Value.none := rv
          subst eu
          obtain ⟨a1, _, _, acc, cc, ra, ea⟩ := hI.list
          have hO := fun b hb => hI.oth (b := b) hb
          obtain ⟨_, _, _, J, _⟩ := hI
          refine .inl ⟨.inl rfl, ⟨H', ys, acc, cc, J.os, J.bare, J.base, J.hok, a1, fun b hb => (hO b hb).1, ea, ra, by omega, hQ⟩, fun b hb o e => ?_⟩
          obtain ⟨_, _, _, o', e1, e2, _⟩ := hO b hb
          rw [e] at e1
          cases e1
          exact e2
    · obtain ⟨ys, xx, ip, σ', H', hn, h2, hI, h3⟩ := hY
      obtain ⟨_, _, _, acc, cc, ra, ea⟩ := hI.list
      have hg := pinned hI
      have hO := fun b hb => hI.oth (b := b) hb
      obtain ⟨_, _, _, J, _⟩ := hI
      have hsz : acc.size = ys.length := by
        have e1 := ra.length
        have e2 : acc.toList.length = acc.size := by simp
        omega
      refine ⟨J.os, J.bare, J.nolimit, hg, ⟨acc, cc, ea, by rw [hsz]; exact hn⟩, fun b hb o e => ?_, fun s' z => hkk _ _ (h3 s' z)⟩
      obtain ⟨_, _, _, o', e1, e2, _⟩ := hO b hb
      rw [e] at e1
      cases e1
      exact e2
    · refine ht.run Aw Sx Cs [] _ sizeLine [] s2 _ [] _ _ id id s2 (start N vs) H _ ⟨hdis, hpn, fun p hp => (by simp at hp), hAp, over_func, rfl, rfl, rfl⟩ (Nat.add_zero _) ⟨fun n ys s₀ s' fl hn hs => ?_, fun n s₀ e s' hx => ?_⟩ hG hq
      · cases fl with
        | next =>
          obtain ⟨σ', H', hI, hQ⟩ := hs
          exact seg_end (.ok (.ret .none)) ⟨ys, .non, [], σ', H', hn, hI, rfl, rfl, hQ⟩
        | brk => obtain ⟨_, _, _, q⟩ := hs; exact False.elim q
        | cont => obtain ⟨_, _, _, q⟩ := hs; exact False.elim q
        | ret u =>
          obtain ⟨v, σ', H', hI, rv, ev, hQ⟩ := hs
          exact seg_end (.ok (.ret u)) ⟨ys, v, [], σ', H', hn, hI, rv, ev, hQ⟩
      · refine seg_wrap ?_
        rw [over_func]
        refine wpAny_mono (show wpAny (model P w) (Aw.deeper (envOfC qual scope s.heap.objs.size f cdv)) (leaving (envOfC qual scope s.heap.objs.size f cdv) e) (fun _ s'' => CX P w outer H s E e s'' ∧ ∀ p ∈ [(s1.heap.objs.size, go)], s''.heap.get? p.1 = some p.2) (fun _ _ => False) s' from hx) (fun _ s'' q => ?_) fun _ s'' q => q.elim
        exact seg_end (.error e) q
  exact main _ _ _ _ rfl rfl rfl fun h => Heap.get?_push_size _ rfl
/-- with nothing but the list: as the kit tells it -/
theorem GMade2.made {P : Program} {w : World} {k : Nat} {outer : List Env} {H : Hp} {s : Shared} {ex : List Addr} {Q : List V → Hp → Prop} {E : XK} {u : Value} {s' : Shared} (h : GMade2 P w k outer H s ex Q E u s') : GMade P w k outer H s ex Q E u s' := by
  obtain ⟨a, g, c, e1, e2, e3, e4, e5, e6, e7, e8, e9, run⟩ := h
  refine ⟨a, g, c, e1, e2, e3, e4, e5, e6, e7, e8, e9, fun A S s2 hr hf hS hk ho hos hb => ?_⟩
  refine seg_imp (fun _ _ _ _ z => z.imp (fun ⟨a, ⟨H', ys, acc, c, b1, b2, b3, b4, b5, _, b6⟩, _⟩ => ⟨a, H', ys, acc, c, b1, b2, b3, b4, b5, b6⟩) id) (fun n s₀ v s1 kap kap' hkk hY => ?_) sizeLine (run A S [] s2 hr hf (fun z => nomatch z) (fun b hb => by rw [List.mem_singleton.mp hb]; exact hS) hk ho (fun b hb => nomatch hb) hos hb)
  obtain ⟨y1, y2, y3, y4, y5, _, y6⟩ := hY
  exact ⟨y1, y2, y3, y4, y5, fun s' z => hkk _ _ (y6 s' ⟨z.os, z.bare, fun b o n _ e => z.keep b o n e, z.own, fun b hb => nomatch hb⟩)⟩
theorem GFn2.gfn {P : Program} {w : World} {K : PySem.W.Frag} {mg : Str → Option Value} {base : Heap} {k : Nat} {f : Addr} {fd : FuncData} {ps : List Str} {sp : SpG} (h : GFn2 P w K mg base k f fd ps sp) : GFn P w K mg base k f fd ps sp :=
  ⟨h.len, fun A outer s H args us vs Q E hr e0 hb r hsp => codeAny_mono (h.run A outer s H args us vs Q E hr e0 hb r hsp) fun r s' z => match r, z with
    | .ok (.ret u), z => z.made
    | .ok .next, z => z
    | .ok .brk, z => z
    | .ok .cont, z => z
    | .error e, z => z⟩
/-- an expression whose value is a generator that has not begun -/
structure PGen2 (X : Cx) (k : Nat) (e : Expr) (tg : TGen) (E : XK) : Prop where
  run : ∀ (pins : List (Addr × Obj)) (s : Shared) (σ : L2.St) (H : Hp) (cont : List V → Hp → Prop), Inv X pins σ H s → tg σ H cont → wpAny (model X.prog X.w) X.A (eval e X.env)
    (fun u s' => ∃ H1 sc ex, Inv X pins σ H1 sc ∧ ExOk X pins ex ∧ GMade2 X.prog X.w k X.stack H1 sc ex cont E u s') X.xe s
section
variable {X : Cx} {k : Nat} {f : Addr} {fd : FuncData} {ps : List Str} {sp : SpG} {ds : List Value} {dvs : List V} {x : Str} {p pos' : Pos}
theorem run_gfn2 {pins : List (Addr × Obj)} {σ : L2.St} {H : Hp} {s : Shared} {us : List Value} {vs : List V} {cont : List V → Hp → Prop} {E : XK} {E1 : Value → Shared → Prop} (F : GFn2 X.prog X.w X.K X.mg X.base k f fd ps sp) (hr : Room k X.A) (hb : Binds X.K fd ps ds) (hd : Vals dvs ds)
    (I : Inv X pins σ H s) (r : Vals vs us) (h : sp (vs ++ dvs) H cont E) :
    wpAny (model X.prog X.w) X.A (call (.ref f) us) (fun u s' => ∃ H1 sc ex, Inv X pins σ H1 sc ∧ ExOk X pins ex ∧ GMade2 X.prog X.w k X.stack H1 sc ex cont E u s') E1 s := by
  have r2 : Vals (vs ++ dvs) (us ++ ds) := r.append hd
  have hl2 : (us ++ ds).length = ps.length := by rw [← r2.length]; exact F.len _ _ _ _ h
  refine wpAny_call (codeAny_mono (F.run X.A X.stack s H ⟨us, []⟩ (us ++ ds) (vs ++ dvs) cont E hr I.env0 (hb s us I.kIn hl2) r2 h) fun r s' hq => ?_)
  cases r with
  | error e => exact False.elim hq
  | ok fl =>
    cases fl with
    | ret u => exact ⟨H, s, [], I, .nil, hq⟩
    | next => exact False.elim hq
    | brk => exact False.elim hq
    | cont => exact False.elim hq
/-- f(e, ..) of a generator def -/
theorem pgen2_call {E : XK} {e : Expr} {es : List Expr} {t : TA} (F : GFn2 X.prog X.w X.K X.mg X.base k f fd ps sp) (hr : Room k X.A) (hg : Gl X x) (hm : X.mg x = some (.ref f)) (hk : PySem.W.keepIn X.K (.ref f) = true) (hb : Binds X.K fd ps ds) (hd : Vals dvs ds)
    (ha : PA X (e :: es) t) (hdb : (x == ("__debug__" : Str)) = false := by decide) (he : starEach (e :: es) X.env = (false, eval e X.env) :: starEach es X.env := by rfl) (hpl : (backTo pos' (starEach es X.env)).any (·.1) = false := by rfl) :
    PGen2 X k (.Call (.Name x p) (e :: es) [] pos') (tCallG sp dvs E t) E := by
  refine ⟨fun pins s σ H cont I h => ?_⟩
  refine wpAny_Call_Name_kw (ld_glob I hg hm ?_ hdb)
  refine PySem.W.callWith_K (h₀ := X.base) I.ok.mod.kin hk (thn (ha.run pos' pins s σ H _ I h) fun us s1 ⟨vs, H1, I1, r, q⟩ => ⟨I1.kIn, ?_⟩) he hpl
  exact run_gfn2 F hr hb hd I1 r q
theorem PGen2.pgen {e : Expr} {tg : TGen} {E : XK} (h : PGen2 X k e tg E) : PGen X k e tg E := ⟨fun pins s σ H cont I ht => wpAny_mono (h.run pins s σ H cont I ht) (fun u s' ⟨H1, sc, ex, a, b, c⟩ => ⟨H1, sc, ex, a, b, c.made⟩) fun _ _ z => z⟩
end
end G2

set_option Elab.async false
set_option linter.all false
set_option autoImplicit false
set_option maxRecDepth 100000
set_option maxHeartbeats 4000000
namespace G2
open PySem PySem.Spec PyProof.Rows L2 GenW
theorem pushCells_none : ∀ (names : List (Str × NameKind)) (h : Heap), (∀ y ∈ names, y.2 ≠ .cell) → pushCells h names = h
  | [], _, _ => rfl
  | (x, kind) :: r, h, hn => by
    unfold pushCells
    have : (kind == NameKind.cell) = false := by
      have := hn (x, kind) List.mem_cons_self
      cases kind <;> first | rfl | exact absurd rfl this
    rw [this]
    exact pushCells_none r h fun y hy => hn y (List.mem_cons_of_mem _ hy)
section
variable {X : Cx} {k : Nat}
theorem lcGen_core {pins : List (Addr × Obj)} {s : Shared} {σ : L2.St} {H : Hp} {Q : VK} {use : Option (Value → Sem Unit)} {Qf : Value → Shared → Prop} {x : Str} {p1 p2 pos pos' : Pos} {e : Expr} {scope : Scope} {tg : TGen} {E : XK} (I : Inv X pins σ H s) (h : PGen2 X k e tg E) (hE : ∀ cls d H, ¬ E cls d H) (hr : Room (k + 3) X.A) (hk : scope.kind = .function) (hn : ∀ y ∈ scope.names, y.2 ≠ .free ∧ y.2 ≠ .cell) (hx : scope.names.lookup x = some .local)
    (hu : ∀ y ∈ scope.names, scope.names.lookup y.1 = some y.2) (hd : (x == ("__debug__" : Str)) = false) (hs : ∀ v, foldedSetIterable e X.env v = pure v) (hq : tListG tg σ H Q)
    (hRR : ∀ D C s' m H', Inv X pins σ H' s' → Q (.ref D) H' → s'.heap.Ns C m → FpOk X pins H' C → compPost (model X.prog X.w) X.A X.xe use Qf (.ref D) C (.ok .next) s') :
    wpAny (model X.prog X.w) X.A (comprehension (.ListComp (.Name x p1) [⟨.Name x p2, e, [], 0⟩] scope pos) scope X.env pos' (newList []) false (eval e X.env) use) Qf X.xe s := by
  have caps : ∀ y ∈ scope.names, y.2 = .free → ∃ c, X.env.cells.lookup y.1 = some c := fun y hy e => absurd e (hn y hy).1
  refine wpAny_comprehension_free (use := use) rfl hs (closure_ok caps) hk (fun y hy e => by rw [hu y hy, e]) (thn (h.run pins s σ H _ I hq) fun u s1 ⟨H1, sc, ex, I1, hex, hG⟩ => ?_)
  obtain ⟨a, g, cd, rfl, ha1, ha2, hg, hgs, hos, hb, hl, hkp, wake⟩ := hG
  refine wpAny_pyIter_gen hg ?_
  refine wpAny_newObj_type (newEnv_comp ?_) (by show 0 ≤ sizeLine; decide)
  rw [pushCells_none _ _ fun y hy => (hn y hy).2]
  have hD4 : ((s1.heap.push { cls := .type "list", data := .seq ([] : List Value).toArray }).push { cls := .type "dict", data := .dict #[] }).get? s1.heap.objs.size = some (lstObj #[] 0) := Heap.get?_push_of_some _ (Heap.get?_push_size _ rfl)
  have hC4 : ((s1.heap.push { cls := .type "list", data := .seq ([] : List Value).toArray }).push { cls := .type "dict", data := .dict #[] }).get? (s1.heap.push { cls := .type "list", data := .seq ([] : List Value).toArray }).objs.size = some { cls := .type "dict", data := .dict #[] } := Heap.get?_push_size _ rfl
  have nC4 := Heap.Ns.new (s1.heap.push { cls := .type "list", data := .seq ([] : List Value).toArray }) (.type "dict")
  have k4 : ∀ b o, s1.heap.get? b = some o → ((s1.heap.push { cls := .type "list", data := .seq ([] : List Value).toArray }).push { cls := .type "dict", data := .dict #[] }).get? b = some o := fun b o e => Heap.get?_push_of_some _ (Heap.get?_push_of_some _ e)
  have hCz : (s1.heap.push { cls := .type "list", data := .seq ([] : List Value).toArray }).objs.size = s1.heap.objs.size + 1 := Heap.size_push _ _
  have hscz : sc.heap.objs.size ≤ s1.heap.objs.size := Nat.le_trans ha1 (Nat.le_of_lt ha2)
  have hDa : s1.heap.objs.size ≠ a := Nat.ne_of_gt ha2
  have hcl : cStatics < s1.heap.objs.size := let ⟨_, hn, _⟩ := hl; hn.lt
  generalize hh4 : (s1.heap.push { cls := .type "list", data := .seq ([] : List Value).toArray }).push { cls := .type "dict", data := .dict #[] } = h4 at *
  generalize (s1.heap.push { cls := .type "list", data := .seq ([] : List Value).toArray }).objs.size = C at *
  generalize hD : s1.heap.objs.size = D at *
  have hDlt : D < C := by omega
  have hDC : D ≠ C := Nat.ne_of_lt hDlt
  have hscD : sc.heap.objs.size ≤ D := hscz
  have hcD : cStatics < D := hcl
  have haD : a < D := ha2
  have hCa : C ≠ a := Nat.ne_of_gt (Nat.lt_trans haD hDlt)
  show codeAny _ _ (.compStart (.ListComp (.Name x p1) [⟨.Name x p2, e, [], 0⟩] scope pos) 0 (.ref a) (.ref D) (compEnvC scope (cellsFrom (C + 1) scope.names (cloFrom X.env.cells scope.names [])) C X.env))
    (compPost (model X.prog X.w) X.A X.xe use Qf (.ref D) C) { s1 with heap := h4 }
  generalize hce : compEnvC scope (cellsFrom (C + 1) scope.names (cloFrom X.env.cells scope.names [])) C X.env = ce
  have eL : ce.locals = C := by rw [← hce]; rfl
  have eK : ce.scope.kind = .function := by rw [← hce]; exact hk
  have eX : ce.kindOf x = some .local := by rw [← hce]; exact lookup_relabel_local hx
  have fC : ∀ {H' : Hp}, H' C = none → FpOk X pins H' C := fun hn => I1.fpOk (Nat.le_trans hscD (Nat.le_of_lt hDlt)) hn
  have hdp : X.A.depth < recursionLimit := by have := hr.dp; omega
  have lp : codeAny (model X.prog X.w) X.A (.compLoop (.ListComp (.Name x p1) [⟨.Name x p2, e, [], 0⟩] scope pos) 0 (.ref a) (.ref D) ce) (compPost (model X.prog X.w) X.A X.xe use Qf (.ref D) C) { s1 with heap := h4 } := by
    refine compLoop_any (fun n t => t.heap.IsGen a g ∧ t.heap.NoLimit ∧ (∃ m, t.heap.Ns C m) ∧ ∃ gs, t.gens[g]? = some gs ∧ gs.Goes (model X.prog X.w) X.A.in1 (fun n s₀ r s₁ => ((r = .ok (.ret .none) ∨ r = .ok .next) ∧ ((∃ H' ys acc c, s₁.os = sc.os ∧ AllBare s₁.gens ∧ Un (frs X.stack) ex H1 H' sc.heap s₁.heap ∧ HOk X.prog X.w H' s₁.heap ∧ H' D = none ∧ (∀ b ∈ [C], H' b = none) ∧ s₁.heap.get? D = some (lstObj acc c) ∧ Vals ys acc.toList ∧ ys.length ≤ sizeLine ∧
        ∀ p, H' p = none → Q (.ref p) (upd H' p (.lst ys))) ∧ ∀ b ∈ [C], ∀ o, s₀.heap.get? b = some o → s₁.heap.get? b = some o)) ∨
        ∃ e, r = .error e ∧ (CX X.prog X.w X.stack H1 sc E e s₁ ∧ s₁.heap.IsGen a g)) (YItem2 sc D [C] a g) n (.send .none) (t.setGen g .running)) ?_ sizeLine ?_
    · rintro n t ⟨hg0, hl0, ⟨m0, hN0⟩, gs, hgs0, hgo⟩
      have hgl : g < t.gens.size := (Array.getElem?_eq_some_iff.mp hgs0).1
      have keepC : ∀ {h' : Heap}, (∀ b ∈ [C], ∀ o, t.heap.get? b = some o → h'.get? b = some o) → h'.Ns C m0 := fun hC => hN0.at' fun o e => hC C (List.mem_singleton.mpr rfl) o e
      refine wpAny_gsz (n := g + 1) hgl (next_genG (A := X.A) hr.hd hl0 hdp hg0 hgs0 hgo (fun v s₁ gs' hbare hv => ?_) (fun s₁ hp h' hk' => ?_) fun e s₁ he => ?_)
      · intro hsz
        obtain ⟨os1, hb1, hl1, hg1, ⟨acc, c, hS1, hasz⟩, hC1, hk1⟩ := hv
        have hN1 := keepC hC1
        obtain ⟨oC, esC, epC, hoC, hdC, _⟩ := id hN1
        cases n with
        | zero =>
          refine False.elim (hk1 { s₁ with heap := s₁.heap.update D (Obj.mapSeq (·.push v)) } ⟨rfl, hb1, fun b o hb _ e => (Heap.get?_update_other _ _ (Ne.symm hb)).trans e, fun acc' c' e => ?_, fun b hb => ?_⟩)
          · rw [hS1] at e
            cases e
            exact ⟨_, Heap.get?_update_self _ hS1 rfl⟩
          · rw [List.mem_singleton.mp hb]
            exact ⟨oC, (Heap.get?_update_other _ _ hDC).trans hoC, fun v z => by rw [hdC] at z; cases z⟩
        | succ m =>
          have hsz1 : g < s₁.gens.size := by
            have q : (s₁.setGen g gs').gens.size = s₁.gens.size := setGen_size _ _ _
            have hsz' : g + 1 ≤ (s₁.setGen g gs').gens.size := hsz
            omega
          refine wpAny_of_eq (show letOwnedTupleGo (.Name x p2) (.ref a) v = pure () from rfl) ?_
          refine wpAny_assign_Name (wpAny_storeName_local (env := ce) (m := m0) eX (by rw [eL]; exact hN1) (fun h5 hN5 hs5 => ?_) (by rw [eK]; rfl))
          rw [eL] at hN5 hs5
          refine wpAny_tests_nil ?_
          rw [if_pos rfl]
          refine wpAny_Name (wpAny_loadName_local (v := v) eK eX (by rw [eL]; exact hN5) (by simp) ?_) hd
          have hS5 : h5.get? D = some (lstObj acc c) := (hs5.2 D hDC).trans hS1
          refine append_at (hsz := by omega) hS5 fun h6 hs6 hS6 => ?_
          have k6 : ∀ b o, b ≠ D → b ≠ C → s₁.heap.get? b = some o → h6.get? b = some o := fun b o hbD hbC e => (hs6.2 b hbD).trans ((hs5.2 b hbC).trans e)
          obtain ⟨o5, es5, ep5, ho5, hd5, _⟩ := id hN5
          have ho6 : h6.get? C = some o5 := (hs6.2 C (Ne.symm hDC)).trans ho5
          refine ⟨m, Nat.lt_succ_self m, ?_, ?_, ⟨_, hN5.at' fun o e => (hs6.2 C (Ne.symm hDC)).trans e⟩, gs', setGen_at hsz1, ?_⟩
          · obtain ⟨o, nm, qn, ho, r⟩ := hg1
            exact ⟨o, nm, qn, k6 a o (Ne.symm hDa) (Ne.symm hCa) ho, r⟩
          · obtain ⟨mc, hns, hnn⟩ := hl1
            exact ⟨mc, hns.at' fun o e => k6 _ o (Nat.ne_of_lt hcD) (Nat.ne_of_lt (Nat.lt_trans hcD hDlt)) e, hnn⟩
          · refine hk1 _ ⟨rfl, ?_, fun b o hb hb2 e => k6 b o hb (fun z => hb2 (List.mem_singleton.mpr z)) e, fun acc' c' e => ?_, fun b hb => ?_⟩
            · exact allBare_setGen (s := s₁.setGen g gs') (allBare_setGen hb1 hbare) rfl
            · rw [hS1] at e
              cases e
              exact ⟨_, hS6⟩
            · rw [List.mem_singleton.mp hb]
              exact ⟨o5, ho6, fun v z => by rw [hd5] at z; cases z⟩
      · intro hsz
        obtain ⟨⟨H', ys, acc, c, os1, hb1, un, hok, hSn, hCn, hS1, hv, hle, hQ⟩, hC1⟩ := hp
        have hN1 := (keepC hC1).keeps hk'
        have hC0 : H' C = none := hCn C (List.mem_singleton.mpr rfl)
        have J := I1.drained (s' := { s₁.setGen g .finished with heap := h' }) (by omega) hle (hk' _ _ hS1) hv hex os1 (allBare_setGen hb1 rfl) (un.trans (Un.kept hk')) (hok.kept hk') hSn
        have hCu : (upd H' D (.lst ys)) C = none := by rw [upd_ne (Ne.symm hDC)]; exact hC0
        exact hRR D C _ m0 _ J (hQ D hSn) hN1 (fC hCu)
      · obtain ⟨⟨_, _, _, _, _, _, _, _, _, _, _, _, z⟩, _⟩ := he
        exact False.elim (hE _ _ _ z)
    · refine ⟨hg.keeps k4, hl.keeps k4, ⟨_, nC4⟩, _, hgs, rfl, ?_⟩
      refine wake X.A.in1 D [C] _ ⟨hr.hd, ?_, ?_⟩ I1.ok.frames (fun z => hDC (List.mem_singleton.mp z)) (fun b hb => ?_) k4 ⟨0, hD4⟩ (fun b hb => ?_) hos (allBare_setGen (s := { s1 with heap := h4 }) hb rfl)
      · have := hr.dp
        show X.A.depth + 3 * k + 5 < _
        omega
      · have := hr.un
        show X.A.units + 1 + 16 * k + 200 < _
        omega
      · rcases List.mem_cons.mp hb with z | z
        · rw [z]; omega
        · rw [List.mem_singleton.mp z]; omega
      · rw [List.mem_singleton.mp hb]
        exact ⟨_, hC4, fun v z => by cases z⟩
  exact codeAny_compStart_list lp (wpAny_pyIter_gen (hg.keeps k4) lp)
/-- [x for x in g], g a generator that has not begun -/
theorem pe_lcGen {x : Str} {p1 p2 pos : Pos} {e : Expr} {scope : Scope} {tg : TGen} {E : XK} (h : PGen2 X k e tg E) (hE : ∀ cls d H, ¬ E cls d H) (hr : Room (k + 3) X.A) (hk : scope.kind = .function) (hn : ∀ y ∈ scope.names, y.2 ≠ .free ∧ y.2 ≠ .cell) (hx : scope.names.lookup x = some .local)
    (hu : ∀ y ∈ scope.names, scope.names.lookup y.1 = some y.2) (hd : (x == ("__debug__" : Str)) = false := by decide) (hs : ∀ v, foldedSetIterable e X.env v = pure v := by intro _; rfl) : PE X (.ListComp (.Name x p1) [⟨.Name x p2, e, [], 0⟩] scope pos) (tListG tg) := by
  refine ⟨fun pins s σ H Q I hq => ?_⟩
  rw [eval_ListComp]
  refine lcGen_core I h hE hr hk hn hx hu hd hs hq fun D C s' m H' I' q hn f => ⟨m, hn, fun h'' sb => ?_⟩
  obtain ⟨f0, f1, f2, f3, f4, f5⟩ := f
  exact ⟨.ref D, H', I'.turned (t' := s'.toks) (fun b o hb e => (sb.2 b hb).trans e) f0 f1 f3 f4 f5, rfl, q⟩
/-- name = [x for x in g] -/
theorem ps_lcGen {i : Nat} {y x : Str} {py p1 p2 pos spos : Pos} {e : Expr} {scope : Scope} {tg : TGen} {E : XK} (hN : X.N.Nodup) (hy : X.N[i]? = some y) (hyl : X.env.scope.names.lookup y = some .local)
    (hsw : swapsWith (.ListComp (.Name x p1) [⟨.Name x p2, e, [], 0⟩] scope pos) (some (.Name y py)) spos.line X.env = pure true) (h : PGen2 X k e tg E) (hE : ∀ cls d H, ¬ E cls d H) (hr : Room (k + 3) X.A) (hk : scope.kind = .function) (hn : ∀ y ∈ scope.names, y.2 ≠ .free ∧ y.2 ≠ .cell) (hx : scope.names.lookup x = some .local)
    (hu : ∀ y ∈ scope.names, scope.names.lookup y.1 = some y.2) (hd : (x == ("__debug__" : Str)) = false := by decide) (hs : ∀ v, foldedSetIterable e X.env v = pure v := by intro _; rfl) :
    PS X (.Assign [.Name y py] (.ListComp (.Name x p1) [⟨.Name x p2, e, [], 0⟩] scope pos) spos) (tAsg (tListG tg) (gName i)) := by
  refine ⟨fun pins s σ H D I h0 => ?_⟩
  rw [exec_Assign_Name_used _ _ _ _ hsw]
  refine wpAny_bind (wpAny_standAt (wpAny_bind ?_))
  show wpAny _ X.A (do let _ ← comprehension (.ListComp (.Name x p1) [⟨.Name x p2, e, [], 0⟩] scope pos) scope X.env (firstIterPos [⟨.Name x p2, e, [], 0⟩] pos) (newList []) false (eval e X.env) (some (assign (.Name y py) X.env))) _ _ s
  have hq : tListG tg σ H (fun x H1 => gName i x σ H1 D.nx) := h0
  refine wpAny_bind (thn (lcGen_core (Qf := fun _ s' => SP X pins D .next s') I h hE hr hk hn hx hu hd hs hq fun L C s' m H' I' q hn f => ?_) fun _ s' hq => wpAny_pure (wpAny_pure hq))
  show wpAny _ _ (assign (.Name y py) X.env (.ref L)) _ _ _
  refine wpAny_assign_Name (store_ok2 (v := V.ref L) I' hN hy (.inl hyl) rfl (fun s2 I2 ⟨a, sb, ha⟩ => ?_) (.inr hyl))
  obtain ⟨f0, f1, f2, f3, f4, f5⟩ := f
  have haC : C ≠ a := by
    rcases ha with z | z
    · rw [z]; exact f1
    · exact fun e => f4 y a z e.symm
  refine ⟨m, hn.sameBut sb haC, fun h3 sb3 => ?_⟩
  exact ⟨_, H', I2.turned (t' := s2.toks) (fun b o hb e => (sb3.2 b hb).trans e) f0 f1 f3 f4 f5, q⟩
end
end G2

set_option Elab.async false
set_option linter.all false
set_option autoImplicit false
set_option maxRecDepth 100000
set_option maxHeartbeats 4000000
namespace G2
open PySem PySem.Spec PyProof.Rows L2 GenW Ch
theorem PS.nox' {X : Cx} {st : Stmt} {t : TS} (h : PS X.nox st t) : PS X st t := ⟨fun pins s σ H D I hw =>
  wpAny_mono (h.run pins s σ H D (I.wish _) hw) (fun _ _ q => q.unwish) fun _ _ z => False.elim z⟩
/-- a generator def, told by the head -/
theorem gen_ok {P : Program} {w : World} {K : PySem.W.Frag} {mg : Str → Option Value} {base : Heap} {x qual : Str} {params : Arguments} {body : List Stmt} {scope : Scope} {kws : List (Str × V)} {f : Addr} {fd : FuncData} {N ps : List Str} {k : Nat} {sp : SpG}
    (F : FunD K x qual params body scope [] kws f fd) (S : GScope N ps scope) (len : ∀ vs H Q E, sp vs H Q E → vs.length = ps.length)
    (hbody : ∀ (cdv : Value) (A : Around) (outer : List Env) (s : Shared) (H : Hp) (vs : List V) (Q : List V → Hp → Prop) (E : XK) (pn : List (Addr × Obj)), Room k (A.deeper (envOfC qual scope s.heap.objs.size f cdv)) → sp vs H Q E →
      ∃ t, GSs2 (gcxOf P w K mg base N qual scope f cdv A outer s H E pn) body t ∧ t { nx := fun ys _ H' => Q ys H', rt := fun ys v H' => v = .non ∧ Q ys H' } [] (start N vs) H) : GFn2 P w K mg base (k + 1) f fd ps sp := by
  obtain ⟨oc, od, dV, kV, doc, pm, an, cdv, ct, osl, rfl, lk, hcd, _, _⟩ := F.ex
  exact gfn2_of lk hcd S len fun A outer s H vs Q E pn hr hsp => hbody cdv A outer s H vs Q E pn hr hsp
/-! #### readings -/
section
variable {σ : L2.St} {H : Hp} {Q : VK} {D : GEnds} {ys : List V}
theorem x_plain {t : TS} (k : t (D.at ys) σ H) : tPlain t D ys σ H := k
theorem x_gn {N : List V → L2.St → Hp → Prop} {rt : List V → VK} {bk ct : List V → L2.St → Hp → Prop} (k : N ys σ H) : (({ nx := N, rt := rt, bk := bk, ct := ct } : GEnds).at ys).nx σ H := k
theorem x_gm {N : List V → L2.St → Hp → Prop} {rt : List V → VK} {bk ct : List V → L2.St → Hp → Prop} (k : N ys σ H) : ({ nx := N, rt := rt, bk := bk, ct := ct } : GEnds).nx ys σ H := k
theorem x_g0 (k : D.nx ys σ H) : tG0 D ys σ H := k
theorem x_gthen {t u : TGn} (k : t { D with nx := fun ys' σ' H' => u D ys' σ' H' } ys σ H) : tGThen t u D ys σ H := k
theorem x_gyield {te : TE} (h : ys.length < sizeLine) (k : te σ H fun x H1 => D.nx (ys ++ [x]) σ H1) : tGYield te D ys σ H := ⟨h, k⟩
def ForG (J : It) (g : TG) (tb : TGn) (D : GEnds) (ys : List V) (σ : L2.St) (H1 : Hp) : Prop := ∃ W : Nat → Nat → List V → L2.St → Hp → Prop, (∃ m, W 0 m ys σ H1) ∧ ∀ i m ys σ H, W i m ys σ H →
  (J.stop i H ∧ D.nx ys σ H) ∨ (J.go i H ∧ ∃ N : List V → L2.St → Hp → Prop, (∀ ys' σ' H', N ys' σ' H' → ∃ m', m' < m ∧ W (i + 1) m' ys' σ' H') ∧ ∀ x H', J.yld i H x H' → g x σ H' fun σ2 H2 => tb { D with nx := N, ct := N, bk := D.nx } ys σ2 H2)
theorem x_gfor {wi : TI} {g : TG} {tb : TGn} (k : wi σ H fun J H1 => ForG J g tb D ys σ H1) : tGFor wi g tb D ys σ H := k
theorem x_gloopR {lo : Int} {n : Nat} {g : TG} {tb : TGn} (Pv : Nat → List V → L2.St → Hp → Prop) (h0 : Pv 0 ys σ H)
    (hs : ∀ i ys σ H, i < n → Pv i ys σ H → g (.int (lo + i)) σ H fun σ2 H2 => tb { D with nx := Pv (i + 1), ct := Pv (i + 1), bk := D.nx } ys σ2 H2) (hd : ∀ ys σ H, Pv n ys σ H → D.nx ys σ H) : ForG (Itr lo n) g tb D ys σ H := by
  refine ⟨fun i m ys σ H => m = n - i ∧ i ≤ n ∧ Pv i ys σ H, ⟨n, by simp, Nat.zero_le _, h0⟩, ?_⟩
  rintro i m ys σ H ⟨rfl, hi, p⟩
  by_cases hlt : i < n
  · refine .inr ⟨hlt, Pv (i + 1), fun ys' σ' H' p' => ⟨n - (i + 1), by omega, rfl, hlt, p'⟩, fun x H' y => ?_⟩
    obtain ⟨e, y⟩ := y
    subst e y
    exact hs i ys σ _ hlt p
  · have e : i = n := by omega
    subst e
    exact .inl ⟨Nat.le_refl _, hd ys σ H p⟩
theorem x_listG {tg : TGen} (k : tg σ H fun out H2 => ∀ p, H2 p = none → Q (.ref p) (upd H2 p (.lst out))) : tListG tg σ H Q := k
theorem x_callG {sp : SpG} {dvs : List V} {E : XK} {t : TA} {cont : List V → Hp → Prop} (k : t σ H fun vs H1 => sp (vs ++ dvs) H1 cont E) : tCallG sp dvs E t σ H cont := k
end
end G2

set_option Elab.async false
set_option linter.all false
set_option autoImplicit false
set_option maxRecDepth 100000
/-! ### a generator that raises, drained by list -/
namespace ChH
open PySem PySem.Spec PyProof.Rows L2 He
/-- no StopIteration -/
def nstB (x : Str) (K : PySem.W.Frag) : Bool := decide (PySem.W.subIn K (.ref (ga K x)) (.type "StopIteration") = some false)
theorem nst_ok {K : PySem.W.Frag} {x : Str} (h : nstB x K = true) : PySem.W.subIn K (.ref (ga K x)) (.type "StopIteration") = some false := of_decide_eq_true h
end ChH
namespace G2
open PySem PySem.Spec PyProof.Rows L2 GenW Ch
/-- only this class comes out -/
def Only (C : Addr) (E : XK) : XK := fun cls d H => cls = .ref C ∧ E cls d H
theorem only_ns {K : PySem.W.Frag} {C : Addr} {E : XK} (h : PySem.W.subIn K (.ref C) (.type "StopIteration") = some false) : NoStop K (Only C E) := fun cls d H ⟨e, _⟩ => by
  rw [e]
  exact h
end G2

set_option Elab.async false
set_option linter.all false
set_option autoImplicit false
set_option maxRecDepth 100000
set_option maxHeartbeats 4000000
/-! ### isinstance and fields of a caught exception, its class told by the reading -/
namespace ChH
open PySem PySem.Spec PyProof.Rows L2 He
def kioB (x : Str) (c : PySem.W.Frag → Value) (b : Bool) (K : PySem.W.Frag) : Bool := decide (PySem.W.kitOne K (.ref (ga K x)) (c K) = some b)
theorem kio_ok {K : PySem.W.Frag} {x : Str} {c : PySem.W.Frag → Value} {b : Bool} (h : kioB x c b K = true) : PySem.W.kitOne K (.ref (ga K x)) (c K) = some b := of_decide_eq_true h
def excCB (x : Str) (K : PySem.W.Frag) : Bool :=
  decide (PySem.W.findIn K (.ref (ga K x)) "__getattribute__" = some (some (.builtin "BaseException.__getattribute__"))) && (decide (PySem.W.findIn K (.ref (ga K x)) "__getattr__" = some none) &&
  (decide (PySem.W.subIn K (.ref (ga K x)) (.type "BaseException") = some true) && (PySem.W.hasDictIn K (ga K x) && (decide (PySem.W.findIn K (.ref (ga K x)) "__class__" = some (some (.builtin "object.__class__"))) &&
  (decide (PySem.W.specialIn K (.builtin "object.__class__") "__get__" = some (some (.builtin "getset_descriptor.__get__"))) && (decide (PySem.W.takesIn K (.builtin "object.__class__") = some true) && decide (PySem.W.mroIn K (ga K x) (.type "object") = some true)))))))
theorem excC_ok {K : PySem.W.Frag} {x : Str} (h : excCB x K = true) : L2.ExcC K (ga K x) := by
  obtain ⟨h1, h⟩ := ba h
  obtain ⟨h2, h⟩ := ba h
  obtain ⟨h3, h⟩ := ba h
  obtain ⟨h4, h⟩ := ba h
  obtain ⟨h5, h⟩ := ba h
  obtain ⟨h6, h⟩ := ba h
  obtain ⟨h7, h8⟩ := ba h
  exact ⟨of_decide_eq_true h1, of_decide_eq_true h2, of_decide_eq_true h3, h4, of_decide_eq_true h5, of_decide_eq_true h6, of_decide_eq_true h7, of_decide_eq_true h8⟩
def tptB (x : Str) (K : PySem.W.Frag) : Bool := match K.lookup (ga K x) with
  | some ⟨c, none, _, _⟩ => decide (c = .type "tuple")
  | _ => false
theorem tpt_ok {x : Str} {K : PySem.W.Frag} (h : tptB x K = true) : ∀ H, tyV K "tuple" (.ref (ga K x)) H := fun H => by
  unfold tptB at h
  split at h
  · rename_i c d sl el
    exact .inr (.inl ⟨rfl, _, el, of_decide_eq_true h, rfl⟩)
  · cases h
end ChH
namespace Ch
open PySem PySem.Spec PyProof.Rows L2
/-- the exception's dict, if it has one, is told -/
def DxAt (H : Hp) (d : Option Addr) : Prop := d = none ∨ ∃ dd fs, d = some dd ∧ H dd = some (.xd fs)
theorem DxAt.mono {H H' : Hp} {d : Option Addr} (h : DxAt H d) (s : Same H H') : DxAt H' d := h.imp id fun ⟨dd, fs, e, g⟩ => ⟨dd, fs, e, s _ _ g⟩
/-- isinstance(e, c) -/
def rIsX (K : PySem.W.Frag) (a : Addr) (cls : Value) (d : Option Addr) : List V → Hp → VK → Prop := fun xs H Q => ∃ (C : Addr) (c : V) (cv : Value) (b : Bool), cls = .ref C ∧ ExcC K C ∧ DxAt H d ∧ xs = [.ref a, c] ∧ ClsV c cv ∧ PySem.W.kitOne K (.ref C) cv = some b ∧ Q (.bl b) H
section
variable {X : Cx} {a : Addr} {cls : Value} {d : Option Addr} {oe : Obj} {pn : List (Addr × Obj)}
theorem call_isX (hz : Zc cls d oe) (hf : ∃ vs, oe.data = .fields vs) : CallR (X.suite a ((a, oe) :: pn)) (.builtin "isinstance") (rIsX X.K a cls d) := by
  intro pins s σ H xs us Q I r ⟨C, c, cv, b, ec, T, hd, exs, hc, hk, q⟩
  subst ec exs
  obtain ⟨u1, u2, rfl, r1, r2⟩ := vals2 r
  cases (show u1 = Value.ref a from r1)
  have e2 := hc.eq r2
  subst e2
  obtain ⟨hget, _⟩ := I.pin (a, oe) (List.mem_append_left _ List.mem_cons_self)
  obtain ⟨vs, hv⟩ := hf
  have hJ : ∃ od, PySem.W.InstAt s.heap a oe C od := by
    rcases hd with rfl | ⟨dd, fs, rfl, g⟩
    · refine ⟨none, hget, hz.1, ?_, ?_⟩
      · unfold PySem.W.notCls
        rw [hv] <;> rfl
      · rw [hz.2]
        trivial
    · have hx : ObjOk X.prog X.w H s.heap dd (.xd fs) := I.hok dd _ g
      obtain ⟨mA, hns, hr⟩ := hx
      obtain ⟨od, ho, hl⟩ := lookIn_ns hns
      refine ⟨some od, hget, hz.1, ?_, ?_⟩
      · unfold PySem.W.notCls
        rw [hv] <;> rfl
      · rw [hz.2]
        exact ho
  obtain ⟨od, J⟩ := hJ
  refine PySem.W.kia_one (PySem.W.kitx_exc (od := od) ?_ T.hg T.hk T.hs T.ha T.hn T.ht T.hm) I.kIn J hk (fun z => nomatch z) fun tk => ⟨.bl b, H, I.kept (t' := tk) fun _ _ z => z, rfl, q⟩
  obtain ⟨cd, hcd, _⟩ := PySem.W.any_some T.hd
  rw [hcd]
  rfl
theorem call_isXK (K : PySem.W.Frag) (hz : Zc cls d oe) (hf : ∃ vs, oe.data = .fields vs) (hK : X.K = K := by rfl) : CallR (X.suite a ((a, oe) :: pn)) (.builtin "isinstance") (rIsX K a cls d) := by subst hK; exact call_isX hz hf
theorem x_isX {K : PySem.W.Frag} {C : Addr} {c : V} {cv : Value} {b : Bool} {H : Hp} {Q : VK} (T : ExcC K C) (hd : DxAt H d) (hc : ClsV c cv) (hk : PySem.W.kitOne K (.ref C) cv = some b) (k : Q (.bl b) H) : rIsX K a (.ref C) d [.ref a, c] H Q := ⟨C, c, cv, b, rfl, T, hd, rfl, hc, hk, k⟩
/-- e.f -/
def tXa (K : PySem.W.Frag) (a : Addr) (cls : Value) (d : Option Addr) (f : Str) (te : TE) : TE := fun σ H Q => ∃ C : Addr, XfC K C ∧ PySem.W.findIn K (.ref C) f = some none ∧ tXf a cls d C f te σ H Q
theorem pe_xfA {e : Expr} {te : TE} {pos : Pos} {n : Str} (hz : Zc cls d oe) (hf : ∃ vs, oe.data = .fields vs) (he : PE (X.suite a ((a, oe) :: pn)) e te) (hb : attributeBase e n X.env (eval e X.env) = eval e X.env := by rfl) :
    PE (X.suite a ((a, oe) :: pn)) (.Attribute e n pos) (tXa X.K a cls d n te) :=
  ⟨fun pins s σ H Q I ⟨_, T, hno, h⟩ => (pe_xf T hno hz hf he hb).run pins s σ H Q I h⟩
theorem pe_xfAK (K : PySem.W.Frag) {e : Expr} {te : TE} {pos : Pos} {n : Str} (hz : Zc cls d oe) (hf : ∃ vs, oe.data = .fields vs) (he : PE (X.suite a ((a, oe) :: pn)) e te) (hb : attributeBase e n X.env (eval e X.env) = eval e X.env := by rfl) (hK : X.K = K := by rfl) :
    PE (X.suite a ((a, oe) :: pn)) (.Attribute e n pos) (tXa K a cls d n te) := by subst hK; exact pe_xfA hz hf he hb
theorem x_xa {K : PySem.W.Frag} {C : Addr} {f : Str} {te : TE} {σ : L2.St} {H : Hp} {Q : VK} (T : XfC K C) (hno : PySem.W.findIn K (.ref C) f = some none) (k : tXf a cls d C f te σ H Q) : tXa K a cls d f te σ H Q := ⟨C, T, hno, k⟩
end
/-! ### list.count of flat items -/
section
variable {X : Cx}
def rCntF (K : PySem.W.Frag) : V → List V → Hp → VK → Prop := fun x xs H Q => ∃ (p : Addr) (ys : List V) (y : V), x = .ref p ∧ xs = [y] ∧ SqL K H p ys ∧ flatV y = true ∧ ys.all flatV = true ∧ Q (.int (ys.countP (fun z => eqV z y) : Nat)) H
theorem countP_eqU {y : V} : ∀ {ys : List V} {us : List Value}, Vals ys us → ys.all flatV = true → us.countP (eqU y) = ys.countP fun z => eqV z y
  | _, _, .nil, _ => rfl
  | z :: ys, u :: us, .cons r t, f => by
    obtain ⟨f1, f2⟩ := Bool.and_eq_true_iff.mp (List.all_cons.symm.trans f)
    rw [List.countP_cons, List.countP_cons, countP_eqU t f2, eqU_of r f1]
theorem mt_countF : MtR X "list.count" (rCntF X.K) := by
  intro pins s σ H x xs v us Q I rx rxs h
  obtain ⟨p, ys, y, ex, exs, hs, fy, fys, q⟩ := h
  subst ex exs
  cases rx
  obtain ⟨u, eu, ru⟩ := rxs.one
  subst eu
  obtain ⟨its, rv, ⟨⟨oc, od, odt, osl⟩, n, hob, h1, h2, h3⟩, _⟩ := I.list hs
  dsimp only at h1 h3
  subst h1 h3
  refine call_meets PySem.F.slot_list_count ⟨_, hob, rfl⟩ PySem.F.entry_list_count (PySem.F.args_list_count_2 _ _)
    (SeqAt.list_countAt p its.toArray n od osl u (eqU y)) ⟨hob, fun w hw => mem_eqAt ru fy rv fys w (by simpa using hw), ?_⟩
  have ec : its.toArray.toList.countP (eqU y) = ys.countP fun z => eqV z y := countP_eqU rv fys
  refine ⟨.int (ys.countP (fun z => eqV z y) : Nat), H, I.tok _, ⟨s.toks, ?_⟩, q⟩
  rw [ec]
theorem mt_countK (K : PySem.W.Frag) (hK : X.K = K := by rfl) : MtR X "list.count" (rCntF K) := by subst hK; exact mt_countF
theorem mt_indexK (K : PySem.W.Frag) (hK : X.K = K := by rfl) : MtR X "list.index" (rIndex K) := by subst hK; exact mt_index
theorem mt_tindexK (K : PySem.W.Frag) (hK : X.K = K := by rfl) : MtR X "tuple.index" (fun x xs H Q => ∃ p, ∃ ys : List Str, ∃ z j, x = .ref p ∧ xs = [.str z] ∧ SqT K H p (ys.map V.str) ∧ ys[j]? = some z ∧ (∀ m, m < j → ys[m]? ≠ some z) ∧ Q (.int (j : Nat)) H) := by
  subst hK
  exact mt_tup_index
end
end Ch

set_option Elab.async false
set_option linter.all false
set_option autoImplicit false
set_option maxRecDepth 100000
set_option pp.maxSteps 500
set_option maxHeartbeats 4000000
namespace K42
open PySem PySem.Spec PyProof.Rows L2 He ChH
/-! ### the text by places -/
def top (i : Nat) : Stmt := PySem.Challenge.pw_chaircarry_k42_whole_texts_of_bookings.main.body.getD i (.Pass ⟨0, 0, 0, 0⟩)
abbrev s_InvalidPlan_init : Stmt := inClass (top 3) 0
abbrev s_TooFewChairs_init : Stmt := inClass (top 4) 0
abbrev s_InvalidText_init : Stmt := inClass (top 7) 0
abbrev s_InvalidOperation_init : Stmt := inClass (top 9) 0
abbrev s_DaybookError_init : Stmt := inClass (top 10) 0
abbrev s_DecodeError_init : Stmt := inClass (top 11) 0
abbrev s_is_number : Stmt := top 16
abbrev s_is_step : Stmt := top 17
abbrev s_Plan_init : Stmt := inClass (top 18) 2
abbrev s_validate_room : Stmt := top 22
abbrev s_validate_need : Stmt := top 23
abbrev s_Booking_init : Stmt := inClass (top 24) 1
abbrev s_Booking_planned : Stmt := inClass (top 24) 2
abbrev s_Booking_line : Stmt := inClass (top 24) 4
abbrev s_Meeting_init : Stmt := inClass (top 25) 1
abbrev s_Meeting_planned : Stmt := inClass (top 25) 2
abbrev s_Meeting_line : Stmt := inClass (top 25) 3
abbrev s_Series_init : Stmt := inClass (top 26) 1
abbrev s_Series_line : Stmt := inClass (top 26) 2
abbrev s_Alternation_init : Stmt := inClass (top 27) 1
abbrev s_Turning_init : Stmt := inClass (top 28) 1
abbrev s_Turning_planned : Stmt := inClass (top 28) 2
abbrev s_Turning_line : Stmt := inClass (top 28) 4
abbrev s_format_bookings : Stmt := top 29
abbrev s_parse_integer : Stmt := top 30
abbrev s_booking_of : Stmt := top 31
abbrev s_parse_bookings : Stmt := top 32
abbrev s__law_mix : Stmt := top 34
abbrev s__law_next : Stmt := top 35
abbrev s__law_alike : Stmt := top 36
abbrev s__law_outcome : Stmt := top 37
abbrev s__law_booking : Stmt := top 38
abbrev s__law_number : Stmt := top 40
abbrev s__law_read : Stmt := top 41
abbrev s__law_bent : Stmt := top 42
abbrev s_law : Stmt := top 43
/-! ### what the head tells -/
def faL : List Fa := [.glo "ChairError", .glo "InvalidPlan", .glo "TooFewChairs", .glo "InvalidNumber", .glo "InvalidBooking", .glo "InvalidText", .glo "NotEnough", .glo "InvalidOperation", .glo "DaybookError", .glo "DecodeError", .str "RED" "red", .str "BLUE" "blue", .str "TURN" "turn", .glo "is_number", .glo "is_step", .glo "Plan", .int "MAX_TIMES" 60, .str "DIGITS" "0123456789", .glo "validate_room", .glo "validate_need", .glo "Booking", .glo "Meeting", .glo "Series", .glo "Alternation", .glo "Turning", .glo "format_bookings", .glo "parse_integer", .glo "booking_of", .glo "parse_bookings", .glo "_law_mix", .glo "_law_next", .glo "_law_alike", .glo "_law_outcome", .glo "_law_booking", .glo "_law_number", .glo "_law_read", .glo "_law_bent", .glo "law", .free "ValueError", .free "bool", .free "dict", .free "enumerate", .free "int", .free "isinstance", .free "len", .free "list", .free "max", .free "min", .free "property", .free "range", .free "sorted", .free "str", .free "super", .free "tuple", .cls "Plan", .noat "Plan" "parts", .mkr "Plan", .cls "Booking", .noat "Booking" "needs", .mkr "Booking", .meth "Booking" "planned", .cls "Meeting", .noat "Meeting" "room", .noat "Meeting" "needs", .mkr "Meeting", .meth "Meeting" "planned", .cls "Series", .noat "Series" "more", .noat "Series" "room", .noat "Series" "needs", .mkr "Series", .meth "Series" "planned", .cls "Alternation", .noat "Alternation" "needs", .mkr "Alternation", .meth "Alternation" "planned", .cls "Turning", .noat "Turning" "needs", .mkr "Turning", .meth "Turning" "planned", .exc "InvalidBooking", .exm "InvalidPlan" "InvalidBooking" false, .exm "InvalidPlan" "ChairError" true, .exm "InvalidBooking" "InvalidBooking" true, .exm "InvalidBooking" "ChairError" true, .exm "InvalidText" "InvalidBooking" false, .exm "InvalidText" "ChairError" true]
def xsL : List ChH.Fx := [rdB "Plan", cvB "Plan" "MAX_STEPS" (.int 60), cvB "Plan" "MAX_CHAIRS" (.int 1000000000000000000), prB "Booking" "line", prB "Meeting" "line", ChH.supB "Meeting" "Meeting" "__init__" "Booking", prB "Series" "line", ChH.imB "Series" "Meeting" "planned", ChH.supB "Series" "Meeting" "__init__" "Booking", ChH.supB "Series" "Series" "__init__" "Meeting", ChH.imB "Alternation" "Booking" "planned", prB "Alternation" "line", ChH.ipB "Alternation" "Booking" "line", ChH.supB "Alternation" "Alternation" "__init__" "Booking", prB "Turning" "line", ChH.supB "Turning" "Turning" "__init__" "Booking", oexB "InvalidPlan", nfB "InvalidPlan" "index", xfF "InvalidPlan", oexB "InvalidText", nfB "InvalidText" "row", xfF "InvalidText", rdB "ChairError", viB "ChairError", ChH.excCB "InvalidPlan", ChH.kioB "InvalidPlan" (fun K => .ref (ga K "DaybookError")) false, ChH.kioB "InvalidPlan" (fun K => .ref (ga K "DecodeError")) false, ChH.kioB "InvalidPlan" (fun K => .ref (ga K "InvalidBooking")) false, ChH.kioB "InvalidPlan" (fun K => .ref (ga K "InvalidNumber")) false, ChH.kioB "InvalidPlan" (fun K => .ref (ga K "InvalidOperation")) false, ChH.kioB "InvalidPlan" (fun K => .ref (ga K "InvalidPlan")) true, ChH.kioB "InvalidPlan" (fun K => .ref (ga K "InvalidText")) false, ChH.kioB "InvalidPlan" (fun K => .ref (ga K "NotEnough")) false, ChH.kioB "InvalidPlan" (fun K => .ref (ga K "TooFewChairs")) false, ChH.kioB "InvalidPlan" (fun _ => .type "ValueError") true, ChH.excCB "InvalidBooking", ChH.kioB "InvalidBooking" (fun K => .ref (ga K "DaybookError")) false, ChH.kioB "InvalidBooking" (fun K => .ref (ga K "DecodeError")) false, ChH.kioB "InvalidBooking" (fun K => .ref (ga K "InvalidBooking")) true, ChH.kioB "InvalidBooking" (fun K => .ref (ga K "InvalidNumber")) false, ChH.kioB "InvalidBooking" (fun K => .ref (ga K "InvalidOperation")) false, ChH.kioB "InvalidBooking" (fun K => .ref (ga K "InvalidPlan")) false, ChH.kioB "InvalidBooking" (fun K => .ref (ga K "InvalidText")) false, ChH.kioB "InvalidBooking" (fun K => .ref (ga K "NotEnough")) false, ChH.kioB "InvalidBooking" (fun K => .ref (ga K "TooFewChairs")) false, ChH.kioB "InvalidBooking" (fun _ => .type "ValueError") true, ChH.excCB "InvalidText", ChH.kioB "InvalidText" (fun K => .ref (ga K "DaybookError")) false, ChH.kioB "InvalidText" (fun K => .ref (ga K "DecodeError")) false, ChH.kioB "InvalidText" (fun K => .ref (ga K "InvalidBooking")) false, ChH.kioB "InvalidText" (fun K => .ref (ga K "InvalidNumber")) false, ChH.kioB "InvalidText" (fun K => .ref (ga K "InvalidOperation")) false, ChH.kioB "InvalidText" (fun K => .ref (ga K "InvalidPlan")) false, ChH.kioB "InvalidText" (fun K => .ref (ga K "InvalidText")) true, ChH.kioB "InvalidText" (fun K => .ref (ga K "NotEnough")) false, ChH.kioB "InvalidText" (fun K => .ref (ga K "TooFewChairs")) false, ChH.kioB "InvalidText" (fun _ => .type "ValueError") true, nstB "InvalidPlan", nstB "InvalidBooking", nstB "InvalidText", tabB "law"]
def d_InvalidPlan_init : He5.DefA := ⟨fun K => ma K (ga K "InvalidPlan") "__init__", "__init__", "InvalidPlan.__init__", defArgs s_InvalidPlan_init, defBody s_InvalidPlan_init, defScope s_InvalidPlan_init, [], []⟩
def d_TooFewChairs_init : He5.DefA := ⟨fun K => ma K (ga K "TooFewChairs") "__init__", "__init__", "TooFewChairs.__init__", defArgs s_TooFewChairs_init, defBody s_TooFewChairs_init, defScope s_TooFewChairs_init, [], []⟩
def d_InvalidText_init : He5.DefA := ⟨fun K => ma K (ga K "InvalidText") "__init__", "__init__", "InvalidText.__init__", defArgs s_InvalidText_init, defBody s_InvalidText_init, defScope s_InvalidText_init, [], []⟩
def d_InvalidOperation_init : He5.DefA := ⟨fun K => ma K (ga K "InvalidOperation") "__init__", "__init__", "InvalidOperation.__init__", defArgs s_InvalidOperation_init, defBody s_InvalidOperation_init, defScope s_InvalidOperation_init, [], []⟩
def d_DaybookError_init : He5.DefA := ⟨fun K => ma K (ga K "DaybookError") "__init__", "__init__", "DaybookError.__init__", defArgs s_DaybookError_init, defBody s_DaybookError_init, defScope s_DaybookError_init, [], []⟩
def d_DecodeError_init : He5.DefA := ⟨fun K => ma K (ga K "DecodeError") "__init__", "__init__", "DecodeError.__init__", defArgs s_DecodeError_init, defBody s_DecodeError_init, defScope s_DecodeError_init, [], []⟩
def d_is_number : He5.DefA := ⟨fun K => ga K "is_number", "is_number", "is_number", defArgs s_is_number, defBody s_is_number, defScope s_is_number, [], []⟩
def d_is_step : He5.DefA := ⟨fun K => ga K "is_step", "is_step", "is_step", defArgs s_is_step, defBody s_is_step, defScope s_is_step, [], []⟩
def d_Plan_init : He5.DefA := ⟨fun K => ma K (ga K "Plan") "__init__", "__init__", "Plan.__init__", defArgs s_Plan_init, defBody s_Plan_init, defScope s_Plan_init, [], []⟩
def d_validate_room : He5.DefA := ⟨fun K => ga K "validate_room", "validate_room", "validate_room", defArgs s_validate_room, defBody s_validate_room, defScope s_validate_room, [], []⟩
def d_validate_need : He5.DefA := ⟨fun K => ga K "validate_need", "validate_need", "validate_need", defArgs s_validate_need, defBody s_validate_need, defScope s_validate_need, [], []⟩
def d_Booking_init : He5.DefA := ⟨fun K => ma K (ga K "Booking") "__init__", "__init__", "Booking.__init__", defArgs s_Booking_init, defBody s_Booking_init, defScope s_Booking_init, [], []⟩
def d_Booking_planned : He5.DefA := ⟨fun K => ma K (ga K "Booking") "planned", "planned", "Booking.planned", defArgs s_Booking_planned, defBody s_Booking_planned, defScope s_Booking_planned, [], []⟩
def d_Booking_line : He5.DefA := ⟨fun K => gp "Booking" "line" K, "line", "Booking.line", defArgs s_Booking_line, defBody s_Booking_line, defScope s_Booking_line, [], []⟩
def d_Meeting_init : He5.DefA := ⟨fun K => ma K (ga K "Meeting") "__init__", "__init__", "Meeting.__init__", defArgs s_Meeting_init, defBody s_Meeting_init, defScope s_Meeting_init, [], []⟩
def d_Meeting_planned : He5.DefA := ⟨fun K => ma K (ga K "Meeting") "planned", "planned", "Meeting.planned", defArgs s_Meeting_planned, defBody s_Meeting_planned, defScope s_Meeting_planned, [], []⟩
def d_Meeting_line : He5.DefA := ⟨fun K => gp "Meeting" "line" K, "line", "Meeting.line", defArgs s_Meeting_line, defBody s_Meeting_line, defScope s_Meeting_line, [], []⟩
def d_Series_init : He5.DefA := ⟨fun K => ma K (ga K "Series") "__init__", "__init__", "Series.__init__", defArgs s_Series_init, defBody s_Series_init, defScope s_Series_init, [], [("more", .int 0)]⟩
def d_Series_line : He5.DefA := ⟨fun K => gp "Series" "line" K, "line", "Series.line", defArgs s_Series_line, defBody s_Series_line, defScope s_Series_line, [], []⟩
def d_Alternation_init : He5.DefA := ⟨fun K => ma K (ga K "Alternation") "__init__", "__init__", "Alternation.__init__", defArgs s_Alternation_init, defBody s_Alternation_init, defScope s_Alternation_init, [], []⟩
def d_Turning_init : He5.DefA := ⟨fun K => ma K (ga K "Turning") "__init__", "__init__", "Turning.__init__", defArgs s_Turning_init, defBody s_Turning_init, defScope s_Turning_init, [], []⟩
def d_Turning_planned : He5.DefA := ⟨fun K => ma K (ga K "Turning") "planned", "planned", "Turning.planned", defArgs s_Turning_planned, defBody s_Turning_planned, defScope s_Turning_planned, [], []⟩
def d_Turning_line : He5.DefA := ⟨fun K => gp "Turning" "line" K, "line", "Turning.line", defArgs s_Turning_line, defBody s_Turning_line, defScope s_Turning_line, [], []⟩
def d_format_bookings : He5.DefA := ⟨fun K => ga K "format_bookings", "format_bookings", "format_bookings", defArgs s_format_bookings, defBody s_format_bookings, defScope s_format_bookings, [], []⟩
def d_parse_integer : He5.DefA := ⟨fun K => ga K "parse_integer", "parse_integer", "parse_integer", defArgs s_parse_integer, defBody s_parse_integer, defScope s_parse_integer, [], []⟩
def d_booking_of : He5.DefA := ⟨fun K => ga K "booking_of", "booking_of", "booking_of", defArgs s_booking_of, defBody s_booking_of, defScope s_booking_of, [], []⟩
def d_parse_bookings : He5.DefA := ⟨fun K => ga K "parse_bookings", "parse_bookings", "parse_bookings", defArgs s_parse_bookings, defBody s_parse_bookings, defScope s_parse_bookings, [], []⟩
def d__law_mix : He5.DefA := ⟨fun K => ga K "_law_mix", "_law_mix", "_law_mix", defArgs s__law_mix, defBody s__law_mix, defScope s__law_mix, [], []⟩
def d__law_next : He5.DefA := ⟨fun K => ga K "_law_next", "_law_next", "_law_next", defArgs s__law_next, defBody s__law_next, defScope s__law_next, [], []⟩
def d__law_alike : He5.DefA := ⟨fun K => ga K "_law_alike", "_law_alike", "_law_alike", defArgs s__law_alike, defBody s__law_alike, defScope s__law_alike, [], []⟩
def d__law_outcome : He5.DefA := ⟨fun K => ga K "_law_outcome", "_law_outcome", "_law_outcome", defArgs s__law_outcome, defBody s__law_outcome, defScope s__law_outcome, [], []⟩
def d__law_booking : He5.DefA := ⟨fun K => ga K "_law_booking", "_law_booking", "_law_booking", defArgs s__law_booking, defBody s__law_booking, defScope s__law_booking, [], []⟩
def d__law_number : He5.DefA := ⟨fun K => ga K "_law_number", "_law_number", "_law_number", defArgs s__law_number, defBody s__law_number, defScope s__law_number, [], []⟩
def d__law_read : He5.DefA := ⟨fun K => ga K "_law_read", "_law_read", "_law_read", defArgs s__law_read, defBody s__law_read, defScope s__law_read, [], []⟩
def d__law_bent : He5.DefA := ⟨fun K => ga K "_law_bent", "_law_bent", "_law_bent", defArgs s__law_bent, defBody s__law_bent, defScope s__law_bent, [], []⟩
def d_law : He5.DefA := ⟨fun K => ga K "law", "law", "law", defArgs s_law, defBody s_law, defScope s_law, [], []⟩
def dfL : List He5.DefA := [d_InvalidPlan_init, d_TooFewChairs_init, d_InvalidText_init, d_InvalidOperation_init, d_DaybookError_init, d_DecodeError_init, d_is_number, d_is_step, d_Plan_init, d_validate_room, d_validate_need, d_Booking_init, d_Booking_planned, d_Booking_line, d_Meeting_planned, d_Meeting_line, d_Series_line, d_Turning_planned, d_Turning_line, d_format_bookings, d_parse_integer, d_booking_of, d_parse_bookings, d__law_mix, d__law_next, d__law_alike, d__law_outcome, d__law_booking, d__law_number, d__law_read, d__law_bent, d_law]
abbrev mfile : Str := PySem.Challenge.pw_chaircarry_k42_whole_texts_of_bookings.main.file
def suL : List ChH.DefS := [⟨d_Meeting_init, "Meeting"⟩, ⟨d_Series_init, "Series"⟩, ⟨d_Alternation_init, "Alternation"⟩, ⟨d_Turning_init, "Turning"⟩]
structure Wd (K : PySem.W.Frag) (mg : Str → Option Value) : Prop where
  kin : ∃ h : Heap, K.In h ∧ h.Ns mainGlobals mg
  s : ChH.SaysC faL xsL dfL K
  su : ChH.SaysS mfile suL K
section
variable {K : PySem.W.Frag} {mg : Str → Option Value}
theorem Wd.glo (W : Wd K mg) {x : Str} (c : (Fa.glo x).ok K = true) : mg x = some (.ref (ga K x)) := let ⟨_, X, G⟩ := W.kin; He.glo_ok X G c
theorem Wd.free (W : Wd K mg) {x : Str} (c : (Fa.free x).ok K = true) : mg x = none := let ⟨_, X, G⟩ := W.kin; He.free_ok X G c
theorem Wd.str (W : Wd K mg) {x z : Str} (c : (Fa.str x z).ok K = true) : ∃ t, mg x = some (.str z t) := let ⟨_, X, G⟩ := W.kin; He.str_ok X G c
theorem Wd.int (W : Wd K mg) {x : Str} {z : Int} (c : (Fa.int x z).ok K = true) : ∃ t, mg x = some (.int z t) := let ⟨_, X, G⟩ := W.kin; He.int_ok X G c
theorem Wd.g_ChairError (W : Wd K mg) : mg "ChairError" = some (.ref (ga K "ChairError")) := W.glo (W.s.fact 0)
theorem Wd.g_InvalidPlan (W : Wd K mg) : mg "InvalidPlan" = some (.ref (ga K "InvalidPlan")) := W.glo (W.s.fact 1)
theorem Wd.g_TooFewChairs (W : Wd K mg) : mg "TooFewChairs" = some (.ref (ga K "TooFewChairs")) := W.glo (W.s.fact 2)
theorem Wd.g_InvalidNumber (W : Wd K mg) : mg "InvalidNumber" = some (.ref (ga K "InvalidNumber")) := W.glo (W.s.fact 3)
theorem Wd.g_InvalidBooking (W : Wd K mg) : mg "InvalidBooking" = some (.ref (ga K "InvalidBooking")) := W.glo (W.s.fact 4)
theorem Wd.g_InvalidText (W : Wd K mg) : mg "InvalidText" = some (.ref (ga K "InvalidText")) := W.glo (W.s.fact 5)
theorem Wd.g_NotEnough (W : Wd K mg) : mg "NotEnough" = some (.ref (ga K "NotEnough")) := W.glo (W.s.fact 6)
theorem Wd.g_InvalidOperation (W : Wd K mg) : mg "InvalidOperation" = some (.ref (ga K "InvalidOperation")) := W.glo (W.s.fact 7)
theorem Wd.g_DaybookError (W : Wd K mg) : mg "DaybookError" = some (.ref (ga K "DaybookError")) := W.glo (W.s.fact 8)
theorem Wd.g_DecodeError (W : Wd K mg) : mg "DecodeError" = some (.ref (ga K "DecodeError")) := W.glo (W.s.fact 9)
theorem Wd.t_RED (W : Wd K mg) : ∃ t, mg "RED" = some (.str "red" t) := W.str (W.s.fact 10)
theorem Wd.t_BLUE (W : Wd K mg) : ∃ t, mg "BLUE" = some (.str "blue" t) := W.str (W.s.fact 11)
theorem Wd.t_TURN (W : Wd K mg) : ∃ t, mg "TURN" = some (.str "turn" t) := W.str (W.s.fact 12)
theorem Wd.g_is_number (W : Wd K mg) : mg "is_number" = some (.ref (ga K "is_number")) := W.glo (W.s.fact 13)
theorem Wd.g_is_step (W : Wd K mg) : mg "is_step" = some (.ref (ga K "is_step")) := W.glo (W.s.fact 14)
theorem Wd.g_Plan (W : Wd K mg) : mg "Plan" = some (.ref (ga K "Plan")) := W.glo (W.s.fact 15)
theorem Wd.i_MAX_TIMES (W : Wd K mg) : ∃ t, mg "MAX_TIMES" = some (.int 60 t) := W.int (W.s.fact 16)
theorem Wd.t_DIGITS (W : Wd K mg) : ∃ t, mg "DIGITS" = some (.str "0123456789" t) := W.str (W.s.fact 17)
theorem Wd.g_validate_room (W : Wd K mg) : mg "validate_room" = some (.ref (ga K "validate_room")) := W.glo (W.s.fact 18)
theorem Wd.g_validate_need (W : Wd K mg) : mg "validate_need" = some (.ref (ga K "validate_need")) := W.glo (W.s.fact 19)
theorem Wd.g_Booking (W : Wd K mg) : mg "Booking" = some (.ref (ga K "Booking")) := W.glo (W.s.fact 20)
theorem Wd.g_Meeting (W : Wd K mg) : mg "Meeting" = some (.ref (ga K "Meeting")) := W.glo (W.s.fact 21)
theorem Wd.g_Series (W : Wd K mg) : mg "Series" = some (.ref (ga K "Series")) := W.glo (W.s.fact 22)
theorem Wd.g_Alternation (W : Wd K mg) : mg "Alternation" = some (.ref (ga K "Alternation")) := W.glo (W.s.fact 23)
theorem Wd.g_Turning (W : Wd K mg) : mg "Turning" = some (.ref (ga K "Turning")) := W.glo (W.s.fact 24)
theorem Wd.g_format_bookings (W : Wd K mg) : mg "format_bookings" = some (.ref (ga K "format_bookings")) := W.glo (W.s.fact 25)
theorem Wd.g_parse_integer (W : Wd K mg) : mg "parse_integer" = some (.ref (ga K "parse_integer")) := W.glo (W.s.fact 26)
theorem Wd.g_booking_of (W : Wd K mg) : mg "booking_of" = some (.ref (ga K "booking_of")) := W.glo (W.s.fact 27)
theorem Wd.g_parse_bookings (W : Wd K mg) : mg "parse_bookings" = some (.ref (ga K "parse_bookings")) := W.glo (W.s.fact 28)
theorem Wd.g__law_mix (W : Wd K mg) : mg "_law_mix" = some (.ref (ga K "_law_mix")) := W.glo (W.s.fact 29)
theorem Wd.g__law_next (W : Wd K mg) : mg "_law_next" = some (.ref (ga K "_law_next")) := W.glo (W.s.fact 30)
theorem Wd.g__law_alike (W : Wd K mg) : mg "_law_alike" = some (.ref (ga K "_law_alike")) := W.glo (W.s.fact 31)
theorem Wd.g__law_outcome (W : Wd K mg) : mg "_law_outcome" = some (.ref (ga K "_law_outcome")) := W.glo (W.s.fact 32)
theorem Wd.g__law_booking (W : Wd K mg) : mg "_law_booking" = some (.ref (ga K "_law_booking")) := W.glo (W.s.fact 33)
theorem Wd.g__law_number (W : Wd K mg) : mg "_law_number" = some (.ref (ga K "_law_number")) := W.glo (W.s.fact 34)
theorem Wd.g__law_read (W : Wd K mg) : mg "_law_read" = some (.ref (ga K "_law_read")) := W.glo (W.s.fact 35)
theorem Wd.g__law_bent (W : Wd K mg) : mg "_law_bent" = some (.ref (ga K "_law_bent")) := W.glo (W.s.fact 36)
theorem Wd.g_law (W : Wd K mg) : mg "law" = some (.ref (ga K "law")) := W.glo (W.s.fact 37)
theorem Wd.f_ValueError (W : Wd K mg) : mg "ValueError" = none := W.free (W.s.fact 38)
theorem Wd.f_bool (W : Wd K mg) : mg "bool" = none := W.free (W.s.fact 39)
theorem Wd.f_dict (W : Wd K mg) : mg "dict" = none := W.free (W.s.fact 40)
theorem Wd.f_enumerate (W : Wd K mg) : mg "enumerate" = none := W.free (W.s.fact 41)
theorem Wd.f_int (W : Wd K mg) : mg "int" = none := W.free (W.s.fact 42)
theorem Wd.f_isinstance (W : Wd K mg) : mg "isinstance" = none := W.free (W.s.fact 43)
theorem Wd.f_len (W : Wd K mg) : mg "len" = none := W.free (W.s.fact 44)
theorem Wd.f_list (W : Wd K mg) : mg "list" = none := W.free (W.s.fact 45)
theorem Wd.f_max (W : Wd K mg) : mg "max" = none := W.free (W.s.fact 46)
theorem Wd.f_min (W : Wd K mg) : mg "min" = none := W.free (W.s.fact 47)
theorem Wd.f_property (W : Wd K mg) : mg "property" = none := W.free (W.s.fact 48)
theorem Wd.f_range (W : Wd K mg) : mg "range" = none := W.free (W.s.fact 49)
theorem Wd.f_sorted (W : Wd K mg) : mg "sorted" = none := W.free (W.s.fact 50)
theorem Wd.f_str (W : Wd K mg) : mg "str" = none := W.free (W.s.fact 51)
theorem Wd.f_super (W : Wd K mg) : mg "super" = none := W.free (W.s.fact 52)
theorem Wd.f_tuple (W : Wd K mg) : mg "tuple" = none := W.free (W.s.fact 53)
theorem Wd.c_Plan (W : Wd K mg) : Cls K (ga K "Plan") := He.cls_ok (W.s.fact 54)
theorem Wd.n_Plan_parts (W : Wd K mg) : NoAttr K (ga K "Plan") "parts" := He.noat_ok (W.s.fact 55)
theorem Wd.mk_Plan (W : Wd K mg) : Mk K (ga K "Plan") (ma K (ga K "Plan") "__init__") := He.mkr_ok (W.s.fact 56)
theorem Wd.r_Plan (W : Wd K mg) : ClX.CRead K (ga K "Plan") (.type "type") := rd_ok (W.s.ex 0)
theorem Wd.v_Plan_MAX_STEPS (W : Wd K mg) : ∃ u, ClX.CVal K (ga K "Plan") (.type "type") "MAX_STEPS" (.int 60) u := cv_ok (W.s.ex 1)
theorem Wd.v_Plan_MAX_CHAIRS (W : Wd K mg) : ∃ u, ClX.CVal K (ga K "Plan") (.type "type") "MAX_CHAIRS" (.int 1000000000000000000) u := cv_ok (W.s.ex 2)
theorem Wd.c_Booking (W : Wd K mg) : Cls K (ga K "Booking") := He.cls_ok (W.s.fact 57)
theorem Wd.n_Booking_needs (W : Wd K mg) : NoAttr K (ga K "Booking") "needs" := He.noat_ok (W.s.fact 58)
theorem Wd.mk_Booking (W : Wd K mg) : Mk K (ga K "Booking") (ma K (ga K "Booking") "__init__") := He.mkr_ok (W.s.fact 59)
theorem Wd.m_Booking_planned (W : Wd K mg) : Meth K (ga K "Booking") "planned" (ma K (ga K "Booking") "planned") := He.meth_ok (W.s.fact 60)
theorem Wd.p_Booking_line (W : Wd K mg) : PropOf K (ga K "Booking") "line" (ma K (ga K "Booking") "line") (gp "Booking" "line" K) := pr_ok (W.s.ex 3)
theorem Wd.c_Meeting (W : Wd K mg) : Cls K (ga K "Meeting") := He.cls_ok (W.s.fact 61)
theorem Wd.n_Meeting_room (W : Wd K mg) : NoAttr K (ga K "Meeting") "room" := He.noat_ok (W.s.fact 62)
theorem Wd.n_Meeting_needs (W : Wd K mg) : NoAttr K (ga K "Meeting") "needs" := He.noat_ok (W.s.fact 63)
theorem Wd.mk_Meeting (W : Wd K mg) : Mk K (ga K "Meeting") (ma K (ga K "Meeting") "__init__") := He.mkr_ok (W.s.fact 64)
theorem Wd.m_Meeting_planned (W : Wd K mg) : Meth K (ga K "Meeting") "planned" (ma K (ga K "Meeting") "planned") := He.meth_ok (W.s.fact 65)
theorem Wd.p_Meeting_line (W : Wd K mg) : PropOf K (ga K "Meeting") "line" (ma K (ga K "Meeting") "line") (gp "Meeting" "line" K) := pr_ok (W.s.ex 4)
theorem Wd.su_Meeting_Meeting (W : Wd K mg) : SuX.SupIn K (ga K "Meeting") (ga K "Meeting") "__init__" (ma K (ga K "Booking") "__init__") := ChH.sup_ok (W.s.ex 5)
theorem Wd.c_Series (W : Wd K mg) : Cls K (ga K "Series") := He.cls_ok (W.s.fact 66)
theorem Wd.n_Series_more (W : Wd K mg) : NoAttr K (ga K "Series") "more" := He.noat_ok (W.s.fact 67)
theorem Wd.n_Series_room (W : Wd K mg) : NoAttr K (ga K "Series") "room" := He.noat_ok (W.s.fact 68)
theorem Wd.n_Series_needs (W : Wd K mg) : NoAttr K (ga K "Series") "needs" := He.noat_ok (W.s.fact 69)
theorem Wd.mk_Series (W : Wd K mg) : Mk K (ga K "Series") (ma K (ga K "Series") "__init__") := He.mkr_ok (W.s.fact 70)
theorem Wd.p_Series_line (W : Wd K mg) : PropOf K (ga K "Series") "line" (ma K (ga K "Series") "line") (gp "Series" "line" K) := pr_ok (W.s.ex 6)
theorem Wd.m_Series_planned (W : Wd K mg) : Meth K (ga K "Series") "planned" (ma K (ga K "Meeting") "planned") := (ChH.im_ok (C := "Series") (E := "Meeting") (m := "planned") (W.s.ex 7)) ▸ (show Meth K (ga K "Series") "planned" (ma K (ga K "Series") "planned") from He.meth_ok (W.s.fact 71))
theorem Wd.su_Series_Meeting (W : Wd K mg) : SuX.SupIn K (ga K "Series") (ga K "Meeting") "__init__" (ma K (ga K "Booking") "__init__") := ChH.sup_ok (W.s.ex 8)
theorem Wd.su_Series_Series (W : Wd K mg) : SuX.SupIn K (ga K "Series") (ga K "Series") "__init__" (ma K (ga K "Meeting") "__init__") := ChH.sup_ok (W.s.ex 9)
theorem Wd.c_Alternation (W : Wd K mg) : Cls K (ga K "Alternation") := He.cls_ok (W.s.fact 72)
theorem Wd.n_Alternation_needs (W : Wd K mg) : NoAttr K (ga K "Alternation") "needs" := He.noat_ok (W.s.fact 73)
theorem Wd.mk_Alternation (W : Wd K mg) : Mk K (ga K "Alternation") (ma K (ga K "Alternation") "__init__") := He.mkr_ok (W.s.fact 74)
theorem Wd.m_Alternation_planned (W : Wd K mg) : Meth K (ga K "Alternation") "planned" (ma K (ga K "Booking") "planned") := (ChH.im_ok (C := "Alternation") (E := "Booking") (m := "planned") (W.s.ex 10)) ▸ (show Meth K (ga K "Alternation") "planned" (ma K (ga K "Alternation") "planned") from He.meth_ok (W.s.fact 75))
theorem Wd.p_Alternation_line (W : Wd K mg) : PropOf K (ga K "Alternation") "line" (ma K (ga K "Alternation") "line") (gp "Booking" "line" K) := (ChH.ip_ok (C := "Alternation") (E := "Booking") (m := "line") (W.s.ex 12)) ▸ pr_ok (C := "Alternation") (m := "line") (W.s.ex 11)
theorem Wd.su_Alternation_Alternation (W : Wd K mg) : SuX.SupIn K (ga K "Alternation") (ga K "Alternation") "__init__" (ma K (ga K "Booking") "__init__") := ChH.sup_ok (W.s.ex 13)
theorem Wd.c_Turning (W : Wd K mg) : Cls K (ga K "Turning") := He.cls_ok (W.s.fact 76)
theorem Wd.n_Turning_needs (W : Wd K mg) : NoAttr K (ga K "Turning") "needs" := He.noat_ok (W.s.fact 77)
theorem Wd.mk_Turning (W : Wd K mg) : Mk K (ga K "Turning") (ma K (ga K "Turning") "__init__") := He.mkr_ok (W.s.fact 78)
theorem Wd.m_Turning_planned (W : Wd K mg) : Meth K (ga K "Turning") "planned" (ma K (ga K "Turning") "planned") := He.meth_ok (W.s.fact 79)
theorem Wd.p_Turning_line (W : Wd K mg) : PropOf K (ga K "Turning") "line" (ma K (ga K "Turning") "line") (gp "Turning" "line" K) := pr_ok (W.s.ex 14)
theorem Wd.su_Turning_Turning (W : Wd K mg) : SuX.SupIn K (ga K "Turning") (ga K "Turning") "__init__" (ma K (ga K "Booking") "__init__") := ChH.sup_ok (W.s.ex 15)
theorem Wd.ox_InvalidPlan (W : Wd K mg) : ChH.Oex K "InvalidPlan" := ChH.oex_ok (W.s.ex 16)
theorem Wd.xn_InvalidPlan (W : Wd K mg) : PySem.W.findIn K (.ref (ga K "InvalidPlan")) "index" = some none := ChH.nf_ok (W.s.ex 17)
theorem Wd.xf_InvalidPlan (W : Wd K mg) : L2.XfC K (ga K "InvalidPlan") := ChH.xf_ok (W.s.ex 18)
theorem Wd.x_InvalidBooking (W : Wd K mg) : PySem.W.excIn K (ga K "InvalidBooking") veBase "ValueError.__new__" = true ∧ PySem.W.keepIn K (.ref (ga K "InvalidBooking")) = true ∧ PySem.W.subIn K (.ref (ga K "InvalidBooking")) (.type "BaseException") = some true ∧ PySem.W.typeIn K (.ref (ga K "InvalidBooking")) = some (.type "type") := He.exc_ok (W.s.fact 80)
theorem Wd.ox_InvalidText (W : Wd K mg) : ChH.Oex K "InvalidText" := ChH.oex_ok (W.s.ex 19)
theorem Wd.xn_InvalidText (W : Wd K mg) : PySem.W.findIn K (.ref (ga K "InvalidText")) "row" = some none := ChH.nf_ok (W.s.ex 20)
theorem Wd.xf_InvalidText (W : Wd K mg) : L2.XfC K (ga K "InvalidText") := ChH.xf_ok (W.s.ex 21)
theorem Wd.r_ChairError (W : Wd K mg) : ClX.CRead K (ga K "ChairError") (.type "type") := rd_ok (W.s.ex 22)
theorem Wd.vi_ChairError (W : Wd K mg) : PySem.W.findCls K (.ref (ga K "ChairError")) (.type "type") "__init__" = some (.val (.builtin "ValueError.__init__")) := ChH.vi_ok (W.s.ex 23)
theorem Wd.xm_InvalidPlan_InvalidBooking (W : Wd K mg) : PySem.W.exmOne K (.ref (ga K "InvalidPlan")) (.ref (ga K "InvalidBooking")) = some false := He.exm_ok (W.s.fact 81)
theorem Wd.xm_InvalidPlan_ChairError (W : Wd K mg) : PySem.W.exmOne K (.ref (ga K "InvalidPlan")) (.ref (ga K "ChairError")) = some true := He.exm_ok (W.s.fact 82)
theorem Wd.xm_InvalidBooking_InvalidBooking (W : Wd K mg) : PySem.W.exmOne K (.ref (ga K "InvalidBooking")) (.ref (ga K "InvalidBooking")) = some true := He.exm_ok (W.s.fact 83)
theorem Wd.xm_InvalidBooking_ChairError (W : Wd K mg) : PySem.W.exmOne K (.ref (ga K "InvalidBooking")) (.ref (ga K "ChairError")) = some true := He.exm_ok (W.s.fact 84)
theorem Wd.xm_InvalidText_InvalidBooking (W : Wd K mg) : PySem.W.exmOne K (.ref (ga K "InvalidText")) (.ref (ga K "InvalidBooking")) = some false := He.exm_ok (W.s.fact 85)
theorem Wd.xm_InvalidText_ChairError (W : Wd K mg) : PySem.W.exmOne K (.ref (ga K "InvalidText")) (.ref (ga K "ChairError")) = some true := He.exm_ok (W.s.fact 86)
theorem Wd.ec_InvalidPlan (W : Wd K mg) : L2.ExcC K (ga K "InvalidPlan") := ChH.excC_ok (W.s.ex 24)
theorem Wd.io_InvalidPlan_DaybookError (W : Wd K mg) : PySem.W.kitOne K (.ref (ga K "InvalidPlan")) (.ref (ga K "DaybookError")) = some false := ChH.kio_ok (W.s.ex 25)
theorem Wd.io_InvalidPlan_DecodeError (W : Wd K mg) : PySem.W.kitOne K (.ref (ga K "InvalidPlan")) (.ref (ga K "DecodeError")) = some false := ChH.kio_ok (W.s.ex 26)
theorem Wd.io_InvalidPlan_InvalidBooking (W : Wd K mg) : PySem.W.kitOne K (.ref (ga K "InvalidPlan")) (.ref (ga K "InvalidBooking")) = some false := ChH.kio_ok (W.s.ex 27)
theorem Wd.io_InvalidPlan_InvalidNumber (W : Wd K mg) : PySem.W.kitOne K (.ref (ga K "InvalidPlan")) (.ref (ga K "InvalidNumber")) = some false := ChH.kio_ok (W.s.ex 28)
theorem Wd.io_InvalidPlan_InvalidOperation (W : Wd K mg) : PySem.W.kitOne K (.ref (ga K "InvalidPlan")) (.ref (ga K "InvalidOperation")) = some false := ChH.kio_ok (W.s.ex 29)
theorem Wd.io_InvalidPlan_InvalidPlan (W : Wd K mg) : PySem.W.kitOne K (.ref (ga K "InvalidPlan")) (.ref (ga K "InvalidPlan")) = some true := ChH.kio_ok (W.s.ex 30)
theorem Wd.io_InvalidPlan_InvalidText (W : Wd K mg) : PySem.W.kitOne K (.ref (ga K "InvalidPlan")) (.ref (ga K "InvalidText")) = some false := ChH.kio_ok (W.s.ex 31)
theorem Wd.io_InvalidPlan_NotEnough (W : Wd K mg) : PySem.W.kitOne K (.ref (ga K "InvalidPlan")) (.ref (ga K "NotEnough")) = some false := ChH.kio_ok (W.s.ex 32)
theorem Wd.io_InvalidPlan_TooFewChairs (W : Wd K mg) : PySem.W.kitOne K (.ref (ga K "InvalidPlan")) (.ref (ga K "TooFewChairs")) = some false := ChH.kio_ok (W.s.ex 33)
theorem Wd.io_InvalidPlan_ValueError (W : Wd K mg) : PySem.W.kitOne K (.ref (ga K "InvalidPlan")) (.type "ValueError") = some true := ChH.kio_ok (W.s.ex 34)
theorem Wd.ec_InvalidBooking (W : Wd K mg) : L2.ExcC K (ga K "InvalidBooking") := ChH.excC_ok (W.s.ex 35)
theorem Wd.io_InvalidBooking_DaybookError (W : Wd K mg) : PySem.W.kitOne K (.ref (ga K "InvalidBooking")) (.ref (ga K "DaybookError")) = some false := ChH.kio_ok (W.s.ex 36)
theorem Wd.io_InvalidBooking_DecodeError (W : Wd K mg) : PySem.W.kitOne K (.ref (ga K "InvalidBooking")) (.ref (ga K "DecodeError")) = some false := ChH.kio_ok (W.s.ex 37)
theorem Wd.io_InvalidBooking_InvalidBooking (W : Wd K mg) : PySem.W.kitOne K (.ref (ga K "InvalidBooking")) (.ref (ga K "InvalidBooking")) = some true := ChH.kio_ok (W.s.ex 38)
theorem Wd.io_InvalidBooking_InvalidNumber (W : Wd K mg) : PySem.W.kitOne K (.ref (ga K "InvalidBooking")) (.ref (ga K "InvalidNumber")) = some false := ChH.kio_ok (W.s.ex 39)
theorem Wd.io_InvalidBooking_InvalidOperation (W : Wd K mg) : PySem.W.kitOne K (.ref (ga K "InvalidBooking")) (.ref (ga K "InvalidOperation")) = some false := ChH.kio_ok (W.s.ex 40)
theorem Wd.io_InvalidBooking_InvalidPlan (W : Wd K mg) : PySem.W.kitOne K (.ref (ga K "InvalidBooking")) (.ref (ga K "InvalidPlan")) = some false := ChH.kio_ok (W.s.ex 41)
theorem Wd.io_InvalidBooking_InvalidText (W : Wd K mg) : PySem.W.kitOne K (.ref (ga K "InvalidBooking")) (.ref (ga K "InvalidText")) = some false := ChH.kio_ok (W.s.ex 42)
theorem Wd.io_InvalidBooking_NotEnough (W : Wd K mg) : PySem.W.kitOne K (.ref (ga K "InvalidBooking")) (.ref (ga K "NotEnough")) = some false := ChH.kio_ok (W.s.ex 43)
theorem Wd.io_InvalidBooking_TooFewChairs (W : Wd K mg) : PySem.W.kitOne K (.ref (ga K "InvalidBooking")) (.ref (ga K "TooFewChairs")) = some false := ChH.kio_ok (W.s.ex 44)
theorem Wd.io_InvalidBooking_ValueError (W : Wd K mg) : PySem.W.kitOne K (.ref (ga K "InvalidBooking")) (.type "ValueError") = some true := ChH.kio_ok (W.s.ex 45)
theorem Wd.ec_InvalidText (W : Wd K mg) : L2.ExcC K (ga K "InvalidText") := ChH.excC_ok (W.s.ex 46)
theorem Wd.io_InvalidText_DaybookError (W : Wd K mg) : PySem.W.kitOne K (.ref (ga K "InvalidText")) (.ref (ga K "DaybookError")) = some false := ChH.kio_ok (W.s.ex 47)
theorem Wd.io_InvalidText_DecodeError (W : Wd K mg) : PySem.W.kitOne K (.ref (ga K "InvalidText")) (.ref (ga K "DecodeError")) = some false := ChH.kio_ok (W.s.ex 48)
theorem Wd.io_InvalidText_InvalidBooking (W : Wd K mg) : PySem.W.kitOne K (.ref (ga K "InvalidText")) (.ref (ga K "InvalidBooking")) = some false := ChH.kio_ok (W.s.ex 49)
theorem Wd.io_InvalidText_InvalidNumber (W : Wd K mg) : PySem.W.kitOne K (.ref (ga K "InvalidText")) (.ref (ga K "InvalidNumber")) = some false := ChH.kio_ok (W.s.ex 50)
theorem Wd.io_InvalidText_InvalidOperation (W : Wd K mg) : PySem.W.kitOne K (.ref (ga K "InvalidText")) (.ref (ga K "InvalidOperation")) = some false := ChH.kio_ok (W.s.ex 51)
theorem Wd.io_InvalidText_InvalidPlan (W : Wd K mg) : PySem.W.kitOne K (.ref (ga K "InvalidText")) (.ref (ga K "InvalidPlan")) = some false := ChH.kio_ok (W.s.ex 52)
theorem Wd.io_InvalidText_InvalidText (W : Wd K mg) : PySem.W.kitOne K (.ref (ga K "InvalidText")) (.ref (ga K "InvalidText")) = some true := ChH.kio_ok (W.s.ex 53)
theorem Wd.io_InvalidText_NotEnough (W : Wd K mg) : PySem.W.kitOne K (.ref (ga K "InvalidText")) (.ref (ga K "NotEnough")) = some false := ChH.kio_ok (W.s.ex 54)
theorem Wd.io_InvalidText_TooFewChairs (W : Wd K mg) : PySem.W.kitOne K (.ref (ga K "InvalidText")) (.ref (ga K "TooFewChairs")) = some false := ChH.kio_ok (W.s.ex 55)
theorem Wd.io_InvalidText_ValueError (W : Wd K mg) : PySem.W.kitOne K (.ref (ga K "InvalidText")) (.type "ValueError") = some true := ChH.kio_ok (W.s.ex 56)
theorem Wd.ns_InvalidPlan (W : Wd K mg) : PySem.W.subIn K (.ref (ga K "InvalidPlan")) (.type "StopIteration") = some false := ChH.nst_ok (W.s.ex 57)
theorem Wd.ns_InvalidBooking (W : Wd K mg) : PySem.W.subIn K (.ref (ga K "InvalidBooking")) (.type "StopIteration") = some false := ChH.nst_ok (W.s.ex 58)
theorem Wd.ns_InvalidText (W : Wd K mg) : PySem.W.subIn K (.ref (ga K "InvalidText")) (.type "StopIteration") = some false := ChH.nst_ok (W.s.ex 59)
theorem Wd.tb_law (W : Wd K mg) : ChH.TabOk K (ga K "law") := ChH.tab_ok (W.s.ex 60)
theorem Wd.S_Meeting_init (W : Wd K mg) : SuX.FunS K "__init__" "Meeting.__init__" (defArgs s_Meeting_init) (defBody s_Meeting_init) (defScope s_Meeting_init) [] (ga K "Meeting") mfile (ma K (ga K "Meeting") "__init__") (ChH.fdOf K (ma K (ga K "Meeting") "__init__")) (ChH.nfOf K (ma K (ga K "Meeting") "__init__")) := W.su.fs 0 (d := ⟨d_Meeting_init, "Meeting"⟩)
theorem Wd.S_Series_init (W : Wd K mg) : SuX.FunS K "__init__" "Series.__init__" (defArgs s_Series_init) (defBody s_Series_init) (defScope s_Series_init) [("more", V.int 0)] (ga K "Series") mfile (ma K (ga K "Series") "__init__") (ChH.fdOf K (ma K (ga K "Series") "__init__")) (ChH.nfOf K (ma K (ga K "Series") "__init__")) := W.su.fs 1 (d := ⟨d_Series_init, "Series"⟩)
theorem Wd.S_Alternation_init (W : Wd K mg) : SuX.FunS K "__init__" "Alternation.__init__" (defArgs s_Alternation_init) (defBody s_Alternation_init) (defScope s_Alternation_init) [] (ga K "Alternation") mfile (ma K (ga K "Alternation") "__init__") (ChH.fdOf K (ma K (ga K "Alternation") "__init__")) (ChH.nfOf K (ma K (ga K "Alternation") "__init__")) := W.su.fs 2 (d := ⟨d_Alternation_init, "Alternation"⟩)
theorem Wd.S_Turning_init (W : Wd K mg) : SuX.FunS K "__init__" "Turning.__init__" (defArgs s_Turning_init) (defBody s_Turning_init) (defScope s_Turning_init) [] (ga K "Turning") mfile (ma K (ga K "Turning") "__init__") (ChH.fdOf K (ma K (ga K "Turning") "__init__")) (ChH.nfOf K (ma K (ga K "Turning") "__init__")) := W.su.fs 3 (d := ⟨d_Turning_init, "Turning"⟩)
theorem Wd.F_InvalidPlan_init (W : Wd K mg) : FunD K "__init__" "InvalidPlan.__init__" (defArgs s_InvalidPlan_init) (defBody s_InvalidPlan_init) (defScope s_InvalidPlan_init) [] [] (ma K (ga K "InvalidPlan") "__init__") (ChH.fdOf K (ma K (ga K "InvalidPlan") "__init__")) := W.s.df 0 (d := d_InvalidPlan_init)
theorem Wd.F_TooFewChairs_init (W : Wd K mg) : FunD K "__init__" "TooFewChairs.__init__" (defArgs s_TooFewChairs_init) (defBody s_TooFewChairs_init) (defScope s_TooFewChairs_init) [] [] (ma K (ga K "TooFewChairs") "__init__") (ChH.fdOf K (ma K (ga K "TooFewChairs") "__init__")) := W.s.df 1 (d := d_TooFewChairs_init)
theorem Wd.F_InvalidText_init (W : Wd K mg) : FunD K "__init__" "InvalidText.__init__" (defArgs s_InvalidText_init) (defBody s_InvalidText_init) (defScope s_InvalidText_init) [] [] (ma K (ga K "InvalidText") "__init__") (ChH.fdOf K (ma K (ga K "InvalidText") "__init__")) := W.s.df 2 (d := d_InvalidText_init)
theorem Wd.F_InvalidOperation_init (W : Wd K mg) : FunD K "__init__" "InvalidOperation.__init__" (defArgs s_InvalidOperation_init) (defBody s_InvalidOperation_init) (defScope s_InvalidOperation_init) [] [] (ma K (ga K "InvalidOperation") "__init__") (ChH.fdOf K (ma K (ga K "InvalidOperation") "__init__")) := W.s.df 3 (d := d_InvalidOperation_init)
theorem Wd.F_DaybookError_init (W : Wd K mg) : FunD K "__init__" "DaybookError.__init__" (defArgs s_DaybookError_init) (defBody s_DaybookError_init) (defScope s_DaybookError_init) [] [] (ma K (ga K "DaybookError") "__init__") (ChH.fdOf K (ma K (ga K "DaybookError") "__init__")) := W.s.df 4 (d := d_DaybookError_init)
theorem Wd.F_DecodeError_init (W : Wd K mg) : FunD K "__init__" "DecodeError.__init__" (defArgs s_DecodeError_init) (defBody s_DecodeError_init) (defScope s_DecodeError_init) [] [] (ma K (ga K "DecodeError") "__init__") (ChH.fdOf K (ma K (ga K "DecodeError") "__init__")) := W.s.df 5 (d := d_DecodeError_init)
theorem Wd.F_is_number (W : Wd K mg) : FunD K "is_number" "is_number" (defArgs s_is_number) (defBody s_is_number) (defScope s_is_number) [] [] (ga K "is_number") (ChH.fdOf K (ga K "is_number")) := W.s.df 6 (d := d_is_number)
theorem Wd.k_is_number (W : Wd K mg) : PySem.W.keepIn K (.ref (ga K "is_number")) = true := W.F_is_number.kp
theorem Wd.F_is_step (W : Wd K mg) : FunD K "is_step" "is_step" (defArgs s_is_step) (defBody s_is_step) (defScope s_is_step) [] [] (ga K "is_step") (ChH.fdOf K (ga K "is_step")) := W.s.df 7 (d := d_is_step)
theorem Wd.k_is_step (W : Wd K mg) : PySem.W.keepIn K (.ref (ga K "is_step")) = true := W.F_is_step.kp
theorem Wd.F_Plan_init (W : Wd K mg) : FunD K "__init__" "Plan.__init__" (defArgs s_Plan_init) (defBody s_Plan_init) (defScope s_Plan_init) [] [] (ma K (ga K "Plan") "__init__") (ChH.fdOf K (ma K (ga K "Plan") "__init__")) := W.s.df 8 (d := d_Plan_init)
theorem Wd.F_validate_room (W : Wd K mg) : FunD K "validate_room" "validate_room" (defArgs s_validate_room) (defBody s_validate_room) (defScope s_validate_room) [] [] (ga K "validate_room") (ChH.fdOf K (ga K "validate_room")) := W.s.df 9 (d := d_validate_room)
theorem Wd.k_validate_room (W : Wd K mg) : PySem.W.keepIn K (.ref (ga K "validate_room")) = true := W.F_validate_room.kp
theorem Wd.F_validate_need (W : Wd K mg) : FunD K "validate_need" "validate_need" (defArgs s_validate_need) (defBody s_validate_need) (defScope s_validate_need) [] [] (ga K "validate_need") (ChH.fdOf K (ga K "validate_need")) := W.s.df 10 (d := d_validate_need)
theorem Wd.k_validate_need (W : Wd K mg) : PySem.W.keepIn K (.ref (ga K "validate_need")) = true := W.F_validate_need.kp
theorem Wd.F_Booking_init (W : Wd K mg) : FunD K "__init__" "Booking.__init__" (defArgs s_Booking_init) (defBody s_Booking_init) (defScope s_Booking_init) [] [] (ma K (ga K "Booking") "__init__") (ChH.fdOf K (ma K (ga K "Booking") "__init__")) := W.s.df 11 (d := d_Booking_init)
theorem Wd.F_Booking_planned (W : Wd K mg) : FunD K "planned" "Booking.planned" (defArgs s_Booking_planned) (defBody s_Booking_planned) (defScope s_Booking_planned) [] [] (ma K (ga K "Booking") "planned") (ChH.fdOf K (ma K (ga K "Booking") "planned")) := W.s.df 12 (d := d_Booking_planned)
theorem Wd.F_Booking_line (W : Wd K mg) : FunD K "line" "Booking.line" (defArgs s_Booking_line) (defBody s_Booking_line) (defScope s_Booking_line) [] [] (gp "Booking" "line" K) (ChH.fdOf K (gp "Booking" "line" K)) := W.s.df 13 (d := d_Booking_line)
theorem Wd.F_Meeting_planned (W : Wd K mg) : FunD K "planned" "Meeting.planned" (defArgs s_Meeting_planned) (defBody s_Meeting_planned) (defScope s_Meeting_planned) [] [] (ma K (ga K "Meeting") "planned") (ChH.fdOf K (ma K (ga K "Meeting") "planned")) := W.s.df 14 (d := d_Meeting_planned)
theorem Wd.F_Meeting_line (W : Wd K mg) : FunD K "line" "Meeting.line" (defArgs s_Meeting_line) (defBody s_Meeting_line) (defScope s_Meeting_line) [] [] (gp "Meeting" "line" K) (ChH.fdOf K (gp "Meeting" "line" K)) := W.s.df 15 (d := d_Meeting_line)
theorem Wd.F_Series_line (W : Wd K mg) : FunD K "line" "Series.line" (defArgs s_Series_line) (defBody s_Series_line) (defScope s_Series_line) [] [] (gp "Series" "line" K) (ChH.fdOf K (gp "Series" "line" K)) := W.s.df 16 (d := d_Series_line)
theorem Wd.F_Turning_planned (W : Wd K mg) : FunD K "planned" "Turning.planned" (defArgs s_Turning_planned) (defBody s_Turning_planned) (defScope s_Turning_planned) [] [] (ma K (ga K "Turning") "planned") (ChH.fdOf K (ma K (ga K "Turning") "planned")) := W.s.df 17 (d := d_Turning_planned)
theorem Wd.F_Turning_line (W : Wd K mg) : FunD K "line" "Turning.line" (defArgs s_Turning_line) (defBody s_Turning_line) (defScope s_Turning_line) [] [] (gp "Turning" "line" K) (ChH.fdOf K (gp "Turning" "line" K)) := W.s.df 18 (d := d_Turning_line)
theorem Wd.F_format_bookings (W : Wd K mg) : FunD K "format_bookings" "format_bookings" (defArgs s_format_bookings) (defBody s_format_bookings) (defScope s_format_bookings) [] [] (ga K "format_bookings") (ChH.fdOf K (ga K "format_bookings")) := W.s.df 19 (d := d_format_bookings)
theorem Wd.k_format_bookings (W : Wd K mg) : PySem.W.keepIn K (.ref (ga K "format_bookings")) = true := W.F_format_bookings.kp
theorem Wd.F_parse_integer (W : Wd K mg) : FunD K "parse_integer" "parse_integer" (defArgs s_parse_integer) (defBody s_parse_integer) (defScope s_parse_integer) [] [] (ga K "parse_integer") (ChH.fdOf K (ga K "parse_integer")) := W.s.df 20 (d := d_parse_integer)
theorem Wd.k_parse_integer (W : Wd K mg) : PySem.W.keepIn K (.ref (ga K "parse_integer")) = true := W.F_parse_integer.kp
theorem Wd.F_booking_of (W : Wd K mg) : FunD K "booking_of" "booking_of" (defArgs s_booking_of) (defBody s_booking_of) (defScope s_booking_of) [] [] (ga K "booking_of") (ChH.fdOf K (ga K "booking_of")) := W.s.df 21 (d := d_booking_of)
theorem Wd.k_booking_of (W : Wd K mg) : PySem.W.keepIn K (.ref (ga K "booking_of")) = true := W.F_booking_of.kp
theorem Wd.F_parse_bookings (W : Wd K mg) : FunD K "parse_bookings" "parse_bookings" (defArgs s_parse_bookings) (defBody s_parse_bookings) (defScope s_parse_bookings) [] [] (ga K "parse_bookings") (ChH.fdOf K (ga K "parse_bookings")) := W.s.df 22 (d := d_parse_bookings)
theorem Wd.k_parse_bookings (W : Wd K mg) : PySem.W.keepIn K (.ref (ga K "parse_bookings")) = true := W.F_parse_bookings.kp
theorem Wd.F__law_mix (W : Wd K mg) : FunD K "_law_mix" "_law_mix" (defArgs s__law_mix) (defBody s__law_mix) (defScope s__law_mix) [] [] (ga K "_law_mix") (ChH.fdOf K (ga K "_law_mix")) := W.s.df 23 (d := d__law_mix)
theorem Wd.k__law_mix (W : Wd K mg) : PySem.W.keepIn K (.ref (ga K "_law_mix")) = true := W.F__law_mix.kp
theorem Wd.F__law_next (W : Wd K mg) : FunD K "_law_next" "_law_next" (defArgs s__law_next) (defBody s__law_next) (defScope s__law_next) [] [] (ga K "_law_next") (ChH.fdOf K (ga K "_law_next")) := W.s.df 24 (d := d__law_next)
theorem Wd.k__law_next (W : Wd K mg) : PySem.W.keepIn K (.ref (ga K "_law_next")) = true := W.F__law_next.kp
theorem Wd.F__law_alike (W : Wd K mg) : FunD K "_law_alike" "_law_alike" (defArgs s__law_alike) (defBody s__law_alike) (defScope s__law_alike) [] [] (ga K "_law_alike") (ChH.fdOf K (ga K "_law_alike")) := W.s.df 25 (d := d__law_alike)
theorem Wd.k__law_alike (W : Wd K mg) : PySem.W.keepIn K (.ref (ga K "_law_alike")) = true := W.F__law_alike.kp
theorem Wd.F__law_outcome (W : Wd K mg) : FunD K "_law_outcome" "_law_outcome" (defArgs s__law_outcome) (defBody s__law_outcome) (defScope s__law_outcome) [] [] (ga K "_law_outcome") (ChH.fdOf K (ga K "_law_outcome")) := W.s.df 26 (d := d__law_outcome)
theorem Wd.k__law_outcome (W : Wd K mg) : PySem.W.keepIn K (.ref (ga K "_law_outcome")) = true := W.F__law_outcome.kp
theorem Wd.F__law_booking (W : Wd K mg) : FunD K "_law_booking" "_law_booking" (defArgs s__law_booking) (defBody s__law_booking) (defScope s__law_booking) [] [] (ga K "_law_booking") (ChH.fdOf K (ga K "_law_booking")) := W.s.df 27 (d := d__law_booking)
theorem Wd.k__law_booking (W : Wd K mg) : PySem.W.keepIn K (.ref (ga K "_law_booking")) = true := W.F__law_booking.kp
theorem Wd.F__law_number (W : Wd K mg) : FunD K "_law_number" "_law_number" (defArgs s__law_number) (defBody s__law_number) (defScope s__law_number) [] [] (ga K "_law_number") (ChH.fdOf K (ga K "_law_number")) := W.s.df 28 (d := d__law_number)
theorem Wd.k__law_number (W : Wd K mg) : PySem.W.keepIn K (.ref (ga K "_law_number")) = true := W.F__law_number.kp
theorem Wd.F__law_read (W : Wd K mg) : FunD K "_law_read" "_law_read" (defArgs s__law_read) (defBody s__law_read) (defScope s__law_read) [] [] (ga K "_law_read") (ChH.fdOf K (ga K "_law_read")) := W.s.df 29 (d := d__law_read)
theorem Wd.k__law_read (W : Wd K mg) : PySem.W.keepIn K (.ref (ga K "_law_read")) = true := W.F__law_read.kp
theorem Wd.F__law_bent (W : Wd K mg) : FunD K "_law_bent" "_law_bent" (defArgs s__law_bent) (defBody s__law_bent) (defScope s__law_bent) [] [] (ga K "_law_bent") (ChH.fdOf K (ga K "_law_bent")) := W.s.df 30 (d := d__law_bent)
theorem Wd.k__law_bent (W : Wd K mg) : PySem.W.keepIn K (.ref (ga K "_law_bent")) = true := W.F__law_bent.kp
theorem Wd.F_law (W : Wd K mg) : FunD K "law" "law" (defArgs s_law) (defBody s_law) (defScope s_law) [] [] (ga K "law") (ChH.fdOf K (ga K "law")) := W.s.df 31 (d := d_law)
theorem Wd.k_law (W : Wd K mg) : PySem.W.keepIn K (.ref (ga K "law")) = true := W.F_law.kp
end
/-! ### names -/
abbrev N_InvalidPlan_init : List Str := ["self", "index"]
theorem sc_InvalidPlan_init : FnScope N_InvalidPlan_init ["self", "index"] (defScope s_InvalidPlan_init) := ⟨rfl, rfl, rfl, by decide +kernel, rfl, by decide +kernel, by decide +kernel⟩
abbrev N_TooFewChairs_init : List Str := ["self", "index"]
theorem sc_TooFewChairs_init : FnScope N_TooFewChairs_init ["self", "index"] (defScope s_TooFewChairs_init) := ⟨rfl, rfl, rfl, by decide +kernel, rfl, by decide +kernel, by decide +kernel⟩
abbrev N_InvalidText_init : List Str := ["self", "row"]
theorem sc_InvalidText_init : FnScope N_InvalidText_init ["self", "row"] (defScope s_InvalidText_init) := ⟨rfl, rfl, rfl, by decide +kernel, rfl, by decide +kernel, by decide +kernel⟩
abbrev N_InvalidOperation_init : List Str := ["self", "index"]
theorem sc_InvalidOperation_init : FnScope N_InvalidOperation_init ["self", "index"] (defScope s_InvalidOperation_init) := ⟨rfl, rfl, rfl, by decide +kernel, rfl, by decide +kernel, by decide +kernel⟩
abbrev N_DaybookError_init : List Str := ["self", "row"]
theorem sc_DaybookError_init : FnScope N_DaybookError_init ["self", "row"] (defScope s_DaybookError_init) := ⟨rfl, rfl, rfl, by decide +kernel, rfl, by decide +kernel, by decide +kernel⟩
abbrev N_DecodeError_init : List Str := ["self", "offset"]
theorem sc_DecodeError_init : FnScope N_DecodeError_init ["self", "offset"] (defScope s_DecodeError_init) := ⟨rfl, rfl, rfl, by decide +kernel, rfl, by decide +kernel, by decide +kernel⟩
abbrev N_is_number : List Str := ["value"]
theorem sc_is_number : FnScope N_is_number ["value"] (defScope s_is_number) := ⟨rfl, rfl, rfl, by decide +kernel, rfl, by decide +kernel, by decide +kernel⟩
abbrev N_is_step : List Str := ["step"]
theorem sc_is_step : FnScope N_is_step ["step"] (defScope s_is_step) := ⟨rfl, rfl, rfl, by decide +kernel, rfl, by decide +kernel, by decide +kernel⟩
abbrev N_Plan_init : List Str := ["self", "steps", "index", "step"]
theorem sc_Plan_init : FnScope N_Plan_init ["self", "steps"] (defScope s_Plan_init) := ⟨rfl, rfl, rfl, by decide +kernel, rfl, by decide +kernel, by decide +kernel⟩
abbrev N_validate_room : List Str := ["room"]
theorem sc_validate_room : FnScope N_validate_room ["room"] (defScope s_validate_room) := ⟨rfl, rfl, rfl, by decide +kernel, rfl, by decide +kernel, by decide +kernel⟩
abbrev N_validate_need : List Str := ["need"]
theorem sc_validate_need : FnScope N_validate_need ["need"] (defScope s_validate_need) := ⟨rfl, rfl, rfl, by decide +kernel, rfl, by decide +kernel, by decide +kernel⟩
abbrev N_Booking_init : List Str := ["self", "needs", "need"]
theorem sc_Booking_init : FnScope N_Booking_init ["self", "needs"] (defScope s_Booking_init) := ⟨rfl, rfl, rfl, by decide +kernel, rfl, by decide +kernel, by decide +kernel⟩
abbrev N_Booking_planned : List Str := ["self", "place", "need"]
theorem sc_Booking_planned : GScope N_Booking_planned ["self"] (defScope s_Booking_planned) := ⟨rfl, rfl, rfl, by decide +kernel, rfl, by decide +kernel, by decide +kernel⟩
abbrev N_Booking_line : List Str := ["self", "need"]
theorem sc_Booking_line : FnScope N_Booking_line ["self"] (defScope s_Booking_line) := ⟨rfl, rfl, rfl, by decide +kernel, rfl, by decide +kernel, by decide +kernel⟩
abbrev N_Meeting_init : List Str := ["self", "room", "needs"]
theorem sc_Meeting_init : SuX.SScope N_Meeting_init ["self", "room", "needs"] (defScope s_Meeting_init) := SuX.sscope_by (by decide +kernel)
abbrev N_Meeting_planned : List Str := ["self", "need"]
theorem sc_Meeting_planned : GScope N_Meeting_planned ["self"] (defScope s_Meeting_planned) := ⟨rfl, rfl, rfl, by decide +kernel, rfl, by decide +kernel, by decide +kernel⟩
abbrev N_Meeting_line : List Str := ["self"]
theorem sc_Meeting_line : FnScope N_Meeting_line ["self"] (defScope s_Meeting_line) := ⟨rfl, rfl, rfl, by decide +kernel, rfl, by decide +kernel, by decide +kernel⟩
abbrev N_Series_init : List Str := ["self", "room", "need", "times", "more", "needs", "turn"]
theorem sc_Series_init : SuX.SScope N_Series_init ["self", "room", "need", "times", "more"] (defScope s_Series_init) := SuX.sscope_by (by decide +kernel)
abbrev N_Series_line : List Str := ["self", "words"]
theorem sc_Series_line : FnScope N_Series_line ["self"] (defScope s_Series_line) := ⟨rfl, rfl, rfl, by decide +kernel, rfl, by decide +kernel, by decide +kernel⟩
abbrev N_Alternation_init : List Str := ["self", "needs"]
theorem sc_Alternation_init : SuX.SScope N_Alternation_init ["self", "needs"] (defScope s_Alternation_init) := SuX.sscope_by (by decide +kernel)
abbrev N_Turning_init : List Str := ["self"]
theorem sc_Turning_init : SuX.SScope N_Turning_init ["self"] (defScope s_Turning_init) := SuX.sscope_by (by decide +kernel)
abbrev N_Turning_planned : List Str := ["self"]
theorem sc_Turning_planned : GScope N_Turning_planned ["self"] (defScope s_Turning_planned) := ⟨rfl, rfl, rfl, by decide +kernel, rfl, by decide +kernel, by decide +kernel⟩
abbrev N_Turning_line : List Str := ["self"]
theorem sc_Turning_line : FnScope N_Turning_line ["self"] (defScope s_Turning_line) := ⟨rfl, rfl, rfl, by decide +kernel, rfl, by decide +kernel, by decide +kernel⟩
abbrev N_format_bookings : List Str := ["bookings", "booking"]
theorem sc_format_bookings : FnScope N_format_bookings ["bookings"] (defScope s_format_bookings) := ⟨rfl, rfl, rfl, by decide +kernel, rfl, by decide +kernel, by decide +kernel⟩
abbrev N_parse_integer : List Str := ["word", "digits", "digit"]
theorem sc_parse_integer : FnScope N_parse_integer ["word"] (defScope s_parse_integer) := ⟨rfl, rfl, rfl, by decide +kernel, rfl, by decide +kernel, by decide +kernel⟩
abbrev N_booking_of : List Str := ["words", "numbers", "rest", "needs", "need", "times", "more", "word"]
theorem sc_booking_of : FnScope N_booking_of ["words"] (defScope s_booking_of) := ⟨rfl, rfl, rfl, by decide +kernel, rfl, by decide +kernel, by decide +kernel⟩
abbrev N_parse_bookings : List Str := ["text", "found", "row", "line", "booking"]
theorem sc_parse_bookings : FnScope N_parse_bookings ["text"] (defScope s_parse_bookings) := ⟨rfl, rfl, rfl, by decide +kernel, rfl, by decide +kernel, by decide +kernel⟩
abbrev N__law_mix : List Str := ["_law_script", "_law_seed", "_law_mixed", "_law_cell"]
theorem sc__law_mix : FnScope N__law_mix ["_law_script", "_law_seed"] (defScope s__law_mix) := ⟨rfl, rfl, rfl, by decide +kernel, rfl, by decide +kernel, by decide +kernel⟩
abbrev N__law_next : List Str := ["_law_h", "_law_limit", "_law_cell"]
theorem sc__law_next : FnScope N__law_next ["_law_h", "_law_limit"] (defScope s__law_next) := ⟨rfl, rfl, rfl, by decide +kernel, rfl, by decide +kernel, by decide +kernel⟩
abbrev N__law_alike : List Str := ["_law_found", "_law_due", "_law_k"]
theorem sc__law_alike : FnScope N__law_alike ["_law_found", "_law_due"] (defScope s__law_alike) := ⟨rfl, rfl, rfl, by decide +kernel, rfl, by decide +kernel, by decide +kernel⟩
abbrev N__law_outcome : List Str := ["_law_call", "e", "_law_kinds", "_law_words", "_law_word"]
theorem sc__law_outcome : FnScope N__law_outcome ["_law_call"] (defScope s__law_outcome) := ⟨rfl, rfl, rfl, by decide +kernel, rfl, by decide +kernel, by decide +kernel⟩
abbrev N__law_booking : List Str := ["_law_h", "_law_room", "_law_need", "_law_kind", "_law_needs", "_law_steps", "_law_many", "_law_plus", "_law_words", "_law_turn", "_law_k", "_law_one"]
theorem sc__law_booking : FnScope N__law_booking ["_law_h"] (defScope s__law_booking) := ⟨rfl, rfl, rfl, by decide +kernel, rfl, by decide +kernel, by decide +kernel⟩
abbrev N__law_number : List Str := ["_law_word", "_law_digits", "_law_c"]
theorem sc__law_number : FnScope N__law_number ["_law_word"] (defScope s__law_number) := ⟨rfl, rfl, rfl, by decide +kernel, rfl, by decide +kernel, by decide +kernel⟩
abbrev N__law_read : List Str := ["_law_words", "_law_numbers", "_law_good", "_law_form", "_law_many", "_law_plus", "_law_steps", "_law_needs", "_law_word", "_law_turn", "_law_one", "_law_k"]
theorem sc__law_read : FnScope N__law_read ["_law_words"] (defScope s__law_read) := ⟨rfl, rfl, rfl, by decide +kernel, rfl, by decide +kernel, by decide +kernel⟩
abbrev N__law_bent : List Str := ["_law_h", "_law_text", "_law_lines", "_law_k", "_law_words", "_law_j", "_law_odd", "_law_changed", "_law_line", "_law_some"]
theorem sc__law_bent : FnScope N__law_bent ["_law_h", "_law_text"] (defScope s__law_bent) := ⟨rfl, rfl, rfl, by decide +kernel, rfl, by decide +kernel, by decide +kernel⟩
abbrev N_law : List Str := ["_law_script", "_law_h", "_law_turn", "_law_some", "_law_text", "_law_found", "_law_ends", "_law_change", "_law_rows", "_law_result", "_law_bent_here", "_law_k", "_law_words", "_law_steps", "_law_booking_here", "_law_line"]
theorem sc_law : FnScope N_law ["_law_script"] (defScope s_law) := ⟨rfl, rfl, rfl, by decide +kernel, rfl, by decide +kernel, by decide +kernel⟩

end K42

set_option Elab.async false
set_option linter.all false
set_option autoImplicit false
set_option maxRecDepth 100000
set_option pp.maxSteps 500
set_option maxHeartbeats 0
namespace K42
open PySem PySem.Spec PyProof.Rows L2 He ChH
abbrev R : PySem.W.OpenRow := PySem.W.OpenLaw.row PySem.Challenge.rw_chaircarry_k42_whole_texts_of_bookings
abbrev hk : PySem.W.Hook := hookU 5 mfile faL xsL dfL suL
def ob (s : PySem.W.SharedT) : He.AlD := obsUG 5 mfile faL xsL dfL suL (HandSHeadRun.getT s)
theorem ob_eq (s : PySem.W.SharedT) : ob s = hk.obs s.abs := obsUG_eq (HandSHeadRun.getT_eq s)
def loose : List Str := (["_wall", "__name__", "_wall", "ChairError", "InvalidPlan", "TooFewChairs", "InvalidNumber", "InvalidBooking", "InvalidText", "NotEnough", "InvalidOperation", "DaybookError", "DecodeError", "RED", "BLUE", "TURN", "is_number", "is_step", "Plan", "MAX_TIMES"] : List Str) ++ (["DIGITS", "validate_room", "validate_need", "Booking", "Meeting", "Series", "Alternation", "Turning", "format_bookings", "parse_integer", "booking_of", "parse_bookings", "_law_mix", "_law_next", "_law_alike", "_law_outcome", "_law_booking", "_law_made", "_law_number", "_law_read"] : List Str) ++ (["_law_bent"] : List Str)
theorem run (w : World) : HandSHeadRun.RunEq R (PySem.W.view R.prog [43]) hk ob 8000 loose w := by
  intro os
  kernel_rfl
end K42

set_option linter.all false
set_option autoImplicit false
set_option maxRecDepth 100000
set_option maxHeartbeats 4000000
namespace ChM
/-! ### a simulation of the two rooms -/
def play1 (p : Int × Int) : Stp → (Int × Int) × Int
  | .turn => ((p.2, p.1), 0)
  | .mt true n => ((p.1 + mx 0 (n - p.1), p.2 - mx 0 (n - p.1)), mx 0 (n - p.1))
  | .mt false n => ((p.1 - mx 0 (n - p.2), p.2 + mx 0 (n - p.2)), mx 0 (n - p.2))
def playS : Int × Int → List Stp → Int × Int
  | p, [] => p
  | p, s :: r => playS (play1 p s).1 r
def playC : Int × Int → List Stp → List Int
  | _, [] => []
  | p, s :: r => (play1 p s).2 :: playC (play1 p s).1 r
theorem playS_snoc : ∀ (l : List Stp) (p : Int × Int) (s : Stp), playS p (l ++ [s]) = (play1 (playS p l) s).1
  | [], _, _ => rfl
  | x :: r, p, s => playS_snoc r (play1 p x).1 s
theorem playC_snoc : ∀ (l : List Stp) (p : Int × Int) (s : Stp), playC p (l ++ [s]) = playC p l ++ [(play1 (playS p l) s).2]
  | [], _, _ => rfl
  | x :: r, p, s => congrArg (_ :: ·) (playC_snoc r (play1 p x).1 s)
theorem playC_len : ∀ (l : List Stp) (p : Int × Int), (playC p l).length = l.length
  | [], _ => rfl
  | x :: r, p => congrArg (· + 1) (playC_len r (play1 p x).1)
def sideAt : Int → List Stp → Int
  | s, [] => s
  | s, .turn :: r => sideAt (0 - s) r
  | s, .mt _ _ :: r => sideAt s r
theorem sides_len : ∀ (l : List Stp) (s : Int), (sides s l).length = l.length
  | [], _ => rfl
  | .turn :: r, s => congrArg (· + 1) (sides_len r (0 - s))
  | .mt _ _ :: r, s => congrArg (· + 1) (sides_len r s)
theorem sides_snoc : ∀ (l : List Stp) (s : Int) (x : Stp), sides s (l ++ [x]) = sides s l ++ sides (sideAt s l) [x]
  | [], _, _ => rfl
  | .turn :: r, s, x => by show (0, 0) :: sides (0 - s) (r ++ [x]) = (0, 0) :: sides (0 - s) r ++ _; rw [sides_snoc]; rfl
  | .mt b n :: r, s, x => by show (_, n) :: sides s (r ++ [x]) = (_, n) :: sides s r ++ _; rw [sides_snoc]; rfl
theorem sideAt_snoc : ∀ (l : List Stp) (s : Int) (x : Stp), sideAt s (l ++ [x]) = sideAt (sideAt s l) [x]
  | [], _, _ => rfl
  | .turn :: r, s, x => sideAt_snoc r (0 - s) x
  | .mt b n :: r, s, x => sideAt_snoc r s x
theorem turns_app (a b : List Stp) : turns (a ++ b) = turns a + turns b := by
  induction a with
  | nil => show turns b = 0 + turns b; omega
  | cons s r ih =>
    cases s with
    | turn => show turns (r ++ b) + 1 = turns r + 1 + turns b; omega
    | mt c n => exact ih
theorem turns_step {l : List Stp} {i : Nat} {s : Stp} (h : l[i]? = some s) : turns (l.take (i + 1)) = turns (l.take i) + (if s = .turn then 1 else 0) := by
  rw [List.take_add_one, h, turns_app]
  cases s <;> rfl
theorem turns_le : ∀ l : List Stp, turns l ≤ l.length
  | [] => Nat.le_refl _
  | .turn :: r => Nat.succ_le_succ (turns_le r)
  | .mt _ _ :: r => Nat.le_succ_of_le (turns_le r)
theorem sideAt_turns : ∀ (l : List Stp) (s : Int), sideAt s l = if turns l % 2 = 1 then 0 - s else s
  | [], s => rfl
  | .turn :: r, s => by
    show sideAt (0 - s) r = if (turns r + 1) % 2 = 1 then 0 - s else s
    rw [sideAt_turns r (0 - s)]
    by_cases h : turns r % 2 = 1
    · rw [if_pos h, if_neg (by omega)]
      omega
    · rw [if_neg h, if_pos (by omega)]
  | .mt _ _ :: r, s => sideAt_turns r s
theorem sideAt_turning (l : List Stp) : sideAt 1 l = if turning l then -1 else 1 := by
  rw [sideAt_turns]
  unfold turning
  by_cases h : turns l % 2 = 1
  · rw [h]
    rfl
  · rw [if_neg h, beq_false_of_ne h]
    rfl
/-- the place of the room that is red at first -/
def placeOf (s : Int) (p : Int × Int) : Int := if s = 1 then p.1 else p.2
theorem play_sim {c : Int} : ∀ (l : List Stp) (s : Int) (p : Int × Int), (s = 1 ∨ s = -1) → p.1 + p.2 = c →
    (playS p l).1 + (playS p l).2 = c ∧ placeOf (sideAt s l) (playS p l) = simP c (sides s l) (placeOf s p) ∧ (playC p l).sum = simC c (sides s l) (placeOf s p)
  | [], s, p, _, h => ⟨h, rfl, rfl⟩
  | .turn :: r, s, p, hs, h => by
    obtain ⟨a, b, d⟩ := play_sim r (0 - s) (p.2, p.1) (by omega) (by show p.2 + p.1 = c; omega)
    have e : placeOf (0 - s) (p.2, p.1) = placeOf s p := by
      unfold placeOf
      rcases hs with rfl | rfl
      · rw [if_neg (by decide), if_pos rfl]
      · rw [if_pos (by decide), if_neg (by decide)]
    have m : moved c (placeOf s p) 0 0 = placeOf s p := by
      unfold moved
      rw [if_neg (by decide), if_neg (by decide)]
    rw [e] at b d
    refine ⟨a, ?_, ?_⟩
    · show placeOf (sideAt (0 - s) r) (playS (p.2, p.1) r) = simP c (sides (0 - s) r) (moved c (placeOf s p) 0 0)
      rw [m, b]
    · show (0 :: playC (p.2, p.1) r).sum = absI (moved c (placeOf s p) 0 0 - placeOf s p) + simC c (sides (0 - s) r) (moved c (placeOf s p) 0 0)
      rw [m, List.sum_cons, d]
      unfold absI
      rw [if_neg (by omega)]
      omega
  | .mt true n :: r, s, p, hs, h => by
    have hm := mx_def 0 (n - p.1)
    obtain ⟨a, b, d⟩ := play_sim r s (p.1 + mx 0 (n - p.1), p.2 - mx 0 (n - p.1)) hs (by show p.1 + mx 0 (n - p.1) + (p.2 - mx 0 (n - p.1)) = c; omega)
    have m : moved c (placeOf s p) s n = placeOf s (p.1 + mx 0 (n - p.1), p.2 - mx 0 (n - p.1)) ∧ absI (moved c (placeOf s p) s n - placeOf s p) = mx 0 (n - p.1) := by
      unfold moved placeOf absI
      rcases hs with rfl | rfl
      · rw [if_pos rfl, if_pos rfl, if_pos rfl]
        have := mx_def p.1 n
        dsimp only
        split <;> omega
      · rw [if_neg (by decide), if_pos rfl, if_neg (by decide), if_neg (by decide)]
        have := mn_def p.2 (c - n)
        dsimp only
        split <;> omega
    refine ⟨a, ?_, ?_⟩
    · show placeOf (sideAt s r) _ = simP c (sides s r) (moved c (placeOf s p) s n)
      rw [m.1]
      exact b
    · show (mx 0 (n - p.1) :: playC _ r).sum = absI (moved c (placeOf s p) s n - placeOf s p) + simC c (sides s r) (moved c (placeOf s p) s n)
      rw [m.2, m.1, List.sum_cons, ← d]
      rfl
  | .mt false n :: r, s, p, hs, h => by
    have hm := mx_def 0 (n - p.2)
    obtain ⟨a, b, d⟩ := play_sim r s (p.1 - mx 0 (n - p.2), p.2 + mx 0 (n - p.2)) hs (by show p.1 - mx 0 (n - p.2) + (p.2 + mx 0 (n - p.2)) = c; omega)
    have m : moved c (placeOf s p) (0 - s) n = placeOf s (p.1 - mx 0 (n - p.2), p.2 + mx 0 (n - p.2)) ∧ absI (moved c (placeOf s p) (0 - s) n - placeOf s p) = mx 0 (n - p.2) := by
      unfold moved placeOf absI
      rcases hs with rfl | rfl
      · rw [if_neg (by decide), if_pos (by decide), if_pos rfl, if_pos rfl]
        have := mn_def p.1 (c - n)
        dsimp only
        split <;> omega
      · rw [if_pos (by decide), if_neg (by decide), if_neg (by decide)]
        have := mx_def p.2 n
        dsimp only
        split <;> omega
    refine ⟨a, ?_, ?_⟩
    · show placeOf (sideAt s r) _ = simP c (sides s r) (moved c (placeOf s p) (0 - s) n)
      rw [m.1]
      exact b
    · show (mx 0 (n - p.2) :: playC _ r).sum = absI (moved c (placeOf s p) (0 - s) n - placeOf s p) + simC c (sides s r) (moved c (placeOf s p) (0 - s) n)
      rw [m.2, m.1, List.sum_cons, ← d]
      rfl
/-- a summary is right -/
theorem summary_right {c x : Int} {l : List Stp} (hl : fitsS c l) (h0 : 0 ≤ x) (h1 : x ≤ c) :
    (playC (x, c - x) l).sum = (effOf c l).carried x ∧ (playS (x, c - x) l).1 = (effOf c l).fin x := by
  have hc : 0 ≤ c := by omega
  obtain ⟨o, oc, ot, f⟩ := effOf_ok hc hl
  obtain ⟨f1, f2⟩ := f x h0 h1
  obtain ⟨a, b, d⟩ := play_sim (c := c) l 1 (x, c - x) (.inl rfl) (by show x + (c - x) = c; omega)
  have e : placeOf 1 (x, c - x) = x := rfl
  rw [e] at b d
  refine ⟨by rw [d, f2], ?_⟩
  unfold Eff.fin
  rw [f1, ot, ← b, oc, sideAt_turning]
  unfold placeOf
  cases turning l with
  | true =>
    simp
    omega
  | false => simp
end ChM

set_option linter.all false
set_option autoImplicit false
set_option maxRecDepth 100000
set_option maxHeartbeats 4000000
namespace ChM
/-! ### effects one after another, rounds -/
def Eff.later (a b : Eff) : Eff := if a.tu then b.mir else b
def goal2 (x y : Option Int) : Option Int := match y with
  | none => x
  | some g => some g
def Eff.followed (a b : Eff) : Eff := mkE a.c ((a.atLeast (a.later b).lo).atMost (a.later b).hi).lo ((a.atLeast (a.later b).lo).atMost (a.later b).hi).hi (((a.atLeast (a.later b).lo).atMost (a.later b).hi).ex + (a.later b).ex) (goal2 ((a.atLeast (a.later b).lo).atMost (a.later b).hi).goal (a.later b).goal) (!decide (a.tu = b.tu))
theorem after_ok {a l : Eff} (ha : a.Ok) (hl : l.Ok) (hc : l.c = a.c) (t : Bool) :
    ∀ R, R = mkE a.c ((a.atLeast l.lo).atMost l.hi).lo ((a.atLeast l.lo).atMost l.hi).hi (((a.atLeast l.lo).atMost l.hi).ex + l.ex) (goal2 ((a.atLeast l.lo).atMost l.hi).goal l.goal) t →
    R.Ok ∧ ∀ x, R.place x = l.place (a.place x) ∧ R.carried x = a.carried x + l.carried (a.place x) := by
  intro R eR
  have l0 := hl.lo0
  have l1 := hl.lh
  have l2 := hl.hc
  have l3 := hl.ex0
  obtain ⟨o1, c1, t1, f1⟩ := atLeast_ok ha (n := l.lo) l0 (by omega)
  obtain ⟨o2, c2, t2, f2⟩ := atMost_ok o1 (m := l.hi) (by omega) (by omega)
  generalize hF : (a.atLeast l.lo).atMost l.hi = F at *
  have cF : F.c = a.c := c2.trans c1
  have pF : ∀ x, F.place x = mn (mx (a.place x) l.lo) l.hi := fun x => by rw [(f2 x).1, (f1 x).1]
  have kF : ∀ x, F.carried x = a.carried x + (mx (mx (l.lo - a.place x) (a.place x - l.hi)) 0) := fun x => by
    rw [(f2 x).2, (f1 x).1, (f1 x).2]
    have := mx_def (a.place x) l.lo
    have := mn_def (mx (a.place x) l.lo) l.hi
    have := mx_def (l.lo - a.place x) (a.place x - l.hi)
    have := mx_def (mx (l.lo - a.place x) (a.place x - l.hi)) 0
    omega
  have f0 := o2.lo0
  have g1 := o2.lh
  have g2 := o2.hc
  have g3 := o2.ex0
  have lc : ∀ x, l.carried x = mx (mx (l.lo - x) (x - l.hi)) 0 + l.ex := fun x => rfl
  have Fc : ∀ x, F.carried x = mx (mx (F.lo - x) (x - F.hi)) 0 + F.ex := fun x => rfl
  cases gl : l.goal with
  | none =>
    obtain ⟨e0, e1⟩ := hl.no gl
    rw [gl] at eR
    have eR2 : R = mkE a.c F.lo F.hi (F.ex + l.ex) F.goal t := eR
    rw [e0, Int.add_zero] at eR2
    have hR : R = { F with tu := t } := by
      rw [eR2, ← cF]
      exact mkE_self o2 t
    have lp : ∀ x, l.place x = mn (mx x l.lo) l.hi := fun x => place_none gl
    refine ⟨?_, fun x => ?_⟩
    · rw [hR]
      exact ⟨f0, g1, g2, g3, o2.no, o2.yes⟩
    · have q1 : R.place x = F.place x := by rw [hR]; rfl
      have q2 : R.carried x = F.carried x := by rw [hR]; rfl
      rw [q1, q2, pF, kF, lp, lc, e0]
      refine ⟨rfl, by omega⟩
  | some g =>
    obtain ⟨y0, y1⟩ := hl.yes g gl
    rw [gl] at eR
    have eR2 : R = mkE a.c F.lo F.hi (F.ex + l.ex) (some g) t := eR
    refine ⟨?_, fun x => ?_⟩
    · rw [eR2]
      exact Ok_some f0 g1 (by omega) (by omega) y0 (by omega)
    · have q1 : R.place x = g := by rw [eR2, mkE_some]; rfl
      have q2 : R.carried x = F.carried x + l.ex := by
        rw [eR2]
        unfold Eff.carried
        simp only [mkE_lo, mkE_hi, mkE_ex]
        omega
      rw [q1, q2, kF, place_some gl, lc]
      refine ⟨rfl, by omega⟩
theorem later_ok {a b : Eff} (hb : b.Ok) : (a.later b).Ok ∧ (a.later b).c = b.c := by
  obtain ⟨o, c, _, _⟩ := mir_ok hb
  unfold Eff.later
  split
  · exact ⟨o, c⟩
  · exact ⟨hb, rfl⟩
theorem fin_range {e : Eff} (h : e.Ok) {x : Int} (h0 : 0 ≤ x) (h1 : x ≤ e.c) : 0 ≤ e.fin x ∧ e.fin x ≤ e.c := by
  obtain ⟨a, b⟩ := place_range h h0 h1
  unfold Eff.fin
  split <;> omega
theorem carried_nonneg {e : Eff} (h : e.Ok) (x : Int) : 0 ≤ e.carried x := by
  have := h.ex0
  unfold Eff.carried
  have := mx_def (mx (e.lo - x) (x - e.hi)) 0
  omega
theorem followed_ok {a b : Eff} (ha : a.Ok) (hb : b.Ok) (hc : b.c = a.c) :
    (a.followed b).Ok ∧ (a.followed b).c = a.c ∧ (a.followed b).tu = !decide (a.tu = b.tu) ∧ ∀ x, (a.followed b).fin x = b.fin (a.fin x) ∧ (a.followed b).carried x = a.carried x + b.carried (a.fin x) := by
  obtain ⟨lo, lc⟩ := later_ok (a := a) hb
  obtain ⟨o, f⟩ := after_ok ha lo (lc.trans hc) (!decide (a.tu = b.tu)) (a.followed b) rfl
  have cc : (a.followed b).c = a.c := rfl
  have ct : (a.followed b).tu = !decide (a.tu = b.tu) := rfl
  refine ⟨o, cc, ct, fun x => ?_⟩
  obtain ⟨f1, f2⟩ := f x
  unfold Eff.fin
  rw [cc, ct, f1, f2]
  obtain ⟨_, _, _, m⟩ := mir_ok hb
  obtain ⟨m1, m2⟩ := m (a.place x)
  unfold Eff.later
  cases ta : a.tu with
  | true =>
    simp only [if_pos]
    rw [m1, m2, hc]
    refine ⟨?_, rfl⟩
    cases tb : b.tu
    · simp
      omega
    · simp
  | false =>
    simp only [Bool.false_eq_true, if_false, if_neg]
    cases tb : b.tu
    · simp
    · simp [hc]
/-- rounds of an effect -/
def runF (e : Eff) : Nat → Int → Int
  | 0, x => x
  | n + 1, x => runF e n (e.fin x)
def runC (e : Eff) : Nat → Int → Int
  | 0, _ => 0
  | n + 1, x => e.carried x + runC e n (e.fin x)
theorem runF_add (e : Eff) : ∀ (i j : Nat) (x : Int), runF e (i + j) x = runF e j (runF e i x)
  | 0, j, x => by rw [Nat.zero_add]; rfl
  | i + 1, j, x => by
    rw [show i + 1 + j = (i + j) + 1 by omega]
    exact runF_add e i j (e.fin x)
theorem runC_add (e : Eff) : ∀ (i j : Nat) (x : Int), runC e (i + j) x = runC e i x + runC e j (runF e i x)
  | 0, j, x => by
    rw [Nat.zero_add]
    show runC e j x = 0 + runC e j x
    omega
  | i + 1, j, x => by
    rw [show i + 1 + j = (i + j) + 1 by omega]
    show e.carried x + runC e (i + j) (e.fin x) = (e.carried x + runC e i (e.fin x)) + runC e j (runF e i (e.fin x))
    rw [runC_add e i j (e.fin x)]
    omega
theorem run_range {e : Eff} (h : e.Ok) : ∀ (n : Nat) {x : Int}, 0 ≤ x → x ≤ e.c → 0 ≤ runF e n x ∧ runF e n x ≤ e.c
  | 0, x, h0, h1 => ⟨h0, h1⟩
  | n + 1, x, h0, h1 => run_range h n (fin_range h h0 h1).1 (fin_range h h0 h1).2
structure IsPow (e : Eff) (n : Nat) (f : Eff) : Prop where
  ok : f.Ok
  c : f.c = e.c
  tu : f.tu = (e.tu && n % 2 == 1)
  fin : ∀ x, 0 ≤ x → x ≤ e.c → f.fin x = runF e n x
  car : ∀ x, 0 ≤ x → x ≤ e.c → f.carried x = runC e n x
theorem isPow_zero {e : Eff} (h : e.Ok) : IsPow e 0 (nothing e.c) := by
  have hc : 0 ≤ e.c := Int.le_trans h.lo0 (Int.le_trans h.lh h.hc)
  obtain ⟨o, f⟩ := nothing_ok hc
  refine ⟨o, rfl, by cases e.tu <;> rfl, fun x h0 h1 => ?_, fun x h0 h1 => (f x h0 h1).2⟩
  show (if false = true then _ else (nothing e.c).place x) = x
  rw [if_neg (by decide)]
  exact (f x h0 h1).1
theorem isPow_one {e : Eff} (h : e.Ok) : IsPow e 1 e := ⟨h, rfl, by cases e.tu <;> rfl, fun _ _ _ => rfl, fun x _ _ => by show _ = e.carried x + 0; omega⟩
theorem isPow_add {e a b : Eff} (h : e.Ok) {i j : Nat} (ha : IsPow e i a) (hb : IsPow e j b) : IsPow e (i + j) (a.followed b) := by
  obtain ⟨o, c, t, f⟩ := followed_ok ha.ok hb.ok (hb.c.trans ha.c.symm)
  refine ⟨o, c.trans ha.c, ?_, fun x h0 h1 => ?_, fun x h0 h1 => ?_⟩
  · rw [t, ha.tu, hb.tu]
    cases e.tu with
    | false => rfl
    | true =>
      have hi : i % 2 = 0 ∨ i % 2 = 1 := by omega
      have hj : j % 2 = 0 ∨ j % 2 = 1 := by omega
      have hij : (i + j) % 2 = (i % 2 + j % 2) % 2 := Nat.add_mod i j 2
      rw [hij]
      rcases hi with hi | hi <;> rcases hj with hj | hj <;> rw [hi, hj] <;> decide
  · obtain ⟨r0, r1⟩ := run_range h i h0 h1
    rw [(f x).1, ha.fin x h0 h1, hb.fin _ r0 r1, runF_add]
  · obtain ⟨r0, r1⟩ := run_range h i h0 h1
    rw [(f x).2, ha.fin x h0 h1, ha.car x h0 h1, hb.car _ r0 r1, runC_add]
/-! ### rounds of a plan are a longer plan -/
def times (l : List Stp) : Nat → List Stp
  | 0 => []
  | n + 1 => l ++ times l n
theorem playS_app : ∀ (a b : List Stp) (p : Int × Int), playS p (a ++ b) = playS (playS p a) b
  | [], _, _ => rfl
  | x :: r, b, p => playS_app r b (play1 p x).1
theorem playC_app : ∀ (a b : List Stp) (p : Int × Int), playC p (a ++ b) = playC p a ++ playC (playS p a) b
  | [], _, _ => rfl
  | x :: r, b, p => congrArg (_ :: ·) (playC_app r b (play1 p x).1)
theorem play_keep (l : List Stp) : ∀ (p : Int × Int), (playS p l).1 + (playS p l).2 = p.1 + p.2 := by
  induction l with
  | nil => exact fun p => rfl
  | cons s r ih =>
    intro p
    show (playS (play1 p s).1 r).1 + (playS (play1 p s).1 r).2 = _
    rw [ih]
    cases s with
    | turn => show p.2 + p.1 = _; omega
    | mt b n =>
      cases b
      · show p.1 - mx 0 (n - p.2) + (p.2 + mx 0 (n - p.2)) = _; omega
      · show p.1 + mx 0 (n - p.1) + (p.2 - mx 0 (n - p.1)) = _; omega
theorem play_pair {l : List Stp} {c x : Int} : playS (x, c - x) l = ((playS (x, c - x) l).1, c - (playS (x, c - x) l).1) := by
  have := play_keep l (x, c - x)
  have e : (x, c - x).1 + (x, c - x).2 = c := by show x + (c - x) = c; omega
  rw [e] at this
  generalize playS (x, c - x) l = p at this
  cases p with
  | mk u v =>
    show (u, v) = (u, c - u)
    rw [show v = c - u by show v = _; have : u + v = c := this; omega]
theorem rounds_right {c : Int} {l : List Stp} (hl : fitsS c l) : ∀ (n : Nat) {x : Int}, 0 ≤ x → x ≤ c →
    (playC (x, c - x) (times l n)).sum = runC (effOf c l) n x ∧ (playS (x, c - x) (times l n)).1 = runF (effOf c l) n x
  | 0, x, _, _ => ⟨rfl, rfl⟩
  | n + 1, x, h0, h1 => by
    obtain ⟨s1, s2⟩ := summary_right hl h0 h1
    obtain ⟨o, oc, _, _⟩ := effOf_ok (by omega : 0 ≤ c) hl
    have r := fin_range o h0 (by omega)
    obtain ⟨q1, q2⟩ := rounds_right hl n r.1 (by omega)
    show (playC (x, c - x) (l ++ times l n)).sum = _ ∧ (playS (x, c - x) (l ++ times l n)).1 = _
    rw [playS_app, playC_app, play_pair, s2, List.sum_append, q1, q2, s1]
    exact ⟨rfl, rfl⟩
end ChM

set_option linter.all false
set_option autoImplicit false
set_option maxRecDepth 100000
set_option maxHeartbeats 4000000
namespace ChM
/-! ### needs, two rounds -/
def mxL (l : List Int) : Int := l.foldr (fun a m => if a > m then a else m) 0
theorem mxL_ge : ∀ l : List Int, 0 ≤ mxL l ∧ ∀ y ∈ l, y ≤ mxL l
  | [] => ⟨Int.le_refl 0, fun y hy => nomatch hy⟩
  | a :: r => by
    obtain ⟨h0, h1⟩ := mxL_ge r
    have e : mxL (a :: r) = if a > mxL r then a else mxL r := rfl
    rw [e]
    refine ⟨by split <;> omega, fun y hy => ?_⟩
    rcases List.mem_cons.mp hy with z | z
    · subst z
      split <;> omega
    · have := h1 y z
      split <;> omega
theorem mxL_mem : ∀ l : List Int, mxL l ∈ l ++ [0]
  | [] => List.mem_singleton.mpr rfl
  | a :: r => by
    have e : mxL (a :: r) = if a > mxL r then a else mxL r := rfl
    rw [e]
    split
    · exact List.mem_cons_self
    · exact List.mem_cons_of_mem _ (mxL_mem r)
theorem mxL_one {l : List Int} {m : Int} (h : m ∈ l ++ [0]) (hm : ∀ y ∈ l ++ [0], y ≤ m) : m = mxL l := by
  have a := hm _ (mxL_mem l)
  obtain ⟨h0, h1⟩ := mxL_ge l
  rcases List.mem_append.mp h with z | z
  · have := h1 m z
    omega
  · have : m = 0 := List.mem_singleton.mp z
    omega
def needL (s : Int) (ps : List (Int × Int)) : List Int := (ps.filter fun p => p.1 = s).map (·.2)
theorem needL_snoc (s : Int) (ps : List (Int × Int)) (p : Int × Int) : needL s (ps ++ [p]) = needL s ps ++ (if p.1 = s then [p.2] else []) := by
  unfold needL
  rw [List.filter_append, List.map_append]
  by_cases h : p.1 = s
  · simp [h]
  · simp [h]
theorem needL_mem {s n : Int} {ps : List (Int × Int)} (h : (s, n) ∈ ps) : n ∈ needL s ps := List.mem_map.mpr ⟨(s, n), List.mem_filter.mpr ⟨h, by simp⟩, rfl⟩
def needsOf (l : List Stp) : Int × Int :=
  if turning l then (mx (mxL (needL 1 (sides 1 l))) (mxL (needL (-1) (sides 1 l))), mx (mxL (needL 1 (sides 1 l))) (mxL (needL (-1) (sides 1 l)))) else (mxL (needL 1 (sides 1 l)), mxL (needL (-1) (sides 1 l)))
def fewest (l : List Stp) : Int := mx (needsOf l).1 (needsOf l).2
def sparing (l : List Stp) : Int := (needsOf l).1 + (needsOf l).2
theorem sides_mem : ∀ (l : List Stp) (s : Int) (b : Bool) (n : Int), (s = 1 ∨ s = -1) → Stp.mt b n ∈ l → (1, n) ∈ sides s l ∨ (-1, n) ∈ sides s l
  | [], _, _, _, _, h => nomatch h
  | .turn :: r, s, b, n, hs, h => by
    rcases List.mem_cons.mp h with z | z
    · cases z
    · rcases sides_mem r (0 - s) b n (by omega) z with q | q
      · exact .inl (List.mem_cons_of_mem _ q)
      · exact .inr (List.mem_cons_of_mem _ q)
  | .mt c m :: r, s, b, n, hs, h => by
    rcases List.mem_cons.mp h with z | z
    · cases z
      have e : sides s (.mt c m :: r) = ((if c then s else 0 - s), m) :: sides s r := rfl
      rw [e]
      rcases hs with rfl | rfl <;> cases c
      · exact .inr List.mem_cons_self
      · exact .inl List.mem_cons_self
      · exact .inl List.mem_cons_self
      · exact .inr List.mem_cons_self
    · rcases sides_mem r s b n hs z with q | q
      · exact .inl (List.mem_cons_of_mem _ q)
      · exact .inr (List.mem_cons_of_mem _ q)
theorem fewest_ge (l : List Stp) : (∀ y ∈ needL 1 (sides 1 l), y ≤ fewest l) ∧ (∀ y ∈ needL (-1) (sides 1 l), y ≤ fewest l) ∧ 0 ≤ fewest l := by
  obtain ⟨a0, a1⟩ := mxL_ge (needL 1 (sides 1 l))
  obtain ⟨b0, b1⟩ := mxL_ge (needL (-1) (sides 1 l))
  unfold fewest needsOf
  have := mx_def (mxL (needL 1 (sides 1 l))) (mxL (needL (-1) (sides 1 l)))
  generalize mxL (needL 1 (sides 1 l)) = a at *
  generalize mxL (needL (-1) (sides 1 l)) = b at *
  split
  · have := mx_def (mx a b) (mx a b)
    refine ⟨fun y hy => ?_, fun y hy => ?_, ?_⟩
    · have := a1 y hy; show y ≤ mx (mx a b) (mx a b); omega
    · have := b1 y hy; show y ≤ mx (mx a b) (mx a b); omega
    · show 0 ≤ mx (mx a b) (mx a b); omega
  · refine ⟨fun y hy => ?_, fun y hy => ?_, ?_⟩
    · have := a1 y hy; show y ≤ mx a b; omega
    · have := b1 y hy; show y ≤ mx a b; omega
    · show 0 ≤ mx a b; omega
theorem fits_fewest {l : List Stp} {c : Int} (hg : ∀ b n, Stp.mt b n ∈ l → 0 ≤ n) (h : fewest l ≤ c) : fitsS c l := fun b n hm => by
  obtain ⟨a, d, _⟩ := fewest_ge l
  refine ⟨hg b n hm, ?_⟩
  rcases sides_mem l 1 b n (.inl rfl) hm with q | q
  · exact Int.le_trans (a n (needL_mem q)) h
  · exact Int.le_trans (d n (needL_mem q)) h
/-- two rounds in the long run -/
def twoR (c : Int) (l : List Stp) : Int := runC (effOf c l) 2 (runF (effOf c l) 2 0)
theorem two_any {e f : Eff} (he : e.Ok) (hp : IsPow e 2 f) {x : Int} (x0 : 0 ≤ x) (x1 : x ≤ e.c) : (match f.goal with | none => 0 | some g => f.carried g) = runC e 2 (runF e 2 x) := by
  have r := run_range he 2 x0 x1
  have ft : f.tu = false := by rw [hp.tu]; cases e.tu <;> rfl
  have fp : f.fin x = f.place x := by unfold Eff.fin; rw [ft]; rfl
  rw [← hp.car _ r.1 r.2, ← hp.fin x x0 x1, fp]
  cases g : f.goal with
  | some y =>
    rw [place_some g]
  | none =>
    obtain ⟨z, l⟩ := hp.ok.no g
    rw [place_none g]
    unfold Eff.carried
    rw [z]
    have := mx_def x f.lo
    have := mn_def (mx x f.lo) f.hi
    generalize mn (mx x f.lo) f.hi = p at *
    have := mx_def (f.lo - p) (p - f.hi)
    have := mx_def (mx (f.lo - p) (p - f.hi)) 0
    show (0 : Int) = mx (mx (f.lo - p) (p - f.hi)) 0 + 0
    omega
def halvesV (n : Int) : Int × Int := if n % 2 = 1 then (n, 2) else (n / 2, 1)
end ChM

set_option linter.all false
set_option autoImplicit false
set_option maxRecDepth 100000
set_option maxHeartbeats 4000000
namespace ChM
/-! ### ways of carrying, told by their places -/
def okAt (c : Int) (p : Int × Int) (y : Int) : Prop := (p.1 = 1 → p.2 ≤ y) ∧ (p.1 = -1 → y ≤ c - p.2)
def WayIn (c : Int) : List (Int × Int) → List Int → Prop
  | [], [] => True
  | p :: r, y :: ys => okAt c p y ∧ WayIn c r ys
  | _, _ => False
def lenW : Int → List Int → Int
  | _, [] => 0
  | x, y :: ys => absI (y - x) + lenW y ys
def endW : Int → List Int → Int
  | x, [] => x
  | _, y :: ys => endW y ys
theorem absI_spec (a : Int) : (absI a = a ∧ 0 ≤ a) ∨ (absI a = -a ∧ a < 0) := by
  unfold absI
  split <;> omega
theorem lenW_nonneg : ∀ (ys : List Int) (x : Int), 0 ≤ lenW x ys
  | [], _ => Int.le_refl 0
  | y :: ys, x => by
    have := lenW_nonneg ys y
    have := absI_spec (y - x)
    show 0 ≤ absI (y - x) + lenW y ys
    omega
theorem moved_between {c : Int} {q : Int × Int} {y p : Int} (hs : q.1 = 1 ∨ q.1 = -1 ∨ q.1 = 0) (h : okAt c q y) : absI (moved c p q.1 q.2 - p) + absI (y - moved c p q.1 q.2) = absI (y - p) := by
  obtain ⟨h1, h2⟩ := h
  have a1 := absI_spec (moved c p q.1 q.2 - p)
  have a2 := absI_spec (y - moved c p q.1 q.2)
  have a3 := absI_spec (y - p)
  have m : moved c p q.1 q.2 = if q.1 = 1 then mx p q.2 else if q.1 = -1 then mn p (c - q.2) else p := rfl
  rcases hs with s | s | s
  · rw [if_pos s] at m
    have := h1 s
    have := mx_def p q.2
    omega
  · rw [if_neg (by omega), if_pos s] at m
    have := h2 s
    have := mn_def p (c - q.2)
    omega
  · rw [if_neg (by omega), if_neg (by omega)] at m
    omega
/-- no way is shorter than the lazy one and the way that is left -/
theorem way_ge {c : Int} : ∀ (ps : List (Int × Int)) (ys : List Int) (p y : Int), fits c ps → WayIn c ps ys → simC c ps p + absI (endW y ys - simP c ps p) ≤ lenW y ys + absI (y - p)
  | [], [], p, y, _, _ => by
    show 0 + absI (y - p) ≤ 0 + absI (y - p)
    omega
  | [], _ :: _, _, _, _, h => nomatch (show False from h)
  | _ :: _, [], _, _, _, h => nomatch (show False from h)
  | q :: r, y1 :: ys, p, y, hf, ⟨h1, h2⟩ => by
    have ih := way_ge r ys (moved c p q.1 q.2) y1 (fun z hz => hf z (List.mem_cons_of_mem _ hz)) h2
    have b := moved_between (p := p) (hf q List.mem_cons_self).1 h1
    have a1 := absI_spec (y1 - p)
    have a2 := absI_spec (y1 - y)
    have a3 := absI_spec (y - p)
    show absI (moved c p q.1 q.2 - p) + simC c r (moved c p q.1 q.2) + absI (endW y1 ys - simP c r (moved c p q.1 q.2)) ≤ absI (y1 - y) + lenW y1 ys + absI (y - p)
    omega
def lazyW (c : Int) : List (Int × Int) → Int → List Int
  | [], _ => []
  | q :: r, x => moved c x q.1 q.2 :: lazyW c r (moved c x q.1 q.2)
theorem lazy_in {c : Int} : ∀ (ps : List (Int × Int)) (x : Int), WayIn c ps (lazyW c ps x) ∧ lenW x (lazyW c ps x) = simC c ps x ∧ endW x (lazyW c ps x) = simP c ps x
  | [], _ => ⟨trivial, rfl, rfl⟩
  | q :: r, x => by
    obtain ⟨a, b, d⟩ := lazy_in r (moved c x q.1 q.2)
    refine ⟨⟨⟨fun s => ?_, fun s => ?_⟩, a⟩, ?_, d⟩
    · unfold moved
      rw [if_pos s]
      have := mx_def x q.2
      omega
    · unfold moved
      rw [if_neg (by omega), if_pos s]
      have := mn_def x (c - q.2)
      omega
    · show absI (moved c x q.1 q.2 - x) + lenW (moved c x q.1 q.2) (lazyW c r (moved c x q.1 q.2)) = absI (moved c x q.1 q.2 - x) + simC c r (moved c x q.1 q.2)
      rw [b]
/-! ### two rounds -/
theorem sides_app : ∀ (l m : List Stp) (s : Int), sides s (l ++ m) = sides s l ++ sides (sideAt s l) m
  | [], _, _ => rfl
  | .turn :: r, m, s => by show (0, 0) :: sides (0 - s) (r ++ m) = (0, 0) :: (sides (0 - s) r ++ sides (sideAt (0 - s) r) m); rw [sides_app r m (0 - s)]
  | .mt b n :: r, m, s => by show (_, n) :: sides s (r ++ m) = (_, n) :: (sides s r ++ sides (sideAt s r) m); rw [sides_app r m s]
theorem times_fits {c : Int} {l : List Stp} (h : fitsS c l) : ∀ n, fitsS c (times l n)
  | 0 => fun b n hm => nomatch hm
  | n + 1 => fun b m hm => by
    rcases List.mem_append.mp hm with z | z
    · exact h b m z
    · exact times_fits h n b m z
theorem times_turns (l : List Stp) : ∀ n, turns (times l n) = n * turns l
  | 0 => (Nat.zero_mul _).symm
  | n + 1 => by
    show turns (l ++ times l n) = _
    rw [turns_app, times_turns l n, Nat.succ_mul]
    omega
def ps2 (l : List Stp) : List (Int × Int) := sides 1 (times l 2)
theorem two_eff2 {c : Int} {l : List Stp} (hc : 0 ≤ c) (hl : fitsS c l) :
    ∃ f : Eff, f.Ok ∧ f.c = c ∧ (∀ x, 0 ≤ x → x ≤ c → f.carried x = simC c (ps2 l) x ∧ f.place x = simP c (ps2 l) x ∧ runC (effOf c l) 2 x = f.carried x ∧ runF (effOf c l) 2 x = f.place x) := by
  have hf := times_fits hl 2
  obtain ⟨o, oc, ot, of⟩ := effOf_ok hc hf
  refine ⟨effOf c (times l 2), o, oc, fun x h0 h1 => ?_⟩
  obtain ⟨p, q⟩ := of x h0 h1
  obtain ⟨r1, r2⟩ := rounds_right hl 2 h0 h1
  obtain ⟨s1, s2⟩ := summary_right hf h0 h1
  have tf : (effOf c (times l 2)).tu = false := by
    rw [ot]
    unfold turning
    rw [times_turns]
    have : 2 * turns l % 2 = 0 := by omega
    rw [this]
    rfl
  have ff : (effOf c (times l 2)).fin x = (effOf c (times l 2)).place x := by unfold Eff.fin; rw [tf]; rfl
  refine ⟨q, p, ?_, ?_⟩
  · rw [← r1, ← s1]
  · rw [← r2, ← ff, ← s2]
theorem two_way {c : Int} {l : List Stp} (hc : 0 ≤ c) (hl : fitsS c l) : ∃ a ys, 0 ≤ a ∧ a ≤ c ∧ WayIn c (ps2 l) ys ∧ endW a ys = a ∧ lenW a ys = twoR c l := by
  obtain ⟨f, o, oc, h⟩ := two_eff2 hc hl
  obtain ⟨_, _, _, e2⟩ := h 0 (Int.le_refl 0) hc
  have r := place_range o (Int.le_refl 0) (by omega)
  rw [oc] at r
  obtain ⟨k1, k2, k3, _⟩ := h (f.place 0) r.1 r.2
  obtain ⟨w1, w2, w3⟩ := lazy_in (c := c) (ps2 l) (f.place 0)
  refine ⟨f.place 0, _, r.1, r.2, w1, ?_, ?_⟩
  · rw [w3, ← k2]
    cases g : f.goal with
    | some y => rw [place_some g, place_some g]
    | none =>
      have := (o.no g).2
      rw [place_none g, place_none g]
      have := mx_def 0 f.lo
      have := mn_def (mx 0 f.lo) f.hi
      have := mx_def (mn (mx 0 f.lo) f.hi) f.lo
      have := mn_def (mx (mn (mx 0 f.lo) f.hi) f.lo) f.hi
      omega
  · rw [w2, ← k1, ← k3, ← e2]
    rfl
theorem two_le {c : Int} {l : List Stp} (hc : 0 ≤ c) (hl : fitsS c l) {a : Int} {ys : List Int} (a0 : 0 ≤ a) (a1 : a ≤ c) (w : WayIn c (ps2 l) ys) (e : endW a ys = a) : twoR c l ≤ lenW a ys := by
  obtain ⟨f, o, oc, h⟩ := two_eff2 hc hl
  have hf : fits c (ps2 l) := sides_fits _ 1 (.inl rfl) hc (times_fits hl 2)
  have g := way_ge (ps2 l) ys a a hf w
  obtain ⟨k1, k2, _, _⟩ := h a a0 a1
  rw [e, ← k1, ← k2] at g
  obtain ⟨_, _, _, e2⟩ := h 0 (Int.le_refl 0) hc
  have r := place_range o (Int.le_refl 0) (by omega)
  rw [oc] at r
  obtain ⟨_, _, k3, _⟩ := h (f.place 0) r.1 r.2
  have tw : twoR c l = f.carried (f.place 0) := by
    unfold twoR
    rw [e2, k3]
  rw [tw]
  have z := absI_spec (a - a)
  have ab := absI_spec (a - f.place a)
  have n := lenW_nonneg ys a
  cases gg : f.goal with
  | none =>
    obtain ⟨ex, lt⟩ := o.no gg
    have c1 : f.carried (f.place 0) = mx (mx (f.lo - f.place 0) (f.place 0 - f.hi)) 0 + f.ex := rfl
    rw [c1, ex]
    rw [place_none gg]
    have := mx_def 0 f.lo
    have := mn_def (mx 0 f.lo) f.hi
    generalize mn (mx 0 f.lo) f.hi = q at *
    have := mx_def (f.lo - q) (q - f.hi)
    have := mx_def (mx (f.lo - q) (q - f.hi)) 0
    omega
  | some y =>
    rw [place_some gg] at ab ⊢
    rw [place_some gg] at g
    have c1 : f.carried y = mx (mx (f.lo - y) (y - f.hi)) 0 + f.ex := rfl
    have c2 : f.carried a = mx (mx (f.lo - a) (a - f.hi)) 0 + f.ex := rfl
    have := mx_def (f.lo - y) (y - f.hi)
    have := mx_def (mx (f.lo - y) (y - f.hi)) 0
    have := mx_def (f.lo - a) (a - f.hi)
    have := mx_def (mx (f.lo - a) (a - f.hi)) 0
    omega
theorem two_nonneg {c : Int} {l : List Stp} (hc : 0 ≤ c) (hl : fitsS c l) : 0 ≤ twoR c l := by
  obtain ⟨a, ys, _, _, _, _, e⟩ := two_way hc hl
  rw [← e]
  exact lenW_nonneg ys a
theorem wayIn_le {c d : Int} (h : c ≤ d) : ∀ (ps : List (Int × Int)) (ys : List Int), WayIn c ps ys → WayIn d ps ys
  | [], [], _ => trivial
  | [], _ :: _, h => nomatch (show False from h)
  | _ :: _, [], h => nomatch (show False from h)
  | _ :: r, _ :: ys, ⟨⟨a, b⟩, w⟩ => ⟨⟨a, fun s => by have := b s; omega⟩, wayIn_le h r ys w⟩
theorem fitsS_le {c d : Int} {l : List Stp} (h : fitsS c l) (e : c ≤ d) : fitsS d l := fun b n hm => ⟨(h b n hm).1, Int.le_trans (h b n hm).2 e⟩
theorem two_mono {c d : Int} {l : List Stp} (hc : 0 ≤ c) (hl : fitsS c l) (h : c ≤ d) : twoR d l ≤ twoR c l := by
  obtain ⟨a, ys, a0, a1, w, e, el⟩ := two_way hc hl
  rw [← el]
  exact two_le (by omega) (fitsS_le hl h) a0 (by omega) (wayIn_le h _ _ w) e
/-! ### savings never grow -/
def midL (k : Int) : List Int → List Int → List Int
  | y :: ys, z :: zs => (y + z + k) / 2 :: midL k ys zs
  | _, _ => []
theorem mid_in {c : Int} {k : Int} (hk : k = 0 ∨ k = 1) : ∀ (ps : List (Int × Int)) (ys zs : List Int), WayIn c ps ys → WayIn (c + 2) ps zs → WayIn (c + 1) ps (midL k ys zs)
  | [], [], [], _, _ => trivial
  | [], _ :: _, _, h, _ => nomatch (show False from h)
  | [], [], _ :: _, _, h => nomatch (show False from h)
  | _ :: _, [], _, h, _ => nomatch (show False from h)
  | _ :: _, _ :: _, [], _, h => nomatch (show False from h)
  | p :: r, y :: ys, z :: zs, ⟨⟨a1, b1⟩, w1⟩, ⟨⟨a2, b2⟩, w2⟩ => ⟨⟨fun s => by have := a1 s; have := a2 s; omega, fun s => by have := b1 s; have := b2 s; omega⟩, mid_in hk r ys zs w1 w2⟩
theorem mid_end {c d : Int} {k : Int} : ∀ (ps : List (Int × Int)) (ys zs : List Int) (a b : Int), WayIn c ps ys → WayIn d ps zs → endW ((a + b + k) / 2) (midL k ys zs) = (endW a ys + endW b zs + k) / 2
  | [], [], [], _, _, _, _ => rfl
  | [], _ :: _, _, _, _, h, _ => nomatch (show False from h)
  | [], [], _ :: _, _, _, _, h => nomatch (show False from h)
  | _ :: _, [], _, _, _, h, _ => nomatch (show False from h)
  | _ :: _, _ :: _, [], _, _, _, h => nomatch (show False from h)
  | p :: r, y :: ys, z :: zs, _, _, ⟨_, w1⟩, ⟨_, w2⟩ => mid_end r ys zs y z w1 w2
theorem mid_len {c d : Int} : ∀ (ps : List (Int × Int)) (ys zs : List Int) (a b : Int), WayIn c ps ys → WayIn d ps zs → lenW ((a + b + 0) / 2) (midL 0 ys zs) + lenW ((a + b + 1) / 2) (midL 1 ys zs) ≤ lenW a ys + lenW b zs
  | [], [], [], _, _, _, _ => Int.le_refl _
  | [], _ :: _, _, _, _, h, _ => nomatch (show False from h)
  | [], [], _ :: _, _, _, _, h => nomatch (show False from h)
  | _ :: _, [], _, _, _, h, _ => nomatch (show False from h)
  | _ :: _, _ :: _, [], _, _, _, h => nomatch (show False from h)
  | p :: r, y :: ys, z :: zs, a, b, ⟨_, w1⟩, ⟨_, w2⟩ => by
    have ih := mid_len r ys zs y z w1 w2
    have e1 := absI_spec ((y + z + 0) / 2 - (a + b + 0) / 2)
    have e2 := absI_spec ((y + z + 1) / 2 - (a + b + 1) / 2)
    have e3 := absI_spec (y - a)
    have e4 := absI_spec (z - b)
    show absI ((y + z + 0) / 2 - (a + b + 0) / 2) + lenW ((y + z + 0) / 2) (midL 0 ys zs) + (absI ((y + z + 1) / 2 - (a + b + 1) / 2) + lenW ((y + z + 1) / 2) (midL 1 ys zs)) ≤ absI (y - a) + lenW y ys + (absI (z - b) + lenW z zs)
    omega
theorem two_convex {c : Int} {l : List Stp} (hc : 0 ≤ c) (hl : fitsS c l) : 2 * twoR (c + 1) l ≤ twoR c l + twoR (c + 2) l := by
  obtain ⟨a, ys, a0, a1, w1, e1, l1⟩ := two_way hc hl
  obtain ⟨b, zs, b0, b1, w2, e2, l2⟩ := two_way (c := c + 2) (by omega) (fitsS_le hl (by omega))
  have hl1 : fitsS (c + 1) l := fitsS_le hl (by omega)
  have m := mid_len (ps2 l) ys zs a b w1 w2
  have x := two_le (c := c + 1) (by omega) hl1 (a := (a + b + 0) / 2) (by omega) (by omega) (mid_in (.inl rfl) _ _ _ w1 w2) (by rw [mid_end (ps2 l) ys zs a b w1 w2, e1, e2])
  have y := two_le (c := c + 1) (by omega) hl1 (a := (a + b + 1) / 2) (by omega) (by omega) (mid_in (.inr rfl) _ _ _ w1 w2) (by rw [mid_end (ps2 l) ys zs a b w1 w2, e1, e2])
  omega
def savR (c : Int) (l : List Stp) : Int := twoR c l - twoR (c + 1) l
theorem sav_step {c : Int} {l : List Stp} (hc : 0 ≤ c) (hl : fitsS c l) : savR (c + 1) l ≤ savR c l := by
  have := two_convex hc hl
  unfold savR
  rw [show c + 1 + 1 = c + 2 by omega]
  omega
theorem sav_anti {c : Int} {l : List Stp} (hc : 0 ≤ c) (hl : fitsS c l) : ∀ n : Nat, savR (c + n) l ≤ savR c l
  | 0 => by rw [show c + ((0 : Nat) : Int) = c by omega]; exact Int.le_refl _
  | n + 1 => by
    have := sav_anti hc hl n
    have := sav_step (c := c + n) (by omega) (fitsS_le hl (by omega))
    rw [show c + ((n + 1 : Nat) : Int) = c + n + 1 by omega]
    omega
theorem sav_le {c d : Int} {l : List Stp} (hc : 0 ≤ c) (hl : fitsS c l) (h : c ≤ d) : savR d l ≤ savR c l := by
  have := sav_anti hc hl (d - c).toNat
  rw [show c + ((d - c).toNat : Int) = d by omega] at this
  exact this
theorem sav_nonneg {c : Int} {l : List Stp} (hc : 0 ≤ c) (hl : fitsS c l) : 0 ≤ savR c l := by
  have := two_mono hc hl (show c ≤ c + 1 by omega)
  unfold savR
  omega
/-! ### needs in two rounds -/
theorem sides_neg : ∀ (l : List Stp) (s : Int), sides (0 - s) l = (sides s l).map fun p => (0 - p.1, p.2)
  | [], _ => rfl
  | .turn :: r, s => by
    show (0, 0) :: sides (0 - (0 - s)) r = (0 - 0, 0) :: (sides (0 - s) r).map _
    rw [sides_neg r (0 - s)]
    rfl
  | .mt b n :: r, s => by
    show ((if b then 0 - s else 0 - (0 - s)), n) :: sides (0 - s) r = (0 - (if b then s else 0 - s), n) :: (sides s r).map _
    rw [sides_neg r s]
    cases b <;> rfl
theorem ps2_eq (l : List Stp) : ps2 l = sides 1 l ++ (if turning l = true then (sides 1 l).map (fun p => (0 - p.1, p.2)) else sides 1 l) := by
  show sides 1 (l ++ (l ++ [])) = _
  rw [List.append_nil, sides_app, sideAt_turns]
  unfold turning
  by_cases h : turns l % 2 = 1
  · rw [if_pos h, sides_neg l 1, if_pos (by rw [h]; rfl)]
  · rw [if_neg h, if_neg (by intro z; exact h (by simpa using z))]
theorem needL_in {s n : Int} {ps : List (Int × Int)} (h : n ∈ needL s ps) : (s, n) ∈ ps := by
  unfold needL at h
  obtain ⟨p, hp, e⟩ := List.mem_map.mp h
  obtain ⟨h1, h2⟩ := List.mem_filter.mp hp
  have : p.1 = s := by simpa using h2
  cases p
  cases this
  cases e
  exact h1
theorem mxL_at (l : List Int) : mxL l = 0 ∨ mxL l ∈ l := by
  rcases List.mem_append.mp (mxL_mem l) with h | h
  · exact .inr h
  · exact .inl (List.mem_singleton.mp h)
theorem needs_two (l : List Stp) : (∀ n, (1, n) ∈ ps2 l → n ≤ (needsOf l).1) ∧ (∀ n, (-1, n) ∈ ps2 l → n ≤ (needsOf l).2) ∧ ((needsOf l).1 = 0 ∨ (1, (needsOf l).1) ∈ ps2 l) ∧ ((needsOf l).2 = 0 ∨ (-1, (needsOf l).2) ∈ ps2 l) ∧ 0 ≤ (needsOf l).1 ∧ 0 ≤ (needsOf l).2 := by
  obtain ⟨a0, a1⟩ := mxL_ge (needL 1 (sides 1 l))
  obtain ⟨b0, b1⟩ := mxL_ge (needL (-1) (sides 1 l))
  have am := mxL_at (needL 1 (sides 1 l))
  have bm := mxL_at (needL (-1) (sides 1 l))
  have u1 : ∀ n, (1, n) ∈ sides 1 l → n ≤ mxL (needL 1 (sides 1 l)) := fun n h => a1 n (needL_mem h)
  have u2 : ∀ n, (-1, n) ∈ sides 1 l → n ≤ mxL (needL (-1) (sides 1 l)) := fun n h => b1 n (needL_mem h)
  have am' : mxL (needL 1 (sides 1 l)) = 0 ∨ (1, mxL (needL 1 (sides 1 l))) ∈ sides 1 l := am.imp id needL_in
  have bm' : mxL (needL (-1) (sides 1 l)) = 0 ∨ (-1, mxL (needL (-1) (sides 1 l))) ∈ sides 1 l := bm.imp id needL_in
  rw [ps2_eq]
  unfold needsOf
  generalize mxL (needL 1 (sides 1 l)) = A at *
  generalize mxL (needL (-1) (sides 1 l)) = B at *
  by_cases h : turning l = true
  · rw [if_pos h, if_pos h]
    have fl : ∀ s n : Int, (s, n) ∈ (sides 1 l).map (fun p => (0 - p.1, p.2)) ↔ (0 - s, n) ∈ sides 1 l := fun s n => by
      constructor
      · intro q
        obtain ⟨p, hp, e⟩ := List.mem_map.mp q
        cases p with
        | mk u v =>
          cases e
          rw [show 0 - (0 - u) = u by omega]
          exact hp
      · intro q
        exact List.mem_map.mpr ⟨_, q, by show (0 - (0 - s), n) = (s, n); rw [show 0 - (0 - s) = s by omega]⟩
    have m := mx_def A B
    refine ⟨fun n hn => ?_, fun n hn => ?_, ?_, ?_, by show 0 ≤ mx A B; omega, by show 0 ≤ mx A B; omega⟩
    · show n ≤ mx A B
      rcases List.mem_append.mp hn with q | q
      · have := u1 n q; omega
      · have := u2 n ((fl 1 n).mp q); omega
    · show n ≤ mx A B
      rcases List.mem_append.mp hn with q | q
      · have := u2 n q; omega
      · have := u1 n ((fl (-1) n).mp q); omega
    · show mx A B = 0 ∨ (1, mx A B) ∈ _
      rcases m with ⟨e, _⟩ | ⟨e, _⟩ <;> rw [e]
      · exact am'.imp id fun q => List.mem_append_left _ q
      · exact bm'.imp id fun q => List.mem_append_right _ ((fl 1 B).mpr q)
    · show mx A B = 0 ∨ (-1, mx A B) ∈ _
      rcases m with ⟨e, _⟩ | ⟨e, _⟩ <;> rw [e]
      · exact am'.imp id fun q => List.mem_append_right _ ((fl (-1) A).mpr q)
      · exact bm'.imp id fun q => List.mem_append_left _ q
  · rw [if_neg h, if_neg h]
    refine ⟨fun n hn => ?_, fun n hn => ?_, am'.imp id fun q => List.mem_append_left _ q, bm'.imp id fun q => List.mem_append_left _ q, a0, b0⟩
    · rcases List.mem_append.mp hn with q | q <;> exact u1 n q
    · rcases List.mem_append.mp hn with q | q <;> exact u2 n q
theorem const_in {c a : Int} : ∀ (ps : List (Int × Int)), (∀ n, (1, n) ∈ ps → n ≤ a) → (∀ n, (-1, n) ∈ ps → a ≤ c - n) → ∃ ys, WayIn c ps ys ∧ endW a ys = a ∧ lenW a ys = 0
  | [], _, _ => ⟨[], trivial, rfl, rfl⟩
  | (s, n) :: r, h1, h2 => by
    obtain ⟨ys, w, e, z⟩ := const_in r (fun m hm => h1 m (List.mem_cons_of_mem _ hm)) (fun m hm => h2 m (List.mem_cons_of_mem _ hm))
    refine ⟨a :: ys, ⟨⟨fun q => ?_, fun q => ?_⟩, w⟩, e, ?_⟩
    · have q : s = 1 := q
      subst q
      exact h1 n List.mem_cons_self
    · have q : s = -1 := q
      subst q
      exact h2 n List.mem_cons_self
    · show absI (a - a) + lenW a ys = 0
      rw [z]
      have := absI_spec (a - a)
      omega
theorem const_of {c : Int} : ∀ (ps : List (Int × Int)) (ys : List Int) (a : Int), WayIn c ps ys → lenW a ys = 0 → (∀ n, (1, n) ∈ ps → n ≤ a) ∧ (∀ n, (-1, n) ∈ ps → a ≤ c - n)
  | [], [], _, _, _ => ⟨(fun n h => nomatch h), (fun n h => nomatch h)⟩
  | [], _ :: _, _, h, _ => nomatch (show False from h)
  | _ :: _, [], _, h, _ => nomatch (show False from h)
  | (s, m) :: r, y :: ys, a, ⟨⟨h1, h2⟩, w⟩, e => by
    have e : absI (y - a) + lenW y ys = 0 := e
    have n0 := lenW_nonneg ys y
    have ab := absI_spec (y - a)
    have ya : y = a := by omega
    subst ya
    obtain ⟨i1, i2⟩ := const_of r ys y w (by omega)
    refine ⟨fun n hn => ?_, fun n hn => ?_⟩
    · rcases List.mem_cons.mp hn with q | q
      · cases q; exact h1 rfl
      · exact i1 n q
    · rcases List.mem_cons.mp hn with q | q
      · cases q; exact h2 rfl
      · exact i2 n q
theorem spare_zero {c : Int} {l : List Stp} (hl : fitsS c l) (h : sparing l ≤ c) : twoR c l = 0 := by
  obtain ⟨n1, n2, _, _, p1, p2⟩ := needs_two l
  unfold sparing at h
  obtain ⟨ys, w, e, z⟩ := const_in (c := c) (a := (needsOf l).1) (ps2 l) n1 (fun n hn => by have := n2 n hn; omega)
  have a := two_le (by omega) hl p1 (by omega) w e
  have b := two_nonneg (c := c) (by omega) hl
  omega
theorem spare_pos {c : Int} {l : List Stp} (hc : 0 ≤ c) (hl : fitsS c l) (h : c < sparing l) : 0 < twoR c l := by
  obtain ⟨_, _, m1, m2, p1, p2⟩ := needs_two l
  have b := two_nonneg hc hl
  rcases Int.lt_or_le 0 (twoR c l) with q | q
  · exact q
  · exfalso
    obtain ⟨a, ys, a0, a1, w, _, el⟩ := two_way hc hl
    obtain ⟨i1, i2⟩ := const_of (ps2 l) ys a w (by omega)
    unfold sparing at h
    have u : (needsOf l).1 ≤ a := by
      rcases m1 with z | z
      · omega
      · exact i1 _ z
    have v : a ≤ c - (needsOf l).2 := by
      rcases m2 with z | z
      · omega
      · exact i2 _ z
    omega
/-! ### the fewest chairs -/
def needsL : List Stp → List Int
  | [] => []
  | .turn :: r => needsL r
  | .mt _ n :: r => n :: needsL r
theorem needsL_mem {n : Int} : ∀ {l : List Stp}, n ∈ needsL l ↔ ∃ b, Stp.mt b n ∈ l
  | [] => ⟨(fun h => nomatch h), (fun ⟨b, h⟩ => nomatch h)⟩
  | .turn :: r => ⟨fun h => by obtain ⟨b, q⟩ := (needsL_mem (l := r)).mp h; exact ⟨b, List.mem_cons_of_mem _ q⟩, fun ⟨b, h⟩ => by
    rcases List.mem_cons.mp h with q | q
    · cases q
    · exact (needsL_mem (l := r)).mpr ⟨b, q⟩⟩
  | .mt c m :: r => ⟨fun h => by
    rcases List.mem_cons.mp h with q | q
    · subst q; exact ⟨c, List.mem_cons_self⟩
    · obtain ⟨b, q⟩ := (needsL_mem (l := r)).mp q; exact ⟨b, List.mem_cons_of_mem _ q⟩, fun ⟨b, h⟩ => by
    rcases List.mem_cons.mp h with q | q
    · cases q; exact List.mem_cons_self
    · exact List.mem_cons_of_mem _ ((needsL_mem (l := r)).mpr ⟨b, q⟩)⟩
theorem sides_need : ∀ (l : List Stp) (s t n : Int), (t, n) ∈ sides s l → t ≠ 0 → n ∈ needsL l
  | [], _, _, _, h, _ => nomatch h
  | .turn :: r, s, t, n, h, ht => by
    rcases List.mem_cons.mp h with q | q
    · cases q; exact absurd rfl ht
    · exact sides_need r (0 - s) t n q ht
  | .mt b m :: r, s, t, n, h, ht => by
    rcases List.mem_cons.mp h with q | q
    · cases q; exact List.mem_cons_self
    · exact List.mem_cons_of_mem _ (sides_need r s t n q ht)
theorem fewest_is {l : List Stp} {m : Int} (hm : m ∈ needsL l ++ [0]) (hx : ∀ y ∈ needsL l ++ [0], y ≤ m) : fewest l = m := by
  obtain ⟨a, d, z⟩ := fewest_ge l
  have le : m ≤ fewest l := by
    rcases List.mem_append.mp hm with q | q
    · obtain ⟨b, hb⟩ := needsL_mem.mp q
      rcases sides_mem l 1 b m (.inl rfl) hb with y | y
      · exact a m (needL_mem y)
      · exact d m (needL_mem y)
    · have : m = 0 := List.mem_singleton.mp q
      omega
  have am := mxL_at (needL 1 (sides 1 l))
  have bm := mxL_at (needL (-1) (sides 1 l))
  have z0 := hx 0 (List.mem_append_right _ List.mem_cons_self)
  have ua : mxL (needL 1 (sides 1 l)) ≤ m := by
    rcases am with q | q
    · omega
    · exact hx _ (List.mem_append_left _ (sides_need l 1 1 _ (needL_in q) (by decide)))
  have ub : mxL (needL (-1) (sides 1 l)) ≤ m := by
    rcases bm with q | q
    · omega
    · exact hx _ (List.mem_append_left _ (sides_need l 1 (-1) _ (needL_in q) (by decide)))
  have ge : fewest l ≤ m := by
    unfold fewest needsOf
    have := mx_def (mxL (needL 1 (sides 1 l))) (mxL (needL (-1) (sides 1 l)))
    generalize mxL (needL 1 (sides 1 l)) = A at *
    generalize mxL (needL (-1) (sides 1 l)) = B at *
    split
    · have := mx_def (mx A B) (mx A B)
      show mx (mx A B) (mx A B) ≤ m
      omega
    · show mx A B ≤ m
      omega
  omega
theorem spare_le (l : List Stp) : sparing l ≤ 2 * fewest l := by
  unfold sparing fewest
  have := mx_def (needsOf l).1 (needsOf l).2
  omega
theorem spare_ge (l : List Stp) : fewest l ≤ sparing l := by
  obtain ⟨_, _, _, _, p1, p2⟩ := needs_two l
  unfold sparing fewest
  have := mx_def (needsOf l).1 (needsOf l).2
  omega
theorem few_fits {c : Int} {l : List Stp} (hc : 0 ≤ c) (hl : fitsS c l) : fewest l ≤ c := by
  have all : ∀ y ∈ needsL l, y ≤ c := fun y hy => by
    obtain ⟨b, hb⟩ := needsL_mem.mp hy
    exact (hl b y hb).2
  have u1 := mxL_at (needL 1 (sides 1 l))
  have u2 := mxL_at (needL (-1) (sides 1 l))
  have w1 : mxL (needL 1 (sides 1 l)) ≤ c := by
    rcases u1 with q | q
    · omega
    · exact all _ (sides_need l 1 1 _ (needL_in q) (by decide))
  have w2 : mxL (needL (-1) (sides 1 l)) ≤ c := by
    rcases u2 with q | q
    · omega
    · exact all _ (sides_need l 1 (-1) _ (needL_in q) (by decide))
  unfold fewest needsOf
  have := mx_def (mxL (needL 1 (sides 1 l))) (mxL (needL (-1) (sides 1 l)))
  generalize mxL (needL 1 (sides 1 l)) = A at *
  generalize mxL (needL (-1) (sides 1 l)) = B at *
  split
  · have := mx_def (mx A B) (mx A B)
    show mx (mx A B) (mx A B) ≤ c
    omega
  · show mx A B ≤ c
    omega
theorem halves_ok (n : Int) : ((halvesV n).2 = 2 ∧ n % 2 = 1 ∧ (halvesV n).1 = n) ∨ ((halvesV n).2 = 1 ∧ 2 * (halvesV n).1 = n) := by
  unfold halvesV
  by_cases h : n % 2 = 1
  · rw [if_pos h]; exact .inl ⟨rfl, h, rfl⟩
  · rw [if_neg h]; refine .inr ⟨rfl, ?_⟩; show 2 * (n / 2) = n; omega
theorem halves_back (n : Int) : (halvesV n).1 * 2 / (halvesV n).2 = n := by
  rcases halves_ok n with ⟨a, _, c⟩ | ⟨a, c⟩ <;> rw [a] <;> omega
/-! ### from any start, in the long run -/
theorem long_any {c : Int} {l : List Stp} (hc : 0 ≤ c) (hl : fitsS c l) {x : Int} (x0 : 0 ≤ x) (x1 : x ≤ c) (n : Nat) : runC (effOf c l) 2 (runF (effOf c l) (n + 2) x) = twoR c l := by
  obtain ⟨o, oc, _, _⟩ := effOf_ok hc hl
  have ip := isPow_add o (isPow_one o) (isPow_one o)
  have r := run_range o n x0 (by rw [oc]; exact x1)
  rw [runF_add]
  rw [← two_any o ip r.1 r.2]
  exact two_any o ip (Int.le_refl 0) (by omega)
/-! ### prices -/
def priceC (l : List Stp) (pr cr c : Int) : Int := 2 * pr * c + cr * twoR c l
theorem price_step (l : List Stp) (pr cr c : Int) : priceC l pr cr (c + 1) = priceC l pr cr c + 2 * pr - cr * savR c l := by
  unfold priceC savR
  rw [Int.mul_add, Int.mul_sub, Int.mul_one]
  omega
theorem price_up {l : List Stp} {pr cr b : Int} (h : ∀ j, b ≤ j → cr * savR j l ≤ 2 * pr) : ∀ n : Nat, priceC l pr cr b ≤ priceC l pr cr (b + n)
  | 0 => by rw [show b + ((0 : Nat) : Int) = b by omega]; exact Int.le_refl _
  | n + 1 => by
    have := price_up h n
    have := h (b + n) (by omega)
    rw [show b + ((n + 1 : Nat) : Int) = b + n + 1 by omega, price_step]
    omega
theorem price_down {l : List Stp} {pr cr b f : Int} (h : ∀ j, f ≤ j → j < b → 2 * pr < cr * savR j l) : ∀ n : Nat, f ≤ b - n → priceC l pr cr b + n ≤ priceC l pr cr (b - n)
  | 0, _ => by rw [show b - ((0 : Nat) : Int) = b by omega]; omega
  | n + 1, hf => by
    have := price_down h n (by omega)
    have := h (b - ((n + 1 : Nat) : Int)) hf (by omega)
    have e := price_step l pr cr (b - ((n + 1 : Nat) : Int))
    rw [show b - ((n + 1 : Nat) : Int) + 1 = b - n by omega] at e
    omega
theorem best_is {l : List Stp} {pr cr b : Int} (hg : ∀ b n, Stp.mt b n ∈ l → 0 ≤ n) (p0 : 0 ≤ pr) (c0 : 0 ≤ cr) (b0 : fewest l ≤ b) (b1 : b ≤ sparing l) (h1 : b = fewest l ∨ 2 * pr < cr * savR (b - 1) l) (h2 : b = sparing l ∨ cr * savR b l ≤ 2 * pr) {c : Int} (hc : fewest l ≤ c) :
    priceC l pr cr b ≤ priceC l pr cr c ∧ (c < b → priceC l pr cr b < priceC l pr cr c) := by
  have f0 := (fewest_ge l).2.2
  have fit : ∀ c, fewest l ≤ c → fitsS c l := fun c h => fits_fewest hg h
  have up : ∀ j, b ≤ j → cr * savR j l ≤ 2 * pr := fun j hj => by
    rcases h2 with e | e
    · have z : savR j l = 0 := by
        unfold savR
        rw [spare_zero (fit j (by omega)) (by omega), spare_zero (fit (j + 1) (by omega)) (by omega)]
        rfl
      rw [z, Int.mul_zero]
      omega
    · have := sav_le (by omega) (fit b b0) hj
      have := Int.mul_le_mul_of_nonneg_left this c0
      omega
  have dn : ∀ j, fewest l ≤ j → j < b → 2 * pr < cr * savR j l := fun j hj hb => by
    rcases h1 with e | e
    · omega
    · have := sav_le (by omega) (fit j hj) (show j ≤ b - 1 by omega)
      have := Int.mul_le_mul_of_nonneg_left this c0
      omega
  rcases Int.lt_or_le c b with q | q
  · have := price_down dn (b - c).toNat (by omega)
    rw [show b - ((b - c).toNat : Int) = c by omega] at this
    exact ⟨by omega, fun _ => by omega⟩
  · have := price_up up (c - b).toNat
    rw [show b + ((c - b).toNat : Int) = c by omega] at this
    exact ⟨this, fun z => by omega⟩
end ChM

set_option Elab.async false
set_option linter.all false
set_option autoImplicit false
set_option maxRecDepth 100000
set_option maxHeartbeats 4000000
/-! ### == of lists and tuples of numbers -/
namespace Ch
open PySem PySem.Spec PyProof.Rows L2 ChM
def Lay (n : Nat) (d : PyData) : Prop := d.canLay0 = true ∧ d.depth ≤ n
theorem lay_all {n : Nat} : ∀ {ds : List PyData}, (∀ d ∈ ds, Lay n d) → PyData.canLayAll0 ds = true ∧ PyData.depthAll ds ≤ n
  | [], _ => by simp [PyData.canLayAll0, PyData.depthAll]
  | d :: ds, h => by
    obtain ⟨a, b⟩ := lay_all (ds := ds) fun e he => h e (List.mem_cons_of_mem _ he)
    obtain ⟨c, e⟩ := h d List.mem_cons_self
    refine ⟨by simp [PyData.canLayAll0, a, c], ?_⟩
    simp only [PyData.depthAll]
    omega
theorem lay_list {n : Nat} {ds : List PyData} (h : ∀ d ∈ ds, Lay n d) : Lay (n + 1) (.list ds) := by
  obtain ⟨a, b⟩ := lay_all h
  refine ⟨by simp only [PyData.canLay0]; exact a, ?_⟩
  simp only [PyData.depth]
  omega
theorem lay_tup {n : Nat} {ds : List PyData} (h : ∀ d ∈ ds, Lay n d) : Lay (n + 1) (.tuple ds) := by
  obtain ⟨a, b⟩ := lay_all h
  refine ⟨by simp only [PyData.canLay0]; exact a, ?_⟩
  simp only [PyData.depth]
  omega
theorem lay_int (n : Nat) (i : Int) : Lay n (.int i) := ⟨by simp [PyData.canLay0], by simp [PyData.depth]⟩
theorem lay_str (n : Nat) (i : Str) (h : PyData.strOk i = true) : Lay n (.str i) := ⟨by simp only [PyData.canLay0]; exact h, by simp [PyData.depth]⟩
theorem lay_bool (n : Nat) (i : Bool) : Lay n (.bool i) := ⟨by simp [PyData.canLay0], by simp [PyData.depth]⟩
theorem lay_none (n : Nat) : Lay n .none := ⟨by simp [PyData.canLay0], by simp [PyData.depth]⟩
theorem Lay.shaped {n : Nat} {d : PyData} (h : Lay n d) (hn : n ≤ 64 := by decide) : SeqAt.shaped d = true := by
  show (d.canLay0 && decide (d.depth ≤ 64)) = true
  rw [Bool.and_eq_true]
  exact ⟨h.1, decide_eq_true (Nat.le_trans h.2 hn)⟩
theorem lay_map {α : Type} {n : Nat} {f : α → PyData} (h : ∀ a, Lay n (f a)) (xs : List α) : ∀ d ∈ xs.map f, Lay n d := fun d hd => by
  obtain ⟨a, _, rfl⟩ := List.mem_map.mp hd
  exact h a
theorem eqvAll_map {α : Type} [DecidableEq α] {f : α → PyData} (h : ∀ a b, PyData.eqv (f a) (f b) = decide (a = b)) : ∀ xs ys : List α, PyData.eqvAll (xs.map f) (ys.map f) = decide (xs = ys)
  | [], [] => by simp [PyData.eqvAll]
  | [], _ :: _ => by simp [PyData.eqvAll]
  | _ :: _, [] => by simp [PyData.eqvAll]
  | x :: xs, y :: ys => by
    simp only [List.map_cons, PyData.eqvAll]
    rw [h, eqvAll_map h xs ys]
    by_cases e : x = y <;> by_cases e2 : xs = ys <;> simp [e, e2]
theorem eqv_int (a b : Int) : PyData.eqv (.int a) (.int b) = decide (a = b) := by
  simp only [PyData.eqv]
  by_cases e : a = b <;> simp [e]
theorem eqv_str (a b : Str) : PyData.eqv (.str a) (.str b) = decide (a = b) := by
  simp only [PyData.eqv]
  by_cases e : a = b
  · simp [e]
  · rw [decide_eq_false e]
    exact beq_false_of_ne e
theorem dpAll_ints {K : PySem.W.Frag} {H : Hp} : ∀ ns : List Int, DpAll K H (ns.map V.int) (ns.map PyData.int)
  | [] => .nil
  | n :: ns => .cons (.int n) (dpAll_ints ns)
section
variable {H : Hp} {Q : VK} {K : PySem.W.Frag} {p q : Addr} {ns ms : List Int} {a b c d : Int}
theorem x_neL (h1 : SqL K H p (ns.map V.int)) (h2 : SqL K H q (ms.map V.int)) (k : Q (.bl (!decide (ns = ms))) H) : rNeU K (.ref p) (.ref q) H Q := by
  refine x_neDp (.lst h1 (dpAll_ints ns)) (.lst h2 (dpAll_ints ms)) (lay_list (lay_map (lay_int 0) ns)).shaped (lay_list (lay_map (lay_int 0) ms)).shaped ?_
  have e : PyData.eqv (.list (ns.map PyData.int)) (.list (ms.map PyData.int)) = decide (ns = ms) := by
    simp only [PyData.eqv]
    exact eqvAll_map eqv_int ns ms
  rw [e]
  exact k
theorem x_eqL (h1 : SqL K H p (ns.map V.int)) (h2 : SqL K H q (ms.map V.int)) (k : Q (.bl (decide (ns = ms))) H) : rEqU K (.ref p) (.ref q) H Q := by
  refine x_eqDp (.lst h1 (dpAll_ints ns)) (.lst h2 (dpAll_ints ms)) (lay_list (lay_map (lay_int 0) ns)).shaped (lay_list (lay_map (lay_int 0) ms)).shaped ?_
  have e : PyData.eqv (.list (ns.map PyData.int)) (.list (ms.map PyData.int)) = decide (ns = ms) := by
    simp only [PyData.eqv]
    exact eqvAll_map eqv_int ns ms
  rw [e]
  exact k
theorem x_neTu (h1 : SqT K H p (ns.map V.int)) (h2 : SqT K H q (ms.map V.int)) (k : Q (.bl (!decide (ns = ms))) H) : rNeU K (.ref p) (.ref q) H Q := by
  refine x_neDp (.tup h1 (dpAll_ints ns)) (.tup h2 (dpAll_ints ms)) (lay_tup (lay_map (lay_int 0) ns)).shaped (lay_tup (lay_map (lay_int 0) ms)).shaped ?_
  have e : PyData.eqv (.tuple (ns.map PyData.int)) (.tuple (ms.map PyData.int)) = decide (ns = ms) := by
    simp only [PyData.eqv]
    exact eqvAll_map eqv_int ns ms
  rw [e]
  exact k
theorem x_eqTu (h1 : SqT K H p (ns.map V.int)) (h2 : SqT K H q (ms.map V.int)) (k : Q (.bl (decide (ns = ms))) H) : rEqU K (.ref p) (.ref q) H Q := by
  refine x_eqDp (.tup h1 (dpAll_ints ns)) (.tup h2 (dpAll_ints ms)) (lay_tup (lay_map (lay_int 0) ns)).shaped (lay_tup (lay_map (lay_int 0) ms)).shaped ?_
  have e : PyData.eqv (.tuple (ns.map PyData.int)) (.tuple (ms.map PyData.int)) = decide (ns = ms) := by
    simp only [PyData.eqv]
    exact eqvAll_map eqv_int ns ms
  rw [e]
  exact k
/-- (a, b) != (c, d) -/
theorem x_neP (h1 : H p = some (.tup [.int a, .int b])) (h2 : H q = some (.tup [.int c, .int d])) (k : Q (.bl (!decide (a = c ∧ b = d))) H) : rNeU K (.ref p) (.ref q) H Q := by
  refine x_neTu (ns := [a, b]) (ms := [c, d]) (SqT.of h1) (SqT.of h2) ?_
  rw [show decide ([a, b] = [c, d]) = decide (a = c ∧ b = d) by simp]
  exact k
theorem x_eqP (h1 : H p = some (.tup [.int a, .int b])) (h2 : H q = some (.tup [.int c, .int d])) (k : Q (.bl (decide (a = c ∧ b = d))) H) : rEqU K (.ref p) (.ref q) H Q := by
  refine x_eqTu (ns := [a, b]) (ms := [c, d]) (SqT.of h1) (SqT.of h2) ?_
  rw [show decide ([a, b] = [c, d]) = decide (a = c ∧ b = d) by simp]
  exact k
/-- numbers or None -/
theorem x_neG {x y : Option Int} (k : Q (.bl (!decide (x = y))) H) : rNeU K (goalV x) (goalV y) H Q := by
  refine .inl ⟨by cases x <;> cases y <;> rfl, ?_⟩
  rw [show decide (goalV x = goalV y) = decide (x = y) by cases x <;> cases y <;> simp [goalV]]
  exact k
theorem x_eqG {x y : Option Int} (k : Q (.bl (decide (x = y))) H) : rEqU K (goalV x) (goalV y) H Q := by
  refine .inl ⟨by cases x <;> cases y <;> rfl, ?_⟩
  rw [show decide (goalV x = goalV y) = decide (x = y) by cases x <;> cases y <;> simp [goalV]]
  exact k
/-- slices -/
theorem x_sl {r : V → Option Int → Option Int → Hp → VK → Prop} {te : TE} {tl th : TO} {σ : L2.St} (k : te σ H fun x H1 => tl σ H1 fun l H2 => th σ H2 fun u H3 => r x l u H3 Q) : L2.tSl r te tl th σ H Q := k
theorem x_slL {xs : List V} {lo hi : Option Int} (h : SqL K H p xs) (k : ∀ q, H q = none → Q (.ref q) (upd H q (.lst (cutV xs lo hi)))) : rSlL K (.ref p) lo hi H Q := ⟨p, xs, rfl, h, k⟩
theorem x_noPart {σ : L2.St} {QO : Option Int → Hp → Prop} (k : QO none H) : tNoPart σ H QO := k
theorem x_part {σ : L2.St} {te : TE} {QO : Option Int → Hp → Prop} (k : te σ H fun x H1 => ∃ i, x = .int i ∧ QO (some i) H1) : tPart te σ H QO := k
theorem x_partI {i : Int} {R : Int → Prop} (k : R i) : ∃ j, V.int i = .int j ∧ R j := ⟨i, rfl, k⟩
theorem x_rep {xs : List V} {n : Int} (h : H p = some (.lst xs)) (h0 : -(2 ^ 63) ≤ n) (h1 : n < 2 ^ 63) (h2 : xs.length * n.toNat ≤ sizeLine) (k : ∀ q, H q = none → Q (.ref q) (upd H q (.lst (List.replicate n.toNat xs).flatten))) : rTimes (.ref p) (.int n) H Q := .inr (.inr ⟨p, n, xs, rfl, rfl, h, h0, h1, h2, k⟩)
end
/-- a slice of paired lists -/
theorem pr_cut {β : Type} {R : V → β → Prop} {xs : List V} {ys : List β} (lo hi : Option Int) (h : Paired R xs ys) : Paired R (cutV xs lo hi) ((ys.drop (HT.sIx xs.length 0 lo)).take (HT.sIx xs.length xs.length hi - HT.sIx xs.length 0 lo)) := pr_take _ (pr_drop _ h)
end Ch
/-! ### new objects, the heap behind them named -/
namespace Ch
open PySem PySem.Spec PyProof.Rows L2 ChM
section
variable {H : Hp} {Q : VK} {K : PySem.W.Frag} {p q : Addr} {xs ys : List V} {o : HO} {n : Nat} {R : Addr → Hp → Prop}
theorem n_new (h : n ≤ sizeLine) (k : ∀ p H', H p = none → Same H H' → H' p = some o → R p H') : n ≤ sizeLine ∧ ∀ p, H p = none → R p (upd H p o) := ⟨h, fun p hp => k p _ hp (Same.new hp) upd_same⟩
theorem n_new0 (k : ∀ p H', H p = none → Same H H' → H' p = some o → R p H') : ∀ p, H p = none → R p (upd H p o) := fun p hp => k p _ hp (Same.new hp) upd_same
theorem n_slL {lo hi : Option Int} (h : SqL K H p xs) (k : ∀ q H', H q = none → Same H H' → H' q = some (.lst (cutV xs lo hi)) → Q (.ref q) H') : rSlL K (.ref p) lo hi H Q := x_slL h fun q hq => k q _ hq (Same.new hq) upd_same
theorem n_plusL (h1 : H p = some (.lst xs)) (h2 : H q = some (.lst ys)) (h3 : xs.length + ys.length ≤ sizeLine) (k : ∀ r H', H r = none → Same H H' → H' r = some (.lst (xs ++ ys)) → Q (.ref r) H') : rPlus (.ref p) (.ref q) H Q := x_plusL h1 h2 h3 fun q hq => k q _ hq (Same.new hq) upd_same
theorem n_rep {i : Int} (h : H p = some (.lst xs)) (h0 : -(2 ^ 63) ≤ i) (h1 : i < 2 ^ 63) (h2 : xs.length * i.toNat ≤ sizeLine) (k : ∀ q H', H q = none → Same H H' → H' q = some (.lst (List.replicate i.toNat xs).flatten) → Q (.ref q) H') : rTimes (.ref p) (.int i) H Q := x_rep h h0 h1 h2 fun q hq => k q _ hq (Same.new hq) upd_same
theorem fits_sub {h : Int} {l l' : List Stp} (hl : fitsS h l) (hs : ∀ s ∈ l', s ∈ l) : fitsS h l' := fun b n hm => hl b n (hs _ hm)
theorem mem_cut {α : Type} {l : List α} {a b : Nat} {s : α} (h : s ∈ (l.drop a).take b) : s ∈ l := List.mem_of_mem_drop (List.mem_of_mem_take h)
theorem fits_app {h : Int} {l m : List Stp} (hl : fitsS h l) (hm : fitsS h m) : fitsS h (l ++ m) := fun b n hx => by
  rcases List.mem_append.mp hx with z | z
  · exact hl b n z
  · exact hm b n z
end
end Ch
namespace Ch
open PySem PySem.Spec PyProof.Rows L2
theorem nws {H H' : Hp} {p : Addr} {o : HO} (h : upd H p o = H') (hp : H p = none) : Same H H' ∧ H' p = some o := by
  subst h
  exact ⟨Same.new hp, upd_same⟩
end Ch
namespace Ch
open PySem PySem.Spec PyProof.Rows L2 ChM
theorem StepsAt.put {H : Hp} {p : Addr} {vs : List V} {l : List Stp} (s : Stp) (h : H p = some (.tup (stepV s))) (t : StepsAt H vs l) : StepsAt H (.ref p :: vs) (s :: l) := .cons ⟨p, rfl, h⟩ t
end Ch
/-! ### ways that meet -/
namespace Ch
open PySem PySem.Spec PyProof.Rows L2
section
variable {σ : L2.St} {H : Hp} {D : Ends} {t : TT} {t1 t2 : TS} {b : Bool}
/-- if: what is known of everything behind it -/
theorem x_ifM (R : L2.St → Hp → Prop) (hT : b = true → ∀ N : L2.St → Hp → Prop, (∀ σ' H', R σ' H' → N σ' H') → t1 { D with nx := N } σ H) (hF : b = false → ∀ N : L2.St → Hp → Prop, (∀ σ' H', R σ' H' → N σ' H') → t2 { D with nx := N } σ H) (h1 : ∀ σ' H', R σ' H' → D.nx σ' H') :
    if b = true then t1 D σ H else t2 D σ H := by
  cases b with
  | true => exact hT rfl _ h1
  | false => exact hF rfl _ h1
theorem x_ifMd {c : Prop} [Decidable c] (R : L2.St → Hp → Prop) (hT : c → ∀ N : L2.St → Hp → Prop, (∀ σ' H', R σ' H' → N σ' H') → t1 { D with nx := N } σ H) (hF : ¬ c → ∀ N : L2.St → Hp → Prop, (∀ σ' H', R σ' H' → N σ' H') → t2 { D with nx := N } σ H) (h1 : ∀ σ' H', R σ' H' → D.nx σ' H') :
    if decide c = true then t1 D σ H else t2 D σ H := x_ifM R (fun e => hT (of_decide_eq_true e)) (fun e => hF (of_decide_eq_false e)) h1
/-- an if that is passed by -/
theorem x_skip (R : Hp → Prop) (hf : ∀ QT : Bool → Hp → Prop, (∀ H', R H' → QT false H') → t σ H QT) (h1 : ∀ H', R H' → t2 D σ H') : tIfS t t1 t2 D σ H := hf _ fun H' r => h1 H' r
end
end Ch
namespace Ch
open PySem PySem.Spec PyProof.Rows L2
/-- c or e, true in any way -/
theorem x_orK {c : Prop} [Decidable c] {tb : TE} {σ : L2.St} {H : Hp} {k : VK} (hF : ¬ c → ∀ Q' : VK, Q' (.bl true) H → tb σ H Q') (h : k (.bl true) H) : if decide c = true then k (.bl true) H else tb σ H k := by
  by_cases e : c
  · rw [decide_eq_true e]
    exact h
  · rw [decide_eq_false e]
    exact hF e _ h
theorem x_aug {i : Nat} {te : TE} {ti : TIp} {D : Ends} {σ : L2.St} {H : Hp} {v : V} (h : σ[i]? = some (some v)) (k : te σ H fun y H1 => ti v y H1 fun z H2 => D.nx (σ.set i (some z)) H2) : tAug i te ti D σ H := ⟨v, h, k⟩
theorem x_ipI {f : Int → Int → Int} {i j : Int} {H : Hp} {Q : VK} (k : Q (.int (f i j)) H) : ipI f (.int i) (.int j) H Q := ⟨i, j, rfl, rfl, k⟩
end Ch

set_option Elab.async false
set_option linter.all false
set_option autoImplicit false
set_option maxRecDepth 100000
set_option maxHeartbeats 4000000
/-! ### tuples and lists of the same plain values -/
namespace Ch
open PySem PySem.Spec PyProof.Rows L2 ChM
def pdV : V → PyData
  | .bl b => .bool b
  | .int i => .int i
  | .str z => .str z
  | _ => .none
def plV : V → Bool
  | .non => true
  | .bl _ => true
  | .int _ => true
  | .str z => PyData.strOk z
  | _ => false
theorem pdV_dp {K : PySem.W.Frag} {H : Hp} {v : V} (h : plV v = true) : Dp K H v (pdV v) := by
  cases v <;> first | exact .non | exact .bl _ | exact .int _ | exact .str _ | exact nomatch (show false = true from h)
theorem pdV_lay {v : V} (h : plV v = true) (n : Nat) : Lay n (pdV v) := by
  cases v <;> first | exact lay_none n | exact lay_bool n _ | exact lay_int n _ | exact lay_str n _ h | exact nomatch (show false = true from h)
theorem pdV_all {K : PySem.W.Frag} {H : Hp} : ∀ {vs : List V}, vs.all plV = true → DpAll K H vs (vs.map pdV)
  | [], _ => .nil
  | v :: vs, h => by
    rw [List.all_cons, Bool.and_eq_true] at h
    exact .cons (pdV_dp h.1) (pdV_all h.2)
theorem pdV_lays {vs : List V} (h : vs.all plV = true) : ∀ d ∈ vs.map pdV, Lay 0 d := fun d hd => by
  obtain ⟨v, hv, rfl⟩ := List.mem_map.mp hd
  exact pdV_lay (List.all_eq_true.mp h v hv) 0
theorem goalV_pl (g : Option Int) : plV (goalV g) = true := by cases g <;> rfl
section
variable {H : Hp} {Q : VK} {K : PySem.W.Frag} {p q : Addr} {vs : List V}
theorem x_neSame (h1 : SqT K H p vs) (h2 : SqT K H q vs) (hv : vs.all plV = true) (k : Q (.bl false) H) : rNeU K (.ref p) (.ref q) H Q := by
  have l := lay_tup (pdV_lays hv)
  refine x_neDp (.tup h1 (pdV_all hv)) (.tup h2 (pdV_all hv)) l.shaped l.shaped ?_
  rw [PySem.SeqAt.eqv_refl _ l.1]
  exact k
theorem x_neSameL (h1 : SqL K H p vs) (h2 : SqL K H q vs) (hv : vs.all plV = true) (k : Q (.bl false) H) : rNeU K (.ref p) (.ref q) H Q := by
  have l := lay_list (pdV_lays hv)
  refine x_neDp (.lst h1 (pdV_all hv)) (.lst h2 (pdV_all hv)) l.shaped l.shaped ?_
  rw [PySem.SeqAt.eqv_refl _ l.1]
  exact k
end
theorem x_cmeth {σ : L2.St} {H : Hp} {Q : VK} {C : Addr} {sp : Sp} {E : XK} {t : TA} (k : t σ H fun vs H1 => sp (.ref C :: vs) H1 Q E) : ClX.tCMeth C sp E (tC (.ref C)) t σ H Q := ⟨rfl, k⟩
/-- c and u, false in any way -/
theorem x_andM {b : Bool} {u : TT} {σ : L2.St} {H : Hp} {QT : Bool → Hp → Prop} (R : Hp → Prop) (hT : b = true → ∀ QT' : Bool → Hp → Prop, (∀ H', R H' → QT' false H') → u σ H QT') (hF : b = false → R H) (h1 : ∀ H', R H' → QT false H') :
    if b = true then u σ H QT else QT false H := by
  cases b with
  | true => exact hT rfl _ h1
  | false => exact h1 _ (hF rfl)
theorem x_andMd {c : Prop} [Decidable c] {u : TT} {σ : L2.St} {H : Hp} {QT : Bool → Hp → Prop} (R : Hp → Prop) (hT : c → ∀ QT' : Bool → Hp → Prop, (∀ H', R H' → QT' false H') → u σ H QT') (hF : ¬ c → R H) (h1 : ∀ H', R H' → QT false H') :
    if decide c = true then u σ H QT else QT false H := x_andM R (fun e => hT (of_decide_eq_true e)) (fun e => hF (of_decide_eq_false e)) h1
theorem x_neS {K : PySem.W.Frag} {H : Hp} {Q : VK} {i j : Str} (k : Q (.bl (!decide (i = j))) H) : rNeU K (.str i) (.str j) H Q := .inl ⟨rfl, by rw [show decide (V.str i = V.str j) = decide (i = j) by simp]; exact k⟩
theorem x_notinT {K : PySem.W.Frag} {H : Hp} {Q : VK} {x : V} {p : Addr} {xs : List V} (h : SqT K H p xs) (h1 : flatV x = true) (h2 : xs.all flatV = true) (k : Q (.bl (!inV x xs)) H) : rNotInU K x (.ref p) H Q := .inl ⟨p, xs, rfl, .inr h, h1, h2, k⟩
theorem x_notinL {K : PySem.W.Frag} {H : Hp} {Q : VK} {x : V} {p : Addr} {xs : List V} (h : SqL K H p xs) (h1 : flatV x = true) (h2 : xs.all flatV = true) (k : Q (.bl (!inV x xs)) H) : rNotInU K x (.ref p) H Q := .inl ⟨p, xs, rfl, .inl h, h1, h2, k⟩
/-- lists of the same tuples -/
theorem dp_rep {K : PySem.W.Frag} {H : Hp} {d : PyData} : ∀ {xs : List V}, (∀ x ∈ xs, Dp K H x d) → DpAll K H xs (List.replicate xs.length d)
  | [], _ => .nil
  | x :: xs, h => .cons (h x List.mem_cons_self) (dp_rep fun y hy => h y (List.mem_cons_of_mem _ hy))
theorem x_neTups {K : PySem.W.Frag} {H : Hp} {Q : VK} {p q : Addr} {xs ys vs : List V} (h1 : SqL K H p xs) (h2 : SqL K H q ys) (hl : xs.length = ys.length) (hx : ∀ x ∈ xs, ∃ a, x = .ref a ∧ H a = some (.tup vs)) (hy : ∀ y ∈ ys, ∃ a, y = .ref a ∧ H a = some (.tup vs)) (hv : vs.all plV = true)
    (k : Q (.bl false) H) : rNeU K (.ref p) (.ref q) H Q := by
  have one : ∀ x : V, (∃ a, x = .ref a ∧ H a = some (.tup vs)) → Dp K H x (.tuple (vs.map pdV)) := fun x ⟨a, e, h⟩ => by
    subst e
    exact .tup (SqT.of h) (pdV_all hv)
  have l : Lay 2 (.list (List.replicate xs.length (.tuple (vs.map pdV)))) := lay_list fun d hd => by
    rw [List.eq_of_mem_replicate hd]
    exact lay_tup (pdV_lays hv)
  refine x_neDp (.lst h1 (dp_rep fun x h => one x (hx x h))) (.lst h2 (by rw [hl]; exact dp_rep fun y h => one y (hy y h))) l.shaped l.shaped ?_
  rw [PySem.SeqAt.eqv_refl _ l.1]
  exact k
end Ch

set_option Elab.async false
set_option linter.all false
set_option autoImplicit false
set_option maxRecDepth 100000
set_option maxHeartbeats 4000000
/-! ### fields as targets of a tuple; objects that are written in place -/
namespace Ch
open PySem PySem.Spec PyProof.Rows L2 ChM
/-- o.f = v, in a row of targets -/
def gFldK (K : PySem.W.Frag) (to : TE) (f : Str) : TG := fun v σ H Q => to σ H fun x H1 => rSet K f v x H1 fun H2 => Q σ H2
theorem pg_fldK {X : Cx} {o : Expr} {f : Str} {to : TE} {pos : Pos} (K : PySem.W.Frag) (ho : PE X o to) (hK : X.K = K := by rfl) : PG X (.Attribute o f pos) (gFldK K to f) := by
  subst hK
  refine ⟨fun pins s σ H v u Q I r h => ?_⟩
  rw [assign_Attribute]
  refine wpAny_bind (wpAny_holding (thn (ho.run pins s σ H _ I h) fun ov s1 ⟨x, H1, I1, r1, a, C, dx, fs, ex, ea, c, n, l, q1⟩ => ?_))
  subst ex
  obtain rfl : ov = Value.ref a := r1
  refine wpAny_bind (wpAny_standAt (wpAny_bind (wpAny_holding (setattr_ok I1 ea c n l r fun s2 I2 => ?_))))
  exact wpAny_release ⟨σ, _, I2, q1⟩
theorem x_gfldK {K : PySem.W.Frag} {to : TE} {f : Str} {v : V} {σ : L2.St} {H : Hp} {Q : L2.St → Hp → Prop} (k : to σ H fun x H1 => rSet K f v x H1 fun H2 => Q σ H2) : gFldK K to f v σ H Q := k
/-- o.f op= e -/
theorem ps_augFK {X : Cx} {o value : Expr} {f : Str} {ta tv : TE} {op : Operator} {rd : V → V → Hp → VK → Prop} {tpos pos : Pos} (K : PySem.W.Frag) (ha : PE X o ta) (hv : PE X value tv) (hop : InOp X op rd) (hK : X.K = K := by rfl) : PS X (.AugAssign (.Attribute o f tpos) op value pos) (sFldAug K ta tv rd f) := by
  subst hK
  exact ps_fldaug ha hv hop
theorem x_augF {K : PySem.W.Frag} {ta tv : TE} {rd : V → V → Hp → VK → Prop} {f : Str} {D : Ends} {σ : L2.St} {H : Hp} {p C dx : Addr} {fs : List (Str × V)} {v : V}
    (h : ta σ H fun x H1 => ∃ a C dx fs v, x = .ref a ∧ H1 a = some (.ins C dx fs) ∧ Cls K C ∧ NoAttr K C f ∧ fs.lookup f = some v ∧ tv σ H1 fun y H2 => rd v y H2 fun z H3 => ∃ dx' fs', H3 a = some (.ins C dx' fs') ∧ fs'.length < 1000 ∧ D.nx σ (upd H3 a (.ins C dx' (putF f z fs')))) : sFldAug K ta tv rd f D σ H := h
theorem cut_to (xs : List V) (i : Nat) (h : i ≤ xs.length) : cutV xs none (some (i : Int)) = xs.take i := by
  unfold cutV
  rw [HT.sIx_none, HT.sIx_nat, List.drop_zero, Nat.sub_zero, Nat.min_eq_left h]
/-- t[:i], not the whole -/
theorem n_slTo {K : PySem.W.Frag} {H : Hp} {Q : VK} {p : Addr} {xs : List V} {i : Nat} (h : SqT K H p xs) (hi : i < xs.length) (k : ∀ q H', H q = none → Same H H' → H' q = some (.tup (xs.take i)) → Q (.ref q) H') : rSlT K (.ref p) none (some (i : Int)) H Q := by
  refine ⟨p, xs, rfl, h, fun z => ?_, fun q hq => ?_⟩
  · have z2 := z.2
    rw [HT.sIx_nat] at z2
    omega
  · rw [cut_to xs i (Nat.le_of_lt hi)]
    exact k q _ hq (Same.new hq) upd_same
/-- all but two objects -/
def Same2 (p q : Addr) (H H' : Hp) : Prop := ∀ b o, b ≠ p → b ≠ q → H b = some o → H' b = some o
theorem Same2.refl (p q : Addr) (H : Hp) : Same2 p q H H := fun _ _ _ _ h => h
theorem Same2.trans {p q : Addr} {H H1 H2 : Hp} (a : Same2 p q H H1) (b : Same2 p q H1 H2) : Same2 p q H H2 := fun c o n m h => b c o n m (a c o n m h)
theorem Same2.of {p q : Addr} {H H' : Hp} (s : Same H H') : Same2 p q H H' := fun c o _ _ h => s c o h
theorem Same2.upd1 {p q : Addr} {H : Hp} {o : HO} : Same2 p q H (upd H p o) := fun b u n _ h => by
  rw [upd_ne n]
  exact h
theorem Same2.upd2 {p q : Addr} {H : Hp} {o : HO} : Same2 p q H (upd H q o) := fun b u _ n h => by
  rw [upd_ne n]
  exact h
/-- a heap that knew neither -/
theorem Same2.base {p q st : Addr} {H0 H H' : Hp} (s : Same2 p q H H') (hp : H0 p = none) (hq : H0 q = none) (b : SameB st H0 H) : SameB st H0 H' := fun a o n e => s a o (ne_of_none e hp) (ne_of_none e hq) (b a o n e)
/-- the draws' state, told by a heap that is kept but for it -/
theorem StAt.base {K : PySem.W.Frag} {H0 H : Hp} {st a : Addr} {ns : List Int} (S0 : StAt K H0 st a ns) (b : SameB st H0 H) {pos m r : Int} (h : H st = some (.lst [.ref a, .int pos, .int m, .int r])) (h0 : 0 ≤ pos) : StAt K H st a ns :=
  ⟨⟨pos, m, r, h, h0⟩, fun H' s => S0.scr H' (b.trans s)⟩
theorem StAt.same2 {K : PySem.W.Frag} {H0 H H' : Hp} {st a p q : Addr} {ns : List Int} (S0 : StAt K H0 st a ns) (b : SameB st H0 H) (S : StAt K H st a ns) (s : Same2 p q H H') (hp : H0 p = none) (hq : H0 q = none) : StAt K H' st a ns := by
  obtain ⟨pos, m, r, h, h0⟩ := S.lst
  exact S0.base (s.base hp hq b) (s _ _ (S0.neN hp).symm (S0.neN hq).symm h) h0
end Ch

set_option Elab.async false
set_option linter.all false
set_option autoImplicit false
set_option maxRecDepth 100000
set_option maxHeartbeats 4000000
/-! ### lambdas as values: made, kept, called later -/
namespace LamV
open PySem PySem.Spec PyProof.Rows L2 LamX
/-- the function of a lambda with these defaults -/
def fdV (q : Str) (params : Arguments) (body : Expr) (scope : Scope) (cl : List (Str × Addr)) (pm cdv ct dV : Value) : FuncData :=
  { name := "<lambda>", qualname := q, params := params, body := .expr body, scope := scope, globals := mainGlobals, closure := cl, defaults := dV, kwdefaults := .none,
    doc := .none, pyModule := pm, annotations := none, code := cdv, closureTuple := ct, builtins := builtinsNs }
def obV (q : Str) (params : Arguments) (body : Expr) (scope : Scope) (cl : List (Str × Addr)) (pm : Value) (c' : Addr) (ct dV : Value) : Obj :=
  { cls := .type "function", data := .func (fdV q params body scope cl pm (.ref c') ct dV) }
/-- the object at f is such a function -/
def LamO (f : Addr) (q : Str) (params : Arguments) (body : Expr) (scope : Scope) (cl : List (Str × Addr)) (c' : Addr) (dV : Value) : HO :=
  .ext fun h => ∃ pm ct, h.get? f = some (obV q params body scope cl pm c' ct dV)
theorem lamO_tbl {f : Addr} {q : Str} {params : Arguments} {body : Expr} {scope : Scope} {cl : List (Str × Addr)} {c' : Addr} {dV : Value} (ps : Array Value) : LamO f q params body scope cl c' dV ≠ .tbl ps := fun z => by
  unfold LamO at z
  cases z
theorem lamO_lst {f : Addr} {q : Str} {params : Arguments} {body : Expr} {scope : Scope} {cl : List (Str × Addr)} {c' : Addr} {dV : Value} (xs : List V) : LamO f q params body scope cl c' dV ≠ .lst xs := fun z => by
  unfold LamO at z
  cases z
theorem lamO_ok {P : Program} {w : World} {H : Hp} {h : Heap} {f : Addr} {q : Str} {params : Arguments} {body : Expr} {scope : Scope} {cl : List (Str × Addr)} {pm ct dV : Value} {c' : Addr} (e : h.get? f = some (obV q params body scope cl pm c' ct dV)) :
    ObjOk P w H h f (LamO f q params body scope cl c' dV) :=
  ⟨⟨pm, ct, e⟩, ⟨_, e⟩, fun h1 h2 ⟨u1, u2, z⟩ k => ⟨u1, u2, k _ z⟩⟩
theorem lamO_at {P : Program} {w : World} {H : Hp} {h : Heap} {f : Addr} {q : Str} {params : Arguments} {body : Expr} {scope : Scope} {cl : List (Str × Addr)} {dV : Value} {c' : Addr} (ok : HOk P w H h) (e : H f = some (LamO f q params body scope cl c' dV)) :
    ∃ pm ct, h.get? f = some (obV q params body scope cl pm c' ct dV) := by
  have x : ObjOk P w H h f (.ext fun h => ∃ pm ct, h.get? f = some (obV q params body scope cl pm c' ct dV)) := ok f _ e
  exact x.1
/-! #### making -/
section
variable {M : Model} {A : Around} {E : Value → Shared → Prop} {s : Shared} {q : Str} {params : Arguments} {body : Expr} {scope : Scope} {env : Env} {c P : Addr} {ps : Array Value} {pos : Pos} {ln : Nat}
  {mg : Str → Option Value} {cl : List (Str × Addr)} {Q : Value → Shared → Prop} {dV : Value}
/-- its code object is new -/
theorem tail_new (hcl : closureFor scope env = pure cl) (hge : env.globals = mainGlobals) (hg : s.heap.Ns mainGlobals mg) (hco : env.code = .ref c) (C : PySem.W.CodeHd s.heap c P)
    (hP : s.heap.get? P = some { cls := .none, data := .fields ps }) (ht : TriplesOk ps.toList) (hnf : codeAmong pos ps.toList = none) (hgP : mainGlobals ≠ P) (hb : s.heap.BuiltinsAt mg P)
    (h : ∀ c' ct h' tk, Heap.ExtBut P s.heap h' → s.heap.objs.size ≤ c' → c' < h'.objs.size → h'.CodeRec (.ref c') q → h'.get? P = some { cls := .none, data := .fields (ps ++ #[rawInt pos.line, rawInt pos.col, .ref c']) } →
      Q (.ref h'.objs.size) { s with heap := h'.push (obV q params body scope cl ((mg "__name__").getD .none) c' ct dV), toks := tk }) :
    wpAny M A (makeTail "<lambda>" q params (.expr body) scope env dV .none none pos ln) Q E s := by
  obtain ⟨bm, ob, b1, b2, _, b4, b5, b6, b7, b8⟩ := hb
  unfold makeTail
  rw [hcl, hge]
  refine wpAny_bind (wpAny_pure ?_)
  cases cl with
  | nil =>
    simp only [List.isEmpty_nil, if_true]
    refine wpAny_bind (wpAny_pure ?_)
    refine wpAny_bind (wpAny_functionCodeX hco (C.code hP ht) (C.tab hP) hnf fun c' h' tk hx g1 g2 _ hrec htb _ => ?_)
    have hg2 := hg.extBut hx hgP
    refine wpAny_bind (wpAny_builtinsFor hg2 b1 b2 (hx _ _ b4 b5) b6 b7 b8 ?_)
    refine wpAny_bind (wpAny_nsGet hg2 ?_)
    exact wpAny_bind (wpAny_pure (wpAny_newObj_type (h c' .none h' tk hx g1 g2 hrec htb.2) (by size_fits)))
  | cons u r =>
    simp only [List.isEmpty_cons, Bool.false_eq_true, if_false]
    refine wpAny_bind (wpAny_newTextTuple ?_)
    have C2 := fun oT : Obj => C.keeps (h' := s.heap.push oT) fun b o e => Heap.get?_push_of_some _ e
    refine wpAny_bind (wpAny_functionCodeX hco ((C2 _).code (Heap.get?_push_of_some _ hP) ht) ((C2 _).tab (Heap.get?_push_of_some _ hP)) hnf fun c' h' tk hx g1 g2 _ hrec htb _ => ?_)
    have hg2 := (hg.push _).extBut hx hgP
    have hx2 : Heap.ExtBut P s.heap h' := fun b o nb e => hx b o nb (Heap.get?_push_of_some _ e)
    have g3 : s.heap.objs.size ≤ c' := Nat.le_trans (by rw [Heap.size_push]; omega) g1
    refine wpAny_bind (wpAny_builtinsFor hg2 b1 b2 (hx2 _ _ b4 b5) b6 b7 b8 ?_)
    refine wpAny_bind (wpAny_nsGet hg2 ?_)
    exact wpAny_bind (wpAny_pure (wpAny_newObj_type (h c' _ h' tk hx2 g3 g2 hrec htb.2) (by size_fits)))
/-- its code object is found in the table -/
theorem tail_hit {c' : Addr} (hcl : closureFor scope env = pure cl) (hge : env.globals = mainGlobals) (hg : s.heap.Ns mainGlobals mg) (hco : env.code = .ref c) (C : PySem.W.CodeHd s.heap c P)
    (hP : s.heap.get? P = some { cls := .none, data := .fields ps }) (ht : TriplesOk ps.toList) (hf : codeAmong pos ps.toList = some (.ref c')) (hb : s.heap.BuiltinsAt mg P)
    (h : ∀ (ct : Value) (h' : Heap) (tk : Tok), (∀ b o, s.heap.get? b = some o → h'.get? b = some o) → s.heap.objs.size ≤ h'.objs.size →
      Q (.ref h'.objs.size) { s with heap := h'.push (obV q params body scope cl ((mg "__name__").getD .none) c' ct dV), toks := tk }) :
    wpAny M A (makeTail "<lambda>" q params (.expr body) scope env dV .none none pos ln) Q E s := by
  obtain ⟨bm, ob, b1, b2, _, b4, b5, b6, b7, b8⟩ := hb
  unfold makeTail
  rw [hcl, hge]
  refine wpAny_bind (wpAny_pure ?_)
  cases cl with
  | nil =>
    simp only [List.isEmpty_nil, if_true]
    refine wpAny_bind (wpAny_pure ?_)
    refine wpAny_bind (wpAny_functionCode_hit hco (C.code hP ht) hf ?_)
    refine wpAny_bind (wpAny_builtinsFor hg b1 b2 b5 b6 b7 b8 ?_)
    refine wpAny_bind (wpAny_nsGet hg ?_)
    exact wpAny_bind (wpAny_pure (wpAny_newObj_type (h .none s.heap s.toks (fun _ _ z => z) (Nat.le_refl _)) (by size_fits)))
  | cons u r =>
    simp only [List.isEmpty_cons, Bool.false_eq_true, if_false]
    refine wpAny_bind (wpAny_newTextTuple ?_)
    have C2 := fun oT : Obj => C.keeps (h' := s.heap.push oT) fun b o e => Heap.get?_push_of_some _ e
    refine wpAny_bind (wpAny_functionCode_hit hco ((C2 _).code (Heap.get?_push_of_some _ hP) ht) hf ?_)
    refine wpAny_bind (wpAny_builtinsFor (hg.push _) b1 b2 (Heap.get?_push_of_some _ b5) b6 b7 b8 ?_)
    refine wpAny_bind (wpAny_nsGet (hg.push _) ?_)
    exact wpAny_bind (wpAny_pure (wpAny_newObj_type (h _ _ s.toks (fun b o e => Heap.get?_push_of_some _ e) (by rw [Heap.size_push]; omega)) (by size_fits)))
end
section
variable {X : Cx} {pins : List (Addr × Obj)} {σ : L2.St} {H : Hp} {s : Shared}
/-- the rest of the making, its defaults there -/
theorem make_rest {T : List (Addr × Str)} {c P : Addr} {params : Arguments} {body : Expr} {scope : Scope} {pos : Pos} {ln : Nat} {dV : Value} {E : Value → Shared → Prop} {Q : Value → Shared → Prop} (I : Inv X pins σ H s) (TB : TabB X.base X.mg c P) (hco : X.env.code = .ref c)
    (hm : (P, X.env.qual ++ "<lambda>") ∈ T) (hu : ∀ p ∈ T, p.1 = P → p.2 = X.env.qual ++ "<lambda>") (hT : Tabs T H) (hfree : ∀ y ∈ scope.names, y.2 = .free → ∃ c, X.env.cells.lookup y.1 = some c)
    (h : ∀ (f c' : Addr) (H1 : Hp) (s' : Shared), Inv X pins σ H1 s' → ExtN H H1 → Tabs T H1 → H1 f = some (LamO f (X.env.qual ++ "<lambda>") params body scope (cloFrom X.env.cells scope.names []) c' dV) → H1 c' = some (CodeO c' (X.env.qual ++ "<lambda>")) → Q (.ref f) s') :
    wpAny (model X.prog X.w) X.A (makeTail "<lambda>" (X.env.qual ++ "<lambda>") params (.expr body) scope X.env dV .none none pos ln) Q E s := by
  obtain ⟨ps, hP, ht, ha⟩ := hT _ hm
  have bP : s.heap.BuiltinsAt X.mg P := TB.bm.keeps I.bk
  have hP' : s.heap.get? P = some { cls := .none, data := .fields ps } := I.hok P _ hP
  cases hc : codeAmong pos ps.toList with
  | none =>
    refine tail_new (mg := X.mg) (c := c) (P := P) (ps := ps) (closure_ok hfree) I.ok.glob (I.mod.glob.keeps I.bk) hco (TB.code.keeps I.bk) hP' ht hc TB.gP bP fun c' ct h' tk hx g1 g2 hrec htb => ?_
    obtain ⟨c2, oc, vs, t, e2, hoc, hd, hv⟩ := hrec
    cases e2
    have nC : H c' = none := I.hok.fresh g1
    have nPc : P ≠ c' := ne_of_none hP nC
    have I1 := inv_table (t' := tk) (more := #[rawInt pos.line, rawInt pos.col, .ref c']) (h' := h') I hP (fun b o nb e => hx b o nb e) htb g1 ⟨oc, vs, t, hoc, hd, hv⟩
    have hE : ExtN H (upd (upd H P (.tbl (ps ++ #[rawInt pos.line, rawInt pos.col, .ref c']))) c' (CodeO c' (X.env.qual ++ "<lambda>"))) := fun b o e n => by
      have z : b ≠ P := fun z => n ps (Option.some.inj (e.symm.trans (by rw [z]; exact hP)))
      rw [upd_ne (ne_of_none e nC), upd_ne z]
      exact e
    have eL : (ps ++ #[rawInt pos.line, rawInt pos.col, .ref c']).toList = ps.toList ++ [rawInt pos.line, rawInt pos.col, .ref c'] := by simp
    have T1 : Tabs T (upd (upd H P (.tbl (ps ++ #[rawInt pos.line, rawInt pos.col, .ref c']))) c' (CodeO c' (X.env.qual ++ "<lambda>"))) := fun p hp => by
      by_cases z : p.1 = P
      · rw [hu p hp z, z]
        refine ⟨_, by rw [upd_ne nPc, upd_same], by rw [eL]; exact PySem.TriplesOk_snoc _ _ _ _ ht, fun p' cv hcv => ?_⟩
        rw [eL] at hcv
        rcases among_app _ ht hcv with y | y
        · obtain ⟨d0, d1, d2⟩ := ha p' cv y
          exact ⟨d0, d1, hE _ _ d2 codeO_ne⟩
        · exact ⟨c', y, upd_same⟩
      · obtain ⟨qs, a1, a2, a3⟩ := hT p hp
        refine ⟨qs, by rw [upd_ne (ne_of_none a1 nC), upd_ne z]; exact a1, a2, fun p' cv hcv => ?_⟩
        obtain ⟨d0, d1, d2⟩ := a3 p' cv hcv
        exact ⟨d0, d1, hE _ _ d2 codeO_ne⟩
    have nf := I1.hok.fresh (Nat.le_refl h'.objs.size)
    have e1 := Heap.get?_push_size h' (o := obV (X.env.qual ++ "<lambda>") params body scope (cloFrom X.env.cells scope.names []) ((X.mg "__name__").getD .none) c' ct dV) rfl
    have I2 := I1.laid (t' := tk) (a := h'.objs.size) (o := LamO h'.objs.size (X.env.qual ++ "<lambda>") params body scope (cloFrom X.env.cells scope.names []) c' dV) (h' := h'.push (obV (X.env.qual ++ "<lambda>") params body scope (cloFrom X.env.cells scope.names []) ((X.mg "__name__").getD .none) c' ct dV))
      (fun b o e => Heap.get?_push_of_some _ e) (Nat.le_refl _) (lamO_ok e1)
    exact h _ c' _ _ I2 (hE.trans (ExtN.of (Ch.Same.new nf))) (Tabs.ext T1 (Ch.Same.new nf)) upd_same (Ch.up upd_same nf)
  | some cv =>
    obtain ⟨c', e, hco'⟩ := ha pos cv hc
    subst e
    refine tail_hit (mg := X.mg) (c := c) (P := P) (ps := ps) (closure_ok hfree) I.ok.glob (I.mod.glob.keeps I.bk) hco (TB.code.keeps I.bk) hP' ht hc bP fun ct h' tk hx g1 => ?_
    have I1 := I.kept (t' := tk) hx
    have nf : H h'.objs.size = none := I.hok.fresh g1
    have e1 := Heap.get?_push_size h' (o := obV (X.env.qual ++ "<lambda>") params body scope (cloFrom X.env.cells scope.names []) ((X.mg "__name__").getD .none) c' ct dV) rfl
    have I2 := I1.laid (t' := tk) (a := h'.objs.size) (o := LamO h'.objs.size (X.env.qual ++ "<lambda>") params body scope (cloFrom X.env.cells scope.names []) c' dV) (h' := h'.push (obV (X.env.qual ++ "<lambda>") params body scope (cloFrom X.env.cells scope.names []) ((X.mg "__name__").getD .none) c' ct dV))
      (fun b o e => Heap.get?_push_of_some _ e) (Nat.le_refl _) (lamO_ok e1)
    exact h _ c' _ _ I2 (ExtN.of (Ch.Same.new nf)) (Tabs.ext hT (Ch.Same.new nf)) upd_same (Ch.up hco' nf)
end
end LamV
/-! #### the rules of making -/
namespace LamV
open PySem PySem.Spec PyProof.Rows L2 LamX
def tLamMk (T : List (Addr × Str)) (q : Str) (params : Arguments) (body : Expr) (scope : Scope) (cl : List (Str × Addr)) : TE := fun σ H Q => Tabs T H ∧
  ∀ (f c' : Addr) (H1 : Hp), ExtN H H1 → Tabs T H1 → H1 f = some (LamO f q params body scope cl c' .none) → H1 c' = some (CodeO c' q) → Q (.ref f) H1
def tLamMk1 (T : List (Addr × Str)) (q : Str) (params : Arguments) (body : Expr) (scope : Scope) (cl : List (Str × Addr)) (d : Int) : TE := fun σ H Q => Tabs T H ∧
  ∀ (f c' D : Addr) (H1 : Hp), ExtN H H1 → Tabs T H1 → H1 f = some (LamO f q params body scope cl c' (.ref D)) → H1 c' = some (CodeO c' q) → H1 D = some (.tup [.int d]) → Q (.ref f) H1
section
variable {X : Cx} {T : List (Addr × Str)} {c P : Addr} {params : Arguments} {body : Expr} {scope : Scope} {pos : Pos}
/-- lambda: body -/
theorem pe_lam (TB : TabB X.base X.mg c P) (hco : X.env.code = .ref c) (hm : (P, X.env.qual ++ "<lambda>") ∈ T) (hu : ∀ p ∈ T, p.1 = P → p.2 = X.env.qual ++ "<lambda>") (hfree : X.Ok → ∀ y ∈ scope.names, y.2 = .free → ∃ c, X.env.cells.lookup y.1 = some c)
    (hdef : defaultsOf params X.env = ([], [])) : PE X (.Lambda params body scope pos) (tLamMk T (X.env.qual ++ "<lambda>") params body scope (cloFrom X.env.cells scope.names [])) := by
  refine ⟨fun pins s σ H Q I h => ?_⟩
  obtain ⟨hT, h⟩ := h
  refine PySem.W.kla_eval hdef ?_
  rw [makeFunction_eq]
  simp only [List.zip_nil_right, List.filterMap_nil,
    List.isEmpty_nil, if_true, pure_bind]
  exact make_rest I TB hco hm hu hT (hfree I.ok) fun f c' H1 s' I1 e1 T1 a1 a2 => ⟨.ref f, H1, I1, rfl, h f c' H1 e1 T1 a1 a2⟩
/-- lambda p=d: body, d a written int -/
theorem pe_lam1 {d : Int} {ed : Expr} (TB : TabB X.base X.mg c P) (hco : X.env.code = .ref c) (hm : (P, X.env.qual ++ "<lambda>") ∈ T) (hu : ∀ p ∈ T, p.1 = P → p.2 = X.env.qual ++ "<lambda>") (hfree : X.Ok → ∀ y ∈ scope.names, y.2 = .free → ∃ c, X.env.cells.lookup y.1 = some c)
    (he : PE X ed (tC (.int d))) (hdef : defaultsOf params X.env = ([eval ed X.env], [])) : PE X (.Lambda params body scope pos) (tLamMk1 T (X.env.qual ++ "<lambda>") params body scope (cloFrom X.env.cells scope.names []) d) := by
  refine ⟨fun pins s σ H Q I h => ?_⟩
  obtain ⟨hT, h⟩ := h
  rw [arm_eval_Lambda, hdef]
  show wpAny _ _ (do
    let dv ← evalAll [eval ed X.env]
    let kdv ← holding dv (evalAllOpt [])
    makeFunction "<lambda>" (X.env.qual ++ "<lambda>") params (.expr body) scope X.env dv kdv [] pos pos.line) _ _ _
  refine wpAny_bind (wpAny_evalAll_cons (thn (he.run pins s σ H (fun v H1 => v = .int d ∧ H1 = H) I ⟨rfl, rfl⟩) fun u s1 ⟨v, H1, I1, rv, ev, eH⟩ => wpAny_pure ?_))
  subst ev
  subst eH
  refine wpAny_bind (wpAny_holding (wpAny_pure ?_))
  rw [makeFunction_eq]
  simp only [List.zip_nil_right, List.filterMap_nil,
    List.isEmpty_nil, List.isEmpty_cons, Bool.false_eq_true, if_false, if_true, pure_bind]
  refine wpAny_bind (wpAny_newTextTuple ?_)
  have nD : H1 s1.heap.objs.size = none := I1.hok.fresh (Nat.le_refl _)
  have I2 := I1.laid (t' := s1.toks) (a := s1.heap.objs.size) (o := .tup [.int d]) (h' := s1.heap.push { cls := .type "tuple", data := .seq [u].toArray }) (fun b o e => Heap.get?_push_of_some _ e) (Nat.le_refl _)
    ⟨by show 1 ≤ sizeLine; rw [sizeLine_eq]; omega, [u], .cons rv .nil, ⟨_, Heap.get?_push_size _ rfl, rfl, _, rfl⟩⟩
  have s2 := Ch.Same.new (o := .tup [.int d]) nD
  exact make_rest I2 TB hco hm hu (Tabs.ext hT s2) (hfree I.ok) fun f c' H1 s' I1 e1 T1 a1 a2 => ⟨.ref f, H1, I1, rfl, h f c' _ H1 ((ExtN.of s2).trans e1) T1 a1 a2 (e1 _ _ upd_same fun ps z => nomatch z)⟩
end
/-! #### calling -/
/-- how the call without arguments binds -/
def DOk (params : Arguments) (body : Expr) (scope : Scope) (dV : Value) (H : Hp) : Prop :=
  (dV = .none ∧ ∀ (q : Str) (cl : List (Str × Addr)) (pm cv ct : Value), bindArgs (fdV q params body scope cl pm cv ct .none) ⟨[], []⟩ = pure []) ∨
  ∃ (D : Addr) (d : V) (p : Str), dV = .ref D ∧ H D = some (.tup [d]) ∧ scope.names.lookup p = some .local ∧
    ∀ (q : Str) (cl : List (Str × Addr)) (pm cv ct u : Value), ∃ kf : Option (Array Value) → Sem (List (Str × Value)), bindArgs (fdV q params body scope cl pm cv ct (.ref D)) ⟨[], []⟩ = seqItems? (.ref D) >>= kf ∧ kf (some #[u]) = pure [(p, u)]
/-- what the lambda's scope may hold: own names that the def does not know -/
structure LamS3 (sc : Scope) (N : List Str) (scope : Scope) : Prop where
  kind : scope.kind = .function
  co : scope.isCoroutine = false
  gen : scope.isGenerator = false
  cel : ∀ y ∈ scope.names, y.2 ≠ .cell
  own : ∀ y ∈ scope.names, y.2 = .local → y.1 ∉ N
  free : ∀ y ∈ scope.names, y.2 = .free → sc.names.lookup y.1 = some .cell ∨ sc.names.lookup y.1 = some .free
def lamS3B (sc : Scope) (N : List Str) (scope : Scope) : Bool :=
  decide (scope.kind = .function) && (!scope.isCoroutine && (!scope.isGenerator && scope.names.all fun y => !decide (y.2 = .cell) && ((!decide (y.2 = .local) || !N.contains y.1) && (!decide (y.2 = .free) || (decide (sc.names.lookup y.1 = some .cell) || decide (sc.names.lookup y.1 = some .free))))))
theorem lamS3_by {sc : Scope} {N : List Str} {scope : Scope} (h : lamS3B sc N scope = true) : LamS3 sc N scope := by
  unfold lamS3B at h
  rw [Bool.and_eq_true, Bool.and_eq_true, Bool.and_eq_true, List.all_eq_true] at h
  obtain ⟨h1, h2, h3, h4⟩ := h
  have g : ∀ y ∈ scope.names, y.2 ≠ .cell ∧ (y.2 = .local → y.1 ∉ N) ∧ (y.2 = .free → sc.names.lookup y.1 = some .cell ∨ sc.names.lookup y.1 = some .free) := fun y hy => by
    have := h4 y hy
    rw [Bool.and_eq_true, Bool.and_eq_true, Bool.or_eq_true, Bool.or_eq_true, Bool.or_eq_true] at this
    obtain ⟨a, b, c⟩ := this
    refine ⟨by simpa using a, fun e => ?_, fun e => ?_⟩
    · rcases b with b | b
      · rw [e] at b; simp at b
      · simpa using b
    · rcases c with c | c | c
      · rw [e] at c; simp at c
      · exact .inl (of_decide_eq_true c)
      · exact .inr (of_decide_eq_true c)
  exact ⟨of_decide_eq_true h1, by simpa using h2, by simpa using h3, fun y hy => (g y hy).1, fun y hy => (g y hy).2.1, fun y hy => (g y hy).2.2⟩
theorem LamS3.has {X : Cx} {scope : Scope} (L : LamS3 X.env.scope X.N scope) (ok : X.Ok) : ∀ y ∈ scope.names, y.2 = .free → ∃ c, X.env.cells.lookup y.1 = some c := fun y hy e => by
  rcases L.free y hy e with u | u
  · exact ok.has _ (.inl u)
  · exact ok.has _ (.inr u)
section
variable {X : Cx} {pins : List (Addr × Obj)} {σ : L2.St} {H HZ : Hp} {s s1 : Shared}
theorem enter {A : Around} {outer : List Env} {E : XK} {scope : Scope} {f c' : Addr} {g1 : Heap} {tk : Nat} {binds : List (Str × Value)} (I : Inv X pins σ H s) (L : LamS3 X.env.scope X.N scope) (e0 : Env0 X.prog X.w X.K X.mg X.base A outer s1 HZ) (hd : A.handled = none)
    (kc : ∀ y c, X.env.cells.lookup y = some c → HZ c = none ∧ ∀ v, s.heap.IsCell c v → s1.heap.IsCell c v) (hns : g1.Ns s1.heap.objs.size fun y => binds.reverse.lookup y) (kp : ∀ b o, s1.heap.get? b = some o → g1.get? b = some o) :
    Inv (lamCx X A outer s1 HZ E scope f c') [] σ HZ { s1 with heap := g1, toks := tk } := by
  have hfr := L.has I.ok
  have back : ∀ {y c}, (cloFrom X.env.cells scope.names []).lookup y = some c → X.env.cells.lookup y = some c := fun {y c} e => by
    rcases cloFrom_mem (PySem.mem_of_lookup e) with hm | ⟨u1, u2⟩
    · cases hm
    · obtain ⟨c1, hc⟩ := hfr _ u1 rfl
      have hc : X.env.cells.lookup y = some c1 := hc
      have ec : c = c1 := by
        rw [u2, hc] <;> rfl
      rw [ec]
      exact hc
  have there : ∀ {y}, scope.names.lookup y = some .free → ∃ c, (cloFrom X.env.cells scope.names []).lookup y = some c := fun {y} hl => by
    have hy : (y, NameKind.free) ∈ scope.names := PySem.mem_of_lookup hl
    exact mem_lookup (cloFrom_has (cells := X.env.cells) (acc := []) hy)
  have cellIn : ∀ {y : Str} {c : Addr} {v : Option Value}, X.env.cells.lookup y = some c → s.heap.IsCell c v → g1.IsCell c v := fun {y c v} e z => by
    obtain ⟨o, ho, hdt⟩ := (kc y c e).2 v z
    exact ⟨o, kp _ _ ho, hdt⟩
  have noex : ∀ b : Addr, b ∉ (lamCx X A outer s1 HZ E scope f c').ex := fun b z => absurd (show b ∈ ([] : List Addr) from z) (by simp)
  refine ⟨⟨e0.mod, L.kind, rfl, rfl, Nat.le_refl _, fun y z c u1 u2 => I.ok.inj y z c (back u1) (back u2), fun y hy => ?_, fun y c z _ => ?_, fun _ => hd, Around.frames_deeper e0.frames, .inr ⟨rfl, rfl⟩, fun b z => absurd z (noex b), e0.bs, e0.bsz, fun b _ _ => noex b,
      fun b z => absurd z (noex b), e0.funs, e0.frf⟩, rfl, e0.bare, Un.kept kp,
    ⟨_, hns, fun i y v u1 u2 u3 => ?_⟩, fun y c e => ?_, e0.hok.fresh (Nat.le_refl _), fun y c e => ?_, fun q hq => absurd (show q ∈ ([] : List (Addr × Obj)) ++ [] from hq) (by simp), e0.hok.kept kp, I.len⟩
  · have hy : scope.names.lookup y = some .cell ∨ scope.names.lookup y = some .free := hy
    rcases hy with hy | hy
    · exact absurd rfl (L.cel _ (PySem.mem_of_lookup hy))
    · exact there hy
  · have z : false = true := z
    cases z
  · have u3 : Vis scope y := u3
    rcases u3 with k | k | k
    · exact absurd (List.mem_of_getElem? u1) (L.own _ (PySem.mem_of_lookup k) rfl)
    · exact absurd rfl (L.cel _ (PySem.mem_of_lookup k))
    · obtain ⟨m, _, hl⟩ := I.loc
      have vis : Vis X.env.scope y := (L.free _ (PySem.mem_of_lookup k) rfl).elim (fun u => .inr (.inl u)) (fun u => .inr (.inr u))
      obtain ⟨w', r, q⟩ := hl i y v u1 u2 vis
      obtain ⟨c2, h2⟩ := there k
      refine ⟨w', r, .inr ⟨.inr k, c2, h2, ?_⟩⟩
      have c1 := back h2
      rcases q with ⟨k', _⟩ | ⟨_, c3, e', z⟩
      · have k' : X.env.scope.names.lookup y = some .local := k'
        rcases L.free _ (PySem.mem_of_lookup k) rfl with u | u <;> rw [show X.env.scope.names.lookup y = _ from u] at k' <;> cases k'
      · rw [c1] at e'
        cases e'
        exact cellIn c1 z
  · obtain ⟨w', z⟩ := I.cell y c (back e)
    exact ⟨w', cellIn (back e) z⟩
  · exact (kc y c (back e)).1
/-- a(), in the def that got the lambda -/
theorem pe_actV {CXg : CXT} {Eg : XK} {Ng : List Str} {qg : Str} {sg : Scope} {g f c' : Addr} {cdg dV : Value} {params : Arguments} {body : Expr} {scope : Scope} {k i : Nat} {a : Str} {pn : List (Addr × Obj)} {xe : Value → Shared → Prop} {W : WX} {E : XK} {tb : TE} {p1 p2 : Pos}
    {sc : Shared} {Hc : Hp} (I : Inv X pins σ Hc sc) (link : ∀ y c, X.env.cells.lookup y = some c → H c = none ∧ ∀ v, sc.heap.IsCell c v → s.heap.IsCell c v) (L : LamS3 X.env.scope X.N scope) (hfO : H f = some (LamO f (X.env.qual ++ "<lambda>") params body scope (cloFrom X.env.cells scope.names []) c' dV))
    (tk : Takes ((cxOf CXg X.prog X.w X.K X.mg X.base Ng qg sg g cdg X.A X.stack s H Eg).tr pn xe) W) (hW : ∀ cls d σ' H', E cls d H' → W cls d σ' H') (hr : Room (k + 1) (X.A.deeper (envOfC qg sg s.heap.objs.size g cdg)))
    (hbody : ∀ (A : Around) (outer : List Env) (s : Shared) (H : Hp), Room k (A.deeper (lamEnv X scope s.heap.objs.size f c')) → PE (lamCx X A outer s H E scope f c') body tb)
    (hN : Ng[i]? = some a) (hv : Vis sg a) (hd : (a == ("__debug__" : Str)) = false := by decide) (hcd : (a == ("__classdict__" : Str)) = false := by decide) :
    PE ((cxOf CXg X.prog X.w X.K X.mg X.base Ng qg sg g cdg X.A X.stack s H Eg).tr pn xe) (.Call (.Name a p1) [] [] p2)
      (fun σZ HZ Q => σZ[i]? = some (some (.ref f)) ∧ HZ c' = some (CodeO c' (X.env.qual ++ "<lambda>")) ∧ HZ f = some (LamO f (X.env.qual ++ "<lambda>") params body scope (cloFrom X.env.cells scope.names []) c' dV) ∧ DOk params body scope dV HZ ∧ tb σ HZ Q) := by
  refine ⟨fun pinsZ sZ σZ HZ Q IZ h => ?_⟩
  obtain ⟨hs, hc, hfz, hdo, ht⟩ := h
  refine wpAny_Call_Name_kw (thn ((pe_var (pos := p1) (i := i) hN hv hd hcd).run pinsZ sZ σZ HZ (fun v H1 => v = .ref f ∧ H1 = HZ) IZ ⟨.ref f, hs, rfl, rfl⟩) fun u s1 ⟨v, H1, I1, r1, q1⟩ => ?_)
  obtain ⟨ev, eH⟩ := q1
  subst ev
  rw [eH] at I1
  obtain rfl : u = Value.ref f := r1
  obtain ⟨pm1, ct1, of1⟩ := lamO_at I1.hok hfz
  refine PySem.W.callWith_F0 ⟨_, _, _, _, of1⟩ ?_
  have un : Un (frs X.stack) [] H HZ s.heap s1.heap := I1.base
  have kc : ∀ y c, X.env.cells.lookup y = some c → HZ c = none ∧ ∀ v, sc.heap.IsCell c v → s1.heap.IsCell c v := fun y c e => by
    obtain ⟨n, l⟩ := link y c e
    obtain ⟨w0, z0⟩ := I.cell y c e
    obtain ⟨o0, e0, _⟩ := l w0 z0
    refine ⟨un.free c o0 e0 n (by simp), fun v z => ?_⟩
    obtain ⟨o, ho, hdt⟩ := l v z
    obtain ⟨sl, q⟩ := un.any ho n (by simp)
    exact ⟨_, q, hdt⟩
  obtain ⟨⟨oc, vs, t, hoc, hdc, hvc⟩, _, _⟩ := I1.hok c' _ hc
  have bnd : ∃ binds : List (Str × Value), BindsTo s1 (fdV (X.env.qual ++ "<lambda>") params body scope (cloFrom X.env.cells scope.names []) pm1 (.ref c') ct1 dV) ⟨[], []⟩ binds ∧ ∀ y ∈ binds, scope.names.lookup y.1 = some .local := by
    rcases hdo with ⟨rfl, hb⟩ | ⟨D, d, p, rfl, hD, hl, hb1⟩
    · exact ⟨[], BindsTo.of_eq (hb _ _ _ _ _), fun y hy => nomatch hy⟩
    · have x : ObjOk X.prog X.w HZ s1.heap D (.tup [d]) := I1.hok D _ hD
      obtain ⟨_, its, rv, oT, n1, n2, n3, n4⟩ := x
      cases rv with
      | @cons _ u0 _ ur ra rw' =>
        cases rw'
        exact ⟨[(p, u0)], let ⟨kf, b1, b2⟩ := hb1 _ _ _ _ _ u0; BindsTo.of_defaults (T := D) (o := oT) (items := #[u0]) (n := n3) (k := kf) rfl n1 n4 b1 b2, fun y hy => by rw [List.mem_singleton.mp hy]; exact hl⟩
  obtain ⟨binds, hbt, hbl⟩ := bnd
  have rc : codeAny (model X.prog X.w) (X.A.deeper (envOfC qg sg s.heap.objs.size g cdg)) (.call (.ref f) ⟨[], []⟩) (CR (L2.CX X.prog X.w) (envOfC qg sg s.heap.objs.size g cdg :: X.stack) X.prog X.w HZ s1 Q E) s1 := by
    refine PySem.W.kla_callFunE hr.depth of1 rfl L.co L.gen rfl ⟨c', oc, vs, t, rfl, hoc, hdc, hvc⟩ (hbt _ _ _ _ ?_)
    refine wpAny_newFunctionEnv (fun y hy => L.cel y hy) hbl (fun g1 hns hsb => ⟨I1.nolimit.fresh _ hsb, ?_⟩) L.kind
    show codeAny _ _ (.expr body (lamEnv X scope s1.heap.objs.size f c')) _ _
    have kp : ∀ b o, s1.heap.get? b = some o → g1.get? b = some o := fun b o e => hsb.extBut b o (Nat.ne_of_lt (Heap.lt_size e)) (Heap.get?_push_of_some _ e)
    have J : Inv (lamCx X (X.A.deeper (envOfC qg sg s.heap.objs.size g cdg)) (envOfC qg sg s.heap.objs.size g cdg :: X.stack) s1 HZ E scope f c') [] σ HZ { s1 with heap := g1, toks := s1.toks + binds.length } := enter I L I1.env0 hr.hd kc hns kp
    refine PySem.W.kla_codeExpr (wpAny_mono ((hbody _ _ s1 HZ (hr.deeper _)).run [] _ _ HZ Q J ht) (fun v s' hq => ?_) fun e s' hq => hq)
    obtain ⟨w', H', J', rv, q⟩ := hq
    exact ⟨w', H', J'.os, J'.bare, J'.base, J'.hok, rv, q⟩
  have hx : Passes (L2.CX X.prog X.w) ((cxOf CXg X.prog X.w X.K X.mg X.base Ng qg sg g cdg X.A X.stack s H Eg).tr pn xe) E := passes_call tk hW
  refine wpAny_call (codeAny_mono rc fun r s' hq => ?_)
  cases r with
  | error e => exact hx pinsZ σZ HZ s1 e s' I1 hq
  | ok fl =>
    cases fl with
    | ret u => exact I1.after hq
    | next => exact False.elim hq
    | brk => exact False.elim hq
    | cont => exact False.elim hq
/-- x(w), w a name that holds a lambda made here -/
def tOutV (X : Cx) (k i : Nat) (TT : (XK → Hp → VK → Prop) → Hp → VK → Prop) : TE := fun σ H Q => ∃ (f c' : Addr) (dV : Value) (params : Arguments) (body : Expr) (scope : Scope) (t : XK → TE), σ[i]? = some (some (.ref f)) ∧
  H f = some (LamO f (X.env.qual ++ "<lambda>") params body scope (cloFrom X.env.cells scope.names []) c' dV) ∧ H c' = some (CodeO c' (X.env.qual ++ "<lambda>")) ∧ LamS3 X.env.scope X.N scope ∧
  (∀ (A : Around) (outer : List Env) (s : Shared) (H : Hp) (E : XK), Room k (A.deeper (lamEnv X scope s.heap.objs.size f c')) → PE (lamCx X A outer s H E scope f c') body (t E)) ∧
  TT (fun E H' Q' => H' f = some (LamO f (X.env.qual ++ "<lambda>") params body scope (cloFrom X.env.cells scope.names []) c' dV) ∧ DOk params body scope dV H' ∧ t E σ H' Q') H Q
theorem pe_callV {TT : (XK → Hp → VK → Prop) → Hp → VK → Prop} {x a b : Str} {g : Addr} {k i : Nat} {pg : Arguments} {bg : List Stmt} {sg : Scope} {fd : FuncData} {Ng : List Str} {p p0 pos : Pos} (F : FunD X.K x x pg bg sg [] [] g fd) (hm : X.mg x = some (.ref g)) (hb : Binds X.K fd [a] [])
    (Sg : FnScope Ng [a] sg) (hG : ∀ cdg : Value, GivesTo X Ng x sg g cdg bg a (X.env.qual ++ "<lambda>") TT) (hr : Room (k + 2) X.A) (hw : PE X (.Name b p0) (tVar i)) (hg : Gl X x) (hNg : Ng[0]? = some a) (hva : Vis sg a)
    (hdb : (x == ("__debug__" : Str)) = false := by decide) (hd : (a == ("__debug__" : Str)) = false := by decide) (hcd : (a == ("__classdict__" : Str)) = false := by decide)
    (he : starEach [.Name b p0] X.env = (false, eval (.Name b p0) X.env) :: starEach [] X.env := by rfl) (hpl : (backTo pos (starEach [] X.env)).any (·.1) = false := by rfl) :
    PE X (.Call (.Name x p) [.Name b p0] [] pos) (tOutV X k i TT) := by
  obtain ⟨oc, od, dVg, kV, doc, pm, an, cdv, ctg, osl, rfl, lk, hcd', _, _⟩ := id F.ex
  refine ⟨fun pins s σ H Q I h => ?_⟩
  obtain ⟨f, c', dV, params, body, scope, t, hs, hfO, hco, L, hbody, hTT⟩ := h
  refine wpAny_Call_Name_kw (ld_glob I hg hm ?_ hdb)
  have ha : PA X [.Name b p0] (tCons (tVar i) tNil) := pa_cons hw pa_nil
  refine PySem.W.callWith_K (h₀ := X.base) I.ok.mod.kin F.kp (thn (ha.run pos pins s σ H (fun vs H1 => vs = [.ref f] ∧ H1 = H) I ⟨.ref f, hs, rfl, rfl⟩) fun us s1 hh => ?_) he hpl
  obtain ⟨vs, H1, I1, r1, ev, eH⟩ := hh
  subst ev
  rw [eH] at I1
  obtain rfl := Vals.ref1 r1
  refine ⟨I1.kIn, ?_⟩
  have rc : codeAny (model X.prog X.w) X.A (.call (.ref g) ⟨[.ref f], []⟩) (CR C8.CX0 X.stack X.prog X.w H s1 Q C8.E0) s1 := by
    refine run_ofS (N := Ng) (ps := [a]) (us := [.ref f]) (vs := [.ref f]) lk hcd' Sg hr I1.env0 (hb s1 [.ref f] I1.kIn rfl) (.cons rfl .nil) rfl fun hr' => ?_
    obtain ⟨t', ht', hq'⟩ := hG cdv f c' s1 H Q _ (fun W pn xe E p1 p2 tk hW => pe_actV (i := 0) I1 (fun y c e => ⟨I1.freeC y c e, fun v z => z⟩) L hfO tk hW hr' (fun A outer s H hr2 => hbody A outer s H E hr2) hNg hva hd hcd) hco hTT
    exact ⟨t', ht'.nox, hq'⟩
  refine wpAny_call (codeAny_mono rc fun r s2 hq => ?_)
  cases r with
  | error e => exact (show False from hq).elim
  | ok fl =>
    cases fl with
    | ret u => exact I1.after hq
    | next => exact False.elim hq
    | brk => exact False.elim hq
    | cont => exact False.elim hq
/-- x(w), w a name of a comprehension, that holds a lambda of the def around -/
def tOutI (X : Cx) (k i : Nat) (TT : (XK → Hp → VK → Prop) → Hp → VK → Prop) (σ0 : L2.St) : TE := fun σ H Q => ∃ (f c' : Addr) (dV : Value) (params : Arguments) (body : Expr) (scope : Scope) (t : XK → TE), σ[i]? = some (some (.ref f)) ∧
  H f = some (LamO f (X.env.qual ++ "<lambda>") params body scope (cloFrom X.env.cells scope.names []) c' dV) ∧ H c' = some (CodeO c' (X.env.qual ++ "<lambda>")) ∧ LamS3 X.env.scope X.N scope ∧
  (∀ (A : Around) (outer : List Env) (s : Shared) (H : Hp) (E : XK), Room k (A.deeper (lamEnv X scope s.heap.objs.size f c')) → PE (lamCx X A outer s H E scope f c') body (t E)) ∧
  TT (fun E H' Q' => H' f = some (LamO f (X.env.qual ++ "<lambda>") params body scope (cloFrom X.env.cells scope.names []) c' dV) ∧ DOk params body scope dV H' ∧ t E σ0 H' Q') H Q
theorem pe_callI {sc : Shared} {Hc : Hp} {bsc : Scope} {ce : Env} {fp : List Addr} {TT : (XK → Hp → VK → Prop) → Hp → VK → Prop} {x a b : Str} {g : Addr} {k i : Nat} {pg : Arguments} {bg : List Stmt} {sg : Scope} {fd : FuncData} {Ng : List Str} {p p0 pos : Pos}
    (I0 : Inv X pins σ Hc sc) (hfp : ∀ b ∈ fp, FpOk X pins Hc b) (F : FunD X.K x x pg bg sg [] [] g fd) (hm : X.mg x = some (.ref g)) (hb : Binds X.K fd [a] [])
    (Sg : FnScope Ng [a] sg) (hG : ∀ cdg : Value, GivesTo X Ng x sg g cdg bg a (X.env.qual ++ "<lambda>") TT) (hr : Room (k + 2) X.A) (hw : PE (X.blk sc Hc bsc ce fp) (.Name b p0) (tVar i)) (hg : Gl (X.blk sc Hc bsc ce fp) x) (hNg : Ng[0]? = some a) (hva : Vis sg a)
    (hdb : (x == ("__debug__" : Str)) = false := by decide) (hd : (a == ("__debug__" : Str)) = false := by decide) (hcd : (a == ("__classdict__" : Str)) = false := by decide)
    (he : starEach [.Name b p0] (X.blk sc Hc bsc ce fp).env = (false, eval (.Name b p0) (X.blk sc Hc bsc ce fp).env) :: starEach [] (X.blk sc Hc bsc ce fp).env := by rfl) (hpl : (backTo pos (starEach [] (X.blk sc Hc bsc ce fp).env)).any (·.1) = false := by rfl) :
    PE (X.blk sc Hc bsc ce fp) (.Call (.Name x p) [.Name b p0] [] pos) (tOutI X k i TT σ) := by
  obtain ⟨oc, od, dVg, kV, doc, pm, an, cdv, ctg, osl, rfl, lk, hcd', _, _⟩ := id F.ex
  refine ⟨fun pins' s τ H Q I h => ?_⟩
  obtain ⟨f, c', dV, params, body, scope, t, hs, hfO, hco, L, hbody, hTT⟩ := h
  refine wpAny_Call_Name_kw (ld_glob I hg hm ?_ hdb)
  have ha : PA (X.blk sc Hc bsc ce fp) [.Name b p0] (tCons (tVar i) tNil) := pa_cons hw pa_nil
  refine PySem.W.callWith_K (h₀ := X.base) I.ok.mod.kin F.kp (thn (ha.run pos pins' s τ H (fun vs H1 => vs = [.ref f] ∧ H1 = H) I ⟨.ref f, hs, rfl, rfl⟩) fun us s1 hh => ?_) he hpl
  obtain ⟨vs, H1, I1, r1, ev, eH⟩ := hh
  subst ev
  rw [eH] at I1
  obtain rfl := Vals.ref1 r1
  refine ⟨I1.kIn, ?_⟩
  have ub : Un (X.blk sc Hc bsc ce fp).fs fp Hc H sc.heap s1.heap := I1.base
  have link : ∀ y c, X.env.cells.lookup y = some c → H c = none ∧ ∀ v, sc.heap.IsCell c v → s1.heap.IsCell c v := fun y c e => by
    have nfp : c ∉ fp := fun z => (hfp c z).2.2.2.2.1 y c e rfl
    have n := I0.freeC y c e
    obtain ⟨w0, o0, e0, _⟩ := I0.cell y c e
    refine ⟨ub.free c o0 e0 n nfp, fun v z => ?_⟩
    obtain ⟨o, ho, hdt⟩ := z
    obtain ⟨sl, q⟩ := ub.any ho n nfp
    exact ⟨_, q, hdt⟩
  have rc : codeAny (model X.prog X.w) X.A (.call (.ref g) ⟨[.ref f], []⟩) (CR C8.CX0 X.stack X.prog X.w H s1 Q C8.E0) s1 := by
    refine run_ofS (N := Ng) (ps := [a]) (us := [.ref f]) (vs := [.ref f]) lk hcd' Sg hr I1.env0 (hb s1 [.ref f] I1.kIn rfl) (.cons rfl .nil) rfl fun hr' => ?_
    obtain ⟨t', ht', hq'⟩ := hG cdv f c' s1 H Q _ (fun W pn xe E p1 p2 tk hW => pe_actV (i := 0) I0 link L hfO tk hW hr' (fun A outer s H hr2 => hbody A outer s H E hr2) hNg hva hd hcd) hco hTT
    exact ⟨t', ht'.nox, hq'⟩
  refine wpAny_call (codeAny_mono rc fun r s2 hq => ?_)
  cases r with
  | error e => exact (show False from hq).elim
  | ok fl =>
    cases fl with
    | ret u => exact I1.after hq
    | next => exact False.elim hq
    | brk => exact False.elim hq
    | cont => exact False.elim hq
end
end LamV

set_option Elab.async false
set_option linter.all false
set_option autoImplicit false
set_option maxRecDepth 100000
set_option maxHeartbeats 4000000
/-! ### what is known of a lambda that is kept -/
namespace LamV
open PySem PySem.Spec PyProof.Rows L2 LamX Ch
/-- f is a lambda of the def X, its body read by t -/
def LamAt (X : Cx) (k : Nat) (t : XK → TE) (f : Addr) (H : Hp) : Prop := ∃ (c' : Addr) (dV : Value) (params : Arguments) (body : Expr) (scope : Scope), H f = some (LamO f (X.env.qual ++ "<lambda>") params body scope (cloFrom X.env.cells scope.names []) c' dV) ∧
  H c' = some (CodeO c' (X.env.qual ++ "<lambda>")) ∧ LamS3 X.env.scope X.N scope ∧
  (∀ (A : Around) (outer : List Env) (s : Shared) (H : Hp) (E : XK), Room k (A.deeper (lamEnv X scope s.heap.objs.size f c')) → PE (lamCx X A outer s H E scope f c') body (t E)) ∧ DOk params body scope dV H
section
variable {X : Cx} {k : Nat} {t : XK → TE} {f : Addr} {H H' : Hp} {Q : VK} {T : List (Addr × Str)} {σ : L2.St}
theorem LamAt.keep (h : LamAt X k t f H) (kp : ∀ b o, (∀ ps, o ≠ .tbl ps) → (∀ xs, o ≠ .lst xs) → H b = some o → H' b = some o) : LamAt X k t f H' := by
  obtain ⟨c', dV, params, body, scope, h1, h2, h3, h4, h5⟩ := h
  refine ⟨c', dV, params, body, scope, kp _ _ (fun ps => lamO_tbl ps) (fun xs => lamO_lst xs) h1, kp _ _ (fun ps z => by unfold CodeO at z; cases z) (fun ps z => by unfold CodeO at z; cases z) h2, h3, h4, ?_⟩
  rcases h5 with h5 | ⟨D, d, p, e1, e2, e3⟩
  · exact .inl h5
  · exact .inr ⟨D, d, p, e1, kp _ _ (fun ps z => nomatch z) (fun ps z => nomatch z) e2, e3⟩
theorem LamAt.same (h : LamAt X k t f H) (s : Same H H') : LamAt X k t f H' := h.keep fun b o _ _ e => s b o e
theorem LamAt.ext (h : LamAt X k t f H) (s : ExtN H H') : LamAt X k t f H' := h.keep fun b o n _ e => s b o e n
theorem LamAt.draw {K : PySem.W.Frag} {st a : Addr} {ns : List Int} (h : LamAt X k t f H) (S : StAt K H st a ns) (s : SameB st H H') : LamAt X k t f H' := h.keep fun b o _ n e => s b o (S.ne e n) e
/-- lambda: body -/
theorem x_lamMk {params : Arguments} {body : Expr} {scope : Scope} (hT : Tabs T H) (L : LamS3 X.env.scope X.N scope)
    (hbody : ∀ (f c' : Addr) (A : Around) (outer : List Env) (s : Shared) (H : Hp) (E : XK), Room k (A.deeper (lamEnv X scope s.heap.objs.size f c')) → PE (lamCx X A outer s H E scope f c') body (t E))
    (hb : ∀ (q : Str) (cl : List (Str × Addr)) (pm cv ct : Value), bindArgs (fdV q params body scope cl pm cv ct .none) ⟨[], []⟩ = pure [])
    (kk : ∀ f H1, ExtN H H1 → Tabs T H1 → LamAt X k t f H1 → Q (.ref f) H1) : tLamMk T (X.env.qual ++ "<lambda>") params body scope (cloFrom X.env.cells scope.names []) σ H Q :=
  ⟨hT, fun f c' H1 e1 T1 h1 h2 => kk f H1 e1 T1 ⟨c', .none, params, body, scope, h1, h2, L, hbody f c', .inl ⟨rfl, hb⟩⟩⟩
/-- lambda p=d: body -/
theorem x_lamMk1 {params : Arguments} {body : Expr} {scope : Scope} {d : Int} (p : Str) (hT : Tabs T H) (L : LamS3 X.env.scope X.N scope)
    (hbody : ∀ (f c' : Addr) (A : Around) (outer : List Env) (s : Shared) (H : Hp) (E : XK), Room k (A.deeper (lamEnv X scope s.heap.objs.size f c')) → PE (lamCx X A outer s H E scope f c') body (t E))
    (hl : scope.names.lookup p = some .local) (hb : ∀ (D : Addr) (q : Str) (cl : List (Str × Addr)) (pm cv ct u : Value), ∃ kf : Option (Array Value) → Sem (List (Str × Value)), bindArgs (fdV q params body scope cl pm cv ct (.ref D)) ⟨[], []⟩ = seqItems? (.ref D) >>= kf ∧ kf (some #[u]) = pure [(p, u)])
    (kk : ∀ f H1, ExtN H H1 → Tabs T H1 → LamAt X k t f H1 → Q (.ref f) H1) : tLamMk1 T (X.env.qual ++ "<lambda>") params body scope (cloFrom X.env.cells scope.names []) d σ H Q :=
  ⟨hT, fun f c' D H1 e1 T1 h1 h2 h3 => kk f H1 e1 T1 ⟨c', .ref D, params, body, scope, h1, h2, L, hbody f c', .inr ⟨D, .int d, p, rfl, h3, hl, hb D⟩⟩⟩
/-- x(w) in a comprehension -/
theorem x_outI {i : Nat} {TT : (XK → Hp → VK → Prop) → Hp → VK → Prop} {σ0 : L2.St} (L : LamAt X k t f H) (hs : σ[i]? = some (some (.ref f))) (mono : ∀ tl tl' : XK → Hp → VK → Prop, (∀ E Q', tl E H Q' → tl' E H Q') → TT tl H Q → TT tl' H Q) (h : TT (fun E H' Q' => t E σ0 H' Q') H Q) : tOutI X k i TT σ0 σ H Q := by
  obtain ⟨c', dV, params, body, scope, h1, h2, h3, h4, h5⟩ := L
  exact ⟨f, c', dV, params, body, scope, t, hs, h1, h2, h3, h4, mono _ _ (fun E Q' z => ⟨h1, h5, z⟩) h⟩
/-- x(w) in the def itself -/
theorem x_outV {i : Nat} {TT : (XK → Hp → VK → Prop) → Hp → VK → Prop} (L : LamAt X k t f H) (hs : σ[i]? = some (some (.ref f))) (mono : ∀ tl tl' : XK → Hp → VK → Prop, (∀ E Q', tl E H Q' → tl' E H Q') → TT tl H Q → TT tl' H Q) (h : TT (fun E H' Q' => t E σ H' Q') H Q) : tOutV X k i TT σ H Q := by
  obtain ⟨c', dV, params, body, scope, h1, h2, h3, h4, h5⟩ := L
  exact ⟨f, c', dV, params, body, scope, t, hs, h1, h2, h3, h4, mono _ _ (fun E Q' z => ⟨h1, h5, z⟩) h⟩
end
end LamV

set_option linter.all false
set_option autoImplicit false
/-! ### a plan repeated, step by step -/
namespace ChM
theorem times_snoc (l : List Stp) : ∀ n, times l (n + 1) = times l n ++ l
  | 0 => by show l ++ [] = [] ++ l; simp
  | n + 1 => by
    show l ++ times l (n + 1) = (l ++ times l n) ++ l
    rw [times_snoc l n, List.append_assoc]
theorem times_len (l : List Stp) : ∀ n, (times l n).length = n * l.length
  | 0 => by simp [times]
  | n + 1 => by
    show (l ++ times l n).length = _
    rw [List.length_append, times_len l n, Nat.succ_mul]
    omega
theorem times_add (l : List Stp) : ∀ n m, times l (n + m) = times l n ++ times l m
  | 0, m => by rw [Nat.zero_add]; rfl
  | n + 1, m => by
    rw [show n + 1 + m = (n + m) + 1 by omega]
    show l ++ times l (n + m) = (l ++ times l n) ++ times l m
    rw [times_add l n m, List.append_assoc]
def preS (l : List Stp) (j : Nat) : List Stp := times l (j / l.length) ++ l.take (j % l.length)
theorem preS_succ {l : List Stp} (h0 : 0 < l.length) (j : Nat) {st : Stp} (h : l[j % l.length]? = some st) : preS l (j + 1) = preS l j ++ [st] := by
  have hm := Nat.mod_lt j h0
  have hd := Nat.div_add_mod j l.length
  have tk : l.take (j % l.length + 1) = l.take (j % l.length) ++ [st] := by rw [List.take_add_one, h]; rfl
  unfold preS
  by_cases q : j % l.length + 1 = l.length
  · have e1 : (j + 1) / l.length = j / l.length + 1 := by
      have : j + 1 = (j / l.length + 1) * l.length := by
        rw [Nat.succ_mul, Nat.mul_comm]
        omega
      rw [this, Nat.mul_div_cancel _ h0]
    have e2 : (j + 1) % l.length = 0 := by
      have : j + 1 = (j / l.length + 1) * l.length := by
        rw [Nat.succ_mul, Nat.mul_comm]
        omega
      rw [this, Nat.mul_mod_left]
    rw [e1, e2, times_snoc, List.take_zero, List.append_nil, List.append_assoc, ← tk, q, List.take_length]
  · have lt : j % l.length + 1 < l.length := by omega
    have e1 : (j + 1) / l.length = j / l.length ∧ (j + 1) % l.length = j % l.length + 1 := by
      have ej : j + 1 = (j % l.length + 1) + l.length * (j / l.length) := by omega
      constructor
      · rw [ej, Nat.add_mul_div_left _ _ h0, Nat.div_eq_of_lt lt, Nat.zero_add]
      · rw [ej, Nat.add_mul_mod_self_left, Nat.mod_eq_of_lt lt]
    rw [e1.1, e1.2, tk, List.append_assoc]
theorem preS_zero (l : List Stp) : preS l 0 = [] := by
  unfold preS
  rw [Nat.zero_div, Nat.zero_mod]
  rfl
theorem preS_round {l : List Stp} (h0 : 0 < l.length) (r i : Nat) : preS l (r * l.length + i) = times l r ++ preS l i := by
  unfold preS
  rw [show r * l.length + i = i + l.length * r by rw [Nat.mul_comm]; omega, Nat.add_mul_div_left _ _ h0, Nat.add_mul_mod_self_left, Nat.add_comm (i / l.length) r, times_add, List.append_assoc]
theorem times_take {l : List Stp} (h0 : 0 < l.length) : ∀ (m N : Nat), m ≤ N * l.length → (times l N).take m = preS l m
  | 0, N, _ => by rw [preS_zero, List.take_zero]
  | m + 1, N, h => by
    have ih := times_take h0 m N (by omega)
    have hm := Nat.mod_lt m h0
    obtain ⟨st, hst⟩ : ∃ st, l[m % l.length]? = some st := ⟨_, List.getElem?_eq_getElem hm⟩
    rw [preS_succ h0 m hst, List.take_add_one, ih]
    congr 1
    have hd := Nat.div_add_mod m l.length
    have hq : m / l.length < N := by
      refine Nat.div_lt_of_lt_mul ?_
      rw [Nat.mul_comm]
      omega
    obtain ⟨k, rfl⟩ : ∃ k, N = m / l.length + (k + 1) := ⟨N - m / l.length - 1, by omega⟩
    have e : times l (m / l.length + (k + 1)) = times l (m / l.length) ++ (l ++ times l k) := times_add l _ _
    have e2 : m = (times l (m / l.length)).length + m % l.length := by
      rw [times_len, Nat.mul_comm]
      omega
    have e3 : (times l (m / l.length + (k + 1)))[m]? = l[m % l.length]? := by
      rw [e, List.getElem?_append_right (by rw [times_len, Nat.mul_comm]; omega), times_len, Nat.mul_comm (m / l.length),
        show m - l.length * (m / l.length) = m % l.length by omega, List.getElem?_append_left hm]
    rw [e3, hst]
    rfl
/-- both rooms behind j steps -/
def runS (c : Int) (l : List Stp) (x : Int) (j : Nat) : Int × Int := playS (x, c - x) (preS l j)
/-- what step j (from 0) carries -/
def cntS (c : Int) (l : List Stp) (x : Int) (j : Nat) : Int := match l[j % l.length]? with
  | some st => (play1 (runS c l x j) st).2
  | none => 0
def plcS (c : Int) (l : List Stp) (x : Int) (j : Nat) : Int := placeOf (sideAt 1 (l.take (j % l.length))) (runS c l x j)
section
variable {c x : Int} {l : List Stp}
theorem runS_succ (h0 : 0 < l.length) (j : Nat) {st : Stp} (h : l[j % l.length]? = some st) : runS c l x (j + 1) = (play1 (runS c l x j) st).1 := by
  unfold runS
  rw [preS_succ h0 j h, playS_snoc]
theorem runS_sum (j : Nat) : (runS c l x j).1 + (runS c l x j).2 = c := by
  unfold runS
  rw [play_keep]
  show x + (c - x) = c
  omega
theorem sideAt_or : ∀ (l : List Stp) (s : Int), (s = 1 ∨ s = -1) → sideAt s l = 1 ∨ sideAt s l = -1
  | [], s, h => h
  | .turn :: r, s, h => sideAt_or r (0 - s) (by omega)
  | .mt _ _ :: r, s, h => sideAt_or r s h
theorem side_at {i : Nat} {st : Stp} (h : l[i]? = some st) : ∃ p, (sides 1 l)[i]? = some p ∧ sides (sideAt 1 (l.take i)) [st] = [p] := by
  have hi : i < l.length := (List.getElem?_eq_some_iff.mp h).1
  have e : l = l.take i ++ (st :: l.drop (i + 1)) := by
    have q : l[i] = st := (List.getElem?_eq_some_iff.mp h).2
    rw [← q, List.getElem_cons_drop, List.take_append_drop]
  obtain ⟨p, hp⟩ : ∃ p, sides (sideAt 1 (l.take i)) [st] = [p] := by
    cases st <;> exact ⟨_, rfl⟩
  refine ⟨p, ?_, hp⟩
  have q : sides 1 l = sides 1 (l.take i) ++ (sides (sideAt 1 (l.take i)) [st] ++ sides (sideAt (sideAt 1 (l.take i)) [st]) (l.drop (i + 1))) := by
    rw [← sides_app, ← sides_app]
    rw [List.singleton_append, ← e]
  rw [q, List.getElem?_append_right (by rw [sides_len, List.length_take]; omega), sides_len, List.length_take, show i - min i l.length = 0 by omega, hp]
  rfl
theorem cnt_step (h0 : 0 < l.length) {j : Nat} {p : Int × Int} (hp : (sides 1 l)[j % l.length]? = some p) :
    cntS c l x j = absI (moved c (plcS c l x j) p.1 p.2 - plcS c l x j) ∧
    plcS c l x (j + 1) = (if j % l.length + 1 = l.length then (if turning l = true then c - moved c (plcS c l x j) p.1 p.2 else moved c (plcS c l x j) p.1 p.2) else moved c (plcS c l x j) p.1 p.2) := by
  have hm := Nat.mod_lt j h0
  obtain ⟨st, hst⟩ : ∃ st, l[j % l.length]? = some st := ⟨_, List.getElem?_eq_getElem hm⟩
  obtain ⟨p', hp', hs⟩ := side_at hst
  rw [hp] at hp'
  cases hp'
  have so := sideAt_or (l.take (j % l.length)) 1 (.inl rfl)
  obtain ⟨_, g2, g3⟩ := play_sim (c := c) [st] (sideAt 1 (l.take (j % l.length))) (runS c l x j) so (runS_sum j)
  rw [hs] at g2 g3
  have g2' : placeOf (sideAt (sideAt 1 (l.take (j % l.length))) [st]) (play1 (runS c l x j) st).1 = moved c (plcS c l x j) p.1 p.2 := g2
  have g3' : (play1 (runS c l x j) st).2 + 0 = absI (moved c (plcS c l x j) p.1 p.2 - plcS c l x j) + 0 := g3
  rw [← runS_succ h0 j hst, ← sideAt_snoc] at g2'
  have tk : l.take (j % l.length + 1) = l.take (j % l.length) ++ [st] := by rw [List.take_add_one, hst]; rfl
  rw [← tk] at g2'
  refine ⟨?_, ?_⟩
  · unfold cntS
    rw [hst]
    show (play1 (runS c l x j) st).2 = _
    omega
  · by_cases q : j % l.length + 1 = l.length
    · rw [if_pos q]
      rw [q, List.take_length, sideAt_turning] at g2'
      have e2 : (j + 1) % l.length = 0 := by
        have hd := Nat.div_add_mod j l.length
        have : j + 1 = (j / l.length + 1) * l.length := by
          rw [Nat.succ_mul, Nat.mul_comm]
          omega
        rw [this, Nat.mul_mod_left]
      have e3 : plcS c l x (j + 1) = (runS c l x (j + 1)).1 := by
        unfold plcS
        rw [e2]
        rfl
      have hsum := runS_sum (c := c) (x := x) (l := l) (j + 1)
      by_cases t : turning l = true
      · rw [if_pos t] at g2' ⊢
        have : placeOf (-1) (runS c l x (j + 1)) = (runS c l x (j + 1)).2 := rfl
        rw [this] at g2'
        rw [e3, ← g2']
        omega
      · rw [if_neg t] at g2' ⊢
        rw [e3, ← g2']
        rfl
    · rw [if_neg q]
      have lt : j % l.length + 1 < l.length := by omega
      have e1 : (j + 1) % l.length = j % l.length + 1 := by
        have hd := Nat.div_add_mod j l.length
        have ej : j + 1 = (j % l.length + 1) + l.length * (j / l.length) := by omega
        rw [ej, Nat.add_mul_mod_self_left, Nat.mod_eq_of_lt lt]
      unfold plcS
      rw [e1]
      exact g2'
theorem runS_round (h0 : 0 < l.length) (hl : fitsS c l) (x0 : 0 ≤ x) (x1 : x ≤ c) (r i : Nat) : runS c l x (r * l.length + i) = runS c l (runF (effOf c l) r x) i := by
  unfold runS
  rw [preS_round h0, playS_app, play_pair, (rounds_right hl r x0 x1).2]
theorem cntS_round (h0 : 0 < l.length) (hl : fitsS c l) (x0 : 0 ≤ x) (x1 : x ≤ c) (r i : Nat) : cntS c l x (r * l.length + i) = cntS c l (runF (effOf c l) r x) i := by
  have e : (r * l.length + i) % l.length = i % l.length := by
    rw [show r * l.length + i = i + l.length * r by rw [Nat.mul_comm]; omega, Nat.add_mul_mod_self_left]
  unfold cntS
  rw [e, runS_round h0 hl x0 x1]
theorem plcS_round (h0 : 0 < l.length) (hl : fitsS c l) (x0 : 0 ≤ x) (x1 : x ≤ c) (r i : Nat) (hi : i < l.length) : plcS c l x (r * l.length + i) = simP c ((sides 1 l).take i) (runF (effOf c l) r x) := by
  have e : (r * l.length + i) % l.length = i := by
    rw [show r * l.length + i = i + l.length * r by rw [Nat.mul_comm]; omega, Nat.add_mul_mod_self_left, Nat.mod_eq_of_lt hi]
  unfold plcS
  rw [e, runS_round h0 hl x0 x1]
  obtain ⟨_, g2, _⟩ := play_sim (c := c) (l.take i) 1 (runF (effOf c l) r x, c - runF (effOf c l) r x) (.inl rfl) (by show _ + (c - _) = c; omega)
  have e2 : runS c l (runF (effOf c l) r x) i = playS (runF (effOf c l) r x, c - runF (effOf c l) r x) (l.take i) := by
    unfold runS preS
    rw [Nat.div_eq_of_lt hi, Nat.mod_eq_of_lt hi]
    rfl
  rw [e2, g2]
  congr 1
  have q : l = l.take i ++ l.drop i := (List.take_append_drop i l).symm
  have q2 : sides 1 l = sides 1 (l.take i) ++ sides (sideAt 1 (l.take i)) (l.drop i) := by
    rw [← sides_app, ← q]
  rw [q2, List.take_left' (by rw [sides_len, List.length_take]; omega)]
theorem cnts_play (h0 : 0 < l.length) : ∀ m : Nat, (List.range m).map (fun i => cntS c l x i) = playC (x, c - x) (preS l m)
  | 0 => by rw [preS_zero]; rfl
  | m + 1 => by
    have hm := Nat.mod_lt m h0
    obtain ⟨st, hst⟩ : ∃ st, l[m % l.length]? = some st := ⟨_, List.getElem?_eq_getElem hm⟩
    rw [List.range_succ, List.map_append, cnts_play h0 m, preS_succ h0 m hst, playC_snoc]
    congr 1
    show [cntS c l x m] = _
    unfold cntS
    rw [hst]
    rfl
end
end ChM

set_option Elab.async false
set_option linter.all false
set_option autoImplicit false
set_option maxRecDepth 100000
set_option maxHeartbeats 4000000
/-! ### what the laws' own texts share -/
namespace Ch
open PySem PySem.Spec PyProof.Rows L2 LamX ChM
theorem pick3 {u v x : V} {z : Int} (h0 : 0 ≤ z) (h1 : z < 3) : ∃ y, atI [u, v, x] z = some y ∧ (y = u ∨ y = v ∨ y = x) := by
  have : z = 0 ∨ z = 1 ∨ z = 2 := by omega
  rcases this with e | e | e
  · subst e; exact ⟨u, rfl, .inl rfl⟩
  · subst e; exact ⟨v, rfl, .inr (.inl rfl)⟩
  · subst e; exact ⟨x, rfl, .inr (.inr rfl)⟩
theorem x_rg2 {ta tb : TE} {σ : L2.St} {H : Hp} {R : Int → Int → Hp → Prop} (k : ta σ H fun x H1 => tb σ H1 fun y H2 => ∃ i j, x = .int i ∧ y = .int j ∧ R i j H2) : tRg2 ta tb σ H R := k
theorem steps_rep {H : Hp} {ps : List V} {l : List Stp} (h : StepsAt H ps l) : ∀ n : Nat, StepsAt H (List.replicate n ps).flatten (times l n)
  | 0 => .nil
  | n + 1 => by
    rw [List.replicate_succ, List.flatten_cons]
    exact pr_app h (steps_rep h n)
/-- if c: .., what is known of the slots and the heap behind it -/
theorem x_ifInv {c : Prop} [Decidable c] {t1 : TS} {D : Ends} {σ : L2.St} {H : Hp} (R : L2.St → Hp → Prop) (hF : ¬ c → R σ H) (hT : c → ∀ nx : L2.St → Hp → Prop, (∀ σ' H', R σ' H' → nx σ' H') → t1 { D with nx := nx } σ H)
    (h1 : ∀ σ' H', R σ' H' → D.nx σ' H') : if decide c = true then t1 D σ H else tNext D σ H := by
  by_cases h : c
  · rw [decide_eq_true h]
    exact hT h D.nx h1
  · rw [decide_eq_false h]
    exact h1 _ _ (hF h)
theorem cut_mid (xs : List V) {lo hi : Int} (h0 : 0 ≤ lo) (h1 : lo ≤ hi) (h2 : hi ≤ xs.length) : cutV xs (some lo) (some hi) = (xs.drop lo.toNat).take (hi - lo).toNat := by
  obtain ⟨a, rfl⟩ : ∃ a : Nat, lo = (a : Int) := ⟨lo.toNat, by omega⟩
  obtain ⟨b, rfl⟩ : ∃ b : Nat, hi = (b : Int) := ⟨hi.toNat, by omega⟩
  unfold cutV
  rw [HT.sIx_nat, HT.sIx_nat, Nat.min_eq_left (by omega), Nat.min_eq_left (by omega)]
  congr 1
  omega
theorem snoc_in {H H' : Hp} {D d : Addr} {ys vs : List V} {o : HO} (hD : H D = some (.lst ys)) (h : ∀ z ∈ ys, ∃ d, z = .ref d ∧ H d = some (.tup vs)) (s : Same H H') (e : H' d = some (.tup vs)) : ∀ z ∈ ys ++ [V.ref d], ∃ d, z = .ref d ∧ upd H' D o d = some (.tup vs) := fun z hz => by
  have key : ∀ d, H' d = some (.tup vs) → upd H' D o d = some (.tup vs) := fun d e => by
    rw [upd_ne fun q => ?_]
    · exact e
    · rw [q, s _ _ hD] at e
      cases e
  rcases List.mem_append.mp hz with hz | hz
  · obtain ⟨d', e', h'⟩ := h z hz
    exact ⟨d', e', key _ (s _ _ h')⟩
  · exact ⟨d, List.mem_singleton.mp hz, key _ e⟩
/-- what a law that makes lambdas holds on to: the draws' state, the tables, plans, lambdas -/
structure Bn (X : Cx) (k : Nat) (Ls : List (Addr × (XK → TE))) (C : Addr) (K : PySem.W.Frag) (T : List (Addr × Str)) (st a : Addr) (ns : List Int) (Ps : List (Addr × List Stp)) (H : Hp) : Prop where
  S : StAt K H st a ns
  T : Tabs T H
  P : ∀ p ∈ Ps, PlanAt C H p.1 p.2
  L : ∀ p ∈ Ls, LamV.LamAt X k p.2 p.1 H
section
variable {X : Cx} {k : Nat} {Ls : List (Addr × (XK → TE))} {C : Addr} {K : PySem.W.Frag} {T : List (Addr × Str)} {st a : Addr} {ns : List Int} {Ps : List (Addr × List Stp)} {H H' : Hp}
theorem Bn.same (b : Bn X k Ls C K T st a ns Ps H) (s : Same H H') : Bn X k Ls C K T st a ns Ps H' := ⟨b.S.mono s, tabs_same b.T s, fun p hp => (b.P p hp).mono s, fun p hp => (b.L p hp).same s⟩
theorem Bn.draw (b : Bn X k Ls C K T st a ns Ps H) (s : SameB st H H') (S' : StAt K H' st a ns) : Bn X k Ls C K T st a ns Ps H' := ⟨S', tabs_B b.T b.S s, fun p hp => PlanAt.monoB b.S s (b.P p hp), fun p hp => (b.L p hp).draw b.S s⟩
theorem Bn.ext (b : Bn X k Ls C K T st a ns Ps H) (e : ExtN H H') (T' : Tabs T H') : Bn X k Ls C K T st a ns Ps H' := ⟨ExtN.st e b.S, T', fun p hp => ExtN.plan e (b.P p hp), fun p hp => (b.L p hp).ext e⟩
theorem Bn.more (b : Bn X k Ls C K T st a ns Ps H) {p : Addr × (XK → TE)} (h : LamV.LamAt X k p.2 p.1 H) : Bn X k (p :: Ls) C K T st a ns Ps H := ⟨b.S, b.T, b.P, fun q hq => by
  rcases List.mem_cons.mp hq with z | z
  · rw [z]; exact h
  · exact b.L q z⟩
theorem Bn.plan (b : Bn X k Ls C K T st a ns Ps H) {x : Addr} {l : List Stp} (h : PlanAt C H x l) : Bn X k Ls C K T st a ns ((x, l) :: Ps) H := ⟨b.S, b.T, fun q hq => by
  rcases List.mem_cons.mp hq with z | z
  · rw [z]; exact h
  · exact b.P q z, b.L⟩
theorem Bn.forget (b : Bn X k Ls C K T st a ns Ps H) : Bn X k [] C K T st a ns Ps H := ⟨b.S, b.T, b.P, fun p hp => nomatch hp⟩
/-- xs.append(e) where xs is a list that came later than the state -/
theorem Bn.app (b : Bn X k Ls C K T st a ns Ps H) {H0 : Hp} {w : Addr} {xs ys : List V} (hw : H w = some (.lst xs)) (S0 : StAt K H0 st a ns) (h0 : H0 w = none) (s0 : ∀ b o, (∀ ps, o ≠ .tbl ps) → H0 b = some o → H b = some o) : Bn X k Ls C K T st a ns Ps (upd H w (.lst ys)) := by
  have kW : ∀ b o, (∀ xs, o ≠ .lst xs) → H b = some o → (upd H w (.lst ys)) b = some o := fun b o n e => by
    rw [upd_ne fun z => ?_]
    · exact e
    · rw [z, hw] at e
      exact n _ (Option.some.inj e).symm
  have eN : ExtN H0 (upd H w (.lst ys)) := fun b o e n => by
    rw [upd_ne (ne_of_none e h0)]
    exact s0 b o n e
  exact ⟨ExtN.st eN S0, tabs_keep b.T kW, fun p hp => by
    obtain ⟨dx, t, vs, h1, h2, h3⟩ := (b.P p hp).ex
    exact ⟨dx, t, vs, kW _ _ (fun xs z => nomatch z) h1, kW _ _ (fun xs z => nomatch z) h2, pr_im (fun _ _ ⟨p, e1, e2⟩ => ⟨p, e1, kW _ _ (fun xs z => nomatch z) e2⟩) h3⟩, fun p hp => (b.L p hp).keep fun b o _ n e => kW b o n e⟩
end
end Ch

set_option Elab.async false
set_option linter.all false
set_option autoImplicit false
set_option maxRecDepth 100000
set_option maxHeartbeats 4000000
/-! ### a comprehension whose elements look at the def around it -/
namespace LcI
open PySem PySem.Spec PyProof.Rows L2
section
variable {X : Cx}
theorem lcI_core {pins : List (Addr × Obj)} {s : Shared} {σ : L2.St} {H : Hp} {Q : VK} {use : Option (Value → Sem Unit)} {Qf : Value → Shared → Prop} {elt tg iter : Expr} {scope : Scope} {own : List (Str × Nat)} {pos pos' : Pos} {wi : TI} {g : TG} {te : L2.St → TE} (hc : X.calm = true) (hN : X.N.Nodup) (I : Inv X pins σ H s) (hi : PI X tg iter wi) (ok : BlkOk X.N X.env.scope scope own)
    (hg : ∀ (s : Shared) (H : Hp) (C : Addr) (cl : List (Str × Addr)) (fp : List Addr), PG (X.blk s H scope (compEnvC scope cl C X.env) fp) tg g)
    (he : ∀ (pins : List (Addr × Obj)) (s : Shared) (σ0 : L2.St) (H : Hp) (C : Addr) (cl : List (Str × Addr)) (fp : List Addr), Inv X pins σ0 H s → (∀ b ∈ fp, FpOk X pins H b) → PE (X.blk s H scope (compEnvC scope cl C X.env) fp) elt (te σ0))
    (hs : ∀ x, foldedSetIterable iter X.env x = pure x) (h : tLc wi g tYes (te σ) (own.map (·.2)) σ H Q)
    (hRR : ∀ D C s' m H', Inv X pins σ H' s' → Q (.ref D) H' → s'.heap.Ns C m → FpOk X pins H' C → compPost (model X.prog X.w) X.A X.xe use Qf (.ref D) C (.ok .next) s') :
    wpAny (model X.prog X.w) X.A (comprehension (.ListComp elt [⟨tg, iter, [], 0⟩] scope pos) scope X.env pos' (newList []) false (eval iter X.env) use) Qf X.xe s := by
  have caps : ∀ y ∈ scope.names, y.2 = .free → ∃ c, X.env.cells.lookup y.1 = some c := fun y hy e => (ok.free y hy e).elim (fun u => I.ok.has _ (.inl u)) fun u => I.ok.has _ (.inr u)
  refine wpAny_comprehension_free (use := use) rfl hs (closure_ok caps) ok.kind (fun y hy e => by rw [ok.uniq y hy, e])
    (thn (hi.run pins s σ H _ I h) fun v1 s1 k1 => thn k1 fun v2 s2 k2 => ?_)
  obtain ⟨it, fp, tn, J, H2, e2, I2, T, at2, fo2, q2⟩ := k2
  subst e2
  refine wpAny_newObj_type (newEnv_comp ?_) (by show 0 ≤ sizeLine; decide)
  have nD : H2 s2.heap.objs.size = none := I2.hok.fresh (Nat.le_refl _)
  obtain ⟨W, ⟨m0, w0⟩, turn⟩ := q2 s2.heap.objs.size nD
  -- behind the new list
  have I3 : Inv X pins σ (upd H2 s2.heap.objs.size (.lst [])) { s2 with heap := s2.heap.push { cls := .type "list", data := .seq ([] : List Value).toArray } } :=
    I2.laid (t' := s2.toks) (fun b o e => Heap.get?_push_of_some _ e) (Nat.le_refl _) ⟨Nat.zero_le _, [], 0, .nil, Heap.get?_push_size _ rfl⟩
  have fo3 : ∀ b ∈ fp, FpOk X pins (upd H2 s2.heap.objs.size (.lst [])) b ∧ b < (s2.heap.push { cls := .type "list", data := .seq ([] : List Value).toArray }).objs.size := fun b hb => by
    obtain ⟨o, eo, _⟩ := T.obj _ _ at2 b hb
    have lt := Heap.lt_size eo
    refine ⟨⟨?_, (fo2 b hb).2⟩, by rw [Heap.size_push]; exact Nat.lt_succ_of_lt lt⟩
    rw [upd_ne (Nat.ne_of_lt lt)]
    exact (fo2 b hb).1
  have at3 : tn 0 (s2.heap.push { cls := .type "list", data := .seq ([] : List Value).toArray }) := T.keep _ _ _ at2 fun b _ o e => Heap.get?_push_of_some _ e
  generalize s2.heap.objs.size = D at *
  generalize hs3 : ({ s2 with heap := s2.heap.push { cls := .type "list", data := .seq ([] : List Value).toArray } } : Shared) = s3 at I3
  have hh3 : s3.heap = s2.heap.push { cls := .type "list", data := .seq ([] : List Value).toArray } := by rw [← hs3]
  rw [← hh3] at fo3 at3
  have I4 := block_start I3 ok hN fo3
  have pg := hg s3 (upd H2 D (.lst [])) s3.heap.objs.size (cellsFrom (s3.heap.objs.size + 1) scope.names (cloFrom X.env.cells scope.names [])) fp
  have pe := he pins s3 σ (upd H2 D (.lst [])) s3.heap.objs.size (cellsFrom (s3.heap.objs.size + 1) scope.names (cloFrom X.env.cells scope.names [])) fp I3 fun b hb => (fo3 b hb).1
  have nofp : ∀ b ∈ fp, (upd H2 D (.lst [])) b = none := fun b hb => (fo3 b hb).1.1
  generalize hH3 : upd H2 D (.lst []) = H3 at I3 I4 pg pe w0 nofp fo3
  show codeAny _ _ (.compStart (.ListComp elt [⟨tg, iter, [], 0⟩] scope pos) 0 (.ref it) (.ref D)
    (compEnvC scope (cellsFrom (s3.heap.objs.size + 1) scope.names (cloFrom X.env.cells scope.names [])) s3.heap.objs.size X.env))
    (compPost (model X.prog X.w) X.A X.xe use Qf (.ref D) s3.heap.objs.size) { s3 with heap := pushCells (s3.heap.push { cls := .type "dict", data := .dict #[] }) scope.names }
  generalize hce : compEnvC scope (cellsFrom (s3.heap.objs.size + 1) scope.names (cloFrom X.env.cells scope.names [])) s3.heap.objs.size X.env = ce at I4 pg pe ⊢
  have eL : ce.locals = s3.heap.objs.size := by
    rw [← hce]
    rfl
  generalize hs4 : ({ s3 with heap := pushCells (s3.heap.push { cls := .type "dict", data := .dict #[] }) scope.names } : Shared) = s4 at I4 ⊢
  have at4 : tn 0 s4.heap := by
    rw [← hs4]
    exact T.keep _ _ _ at3 fun b _ o e => pushCells_keeps _ _ _ _ (Heap.get?_push_of_some _ e)
  have noPn : ∀ {p : Addr × Obj} {b : Addr}, p ∈ ([] : List (Addr × Obj)) ++ [] → p.1 ≠ b := fun hp => absurd hp (by simp)
  have foB : ∀ {τ : L2.St} {G : Hp} {t : Shared}, Inv (X.blk s3 H3 scope ce fp) [] τ G t → (∀ b ∈ fp, G b = none) → ∀ b ∈ fp, FpOk (X.blk s3 H3 scope ce fp) [] G b := fun J n b hb =>
    ⟨n b hb, (J.ok.exf b hb).1, J.ok.exfs b hb, .inl hb, (J.ok.exf b hb).2, fun p hp => noPn hp⟩
  have lp : codeAny (model X.prog X.w) X.A (.compLoop (.ListComp elt [⟨tg, iter, [], 0⟩] scope pos) 0 (.ref it) (.ref D) ce) (compPost (model X.prog X.w) X.A X.xe use Qf (.ref D) s3.heap.objs.size) s4 := by
    refine compLoop_any (fun n t => ∃ i G, Inv (X.blk s3 H3 scope ce fp) [] (wipe σ (own.map (·.2))) G t ∧ tn i t.heap ∧ (∀ b ∈ fp, G b = none) ∧ W i n G) ?_ m0 ⟨0, H3, I4, at4, nofp, w0⟩
    rintro n t0 ⟨i, G0, J0, a0, n0, w1⟩
    rcases turn i n G0 w1 with ⟨stp, fin⟩ | ⟨goes, Nx, hNx, step⟩
    · refine thnF (T.done (X.blk s3 H3 scope ce fp) rfl rfl rfl hc i [] t0 _ G0 (fun _ _ => False) J0 (foB J0 n0) a0 stp) fun r t1 ⟨er, J1⟩ => ?_
      subst er
      have home : Inv X pins σ G0 t1 := I3.call' (ch := fp) J1.os J1.base J1.hok J1.bare fun b hb =>
        let ⟨_, f1, _, f3, f4, f5⟩ := (fo3 b hb).1
        ⟨f3, f1, f4, f5⟩
      have nC : G0 s3.heap.objs.size = none := by
        have z := J1.free
        rw [show (X.blk s3 H3 scope ce fp).env.locals = s3.heap.objs.size from eL] at z
        exact z
      obtain ⟨m, hn, _⟩ := J1.loc
      rw [show (X.blk s3 H3 scope ce fp).env.locals = s3.heap.objs.size from eL] at hn
      exact hRR D _ t1 m G0 home fin hn (I3.fpOk (Nat.le_refl _) nC)
    · refine thnF (T.item (X.blk s3 H3 scope ce fp) rfl rfl rfl hc i [] t0 _ G0 (fun _ _ => False) J0 (foB J0 n0) a0 goes) fun r t1 ⟨u, er, kk⟩ => ?_
      subst er
      refine thnF kk fun _ t2 ⟨x, G2, J2, rx, y2, a2, n2⟩ => ?_
      have J2' := J2.pinned (foB J2 n2) (T.obj _ _ a2)
      refine thnF (pg.run _ t2 _ G2 x u _ J2' rx (step x G2 y2)) fun _ t3 ⟨τ, G3, J3, ew, q3⟩ => ?_
      refine wpAny_pure ?_
      have q3 : te σ τ G3 fun y H4 => ∃ acc, H4 D = some (.lst acc) ∧ acc.length < sizeLine ∧ Nx (upd H4 D (.lst (acc ++ [y]))) := q3
      show wpAny _ _ (eval elt ce) _ _ _
      refine thnF (pe.run _ t3 τ G3 _ J3 q3) fun z t4 ⟨yv, G4, J4, r4, acc, hD4, hz4, nx⟩ => ?_
      refine app_ok (X := X.blk s3 H3 scope ce fp) J4 hD4 hz4 r4 fun t5 J5 => ?_
      obtain ⟨m', lt, w'⟩ := hNx _ nx
      have pinned : ∀ b ∈ fp, ∀ o, t2.heap.get? b = some o → t5.heap.get? b = some o ∧ (upd G4 D (.lst (acc ++ [yv]))) b = none := fun b hb o e => by
        have z := J5.pin (b, o) (List.mem_append_right _ (List.mem_append_right _ (mem_pinsAt hb e)))
        exact ⟨z.1, z.2.1⟩
      have sl : (wipe σ (own.map (·.2))).length = τ.length := by rw [← ew, wipe_length]
      refine ⟨m', lt, i + 1, _, (J5.unpinned (pins := [])).weak sl (fun j v e => ?_), T.keep _ _ _ a2 fun b hb o e => (pinned b hb o e).1, fun b hb => ?_, w'⟩
      · rw [← ew] at e
        exact (wipe_some e).1
      · obtain ⟨o, e, _⟩ := T.obj _ _ a2 b hb
        exact (pinned b hb o e).2
  exact codeAny_compStart_list lp (T.self X.A 0 _ _ _ at4 lp)
theorem pe_lcI {elt tg iter : Expr} {scope : Scope} {own : List (Str × Nat)} {pos : Pos} {wi : TI} {g : TG} {te : L2.St → TE} (hc : X.calm = true) (hN : X.N.Nodup) (hi : PI X tg iter wi) (ok : BlkOk X.N X.env.scope scope own)
    (hg : ∀ (s : Shared) (H : Hp) (C : Addr) (cl : List (Str × Addr)) (fp : List Addr), PG (X.blk s H scope (compEnvC scope cl C X.env) fp) tg g)
    (he : ∀ (pins : List (Addr × Obj)) (s : Shared) (σ0 : L2.St) (H : Hp) (C : Addr) (cl : List (Str × Addr)) (fp : List Addr), Inv X pins σ0 H s → (∀ b ∈ fp, FpOk X pins H b) → PE (X.blk s H scope (compEnvC scope cl C X.env) fp) elt (te σ0))
    (hs : ∀ x, foldedSetIterable iter X.env x = pure x := by intro _; rfl) : PE X (.ListComp elt [⟨tg, iter, [], 0⟩] scope pos) (fun σ H Q => tLc wi g tYes (te σ) (own.map (·.2)) σ H Q) := by
  refine ⟨fun pins s σ H Q I h => ?_⟩
  rw [eval_ListComp]
  refine lcI_core hc hN I hi ok hg he hs h fun D C s' m H' I' q hn f => ⟨m, hn, fun h'' sb => ?_⟩
  obtain ⟨f0, f1, f2, f3, f4, f5⟩ := f
  exact ⟨.ref D, H', I'.turned (t' := s'.toks) (fun b o hb e => (sb.2 b hb).trans e) f0 f1 f3 f4 f5, rfl, q⟩
/-- name = [..] -/
theorem ps_lcI {i : Nat} {y : Str} {py : Pos} {elt tg iter : Expr} {scope : Scope} {own : List (Str × Nat)} {pos spos : Pos} {wi : TI} {g : TG} {te : L2.St → TE} (hc : X.calm = true) (hN : X.N.Nodup) (hy : X.N[i]? = some y) (hyl : X.env.scope.names.lookup y = some .local)
    (hsw : swapsWith (.ListComp elt [⟨tg, iter, [], 0⟩] scope pos) (some (.Name y py)) spos.line X.env = pure true) (hi : PI X tg iter wi) (ok : BlkOk X.N X.env.scope scope own)
    (hg : ∀ (s : Shared) (H : Hp) (C : Addr) (cl : List (Str × Addr)) (fp : List Addr), PG (X.blk s H scope (compEnvC scope cl C X.env) fp) tg g)
    (he : ∀ (pins : List (Addr × Obj)) (s : Shared) (σ0 : L2.St) (H : Hp) (C : Addr) (cl : List (Str × Addr)) (fp : List Addr), Inv X pins σ0 H s → (∀ b ∈ fp, FpOk X pins H b) → PE (X.blk s H scope (compEnvC scope cl C X.env) fp) elt (te σ0))
    (hs : ∀ x, foldedSetIterable iter X.env x = pure x := by intro _; rfl) :
    PS X (.Assign [.Name y py] (.ListComp elt [⟨tg, iter, [], 0⟩] scope pos) spos) (tAsg (fun σ H Q => tLc wi g tYes (te σ) (own.map (·.2)) σ H Q) (gName i)) := by
  refine ⟨fun pins s σ H D I h0 => ?_⟩
  rw [exec_Assign_Name_used _ _ _ _ hsw]
  refine wpAny_bind (wpAny_standAt (wpAny_bind ?_))
  show wpAny _ X.A (do let _ ← comprehension (.ListComp elt [⟨tg, iter, [], 0⟩] scope pos) scope X.env (firstIterPos [⟨tg, iter, [], 0⟩] pos) (newList []) false (eval iter X.env) (some (assign (.Name y py) X.env))) _ _ s
  have h : tLc wi g tYes (te σ) (own.map (·.2)) σ H (fun x H1 => gName i x σ H1 D.nx) := h0
  refine wpAny_bind (thn (lcI_core (Qf := fun _ s' => SP X pins D .next s') hc hN I hi ok hg he hs h fun L C s' m H' I' q hn f => ?_) fun _ s' hq => wpAny_pure (wpAny_pure hq))
  show wpAny _ _ (assign (.Name y py) X.env (.ref L)) _ _ _
  refine wpAny_assign_Name (store_ok2 (v := V.ref L) I' hN hy (.inl hyl) rfl (fun s2 I2 ⟨a, sb, ha⟩ => ?_) (.inr hyl))
  obtain ⟨f0, f1, f2, f3, f4, f5⟩ := f
  have haC : C ≠ a := by
    rcases ha with z | z
    · rw [z]; exact f1
    · exact fun e => f4 y a z e.symm
  refine ⟨m, hn.sameBut sb haC, fun h3 sb3 => ?_⟩
  exact ⟨_, H', I2.turned (t' := s2.toks) (fun b o hb e => (sb3.2 b hb).trans e) f0 f1 f3 f4 f5, q⟩
end
end LcI

set_option Elab.async false
set_option linter.all false
set_option autoImplicit false
set_option maxRecDepth 100000
set_option maxHeartbeats 4000000
/-! ### texts: numbers told, joined texts -/
namespace TxX
open PySem PySem.NumText PySem.Spec PyProof.Rows L2 Ch
def nt (n : Int) : Str := PySem.Str.ofString (toString n)
theorem nt_nat (m : Nat) : (nt (m : Int)).cps.toList = (Nat.toDigits 10 m).map Char.toNat := PySem.W.KIN.signs_num m
theorem digs (m : Nat) : AllDigits ((Nat.toDigits 10 m).map Char.toNat) := by
  intro c hc
  obtain ⟨ch, hch, e⟩ := List.mem_map.mp hc
  have r := PyProof.Rows.digit_range (Nat.isDigit_of_mem_toDigits (by decide) (by decide) hch)
  rw [← e]
  exact r
theorem digs_ne (m : Nat) : (Nat.toDigits 10 m).map Char.toNat ≠ [] := by
  intro e
  have h := toDigits_len_ge 10 m
  rw [List.map_eq_nil_iff.mp e] at h
  exact absurd h (by decide)
theorem nt_len {n : Int} (h0 : 0 ≤ n) (h : n < 10 ^ 20) : (nt n).length ≤ 20 := toString_length_le h0 (by decide) h
theorem nt_read {n : Int} (h0 : 0 ≤ n) (h : n < 10 ^ 20) : PySem.intText? (nt n) = some n := by
  have hl := nt_len h0 h
  obtain ⟨m, rfl⟩ := Int.eq_ofNat_of_zero_le h0
  have e := intText_digits (x := nt (m : Int)) (by rw [nt_nat]; exact digs m) (by rw [nt_nat]; exact digs_ne m) (by omega)
  rw [nt_nat, PySem.W.KIN.val_back] at e
  exact e
theorem ok_of {x : Str} (h : ∀ c ∈ x.cps.toList, c < 0x110000) : PyData.strOk x = true := by
  unfold PyData.strOk
  rw [← Array.all_toList, List.all_eq_true]
  exact fun c hc => decide_eq_true (h c hc)
theorem of_ok {x : Str} (h : PyData.strOk x = true) : ∀ c ∈ x.cps.toList, c < 0x110000 := by
  unfold PyData.strOk at h
  rw [← Array.all_toList, List.all_eq_true] at h
  exact fun c hc => of_decide_eq_true (h c hc)
theorem nt_ok {n : Int} (h0 : 0 ≤ n) : PyData.strOk (nt n) = true := by
  obtain ⟨m, rfl⟩ := Int.eq_ofNat_of_zero_le h0
  refine ok_of fun c hc => ?_
  rw [nt_nat] at hc
  have := digs m c hc
  omega
theorem app_ok {x y : Str} (hx : PyData.strOk x = true) (hy : PyData.strOk y = true) : PyData.strOk (x ++ y) = true := by
  refine ok_of fun c hc => ?_
  rw [PySem.Str.cps_append, Array.toList_append, List.mem_append] at hc
  exact hc.elim (of_ok hx c) (of_ok hy c)
theorem join_ok {y : Str} (hy : PyData.strOk y = true) : ∀ {l : List Str}, (∀ x ∈ l, PyData.strOk x = true) → PyData.strOk (Txt.join y l) = true := by
  intro l
  rw [TL.join_eq]
  induction l with
  | nil =>
    intro _
    rw [PyProof.Rows.join_nil]
    decide +kernel
  | cons x r ih =>
    intro h
    cases r with
    | nil => exact h x List.mem_cons_self
    | cons z r =>
      show PyData.strOk (x ++ y ++ Str.join y (z :: r)) = true
      exact app_ok (app_ok (h x List.mem_cons_self) hy) (ih fun w hw => h w (List.mem_cons_of_mem _ hw))
/-- small numbers, below nought too -/
theorem nt_small {n : Int} (h0 : -4 ≤ n) (h1 : n ≤ 4) : PySem.intText? (nt n) = some n ∧ (nt n).length ≤ 20 ∧ PyData.strOk (nt n) = true := by
  have : n = -4 ∨ n = -3 ∨ n = -2 ∨ n = -1 ∨ n = 0 ∨ n = 1 ∨ n = 2 ∨ n = 3 ∨ n = 4 := by omega
  rcases this with h | h | h | h | h | h | h | h | h <;> subst h <;> decide +kernel
/-! ### rules -/
section
variable {X : Cx} {K : PySem.W.Frag} {o e : Expr} {to te : TE} {σ : L2.St} {H : Hp} {Q : VK}
def rJoin (K : PySem.W.Frag) : V → List V → Hp → VK → Prop := fun x xs H Q => ∃ a p, ∃ ys : List Str, x = .str a ∧ xs = [.ref p] ∧ (SqL K H p (ys.map V.str) ∨ SqT K H p (ys.map V.str)) ∧ (ys.map (·.length)).sum + ys.length * a.length ≤ 16777216 ∧ Q (.str (Txt.join a ys)) H
theorem pe_joinK (K : PySem.W.Frag) {apos pos : Pos} (ho : PE X o to) (he : PE X e te) (hs : starEach [e] X.env = [(false, eval e X.env)] := by rfl) (hbase : attributeBase o "join" X.env (eval o X.env) = eval o X.env := by rfl) (hline : (apos.endLine == pos.line) = true := by rfl) (hK : X.K = K := by rfl) :
    PE X (.Call (.Attribute o "join" apos) [e] [] pos) (tM1 (rJoin K) to te) := by
  subst hK
  exact pe_join ho he hs hbase hline
theorem x_m1 {r : V → List V → Hp → VK → Prop} (k : to σ H fun x H1 => (∃ a, x = .str a) ∧ te σ H1 fun y H2 => r x [y] H2 Q) : tM1 r to te σ H Q := k
theorem x_joinL {a : Str} {p : Addr} {ys : List Str} (h : SqL K H p (ys.map V.str)) (hl : (ys.map (·.length)).sum + ys.length * a.length ≤ 16777216) (k : Q (.str (Txt.join a ys)) H) : rJoin K (.str a) [.ref p] H Q := ⟨a, p, ys, rfl, rfl, .inl h, hl, k⟩
def rStrI : List V → Hp → VK → Prop := fun xs H Q => ∃ i, xs = [.int i] ∧ i.natAbs.log2 < 1920 ∧ Q (.str (nt i)) H
theorem c_strI : CallR X (.type "str") rStrI := call_str_int
theorem log_ok {i : Int} (h : i.natAbs < 10 ^ 20) : i.natAbs.log2 < 1920 := by
  by_cases h0 : i.natAbs = 0
  · rw [h0]; decide
  · exact (Nat.log2_lt h0).mpr (Nat.lt_of_lt_of_le h (by decide))
theorem x_strI {i : Int} (h : i.natAbs < 10 ^ 20) (k : Q (.str (nt i)) H) : rStrI [.int i] H Q := ⟨i, rfl, log_ok h, k⟩
def rIntS : List V → Hp → VK → Prop := fun xs H Q => ∃ a n, xs = [.str a] ∧ PySem.intText? a = some n ∧ a.length ≤ 640 ∧ Q (.int n) H
theorem c_intS : CallR X (.type "int") rIntS := call_int_str
theorem x_intS {a : Str} {n : Int} (h : PySem.intText? a = some n) (hl : a.length ≤ 640) (k : Q (.int n) H) : rIntS [.str a] H Q := ⟨a, n, rfl, h, hl, k⟩
end
end TxX

set_option Elab.async false
set_option linter.all false
set_option autoImplicit false
set_option maxRecDepth 100000
set_option maxHeartbeats 4000000
/-! ### generator methods; a for loop around a yield, over anything that is walked -/
namespace G2
open PySem PySem.Spec PyProof.Rows L2 GenW Ch
theorem x_gloopW {J : It} {n : Nat} {G : Hp → Prop} {Y : Nat → Hp → V → Hp → Prop} {D : GEnds} {ys : List V} {σ : L2.St} {H : Hp} {g : TG} {tb : TGn} (w : Walk J n G Y) (Pv : Nat → List V → L2.St → Hp → Prop) (h0 : Pv 0 ys σ H) (hG : ∀ i ys σ H, i ≤ n → Pv i ys σ H → G H)
    (hs : ∀ i x ys σ H H', i < n → Pv i ys σ H → Y i H x H' → g x σ H' fun σ2 H2 => tb { D with nx := Pv (i + 1), ct := Pv (i + 1), bk := D.nx } ys σ2 H2) (hd : ∀ ys σ H, Pv n ys σ H → D.nx ys σ H) : ForG J g tb D ys σ H := by
  refine ⟨fun i m ys σ H => m = n - i ∧ i ≤ n ∧ Pv i ys σ H, ⟨n, by simp, Nat.zero_le _, h0⟩, ?_⟩
  rintro i m ys σ H ⟨rfl, hi, p⟩
  have q := hG i ys σ H hi p
  by_cases hlt : i < n
  · exact .inr ⟨w.goes i H hlt q, Pv (i + 1), fun ys' σ' H' p' => ⟨n - (i + 1), by omega, rfl, hlt, p'⟩, fun x H' y => hs i x ys σ H H' hlt p (w.yields i H x H' hlt q y)⟩
  · have e : i = n := by omega
    subst e
    exact .inl ⟨w.stops H q, hd ys σ H p⟩
def tMethG (C : Addr) (m : Str) (sp : SpG) (E : XK) (ta : TE) : TGen := fun σ H cont => ta σ H fun x H1 => ∃ a dx fs, x = .ref a ∧ H1 a = some (.ins C dx fs) ∧ fs.lookup m = none ∧ sp [.ref a] H1 cont E
/-- o.m(), m a generator method -/
theorem pgen2_meth0 {X : Cx} {k : Nat} {C f : Addr} {fd : FuncData} {ps : List Str} {sp : SpG} {E : XK} {m : Str} {o : Expr} {ta : TE} {pos apos : Pos} {pl : Sem Bool} (c : Cls X.K C) (hm : Meth X.K C m f) (F : GFn2 X.prog X.w X.K X.mg X.base k f fd ps sp) (hr : Room k X.A) (hb : Binds X.K fd ps []) (ho : PE X o ta)
    (ht : eval (.Call (.Attribute o m apos) [] [] pos) X.env = (do
      let ov ← eval o X.env
      standAt apos.atName
      let (g, first) ← holding [ov] (getMethod ov m pl)
      callWith pos g first (backTo pos (starEach [] X.env)) (backToKw pos (keywordEach [] X.env))) := by rfl) :
    PGen2 X k (.Call (.Attribute o m apos) [] [] pos) (tMethG C m sp E ta) E := by
  refine ⟨fun pins s σ H cont I h => PySem.W.methodCall_KW (pl := pl) (thn (ho.run pins s σ H _ I h) fun u s1 ⟨y, H1, I1, ry, a, dx, fs, ey, ea, l, q⟩ => ?_) ht⟩
  subst ey
  obtain rfl : u = Value.ref a := ry
  exact getmeth_ok I1 ea c hm l (PySem.W.callWith_K0 (first := [.ref a]) I1.kIn hm.kp (run_gfn2 (us := [.ref a]) (vs := [.ref a]) F hr hb .nil I1 (.cons rfl .nil) q))
theorem x_methG {C : Addr} {m : Str} {sp : SpG} {E : XK} {ta : TE} {σ : L2.St} {H : Hp} {cont : List V → Hp → Prop} (k : ta σ H fun x H1 => ∃ a dx fs, x = .ref a ∧ H1 a = some (.ins C dx fs) ∧ fs.lookup m = none ∧ sp [.ref a] H1 cont E) : tMethG C m sp E ta σ H cont := k
theorem passF {X : Cx} : Passes (CX X.prog X.w) X (fun _ _ _ => False) := by
  intro pins σ H s e s' I h
  obtain ⟨_, _, _, _, _, _, _, _, _, _, _, _, z⟩ := h
  exact z.elim
end G2

set_option Elab.async false
set_option linter.all false
set_option autoImplicit false
set_option maxRecDepth 100000
set_option maxHeartbeats 4000000
/-! texts: split, slices, numerals; lists: every second item; a star in a pattern -/
namespace StrX
open PySem PySem.NumText PySem.Spec PyProof.Rows L2 Ch TxX
/-! ### split, slices of texts -/
section
variable {X : Cx} {K : PySem.W.Frag} {o e : Expr} {to te : TE} {σ : L2.St} {H : Hp} {Q : VK}
def rSplit : V → List V → Hp → VK → Prop := fun x xs H Q => ∃ a b, x = .str a ∧ xs = [.str b] ∧ (b.length == 0) = false ∧ a.length + 2 ≤ sizeLine ∧ rNewStrs (Txt.split a b) H Q
theorem pe_splitK {apos pos : Pos} (ho : PE X o to) (he : PE X e te) (hs : starEach [e] X.env = [(false, eval e X.env)] := by rfl) (hbase : attributeBase o "split" X.env (eval o X.env) = eval o X.env := by rfl) (hline : (apos.endLine == pos.line) = true := by rfl) :
    PE X (.Call (.Attribute o "split" apos) [e] [] pos) (tM1 rSplit to te) := pe_split ho he hs hbase hline
theorem x_split {a b : Str} (hb : (b.length == 0) = false) (ha : a.length ≤ 100000) (k : ∀ p, H p = none → Q (.ref p) (upd H p (.lst ((Txt.split a b).map V.str)))) : rSplit (.str a) [.str b] H Q :=
  ⟨a, b, rfl, rfl, hb, by rw [sizeLine_eq]; omega, k⟩
theorem x_cutS {z : Str} {lo hi : Option Int} (hz : z.length ≤ 100000) (k : Q (.str (cutS z lo hi)) H) : rSlS (.str z) lo hi H Q := ⟨z, rfl, by rw [sizeLine_eq]; omega, k⟩
theorem x_ixS {z : Str} {i : Int} {c : Nat} (hz : z.length ≤ 100000) (h : atI z.cps.toList i = some c) (k : Q (.str ⟨#[c]⟩) H) : rIx K (.str z) (.int i) H Q := .inr (.inr ⟨z, i, c, rfl, rfl, by rw [sizeLine_eq]; omega, h, k⟩)
end
/-! ### every second item -/
def evens {α : Type} : List α → List α
  | [] => []
  | [a] => [a]
  | a :: _ :: r => a :: evens r
theorem evens_len {α : Type} : ∀ l : List α, (evens l).length = (l.length + 1) / 2
  | [] => by show 0 = (0 + 1) / 2; decide
  | [_] => by show 1 = (1 + 1) / 2; decide
  | a :: b :: r => by
    show (evens r).length + 1 = _
    rw [evens_len r, List.length_cons, List.length_cons]
    omega
theorem evens_map {α β : Type} (f : α → β) : ∀ l : List α, evens (l.map f) = (evens l).map f
  | [] => rfl
  | [_] => rfl
  | a :: b :: r => congrArg (f a :: ·) (evens_map f r)
theorem evens_mem {α : Type} {x : α} : ∀ {l : List α}, x ∈ evens l → x ∈ l
  | [], h => h
  | [_], h => h
  | a :: b :: r, h => by
    rcases List.mem_cons.mp h with z | z
    · rw [z]; exact List.mem_cons_self
    · exact List.mem_cons_of_mem _ (List.mem_cons_of_mem _ (evens_mem z))
theorem evens_drop {α : Type} {xs : List α} {a : Nat} {x : α} (h : xs[a]? = some x) : evens (xs.drop a) = x :: evens (xs.drop (a + 2)) := by
  obtain ⟨hl, e⟩ := List.getElem?_eq_some_iff.mp h
  rw [List.drop_eq_getElem_cons hl, e]
  by_cases h2 : a + 1 < xs.length
  · rw [List.drop_eq_getElem_cons h2]
    rfl
  · rw [List.drop_eq_nil_of_le (by omega), List.drop_eq_nil_of_le (by omega)]
    rfl
theorem every_two {α : Type} (xs : List α) : ∀ (k a : Nat), k = (xs.length - a + 1) / 2 → ((List.range k).map fun i => a + 2 * i).filterMap (fun i => xs[i]?) = evens (xs.drop a)
  | 0, a, h => by
    rw [List.drop_eq_nil_of_le (by omega)]
    rfl
  | k + 1, a, h => by
    have ha : a < xs.length := by omega
    rw [evens_drop (List.getElem?_eq_getElem ha), ← every_two xs k (a + 2) (by omega), List.range_succ_eq_map, List.map_cons, List.map_map, List.filterMap_cons]
    rw [show (xs[a + 2 * 0]?) = some xs[a] from List.getElem?_eq_getElem ha]
    dsimp only
    congr 2
    apply List.map_congr_left
    intro i _
    show a + 2 * (i + 1) = a + 2 + 2 * i
    omega
theorem range_two (a n : Nat) : sliceRange (a : Int) (n : Int) 2 = (List.range ((n - a + 1) / 2)).map fun i => a + 2 * i := by
  unfold sliceRange
  rw [if_pos (by decide)]
  have e : (if (a : Int) < n then ((n : Int) - a + 2 - 1) / 2 else 0).toNat = (n - a + 1) / 2 := by
    by_cases h : (a : Int) < n
    · rw [if_pos h]; omega
    · rw [if_neg h]; omega
  dsimp only
  rw [e]
  apply List.map_congr_left
  intro k _
  omega
theorem pick_two (items : Array Value) (a : Nat) (ha : a ≤ items.size) : slicePick items (some (a : Int)) none (some 2) = (evens (items.toList.drop a)).toArray := by
  have e : sliceBounds (some (a : Int)) none (some 2) items.size = ((a : Int), (items.size : Int), 2) := by
    simp only [sliceBounds, Option.getD_some]
    have h1 : ¬ ((a : Int) < 0) := by omega
    simp only [h1, if_false, show (2 : Int) > 0 by decide, if_true]
    congr 1
    omega
  unfold slicePick
  rw [e, range_two]
  have := every_two items.toList ((items.size - a + 1) / 2) a (by rw [Array.length_toList])
  rw [← this]
  congr 2
  funext x
  exact (Array.getElem?_toList ..).symm
theorem pick_few (items : Array Value) (a : Nat) (ha : items.size < a) : slicePick items (some (a : Int)) none (some 2) = (evens (items.toList.drop a)).toArray := by
  have e : sliceBounds (some (a : Int)) none (some 2) items.size = ((items.size : Int), (items.size : Int), 2) := by
    simp only [sliceBounds, Option.getD_some]
    have h1 : ¬ ((a : Int) < 0) := by omega
    simp only [h1, if_false, show (2 : Int) > 0 by decide, if_true]
    congr 1
    omega
  unfold slicePick
  rw [e, range_two, Nat.sub_self, List.drop_eq_nil_of_le (by rw [Array.length_toList]; omega)]
  rfl
theorem vals_evens : ∀ {xs : List V} {us : List Value}, Vals xs us → Vals (evens xs) (evens us)
  | [], _, .nil => .nil
  | [_], _, .cons a .nil => .cons a .nil
  | _ :: _ :: _, _, .cons a (.cons _ r) => .cons a (vals_evens r)
section
variable {X : Cx} {e : Expr} {te : TE} {lo hi : Option Expr} {st : Expr} {tl th tz : TO} {pos p2 : Pos}
def rSl2 (K : PySem.W.Frag) : V → Option Int → Option Int → Option Int → Hp → VK → Prop := fun x lo hi st H Q => ∃ (p : Addr) (xs : List V) (a : Nat), x = .ref p ∧ SqL K H p xs ∧ lo = some (a : Int) ∧ hi = none ∧ st = some 2 ∧ ∀ q, H q = none → Q (.ref q) (upd H q (.lst (evens (xs.drop a))))
def tSl2 (K : PySem.W.Frag) (te : TE) (tl th tz : TO) : TE := fun σ H Q => te σ H fun x H1 => tl σ H1 fun l H2 => th σ H2 fun u H3 => tz σ H3 fun z H4 => rSl2 K x l u z H4 Q
/-- a[lo:hi:step] of a list -/
theorem pe_slice2 (K : PySem.W.Frag) (he : PE X e te) (hl : PO X lo tl) (hu : PO X hi th) (hz : PO X (some st) tz) (hK : X.K = K := by rfl) : PE X (.Subscript e (.Slice lo hi (some st) p2) pos) (tSl2 K te tl th tz) := by
  subst hK
  refine ⟨fun pins s σ H Q I h => ?_⟩
  refine Subscript_ (thn (he.run pins s σ H _ I h) fun v s1 ⟨x, H1, I1, r1, q1⟩ => ?_)
  refine wpAny_Slice (thn (hl.run pins s1 σ H1 _ I1 q1) fun vl s2 ⟨l, H2, I2, pl, q2⟩ => thn (hu.run pins s2 σ H2 _ I2 q2) fun vu s3 ⟨u, H3, I3, pu, q3⟩ => thn (hz.run pins s3 σ H3 _ I3 q3) fun vz s4 ⟨z, H4, I4, pz, q4⟩ => ?_)
  obtain ⟨p, xs, a, rfl, hq, rfl, rfl, rfl, k⟩ := q4
  cases r1
  have I5 : Inv X pins σ H4 { s4 with heap := s4.heap.push { cls := .type "slice", data := .fields #[vl, vu, vz] } } := I4.kept (t' := s4.toks) fun b ob q => Heap.get?_push_of_some _ q
  obtain ⟨its, r, ⟨ob, m, eo, ec, ed, eq⟩, hsz⟩ := I5.list hq
  have hL : (s4.heap.push { cls := .type "slice", data := .fields #[vl, vu, vz] }).IsList p its.toArray := ⟨ob, eo, ec, m, eq⟩
  refine tail_any (ops := [.ref p, .ref s4.heap.objs.size]) hL.typeIs PySem.slot_list_getitem.lookup (wpAny_getItem_list_slice hL (Heap.IsSliceOf.new ..) pl pu pz (by decide) ?_ (by rw [List.size_toArray, ← r.length]; exact hsz)) (by with_unfolding_all rfl)
  have e2 : slicePick its.toArray (some (a : Int)) none (some 2) = (evens (its.drop a)).toArray := by
    by_cases h : a ≤ its.toArray.size
    · exact pick_two _ a h
    · exact pick_few _ a (by omega)
  rw [e2]
  refine ⟨.ref _, _, I5.laid (t' := s4.toks) (o := .lst (evens (xs.drop a))) (fun b ob q => Heap.get?_push_of_some _ q) (Nat.le_refl _) ?_, rfl, k _ (I5.hok.fresh (Nat.le_refl _))⟩
  refine ⟨?_, evens (its.drop a), 0, vals_evens (r.drop a), Heap.get?_push_size _ rfl⟩
  rw [evens_len, List.length_drop]
  rw [sizeLine_eq] at hsz ⊢
  omega
theorem x_sl2 {K : PySem.W.Frag} {σ : L2.St} {H : Hp} {Q : VK} (k : te σ H fun x H1 => tl σ H1 fun l H2 => th σ H2 fun u H3 => tz σ H3 fun z H4 => rSl2 K x l u z H4 Q) : tSl2 K te tl th tz σ H Q := k
theorem x_evens {K : PySem.W.Frag} {p : Addr} {xs : List V} (a : Nat) {H : Hp} {Q : VK} (h : SqL K H p xs) (k : ∀ q H', H q = none → Same H H' → H' q = some (.lst (evens (xs.drop a))) → Q (.ref q) H') : rSl2 K (.ref p) (some (a : Int)) none (some 2) H Q :=
  ⟨p, xs, a, rfl, h, rfl, rfl, rfl, fun q hq => k q _ hq (Same.new hq) upd_same⟩
end
/-! ### a star in a pattern, against a list -/
section
variable {prog : Program} {w : World} {A : Around} {E : Value → Shared → Prop} {s : Shared}
theorem star_list {t : Addr} {its : Array Value} {n i : Nat} {Q : List Value → Shared → Prop} (ht : s.heap.IsList t its) (hand : A.handled = none) (hin : i < n) (hle : n ≤ its.size + 1) (hsz : its.size ≤ 16384)
    (k : ∀ (g : Heap) (tk : Nat), (∀ b o, s.heap.get? b = some o → g.get? b = some o) → Q (its.toList.take i ++ [.ref g.objs.size] ++ (its.toList.drop i).drop (its.size + 1 - n)) { s with heap := g.push { cls := .type "list", data := .seq ((its.toList.drop i).take (its.size + 1 - n)).toArray }, toks := tk }) :
    wpAny (model prog w) A (unpackItems (.ref t) n (some i)) Q E s := by
  have tlt : t < s.heap.objs.size := by
    obtain ⟨o, ho, _⟩ := ht
    exact Heap.lt_size ho
  have tne : t ≠ s.heap.objs.size := Nat.ne_of_lt tlt
  unfold unpackItems
  refine wpAny_bind ?_
  unfold notIterableAtAll
  refine wpAny_bind (wpAny_specialOf ht.typeIs slot_list_iter.lookup (wpAny_pure ?_))
  simp only [Bool.false_eq_true, if_false]
  refine wpAny_bind (wpAny_holding (wpAny_pyIter_list ht (?_)))
  refine wpAny_bind (wpAny_holding (PySem.W.kun_draw tne i 0 _ _ ⟨_, Heap.get?_push_size _ rfl, rfl, rfl⟩ (ht.push _) (by omega) fun g1 it1 sb1 => ?_))
  have ht1 : g1.IsList t its := (ht.push _).extBut sb1.extBut tne
  rw [Nat.zero_add] at it1
  obtain ⟨oi, hoi, hoi2⟩ := id it1
  obtain ⟨ot, hot, _⟩ := id ht1
  rw [List.drop_zero]
  have lf : (its.toList.take i).length = i := by
    rw [List.length_take, Array.length_toList]
    omega
  have lr : (its.toList.drop i).length = its.size - i := by
    rw [List.length_drop, Array.length_toList]
  rw [if_neg (show ¬ ((its.toList.take i).length < i) by omega)]
  refine wpAny_bind (wpAny_holding (PySem.W.kun_collect (s := { s with heap := g1 }) (T := "list_iterator") (Or.inr (Or.inr (Or.inl rfl))) (Walks.list (A := A.in1) hand s.heap.objs.size t tne its) (fun _ _ st => st.1.typeIs) (k := i) (by omega) ⟨it1, ht1⟩ (Heap.lt_size hoi) (Heap.lt_size hot) (fun g2 tk kp => ?_) (by rw [sizeLine_eq]; omega)))
  have lm : (its.toList.drop i).length - (n - 1 - i) = its.size + 1 - n := by omega
  show wpAny _ _ (if (its.toList.drop i).length < n - 1 - i then _ else _) _ _ _
  rw [if_neg (by omega)]
  show wpAny _ _ (newList ((its.toList.drop i).take ((its.toList.drop i).length - (n - 1 - i))) >>= fun d => pure (its.toList.take i ++ [d] ++ (its.toList.drop i).drop ((its.toList.drop i).length - (n - 1 - i)))) _ _ _
  rw [lm]
  have keep : ∀ b o, s.heap.get? b = some o → g2.get? b = some o := fun b o e => by
    have hb : b ≠ s.heap.objs.size := Nat.ne_of_lt (Heap.lt_size e)
    exact kp b o hb (sb1.extBut b o hb (Heap.get?_push_of_some _ e))
  refine wpAny_bind (wpAny_newList (s := { s with heap := g2, toks := tk }) (wpAny_pure (k g2 tk keep)) ?_)
  rw [List.length_take, lr, sizeLine_eq]
  omega
end
section
variable {X : Cx} {pos : Pos}
theorem qps_star {x : Str} {p : Pos} {ps : List Pattern} {ms : List Str} {u : TPats} (h2 : PPts X ps ms u) : PPts X (.MatchStar (some x) p :: ps) ([x] ++ ms) (qCons qCap u) := by
  refine ⟨fun pins s σ H vs us Q I r h => ?_⟩
  obtain ⟨v, vr, e, h⟩ := h
  subst e
  cases r with
  | cons ra rb =>
    refine PySem.W.kun_each (thn (h2.run pins s σ H _ _ _ I rb h) fun r2 s2 ⟨b2, H2, I2, rl2, q2⟩ => ?_)
    cases b2 with
    | none =>
      cases r2 with
      | none => exact ⟨none, H2, I2, RelB.miss, q2⟩
      | some _ => exact rl2.elim
    | some l2 =>
      cases r2 with
      | none => exact rl2.elim
      | some bs2 => exact ⟨some ([v] ++ l2), H2, I2, ⟨by show x :: bs2.map (·.1) = [x] ++ ms; rw [rl2.1]; rfl, .cons ra rl2.2⟩, q2⟩
/-- [p1, *p2, ..] against a list -/
def qSeqS (n i : Nat) (t : TPats) : TPat := fun v H Q => ∃ a xs, v = .ref a ∧ H a = some (.lst xs) ∧ xs.length ≤ 16384 ∧ (xs.length + 1 < n → Q none H) ∧
  (n ≤ xs.length + 1 → ∀ d, H d = none → t (xs.take i ++ [.ref d] ++ (xs.drop i).drop (xs.length + 1 - n)) (upd H d (.lst ((xs.drop i).take (xs.length + 1 - n)))) Q)
theorem qp_seqS {ps : List Pattern} {ns : List Str} {t : TPats} {n i : Nat} (hc : X.calm = true) (h : PPts X ps ns t) (hn : ps.length = n := by rfl) (hstar : ps.findIdx? (·.isStar) = some i := by rfl)
    (hwild : (ps.all fun p => p.isWildcard || (p.isStar && p.names.isEmpty)) = false := by rfl) (hname : (ps[i]?.elim [] (·.names)).isEmpty = false := by rfl) (h1 : ps.length > 1 := by decide) (hin : i < n := by decide) : PPt X (.MatchSequence ps pos) ns (qSeqS n i t) := by
  refine ⟨fun pins s σ H v u Q I r ⟨a, xs, e, hq, hsz, hm, hy⟩ => ?_⟩
  subst e
  cases r
  obtain ⟨hz, its, k, rv, el', ho⟩ := I.lstM hq
  have ht : s.heap.IsList a its.toArray := ⟨_, ho, rfl, _, rfl⟩
  have el : its.length = xs.length := el'.symm
  have fit : ((its.toArray.size : Nat) : Int) < 2 ^ 63 := by
    simp [el]
    omega
  by_cases q : xs.length + 1 < n
  · exact PySem.W.kun_fewL ht fit hstar h1 (by rw [hn, List.size_toArray, el]; exact q) ⟨none, H, I.tok _, RelB.miss, hm q⟩
  · refine PySem.W.kun_seqL ht fit hstar hwild hname h1 (by rw [hn, List.size_toArray, el]; omega) ?_
    rw [hn]
    refine star_list (s := { s with toks := s.toks + 1 + 1 }) ht (I.ok.hd hc) hin (by rw [List.size_toArray, el]; omega) (by rw [List.size_toArray, el]; exact hsz) fun g tk keep => ?_
    have esz : its.toArray.size + 1 - n = xs.length + 1 - n := by rw [List.size_toArray, el]
    rw [esz]
    have I1 : Inv X pins σ H { s with heap := g, toks := tk } := I.kept (t' := tk) keep
    have hf : H g.objs.size = none := I1.hok.fresh (Nat.le_refl _)
    have I2 : Inv X pins σ (upd H g.objs.size (.lst ((xs.drop i).take (xs.length + 1 - n)))) { s with heap := g.push { cls := .type "list", data := .seq ((its.toArray.toList.drop i).take (xs.length + 1 - n)).toArray }, toks := tk } := by
      refine I1.laid (t' := tk) (fun b u e => Heap.get?_push_of_some _ e) (Nat.le_refl _) ⟨?_, (its.drop i).take (xs.length + 1 - n), 0, (rv.drop i).take _, Heap.get?_push_size _ rfl⟩
      rw [List.length_take, List.length_drop, sizeLine_eq]
      omega
    exact h.run pins _ σ _ _ _ Q I2 (Vals.append (Vals.append (rv.take i) (.cons (show L2.RelV (V.ref g.objs.size) (Value.ref g.objs.size) from rfl) .nil)) ((rv.drop i).drop _)) (hy (by omega) _ hf)
end
/-! ### a star def's exceptions, their context told -/
theorem cxUpN {P : Program} {w : World} : StX.CXUp (L2N.CX P w) := by
  rintro outer s H s2 H2 E e s' un kp ho ⟨a, B, H', cls, d, ea, fl, hok, ub, na, os, ag, he⟩
  refine ⟨a, B, H', cls, d, ea, fl, hok, ⟨fun b o q n hb => ub.keep b o (kp b o q) (un.free b o q n (by simp)) hb, fun b o q hb => ub.slot b o (kp b o q) hb, fun b o q n => ub.free b o (kp b o q) (un.free b o q n (by simp)),
    fun b o q hb => ub.there b o (kp b o q) hb, fun b xs q => ub.tups b xs (un.tups b xs q), fun b o xs q => ub.frzs b o xs (un.frzs b o xs q), fun b ps q => ?_⟩, na, os.trans ho, ag, he⟩
  obtain ⟨m1, e1⟩ := un.tbls b ps q
  obtain ⟨m2, e2⟩ := ub.tbls b _ e1
  exact ⟨m1 ++ m2, by rw [e2, Array.append_assoc]⟩
end StrX

set_option Elab.async false
set_option linter.all false
set_option autoImplicit false
set_option maxRecDepth 100000
set_option maxHeartbeats 4000000
/-! plain: numerals, texts cut and joined -/
namespace NumX
open PySem PySem.NumText PySem.Spec PyProof.Rows L2 TL TxX
theorem tl_cut1 (z : Str) : tl (cutS z none (some 1)) = (tl z).take 1 := by
  show ((tl z).drop (HT.sIx z.length 0 none)).take (HT.sIx z.length z.length (some 1) - HT.sIx z.length 0 none) = _
  rw [HT.sIx_none, List.drop_zero, show (some (1 : Int)) = some ((1 : Nat) : Int) from rfl, HT.sIx_nat, Nat.sub_zero, len_tl]
  by_cases h : 1 ≤ (tl z).length
  · rw [Nat.min_eq_left h]
  · rw [Nat.min_eq_right (by omega), List.take_of_length_le (by omega), List.take_of_length_le (by omega)]
theorem tl_cut2 (z : Str) : tl (cutS z (some 1) none) = (tl z).drop 1 := by
  show ((tl z).drop (HT.sIx z.length 0 (some 1))).take (HT.sIx z.length z.length none - HT.sIx z.length 0 (some 1)) = _
  rw [HT.sIx_none, show (some (1 : Int)) = some ((1 : Nat) : Int) from rfl, HT.sIx_nat, len_tl]
  by_cases h : 1 ≤ (tl z).length
  · rw [Nat.min_eq_left h, List.take_of_length_le (by rw [List.length_drop]; omega)]
  · rw [Nat.min_eq_right (by omega), List.drop_eq_nil_of_le (by omega), List.drop_eq_nil_of_le (by omega), List.take_nil]
/-- the digits of a word -/
def core (w : Str) : Str := if cutS w none (some 1) = "-" then cutS w (some 1) none else w
abbrev isDig (c : Nat) : Bool := decide (48 ≤ c) && decide (c ≤ 57)
def dgOk (w : Str) : Bool := (tl (core w)).all isDig
def pInt (w : Str) : Option Int :=
  if core w = "" ∨ dgOk w = false then none
  else if (1 < (core w).length ∧ (tl (core w))[0]? = some 48) ∨ w = "-0" then none
  else some (if core w = w then (digitsVal (tl (core w)) : Int) else 0 - (digitsVal (tl (core w)) : Int))
theorem core_len (w : Str) : (core w).length ≤ w.length := by
  unfold core
  by_cases h : cutS w none (some 1) = "-"
  · rw [if_pos h]; exact cutS_length _ _ _
  · rw [if_neg h]; exact Nat.le_refl _
theorem core_ok {w : Str} (h : PyData.strOk w = true) : PyData.strOk (core w) = true := by
  unfold core
  by_cases hc : cutS w none (some 1) = "-"
  · rw [if_pos hc]
    refine ok_of fun c hm => of_ok h c ?_
    have hm : c ∈ tl (cutS w (some 1) none) := hm
    rw [tl_cut2] at hm
    exact List.mem_of_mem_drop hm
  · rw [if_neg hc]
    exact h
theorem dg_all {w : Str} (h : dgOk w = true) : AllDigits (tl (core w)) := fun c hc => by
  have := List.all_eq_true.mp h c hc
  rw [Bool.and_eq_true] at this
  have h1 := of_decide_eq_true this.1
  have h2 := of_decide_eq_true this.2
  exact ⟨h1, h2⟩
theorem core_int {w : Str} (hw : w.length ≤ 600) (h : dgOk w = true) (hne : core w ≠ "") : PySem.intText? (core w) = some (digitsVal (tl (core w)) : Int) := by
  refine intText_digits (dg_all h) (fun e => hne (ext_tl (e.trans rfl))) ?_
  have := core_len w
  omega
theorem numL_head : ∀ (m : Nat), 1 < (numL m).length → (numL m)[0]? ≠ some 48 := by
  intro m
  induction m using Nat.strongRecOn with
  | _ m ih =>
    intro h
    by_cases h10 : m < 10
    · rw [numL_lt h10] at h
      exact absurd h (by show ¬ 1 < 1; decide)
    · have hm : 10 ≤ m := by omega
      have hn := numL_ne (m / 10)
      have hp : 0 < (numL (m / 10)).length := List.length_pos_iff.mpr hn
      rw [numL_step hm, List.getElem?_append_left hp]
      by_cases h1 : 1 < (numL (m / 10)).length
      · exact ih (m / 10) (by omega) h1
      · by_cases hd : m / 10 < 10
        · rw [numL_lt hd]
          show some (48 + m / 10) ≠ some 48
          intro e
          have := Option.some.inj e
          omega
        · have := numL_step (n := m / 10) (by omega)
          have hn2 := numL_ne (m / 10 / 10)
          have hp2 : 0 < (numL (m / 10 / 10)).length := List.length_pos_iff.mpr hn2
          rw [this, List.length_append] at h1
          exact absurd (by show 1 < _ + 1; omega) h1
theorem tl_nt (m : Nat) : tl (nt (m : Int)) = numL m := nt_nat m
theorem dash_tl : tl ("-" : Str) = [45] := rfl
theorem nt_core (m : Nat) : core (nt (m : Int)) = nt (m : Int) := by
  unfold core
  rw [if_neg]
  intro e
  have h1 := tl_cut1 (nt (m : Int))
  rw [e, dash_tl, tl_nt] at h1
  have hm : 45 ∈ (numL m).take 1 := by rw [← h1]; exact List.mem_singleton.mpr rfl
  exact numL_free (n := m) (s := 45) (.inl (by decide)) (List.mem_of_mem_take hm)
theorem pInt_nt {n : Int} (h : 0 ≤ n) : pInt (nt n) = some n := by
  obtain ⟨m, rfl⟩ := Int.eq_ofNat_of_zero_le h
  have hc := nt_core m
  have hd : dgOk (nt (m : Int)) = true := by
    unfold dgOk
    rw [hc, tl_nt, List.all_eq_true]
    intro c hm
    have := numL_digits m c hm
    rw [Bool.and_eq_true]
    exact ⟨decide_eq_true this.1, decide_eq_true this.2⟩
  unfold pInt
  rw [hc, if_neg, if_neg, if_pos rfl, tl_nt, numL_val]
  · rintro (⟨h1, h2⟩ | e)
    · rw [len_tl, tl_nt] at h1
      rw [tl_nt] at h2
      exact numL_head m h1 h2
    · have h1 : tl (nt (m : Int)) = [45, 48] := by rw [e]; rfl
      rw [tl_nt] at h1
      exact numL_free (n := m) (s := 45) (.inl (by decide)) (by rw [h1]; exact List.mem_cons_self)
  · rintro (e | e)
    · have h1 : tl (nt (m : Int)) = [] := by rw [e]; rfl
      rw [tl_nt] at h1
      exact numL_ne m h1
    · rw [hd] at e
      cases e
theorem pInt_small {n : Int} (h0 : -4 ≤ n) (h1 : n ≤ 4) : pInt (nt n) = some n := by
  by_cases h : 0 ≤ n
  · exact pInt_nt h
  · have : n = -1 ∨ n = -2 ∨ n = -3 ∨ n = -4 := by omega
    rcases this with e | e | e | e <;> subst e <;> decide +kernel
theorem nt_chars {n : Int} (h0 : -4 ≤ n) : ∀ c ∈ tl (nt n), c = 45 ∨ (48 ≤ c ∧ c ≤ 57) := by
  by_cases h : 0 ≤ n
  · obtain ⟨m, rfl⟩ := Int.eq_ofNat_of_zero_le h
    rw [tl_nt]
    exact fun c hc => .inr (numL_digits m c hc)
  · have : n = -1 ∨ n = -2 ∨ n = -3 ∨ n = -4 := by omega
    rcases this with e | e | e | e <;> subst e <;> decide +kernel
/-! ### texts cut and joined -/
def tot (l : List Str) : Nat := (l.map fun s => s.length + 1).sum
theorem tot_nil : tot [] = 0 := rfl
theorem tot_cons (a : Str) (l : List Str) : tot (a :: l) = a.length + 1 + tot l := by
  unfold tot
  rw [List.map_cons, List.sum_cons]
theorem tot_app (l m : List Str) : tot (l ++ m) = tot l + tot m := by
  unfold tot
  rw [List.map_append, List.sum_append]
theorem tot_mem {p : Str} : ∀ {l : List Str}, p ∈ l → p.length + 1 ≤ tot l
  | a :: l, h => by
    rw [tot_cons]
    rcases List.mem_cons.mp h with z | z
    · rw [z]; omega
    · have := tot_mem z
      omega
theorem tot_len : ∀ l : List Str, l.length ≤ tot l
  | [] => Nat.le_refl _
  | a :: l => by
    have := tot_len l
    rw [tot_cons, List.length_cons]
    omega
theorem tot_cut {l : List Str} {k : Nat} {p : Str} (h : l[k]? = some p) : tot (l.take k) + (p.length + 1) + tot (l.drop (k + 1)) = tot l := by
  obtain ⟨hk, e⟩ := List.getElem?_eq_some_iff.mp h
  have : l = l.take k ++ (p :: l.drop (k + 1)) := by
    rw [← e, ← List.drop_eq_getElem_cons hk, List.take_append_drop]
  conv => rhs; rw [this]
  rw [tot_app, tot_cons]
  omega
theorem joinL_len (s : Nat) : ∀ {l : List (List Nat)}, l ≠ [] → (joinL [s] l).length + 1 = (l.map fun p => p.length + 1).sum
  | [], h => absurd rfl h
  | [p], _ => by show p.length + 1 = p.length + 1 + 0; omega
  | p :: q :: r, _ => by
    show (p ++ ([s] ++ joinL [s] (q :: r))).length + 1 = p.length + 1 + ((q :: r).map fun p => p.length + 1).sum
    rw [← joinL_len s (l := q :: r) (by simp), List.length_append, List.length_append]
    show p.length + (1 + _) + 1 = _
    omega
theorem map_len (l : List Str) : ((l.map tl).map fun p => p.length + 1).sum = tot l := by
  unfold tot
  rw [List.map_map]
  congr 1
theorem join_len {y : Str} {s : Nat} (ey : tl y = [s]) {l : List Str} (h : l ≠ []) : (Txt.join y l).length + 1 = tot l := by
  rw [len_tl, join_eq, tl_join, ey, joinL_len s (fun e => h (List.map_eq_nil_iff.mp e)), map_len]
theorem join_le {y : Str} {s : Nat} (ey : tl y = [s]) (l : List Str) : (Txt.join y l).length ≤ tot l := by
  by_cases h : l = []
  · subst h
    rw [len_tl, join_eq, tl_join]
    exact Nat.le_refl _
  · have := join_len ey h
    omega
theorem pre1 (s c : Nat) (r : List Nat) : pre [s] (c :: r) = decide (c = s) := by
  unfold pre
  show (([c] : List Nat) == [s]) = _
  by_cases h : c = s
  · rw [h, decide_eq_true rfl]; simp
  · rw [decide_eq_false h]; simp [h]
theorem spl_tot (s : Nat) : ∀ (l acc : List Nat), ((spl [s] 0 acc l).map fun p => p.length + 1).sum = acc.length + l.length + 1
  | [], acc => by rw [spl_nil]; show acc.length + 1 + 0 = acc.length + 0 + 1; omega
  | c :: r, acc => by
    by_cases h : c = s
    · rw [spl_hit (by rw [pre1, decide_eq_true h]), List.map_cons, List.sum_cons, show ([s] : List Nat).length - 1 = 0 from rfl, spl_tot s r []]
      simp only [List.length_cons, List.length_nil]
      omega
    · rw [spl_miss (by rw [pre1, decide_eq_false h]), spl_tot s r, List.length_append]
      simp only [List.length_cons, List.length_nil]
      omega
theorem spl_chars (s : Nat) : ∀ (l acc p : List Nat), p ∈ spl [s] 0 acc l → ∀ c ∈ p, c ∈ acc ∨ c ∈ l
  | [], acc, p, h, c, hc => by
    rw [spl_nil] at h
    rw [List.mem_singleton.mp h] at hc
    exact .inl hc
  | d :: r, acc, p, h, c, hc => by
    by_cases hd : d = s
    · rw [spl_hit (by rw [pre1, decide_eq_true hd])] at h
      rcases List.mem_cons.mp h with z | z
      · rw [z] at hc; exact .inl hc
      · rcases spl_chars s r [] p z c hc with q | q
        · exact nomatch q
        · exact .inr (List.mem_cons_of_mem _ q)
    · rw [spl_miss (by rw [pre1, decide_eq_false hd])] at h
      rcases spl_chars s r _ p h c hc with q | q
      · rcases List.mem_append.mp q with z | z
        · exact .inl z
        · rw [List.mem_singleton.mp z]; exact .inr List.mem_cons_self
      · exact .inr (List.mem_cons_of_mem _ q)
section
variable {y : Str} {s : Nat} (ey : tl y = [s]) (hk : y.cps.all (· < 256) = true)
include ey hk
theorem split_tot (a : Str) : tot (Txt.split a y) = a.length + 1 := by
  rw [← map_len, split_spl a y (by rw [ey]; simp) (kind_ok hk), ey, spl_tot, len_tl]
  show 0 + _ + 1 = _
  omega
theorem split_ne (a : Str) : Txt.split a y ≠ [] := fun e => by
  have := split_tot ey hk a
  rw [e] at this
  exact absurd this (by show ¬ 0 = _; omega)
theorem split_ok {a : Str} (h : PyData.strOk a = true) : ∀ p ∈ Txt.split a y, PyData.strOk p = true := fun p hp => by
  refine ok_of fun c hc => of_ok h c ?_
  have hm : tl p ∈ (Txt.split a y).map tl := List.mem_map.mpr ⟨p, hp, rfl⟩
  rw [split_spl a y (by rw [ey]; simp) (kind_ok hk), ey] at hm
  exact (spl_chars s _ _ _ hm c hc).resolve_left fun z => nomatch z
end
theorem nl_tl : tl ("\n" : Str) = [10] := rfl
theorem sp_tl : tl (" " : Str) = [32] := rfl
theorem nl_k : ("\n" : Str).cps.all (· < 256) = true := by decide +kernel
theorem sp_k : (" " : Str).cps.all (· < 256) = true := by decide +kernel
/-- texts told: lines, words -/
def lns (t : Str) : List Str := if t = "" then [] else Txt.split t "\n"
def wds (t : Str) : List Str := Txt.split t " "
end NumX

set_option Elab.async false
set_option linter.all false
set_option autoImplicit false
set_option maxRecDepth 100000
set_option maxHeartbeats 4000000
/-! data of any depth: x in l, x not in t, l.index(x); lists of texts compared -/
namespace DpX
open PySem PySem.Spec PyProof.Rows L2 Ch
theorem units65 {k : Nat} {A : Around} (r : Room k A) : A.units + 65 < cLine := by have := r.un; omega
section
variable {X : Cx}
def rNotInDT (K : PySem.W.Frag) : R2 := fun x y H Q => ∃ d ds, Dp K H x d ∧ Dp K H y (.tuple ds) ∧ SeqAt.shaped d = true ∧ SeqAt.shaped (.tuple ds) = true ∧ Q (.bl (!ds.any fun z => PyData.eqv z d)) H
theorem op_notInDT (hu : X.A.units + 65 < cLine) : OpR X (compareOp .NotIn) (rNotInDT X.K) := by
  intro pins s σ H x y v u Q I rx ry h
  obtain ⟨d, ds, hd, he, sd, se, q⟩ := h
  obtain ⟨as, r1⟩ := Dp.reads I d x v hd rx
  obtain ⟨bs, r2⟩ := Dp.reads I (.tuple ds) y u he ry
  exact SeqAt.notIn_tuple_reads r2 r1 (SeqAt.canLay_of_shaped se) (SeqAt.canLay_of_shaped sd) (room_in_shaped sd hu) ⟨.bl _, H, I, rfl, q⟩
theorem op_notInDTK (K : PySem.W.Frag) (hu : X.A.units + 65 < cLine) (hK : X.K = K := by rfl) : OpR X (compareOp .NotIn) (rNotInDT K) := by subst hK; exact op_notInDT hu
theorem op_inDK (K : PySem.W.Frag) (hu : X.A.units + 65 < cLine) (hK : X.K = K := by rfl) : OpR X (compareOp .In) (rInD K) := by subst hK; exact op_inD hu
theorem mt_indexDK (K : PySem.W.Frag) (hu : X.A.units + 65 < cLine) (hK : X.K = K := by rfl) : MtR X "list.index" (rIndexD K) := by subst hK; exact mt_indexD hu
end
section
variable {K : PySem.W.Frag} {H : Hp} {Q : VK} {p q : Addr}
def strsD (ws : List Str) : PyData := .list (ws.map PyData.str)
theorem dpAll_strs : ∀ ws : List Str, DpAll K H (ws.map V.str) (ws.map PyData.str)
  | [] => .nil
  | a :: r => .cons (.str a) (dpAll_strs r)
theorem dp_strs {ws : List Str} (h : SqL K H p (ws.map V.str)) : Dp K H (.ref p) (strsD ws) := .lst h (dpAll_strs ws)
theorem lay_strs {ws : List Str} (h : ∀ a ∈ ws, PyData.strOk a = true) : Lay 1 (strsD ws) := lay_list fun d hd => by
  obtain ⟨a, ha, rfl⟩ := List.mem_map.mp hd
  exact lay_str 0 a (h a ha)
theorem eqv_strs (as bs : List Str) : PyData.eqv (strsD as) (strsD bs) = decide (as = bs) := by
  unfold strsD
  simp only [PyData.eqv]
  exact eqvAll_map eqv_str as bs
theorem x_eqStrs {as bs : List Str} (h1 : SqL K H p (as.map V.str)) (h2 : SqL K H q (bs.map V.str)) (o1 : ∀ a ∈ as, PyData.strOk a = true) (o2 : ∀ a ∈ bs, PyData.strOk a = true) (k : Q (.bl (decide (as = bs))) H) : rEqU K (.ref p) (.ref q) H Q := by
  refine x_eqDp (dp_strs h1) (dp_strs h2) (lay_strs o1).shaped (lay_strs o2).shaped ?_
  rw [eqv_strs]
  exact k
theorem x_neStrs {as bs : List Str} (h1 : SqL K H p (as.map V.str)) (h2 : SqL K H q (bs.map V.str)) (o1 : ∀ a ∈ as, PyData.strOk a = true) (o2 : ∀ a ∈ bs, PyData.strOk a = true) (k : Q (.bl (!decide (as = bs))) H) : rNeU K (.ref p) (.ref q) H Q := by
  refine x_neDp (dp_strs h1) (dp_strs h2) (lay_strs o1).shaped (lay_strs o2).shaped ?_
  rw [eqv_strs]
  exact k
end
end DpX

set_option Elab.async false
set_option linter.all false
set_option autoImplicit false
set_option maxRecDepth 100000
set_option maxHeartbeats 4000000
/-! lists of texts: cut, joined -/
namespace LsX
open PySem PySem.Spec PyProof.Rows L2 Ch TxX StrX NumX
theorem sum_len : ∀ l : List Str, (l.map (·.length)).sum + l.length = tot l
  | [] => rfl
  | a :: r => by
    have := sum_len r
    rw [tot_cons, List.map_cons, List.sum_cons, List.length_cons]
    omega
/-- few signs in all, each text good -/
structure Gd (l : List Str) (n : Nat) : Prop where
  tt : tot l ≤ n
  ok : ∀ a ∈ l, PyData.strOk a = true
theorem Gd.le {l : List Str} {n m : Nat} (g : Gd l n) (h : n ≤ m) : Gd l m := ⟨Nat.le_trans g.tt h, g.ok⟩
theorem Gd.len {l : List Str} {n : Nat} (g : Gd l n) : l.length ≤ n := Nat.le_trans (tot_len l) g.tt
theorem Gd.mem {l : List Str} {n : Nat} {a : Str} (g : Gd l n) (h : a ∈ l) : a.length + 1 ≤ n ∧ PyData.strOk a = true := ⟨Nat.le_trans (tot_mem h) g.tt, g.ok a h⟩
theorem Gd.at {l : List Str} {n k : Nat} {a : Str} (g : Gd l n) (h : l[k]? = some a) : a.length + 1 ≤ n ∧ PyData.strOk a = true := g.mem (List.mem_of_getElem? h)
theorem Gd.app {l m : List Str} {i j : Nat} (g : Gd l i) (h : Gd m j) : Gd (l ++ m) (i + j) := ⟨by rw [tot_app]; exact Nat.add_le_add g.tt h.tt, fun a ha => (List.mem_append.mp ha).elim (g.ok a) (h.ok a)⟩
theorem Gd.one {a : Str} {n : Nat} (h : a.length + 1 ≤ n) (k : PyData.strOk a = true) : Gd [a] n := ⟨by rw [tot_cons]; exact h, fun b hb => by rw [List.mem_singleton.mp hb]; exact k⟩
theorem Gd.split {a y : Str} {s : Nat} (ey : TL.tl y = [s]) (hk : y.cps.all (· < 256) = true) (h : PyData.strOk a = true) : Gd (Txt.split a y) (a.length + 1) := ⟨by rw [split_tot ey hk]; exact Nat.le_refl _, split_ok ey hk h⟩
/-- p in place of the text at k -/
theorem Gd.put {l p : List Str} {n k d : Nat} {a : Str} (g : Gd l n) (h : l[k]? = some a) (hp : Gd p (a.length + 1 + d)) : Gd (l.take k ++ p ++ l.drop (k + 1)) (n + d) := by
  have h1 := tot_cut h
  have h2 := g.tt
  have h3 := hp.tt
  refine ⟨by rw [tot_app, tot_app]; omega, fun b hb => ?_⟩
  rcases List.mem_append.mp hb with z | z
  · rcases List.mem_append.mp z with z | z
    · exact g.ok b (List.mem_of_mem_take z)
    · exact hp.ok b z
  · exact g.ok b (List.mem_of_mem_drop z)
theorem Gd.cut {l : List Str} {n k : Nat} {a : Str} (g : Gd l n) (h : l[k]? = some a) : Gd (l.take k ++ l.drop (k + 1)) n := by
  have h1 := tot_cut h
  have h2 := g.tt
  refine ⟨by rw [tot_app]; omega, fun b hb => ?_⟩
  rcases List.mem_append.mp hb with z | z
  · exact g.ok b (List.mem_of_mem_take z)
  · exact g.ok b (List.mem_of_mem_drop z)
theorem Gd.ins {l p : List Str} {n d : Nat} (k : Nat) (g : Gd l n) (hp : Gd p d) : Gd (l.take k ++ p ++ l.drop k) (n + d) := by
  have h1 : tot (l.take k) + tot (l.drop k) = tot l := by rw [← tot_app, List.take_append_drop]
  have h2 := g.tt
  have h3 := hp.tt
  refine ⟨by rw [tot_app, tot_app]; omega, fun b hb => ?_⟩
  rcases List.mem_append.mp hb with z | z
  · rcases List.mem_append.mp z with z | z
    · exact g.ok b (List.mem_of_mem_take z)
    · exact hp.ok b z
  · exact g.ok b (List.mem_of_mem_drop z)
theorem Gd.join {y : Str} {s n : Nat} {l : List Str} (ey : TL.tl y = [s]) (hy : PyData.strOk y = true) (g : Gd l n) : (Txt.join y l).length ≤ n ∧ PyData.strOk (Txt.join y l) = true := ⟨Nat.le_trans (join_le ey l) g.tt, join_ok hy g.ok⟩
/-- a comprehension in a lambda: of the scope around only the names count -/
theorem blkOk_nm {N : List Str} {sc scope : Scope} {own : List (Str × Nat)} (sc' : Scope) (h : blkC N sc' scope own = true) (e : sc.names = sc'.names) : BlkOk N sc scope own := by
  have b := blkOk_by h
  exact ⟨b.kind, b.uniq, b.ix, fun y hy hf => by rw [e]; exact b.free y hy hf, b.own⟩
section
variable {K : PySem.W.Frag} {H : Hp} {Q : VK} {p q : Addr}
theorem cut_top (xs : List V) (i : Nat) (h : i ≤ xs.length) : cutV xs (some (i : Int)) none = xs.drop i := by
  unfold cutV
  rw [HT.sIx_nat, HT.sIx_none, Nat.min_eq_left h]
  exact List.take_of_length_le (by rw [List.length_drop]; exact Nat.le_refl _)
theorem n_to {xs : List Str} (i : Nat) {j : Int} (h : SqL K H p (xs.map V.str)) (hj : j = (i : Int)) (hi : i ≤ xs.length) (k : ∀ q H', H q = none → Same H H' → H' q = some (.lst ((xs.take i).map V.str)) → Q (.ref q) H') : rSlL K (.ref p) none (some j) H Q := by
  subst hj
  refine n_slL h fun q H' h1 h2 h3 => k q H' h1 h2 ?_
  rw [h3, cut_to _ _ (by rw [List.length_map]; exact hi), List.map_take]
theorem n_from {xs : List Str} (i : Nat) {j : Int} (h : SqL K H p (xs.map V.str)) (hj : j = (i : Int)) (hi : i ≤ xs.length) (k : ∀ q H', H q = none → Same H H' → H' q = some (.lst ((xs.drop i).map V.str)) → Q (.ref q) H') : rSlL K (.ref p) (some j) none H Q := by
  subst hj
  refine n_slL h fun q H' h1 h2 h3 => k q H' h1 h2 ?_
  rw [h3, cut_top _ _ (by rw [List.length_map]; exact hi), List.map_drop]
theorem n_plusS {xs ys : List Str} (h1 : H p = some (.lst (xs.map V.str))) (h2 : H q = some (.lst (ys.map V.str))) (h3 : xs.length + ys.length ≤ 100000) (k : ∀ r H', H r = none → Same H H' → H' r = some (.lst ((xs ++ ys).map V.str)) → Q (.ref r) H') : rPlus (.ref p) (.ref q) H Q :=
  n_plusL h1 h2 (by rw [List.length_map, List.length_map]; exact sz5 h3) fun r H' a b c => k r H' a b (by rw [c, List.map_append])
theorem x_joinG {a : Str} {ys : List Str} {n : Nat} {s : Nat} (ey : TL.tl a = [s]) (h : SqL K H p (ys.map V.str)) (g : Gd ys n) (hn : n ≤ 16777216) (k : Q (.str (Txt.join a ys)) H) : rJoin K (.str a) [.ref p] H Q := by
  refine x_joinL h ?_ k
  have h1 := sum_len ys
  have h2 := g.tt
  have h3 : a.length = 1 := by rw [TL.len_tl, ey]; rfl
  rw [h3]
  omega
theorem pickS (L : List Str) {z : Int} (h0 : 0 ≤ z) (h1 : z < L.length) : ∃ n, n ∈ L ∧ atI (L.map V.str) z = some (.str n) := by
  obtain ⟨j, rfl⟩ : ∃ j : Nat, z = j := ⟨z.toNat, by omega⟩
  have hj : j < L.length := by omega
  exact ⟨L[j], List.getElem_mem hj, atI_nat (by rw [List.getElem?_map, List.getElem?_eq_getElem hj]; rfl)⟩
theorem natOf {z : Int} {n : Nat} (h0 : 0 ≤ z) (h1 : z < (n : Int)) : ∃ i : Nat, z = (i : Int) ∧ i < n := ⟨z.toNat, by omega, by omega⟩
end
end LsX

set_option Elab.async false
set_option linter.all false
set_option autoImplicit false
set_option maxRecDepth 100000
set_option pp.maxSteps 500
set_option maxHeartbeats 4000000


namespace K42
open PySem PySem.Spec PyProof.Rows L2 He ChH Ch ChM
local macro_rules | `(tactic| walk_at "x1") => `(tactic| first
  | ((with_reducible apply x_var); exact rfl)
  | with_reducible refine x_c ?_
  | with_reducible refine x_op ?_
  | with_reducible refine x_seq ?_
  | with_reducible refine x_asg ?_
  | with_reducible refine x_gname ?_
  | with_reducible refine x_cons ?_
  | with_reducible refine x_nil ?_
  | with_reducible refine x_fld ?_
  | with_reducible refine x_ret ?_
  | with_reducible refine x_ifS ?_
  | with_reducible refine x_test ?_
  | with_reducible refine x_ex ?_
  | with_reducible refine x_call ?_
  | with_reducible refine x_mk ?_
  | with_reducible refine x_meth ?_
  | with_reducible refine x_prop ?_
  | with_reducible refine x_cb ?_
  | with_reducible refine x_tup ?_
  | with_reducible refine x_lst ?_
  | with_reducible refine x_drop ?_
  | with_reducible refine x_for ?_
  | with_reducible refine x_iL ?_
  | with_reducible refine x_iT ?_
  | with_reducible refine x_iE ?_
  | with_reducible refine x_iU ?_
  | with_reducible refine x_iR1 ?_
  | with_reducible refine x_iR2 ?_
  | with_reducible refine x_gcons ?_
  | with_reducible refine x_gnil ?_
  | with_reducible refine x_par ?_
  | with_reducible refine x_lstRg ?_
  | with_reducible refine x_rg1 ?_
  | with_reducible refine x_rg1At ?_
  | with_reducible refine x_par3 ?_
  | with_reducible refine x_bm ?_
  | with_reducible refine x_bm0 ?_
  | with_reducible refine x_gSub ?_
  | with_reducible refine x_lc ?_
  | with_reducible refine x_yes ?_
  | with_reducible refine x_setf ?_
  | with_reducible refine x_next ?_
  | with_reducible refine x_B ?_
  | with_reducible refine x_and ?_
  | with_reducible refine x_or ?_
  | with_reducible refine x_not ?_
  | with_reducible refine x_andV ?_
  | with_reducible refine x_orV ?_
  | with_reducible refine x_notV ?_
  | with_reducible refine x_ifE ?_
  | with_reducible refine x_chain ?_
  | with_reducible refine x_chain3 ?_
  | with_reducible refine x_un ?_
  | with_reducible refine x_isNe ?_
  | with_reducible refine x_notNe ?_
  | with_reducible refine x_starA ?_
  | with_reducible refine x_plusI ?_
  | with_reducible refine x_minus ?_
  | with_reducible refine x_lt ?_
  | with_reducible refine x_le ?_
  | with_reducible refine x_gt ?_
  | with_reducible refine x_ge ?_
  | with_reducible refine x_eqI ?_
  | with_reducible refine x_neI ?_
  | with_reducible refine x_eqS ?_
  | with_reducible refine x_eqB ?_
  | with_reducible refine x_neB ?_
  | with_reducible refine x_int ?_
  | with_reducible refine x_intB ?_
  | with_reducible refine x_max2 ?_
  | with_reducible refine x_min2 ?_
  | with_reducible refine x_max3 ?_
  | with_reducible refine x_abs ?_
  | with_reducible refine x_neg ?_
  | with_reducible refine x_isi_ii ?_
  | with_reducible refine x_isi_ib ?_
  | with_reducible refine x_T ?_
  | with_reducible refine x_nT ?_
  | with_reducible refine x_nF ?_
  | with_reducible refine x_F ?_)
local macro_rules | `(tactic| walk_at "x") => `(tactic| repeat walk_at "x1")

section
variable {P : Program} {w : World} {K : PySem.W.Frag} {mg : Str → Option Value} {base : Heap}
def spNum : Sp := fun vs H Q _ => ∃ n : Int, vs = [.int n] ∧ Q (.bl (decide (0 ≤ n ∧ n ≤ 1000000000000000000))) H
theorem ok_is_number (W : Wd K mg) : FnR P w K mg base CX0 1 (ga K "is_number") spNum := by
  refine (def_ok W.F_is_number sc_is_number (fun _ _ _ _ _ _ us hl => match us, hl with | [_], _ => rfl) (fun vs H Q E ⟨n, e, _⟩ => by rw [e]; rfl) fun cdv A outer s H vs Q E hr ⟨n, e, k⟩ => ?_).2
  subst e
  refine ⟨_, PSs.nox (pss_one (ps_ret (pe_and (pe_callB (c_isiK K) (by rfl) W.f_isinstance (by decide +kernel) (pa_cons (pv 0) (pa_cons (pe_bltn (v := .ty "int") (by rfl) W.f_int (by decide +kernel) rfl) pa_nil))) (pe_and (pe_not (pe_callB (c_isiK K) (by rfl) W.f_isinstance (by decide +kernel) (pa_cons (pv 0) (pa_cons (pe_bltn (v := .ty "bool") (by rfl) W.f_bool (by decide +kernel) rfl) pa_nil)))) (pe_one (pe_chain op_leI op_leI pe_int (pv 0) (pe_cv W.g_Plan W.r_Plan W.v_Plan_MAX_CHAIRS rfl))))))), ?_⟩
  walk_at "x"
  refine x_ifd (fun h => ?_) fun h => ?_
  · walk_at "x"
    rw [show decide (n ≤ 1000000000000000000) = decide (0 ≤ n ∧ n ≤ 1000000000000000000) by simp [h]]
    exact k
  · rw [show decide (0 ≤ n ∧ n ≤ 1000000000000000000) = false by simp [h]] at k
    exact k
def spStep : Sp := fun vs H Q _ => ∃ (p : Addr) (s : Stp), vs = [.ref p] ∧ H p = some (.tup (stepV s)) ∧ goodS s ∧ ∀ H', Same H H' → Q (.bl true) H'
theorem ok_is_step (W : Wd K mg) : FnR P w K mg base CX0 2 (ga K "is_step") spStep := by
  refine (def_ok W.F_is_step sc_is_step (fun _ _ _ _ _ _ us hl => match us, hl with | [_], _ => rfl) (fun vs H Q E ⟨p, s, e, _⟩ => by rw [e]; rfl) fun cdv A outer s H vs Q E hr ⟨p, st, e, hp, hg, k⟩ => ?_).2
  subst e
  refine ⟨_, PSs.nox (pss_cons (ps_if (pt_cmpR (op_eqK K hr.units) (pv 0) (pe_tup (pa_cons (pe_gs W.t_TURN rfl) pa_nil)) (nomark _)) (pss_one (ps_ret pe_bl)) pss_nil) (pss_one (ps_ret (pe_and (pe_cmpR (op_eqK K hr.units) (pe_callB (c_lenK K) (by rfl) W.f_len (by decide +kernel) (pa_cons (pv 0) pa_nil)) pe_int (nomark _)) (pe_and (pe_cmpR (op_inK K) (pe_ix (ix_K K) (pv 0) pe_int (fun _ _ => rfl)) (pe_tup (pa_cons (pe_gs W.t_RED rfl) (pa_cons (pe_gs W.t_BLUE rfl) pa_nil))) rfl) (pe_one (pe_callR (ok_is_number W) (hr.mono (by decide)) W.g_is_number W.k_is_number pass0 rfl (pa_cons (pe_ix (ix_K K) (pv 0) pe_int (fun _ _ => rfl)) pa_nil)))))))), ?_⟩
  walk_at "x"
  refine ⟨sz rfl, fun t ht => eq_turn (up hp ht) upd_same ?_⟩
  walk_at "x"
  refine x_ifd (fun e => ?_) fun e => ?_
  · walk_at "x"
    exact k _ (Same.new ht)
  · walk_at "x"
    cases st with
    | turn => exact absurd rfl e
    | mt b n =>
      obtain ⟨n0, n1⟩ := hg b n rfl
      refine x_lenT (SqT.of (up hp ht)) ?_
      walk_at "x"
      refine x_T ?_
      walk_at "x"
      refine x_ixT (SqT.of (up hp ht)) (i := 0) rfl ?_
      walk_at "x"
      refine ⟨sz rfl, fun u hu => x_inT (SqT.of upd_same) rfl rfl ?_⟩
      rw [show inV (V.str (roomS b)) [V.str "red", V.str "blue"] = true by cases b <;> decide +kernel]
      walk_at "x"
      refine x_ixT (SqT.of (up (up hp ht) hu)) (i := 1) rfl ?_
      walk_at "x"
      refine ⟨n, rfl, ?_⟩
      rw [decide_eq_true ⟨n0, n1⟩]
      exact k _ ((Same.new ht).trans (Same.new hu))
/-! ### Plan -/
abbrev CP (K : PySem.W.Frag) : Addr := ga K "Plan"
/-- __init__ on the tuple of the steps -/
def spPI (K : PySem.W.Frag) : Sp := fun vs H Q _ => ∃ (x t dx : Addr) (ps : List V) (l : List Stp), vs = [.ref x, .ref t] ∧ H x = some (.ins (CP K) dx []) ∧ H t = some (.tup ps) ∧ StepsAt H ps l ∧ goodP l ∧
  ∀ H', (∀ b o, b ≠ x → H b = some o → H' b = some o) → H' x = some (.ins (CP K) dx [("parts", .ref t)]) → Q .non H'
theorem ok_Plan_init (W : Wd K mg) : FnR P w K mg base CX0 3 (ma K (ga K "Plan") "__init__") (fun vs H Q E => ∃ ws rest, vs = ws ++ rest ∧ ws.length = ["self"].length ∧ rest.length ≤ sizeLine ∧ ∀ p, H p = none → spPI K (ws ++ [V.ref p]) (upd H p (.tup rest)) Q E) := by
  refine star_ok (ps := ["self"]) (pv := "steps") (sp := spPI K) W.F_Plan_init sc_Plan_init StX.cxUp_none (fun _ _ _ _ _ _ us rest hl => match us, rest, hl with | [_], [], _ => rfl | [_], _ :: _, _ => rfl) fun cdv A outer s H vs Q E hr ⟨x, t, dx, ps, l, e, hx, ht, hs, hg, k⟩ => ?_
  subst e
  have hl : ps.length = l.length := pr_len hs
  have h60 := hg.2
  refine ⟨_, PSs.nox (pss_cons (ps_for PassesOwn.never rfl (pi_enumTK K W.f_enumerate (pa_cons (pv 1) pa_nil)) (pg_tupK (n := 2) K rfl (pgs_cons (pg_name (i := 2) sc_Plan_init.nd rfl (Or.inl rfl)) (pgs_cons (pg_name (i := 3) sc_Plan_init.nd rfl (Or.inl rfl)) pgs_nil))) (pss_one (ps_if (PW.pt (pw_or (pt_cmpR (op_eqK K hr.units) (pv 2) (pe_cv W.g_Plan W.r_Plan W.v_Plan_MAX_STEPS rfl) (nomark _)) (pw_or1 (pt_not (pt_val (pe_callR (ok_is_step W) (hr.mono (by decide)) W.g_is_step W.k_is_step pass0 rfl (pa_cons (pv 3) pa_nil))))))) (pss_one ps_never) pss_nil))) (pss_one (ps_fldK K (pv 0) (pv 1)))), ?_⟩
  walk_at "x"
  refine x_iUAt (SqT.of ht) (x_loop walk_enumT (fun i σ H2 => (∃ a b, σ = [some (.ref x), some (.ref t), a, b]) ∧ Same H H2) ⟨⟨_, _, rfl⟩, Same.refl H⟩ (fun i σ H2 _ ⟨_, s2⟩ => SqT.of (s2 _ _ ht)) ?_ ?_)
  · rintro i y σ H2 H3 hi ⟨⟨a, b, rfl⟩, s2⟩ ⟨T, v1, v2, rfl, hT, rfl, e1, e2⟩
    cases e1
    have hi' : i < 60 := by omega
    obtain ⟨st, hst, p, rfl, hp⟩ := pr_at hs e2
    refine x_gTup upd_same rfl ?_
    walk_at "x"
    refine x_ifd (fun e => ?_) fun e => ?_
    · omega
    walk_at "x"
    have hp2 := up (u := .tup [.int (i : Nat), .ref p]) (s2 _ _ hp) hT
    refine ⟨p, st, rfl, hp2, hg.1 st (List.mem_of_getElem? hst), fun H4 s4 => ?_⟩
    walk_at "x"
    exact ⟨⟨_, _, rfl⟩, (s2.trans (Same.new hT)).trans s4⟩
  · rintro σ H2 ⟨⟨a, b, rfl⟩, s2⟩
    walk_at "x"
    refine x_setAt (s2 _ _ hx) W.c_Plan W.n_Plan_parts (by decide) ?_
    refine k _ (fun b o hb e => by rw [upd_ne hb]; exact s2 _ _ e) ?_
    rw [upd_same]
    rfl
/-- Plan(..) made -/
theorem mk_plan {vs : List V} {l : List Stp} {H : Hp} {kk : Addr → Hp → Prop} {E : XK} (hs : StepsAt H vs l) (hg : goodP l) (k : ∀ x H', H x = none → Same H H' → PlanAt (CP K) H' x l → kk x H') :
    ∀ x dx, H x = none → H dx = none → dx ≠ x → ∃ ws rest, V.ref x :: vs = ws ++ rest ∧ ws.length = ["self"].length ∧ rest.length ≤ sizeLine ∧
      ∀ p, (upd (upd H dx (.own x)) x (.ins (CP K) dx [])) p = none → spPI K (ws ++ [V.ref p]) (upd (upd (upd H dx (.own x)) x (.ins (CP K) dx [])) p (.tup rest)) (fun v H2 => v = .non ∧ kk x H2) E := by
  intro x dx hx hdx hne
  have hl : vs.length = l.length := pr_len hs
  have h60 := hg.2
  refine ⟨[.ref x], vs, rfl, rfl, sz5 (by omega), fun p hp => ?_⟩
  have s1 : Same H (upd (upd H dx (.own x)) x (.ins (CP K) dx [])) := Same.mut (Same.new hdx) hx
  have s2 := s1.trans (Same.new (o := .tup vs) hp)
  refine ⟨x, p, dx, vs, l, rfl, up upd_same hp, upd_same, hs.mono s2, hg, fun H' kp hx' => ⟨rfl, ?_⟩⟩
  have hpx : p ≠ x := by
    intro e
    rw [e, upd_same] at hp
    cases hp
  refine k x H' hx (fun b o e => kp b o (ne_of_none e hx) (s2 b o e)) ⟨dx, p, vs, hx', kp p _ hpx upd_same, ?_⟩
  refine pr_im ?_ (hs.mono s2)
  rintro v st ⟨q, e1, e2⟩
  refine ⟨q, e1, kp q _ ?_ e2⟩
  rintro rfl
  rw [upd_ne hpx.symm, upd_same] at e2
  cases e2
end
end K42

set_option Elab.async false
set_option linter.all false
set_option autoImplicit false
set_option maxRecDepth 100000
set_option pp.maxSteps 500
set_option maxHeartbeats 4000000
namespace K42
open PySem PySem.Spec PyProof.Rows L2 He ChH Ch ChM
local macro_rules | `(tactic| walk_at "x1") => `(tactic| first
  | ((with_reducible apply x_var); exact rfl)
  | with_reducible refine x_c ?_
  | with_reducible refine x_op ?_
  | with_reducible refine x_seq ?_
  | with_reducible refine x_asg ?_
  | with_reducible refine x_gname ?_
  | with_reducible refine x_cons ?_
  | with_reducible refine x_nil ?_
  | with_reducible refine x_fld ?_
  | with_reducible refine x_ret ?_
  | with_reducible refine x_ifS ?_
  | with_reducible refine x_test ?_
  | with_reducible refine x_ex ?_
  | with_reducible refine x_call ?_
  | with_reducible refine x_mk ?_
  | with_reducible refine x_meth ?_
  | with_reducible refine x_prop ?_
  | with_reducible refine x_cb ?_
  | with_reducible refine x_tup ?_
  | with_reducible refine x_lst ?_
  | with_reducible refine x_drop ?_
  | with_reducible refine x_for ?_
  | with_reducible refine x_iL ?_
  | with_reducible refine x_iT ?_
  | with_reducible refine x_iE ?_
  | with_reducible refine x_iU ?_
  | with_reducible refine x_iR1 ?_
  | with_reducible refine x_iR2 ?_
  | with_reducible refine x_gcons ?_
  | with_reducible refine x_gnil ?_
  | with_reducible refine x_par ?_
  | with_reducible refine x_lstRg ?_
  | with_reducible refine x_rg1 ?_
  | with_reducible refine x_rg1At ?_
  | with_reducible refine x_par3 ?_
  | with_reducible refine x_bm ?_
  | with_reducible refine x_bm0 ?_
  | with_reducible refine x_gSub ?_
  | with_reducible refine x_lc ?_
  | with_reducible refine x_yes ?_
  | with_reducible refine x_setf ?_
  | with_reducible refine x_next ?_
  | with_reducible refine x_B ?_
  | with_reducible refine x_and ?_
  | with_reducible refine x_or ?_
  | with_reducible refine x_not ?_
  | with_reducible refine x_andV ?_
  | with_reducible refine x_orV ?_
  | with_reducible refine x_notV ?_
  | with_reducible refine x_ifE ?_
  | with_reducible refine x_chain ?_
  | with_reducible refine x_chain3 ?_
  | with_reducible refine x_un ?_
  | with_reducible refine x_isNe ?_
  | with_reducible refine x_notNe ?_
  | with_reducible refine x_starA ?_
  | with_reducible refine x_plusI ?_
  | with_reducible refine x_minus ?_
  | with_reducible refine x_lt ?_
  | with_reducible refine x_le ?_
  | with_reducible refine x_gt ?_
  | with_reducible refine x_ge ?_
  | with_reducible refine x_eqI ?_
  | with_reducible refine x_neI ?_
  | with_reducible refine x_eqS ?_
  | with_reducible refine x_eqB ?_
  | with_reducible refine x_neB ?_
  | with_reducible refine x_int ?_
  | with_reducible refine x_intB ?_
  | with_reducible refine x_max2 ?_
  | with_reducible refine x_min2 ?_
  | with_reducible refine x_max3 ?_
  | with_reducible refine x_abs ?_
  | with_reducible refine x_neg ?_
  | with_reducible refine x_isi_ii ?_
  | with_reducible refine x_isi_ib ?_
  | with_reducible refine x_T ?_
  | with_reducible refine x_nT ?_
  | with_reducible refine x_nF ?_
  | with_reducible refine x_F ?_)
local macro_rules | `(tactic| walk_at "x") => `(tactic| repeat walk_at "x1")

section
variable {P : Program} {w : World} {K : PySem.W.Frag} {mg : Str → Option Value} {base : Heap}
theorem kb_InvalidPlan (W : Wd K mg) : ∀ (s : Shared) (u v : Value), BindsTo s (fdOf K (ma K (ga K "InvalidPlan") "__init__")) ⟨[u], [("index", v)]⟩ [("self", u), ("index", v)] := kbind1 (k := "index") W.F_InvalidPlan_init (fun _ _ _ _ _ _ _ _ => rfl)
theorem okx_InvalidPlan_init (W : Wd K mg) : FnOk P w K mg base CX0 2 (ma K (ga K "InvalidPlan") "__init__") (fdOf K (ma K (ga K "InvalidPlan") "__init__")) ["self", "index"] (spXI "index" (ga K "InvalidPlan")) := by
  refine W.F_InvalidPlan_init.ok sc_InvalidPlan_init (fun vs H Q E ⟨a, v, e, _⟩ => by rw [e]; rfl) fun cdv A outer s H vs Q E hr ⟨a, v, e, ha, k⟩ => ?_
  subst e
  refine ⟨_, PSs.nox (pss_cons (ps_expr (pe_cinit rfl W.g_ChairError W.r_ChairError W.vi_ChairError (pa_cons (pv 0) (pa_cons pe_str pa_nil)))) (pss_one (ps_ost (pv 0) (pv 1)))), ?_⟩
  walk_at "x"
  refine x_vei ?_
  walk_at "x"
  refine ⟨a, _, _, rfl, (by show 1 ≤ 1000; decide), (W.ox_InvalidPlan).T, ha, ?_⟩
  with_reducible refine x_ost ?_
  walk_at "x"
  exact ⟨a, _, rfl, (W.ox_InvalidPlan).T, W.xn_InvalidPlan, .inl ⟨ha, fun dx h1 h2 => k dx h1 h2⟩⟩
theorem kb_InvalidText (W : Wd K mg) : ∀ (s : Shared) (u v : Value), BindsTo s (fdOf K (ma K (ga K "InvalidText") "__init__")) ⟨[u], [("row", v)]⟩ [("self", u), ("row", v)] := kbind1 (k := "row") W.F_InvalidText_init (fun _ _ _ _ _ _ _ _ => rfl)
theorem okx_InvalidText_init (W : Wd K mg) : FnOk P w K mg base CX0 2 (ma K (ga K "InvalidText") "__init__") (fdOf K (ma K (ga K "InvalidText") "__init__")) ["self", "row"] (spXI "row" (ga K "InvalidText")) := by
  refine W.F_InvalidText_init.ok sc_InvalidText_init (fun vs H Q E ⟨a, v, e, _⟩ => by rw [e]; rfl) fun cdv A outer s H vs Q E hr ⟨a, v, e, ha, k⟩ => ?_
  subst e
  refine ⟨_, PSs.nox (pss_cons (ps_expr (pe_cinit rfl W.g_ChairError W.r_ChairError W.vi_ChairError (pa_cons (pv 0) (pa_cons pe_str pa_nil)))) (pss_one (ps_ost (pv 0) (pv 1)))), ?_⟩
  walk_at "x"
  refine x_vei ?_
  walk_at "x"
  refine ⟨a, _, _, rfl, (by show 1 ≤ 1000; decide), (W.ox_InvalidText).T, ha, ?_⟩
  with_reducible refine x_ost ?_
  walk_at "x"
  exact ⟨a, _, rfl, (W.ox_InvalidText).T, W.xn_InvalidText, .inl ⟨ha, fun dx h1 h2 => k dx h1 h2⟩⟩
/-- the first step that needs too many -/
def badAt (c : Int) (l : List Stp) (i : Nat) : Prop := (∃ b n, l[i]? = some (.mt b n) ∧ c < n) ∧ ∀ j, j < i → ∀ b n, l[j]? = some (.mt b n) → n ≤ c
theorem sides_at : ∀ (l : List Stp) (s : Int) (i : Nat) (p : Int × Int), (sides s l)[i]? = some p → (l[i]? = some .turn ∧ p = (0, 0)) ∨ ∃ b n, l[i]? = some (.mt b n) ∧ p.2 = n
  | [], _, _, _, h => nomatch h
  | .turn :: r, s, 0, p, h => .inl ⟨rfl, (Option.some.inj h).symm⟩
  | .mt b n :: r, s, 0, p, h => .inr ⟨b, n, rfl, by cases h; rfl⟩
  | .turn :: r, s, i + 1, p, h => sides_at r (0 - s) i p h
  | .mt b n :: r, s, i + 1, p, h => sides_at r s i p h
theorem badAt_ex {c : Int} : ∀ (l : List Stp), (∀ b n, Stp.mt b n ∈ l → 0 ≤ n) → ¬ fitsS c l → ∃ i, badAt c l i
  | [], _, h => absurd (show fitsS c [] from fun b n hm => nomatch hm) h
  | .turn :: r, hg, h => by
    obtain ⟨i, ⟨b, n, e1, e2⟩, e3⟩ := badAt_ex r (fun b n hm => hg b n (List.mem_cons_of_mem _ hm)) fun z => h fun b n hm => by
      rcases List.mem_cons.mp hm with q | q
      · cases q
      · exact z b n q
    refine ⟨i + 1, ⟨b, n, e1, e2⟩, fun j hj b n hb => ?_⟩
    cases j with
    | zero => cases hb
    | succ j => exact e3 j (by omega) b n hb
  | .mt b0 n0 :: r, hg, h => by
    by_cases q : n0 ≤ c
    · obtain ⟨i, ⟨b, n, e1, e2⟩, e3⟩ := badAt_ex r (fun b n hm => hg b n (List.mem_cons_of_mem _ hm)) fun z => h fun b n hm => by
        rcases List.mem_cons.mp hm with y | y
        · cases y
          exact ⟨hg b0 n0 List.mem_cons_self, q⟩
        · exact z b n y
      refine ⟨i + 1, ⟨b, n, e1, e2⟩, fun j hj b n hb => ?_⟩
      cases j with
      | zero => cases hb; exact q
      | succ j => exact e3 j (by omega) b n hb
    · exact ⟨0, ⟨b0, n0, rfl, by omega⟩, fun j hj => by omega⟩
end
end K42

set_option Elab.async false
set_option linter.all false
set_option autoImplicit false
set_option maxRecDepth 100000
set_option pp.maxSteps 500
set_option maxHeartbeats 4000000
namespace K42
open PySem PySem.Spec PyProof.Rows L2 He ChH Ch ChM
local macro_rules | `(tactic| walk_at "x1") => `(tactic| first
  | ((with_reducible apply x_var); exact rfl)
  | with_reducible refine x_c ?_
  | with_reducible refine x_op ?_
  | with_reducible refine x_seq ?_
  | with_reducible refine x_asg ?_
  | with_reducible refine x_gname ?_
  | with_reducible refine x_cons ?_
  | with_reducible refine x_nil ?_
  | with_reducible refine x_fld ?_
  | with_reducible refine x_ret ?_
  | with_reducible refine x_ifS ?_
  | with_reducible refine x_test ?_
  | with_reducible refine x_ex ?_
  | with_reducible refine x_call ?_
  | with_reducible refine x_mk ?_
  | with_reducible refine x_meth ?_
  | with_reducible refine x_prop ?_
  | with_reducible refine x_cb ?_
  | with_reducible refine x_tup ?_
  | with_reducible refine x_lst ?_
  | with_reducible refine x_drop ?_
  | with_reducible refine x_for ?_
  | with_reducible refine x_iL ?_
  | with_reducible refine x_iT ?_
  | with_reducible refine x_iE ?_
  | with_reducible refine x_iU ?_
  | with_reducible refine x_iR1 ?_
  | with_reducible refine x_iR2 ?_
  | with_reducible refine x_gcons ?_
  | with_reducible refine x_gnil ?_
  | with_reducible refine x_par ?_
  | with_reducible refine x_lstRg ?_
  | with_reducible refine x_rg1 ?_
  | with_reducible refine x_rg1At ?_
  | with_reducible refine x_par3 ?_
  | with_reducible refine x_bm ?_
  | with_reducible refine x_bm0 ?_
  | with_reducible refine x_gSub ?_
  | with_reducible refine x_lc ?_
  | with_reducible refine x_yes ?_
  | with_reducible refine x_setf ?_
  | with_reducible refine x_next ?_
  | with_reducible refine x_B ?_
  | with_reducible refine x_and ?_
  | with_reducible refine x_or ?_
  | with_reducible refine x_not ?_
  | with_reducible refine x_andV ?_
  | with_reducible refine x_orV ?_
  | with_reducible refine x_notV ?_
  | with_reducible refine x_ifE ?_
  | with_reducible refine x_chain ?_
  | with_reducible refine x_chain3 ?_
  | with_reducible refine x_un ?_
  | with_reducible refine x_isNe ?_
  | with_reducible refine x_notNe ?_
  | with_reducible refine x_starA ?_
  | with_reducible refine x_plusI ?_
  | with_reducible refine x_minus ?_
  | with_reducible refine x_lt ?_
  | with_reducible refine x_le ?_
  | with_reducible refine x_gt ?_
  | with_reducible refine x_ge ?_
  | with_reducible refine x_eqI ?_
  | with_reducible refine x_neI ?_
  | with_reducible refine x_eqS ?_
  | with_reducible refine x_eqB ?_
  | with_reducible refine x_neB ?_
  | with_reducible refine x_int ?_
  | with_reducible refine x_intB ?_
  | with_reducible refine x_max2 ?_
  | with_reducible refine x_min2 ?_
  | with_reducible refine x_max3 ?_
  | with_reducible refine x_abs ?_
  | with_reducible refine x_neg ?_
  | with_reducible refine x_isi_ii ?_
  | with_reducible refine x_isi_ib ?_
  | with_reducible refine x_T ?_
  | with_reducible refine x_nT ?_
  | with_reducible refine x_nF ?_
  | with_reducible refine x_F ?_)
local macro_rules | `(tactic| walk_at "x") => `(tactic| repeat walk_at "x1")

section
variable {P : Program} {w : World} {K : PySem.W.Frag} {mg : Str → Option Value} {base : Heap}
theorem pick2 {u v : V} {z : Int} (h0 : 0 ≤ z) (h1 : z < 2) : ∃ y, atI [u, v] z = some y ∧ ((z = 0 ∧ y = u) ∨ (z = 1 ∧ y = v)) := by
  have : z = 0 ∨ z = 1 := by omega
  rcases this with rfl | rfl
  · exact ⟨u, rfl, .inl ⟨rfl, rfl⟩⟩
  · exact ⟨v, rfl, .inr ⟨rfl, rfl⟩⟩
end
end K42

set_option Elab.async false
set_option linter.all false
set_option autoImplicit false
set_option maxRecDepth 100000
set_option pp.maxSteps 500
set_option maxHeartbeats 4000000
namespace K42
open PySem PySem.Spec PyProof.Rows L2 He ChH Ch ChM
local macro_rules | `(tactic| walk_at "x1") => `(tactic| first
  | ((with_reducible apply x_var); exact rfl)
  | with_reducible refine x_c ?_
  | with_reducible refine x_op ?_
  | with_reducible refine x_seq ?_
  | with_reducible refine x_asg ?_
  | with_reducible refine x_gname ?_
  | with_reducible refine x_cons ?_
  | with_reducible refine x_nil ?_
  | with_reducible refine x_fld ?_
  | with_reducible refine x_ret ?_
  | with_reducible refine x_ifS ?_
  | with_reducible refine x_test ?_
  | with_reducible refine x_ex ?_
  | with_reducible refine x_call ?_
  | with_reducible refine x_mk ?_
  | with_reducible refine x_meth ?_
  | with_reducible refine x_prop ?_
  | with_reducible refine x_cb ?_
  | with_reducible refine x_tup ?_
  | with_reducible refine x_lst ?_
  | with_reducible refine x_drop ?_
  | with_reducible refine x_for ?_
  | with_reducible refine x_iL ?_
  | with_reducible refine x_iT ?_
  | with_reducible refine x_iE ?_
  | with_reducible refine x_iU ?_
  | with_reducible refine x_iR1 ?_
  | with_reducible refine x_iR2 ?_
  | with_reducible refine x_gcons ?_
  | with_reducible refine x_gnil ?_
  | with_reducible refine x_par ?_
  | with_reducible refine x_lstRg ?_
  | with_reducible refine x_rg1 ?_
  | with_reducible refine x_rg1At ?_
  | with_reducible refine x_par3 ?_
  | with_reducible refine x_bm ?_
  | with_reducible refine x_bm0 ?_
  | with_reducible refine x_gSub ?_
  | with_reducible refine x_lc ?_
  | with_reducible refine x_yes ?_
  | with_reducible refine x_setf ?_
  | with_reducible refine x_next ?_
  | with_reducible refine x_B ?_
  | with_reducible refine x_and ?_
  | with_reducible refine x_or ?_
  | with_reducible refine x_not ?_
  | with_reducible refine x_andV ?_
  | with_reducible refine x_orV ?_
  | with_reducible refine x_notV ?_
  | with_reducible refine x_ifE ?_
  | with_reducible refine x_chain ?_
  | with_reducible refine x_chain3 ?_
  | with_reducible refine x_un ?_
  | with_reducible refine x_isNe ?_
  | with_reducible refine x_notNe ?_
  | with_reducible refine x_starA ?_
  | with_reducible refine x_plusI ?_
  | with_reducible refine x_minus ?_
  | with_reducible refine x_lt ?_
  | with_reducible refine x_le ?_
  | with_reducible refine x_gt ?_
  | with_reducible refine x_ge ?_
  | with_reducible refine x_eqI ?_
  | with_reducible refine x_neI ?_
  | with_reducible refine x_eqS ?_
  | with_reducible refine x_eqB ?_
  | with_reducible refine x_neB ?_
  | with_reducible refine x_int ?_
  | with_reducible refine x_intB ?_
  | with_reducible refine x_max2 ?_
  | with_reducible refine x_min2 ?_
  | with_reducible refine x_max3 ?_
  | with_reducible refine x_abs ?_
  | with_reducible refine x_neg ?_
  | with_reducible refine x_isi_ii ?_
  | with_reducible refine x_isi_ib ?_
  | with_reducible refine x_T ?_
  | with_reducible refine x_nT ?_
  | with_reducible refine x_nF ?_
  | with_reducible refine x_F ?_)
local macro_rules | `(tactic| walk_at "x") => `(tactic| repeat walk_at "x1")

local macro_rules | `(tactic| walk_at "q1") => `(tactic| first
  | walk_at "x1"
  | with_reducible refine x_sl ?_
  | with_reducible refine x_cmeth ?_
  | with_reducible refine x_noPart ?_
  | with_reducible refine x_part ?_
  | with_reducible refine x_partI ?_)
local macro_rules | `(tactic| walk_at "q") => `(tactic| repeat walk_at "q1")

section
variable {P : Program} {w : World} {K : PySem.W.Frag} {mg : Str → Option Value} {base : Heap}
theorem divW {i j : Int} (h : 0 < j) (h2 : j ≤ 2000000000000000000) : CDivW i j := wide_div (b := 62) h (by omega) (by decide) (by decide)
theorem ip_mul {X : Cx} : PIp X .Mult (rI CMul fun i j => .int (i * j)) := fun pins s σ H x y v u Q I r1 r2 h => iop_mul pins s σ H x y v u Q I r1 r2 h
/-- the draws' state: a number, the cells that are left, an index -/
structure Dr (H : Hp) (h q : Addr) : Prop where
  ex : ∃ (m ix : Int) (ns : List Int), H h = some (.lst [.int m, .ref q, .int ix]) ∧ H q = some (.lst (ns.map V.int)) ∧ 0 ≤ ix ∧ ns.length ≤ 1000
  ne : q ≠ h
theorem Dr.mono {H H' : Hp} {h q : Addr} (d : Dr H h q) (s : Same H H') : Dr H' h q := by
  obtain ⟨m, ix, ns, e1, e2, e3, e4⟩ := d.ex
  exact ⟨⟨m, ix, ns, s _ _ e1, s _ _ e2, e3, e4⟩, d.ne⟩
def spMx (K : PySem.W.Frag) : Sp := fun vs H Q _ => ∃ (a : Addr) (ns : List Int) (sd : Int), vs = [.ref a, .int sd] ∧ SqL K H a (ns.map V.int) ∧ ns.length ≤ 1000 ∧ ∀ h q H', H h = none → H q = none → Same H H' → Dr H' h q → Q (.ref h) H'
theorem ok__law_mix (W : Wd K mg) : FnR P w K mg base CX0 1 (ga K "_law_mix") (spMx K) := by
  refine (def_ok W.F__law_mix sc__law_mix (fun _ _ _ _ _ _ us hl => match us, hl with | [_, _], _ => rfl) (fun vs H Q E ⟨a, ns, sd, ev, _⟩ => by rw [ev]; rfl) fun cdv A outer s H vs Q E hr ⟨a, ns, sd, ev, hs, hl, k⟩ => ?_).2
  subst ev
  refine ⟨_, PSs.nox (pss_cons (ps_set (i := 2) sc__law_mix.nd rfl (Or.inl rfl) (pv 1)) (pss_cons (ps_for PassesOwn.never rfl (pi_listK K (pv 0)) (pg_name (i := 3) sc__law_mix.nd rfl (Or.inl rfl)) (pss_one (ps_set (i := 2) sc__law_mix.nd rfl (Or.inl rfl) (pe_op op_modP (pe_op op_plus (pe_op op_plus (pe_op op_times (pv 2) pe_int) (pe_op op_modP (pv 3) pe_int)) pe_int) pe_int)))) (pss_one (ps_ret (pe_lst (pa_cons (pv 2) (pa_cons (pe_callTy (c_listK K) (by rfl) W.f_list (by decide +kernel) (pa_cons (pv 0) pa_nil)) (pa_cons pe_int pa_nil)))))))), ?_⟩
  walk_at "q"
  refine x_iLAt hs (x_loop walk_list (fun i σ H2 => H2 = H ∧ ∃ z b, σ = [some (.ref a), some (.int sd), some (.int z), b]) ⟨rfl, _, _, rfl⟩ (fun i σ H2 _ ⟨e, _⟩ => by rw [e]; exact hs) ?_ ?_)
  · rintro i y σ H2 H3 hi ⟨rfl, z, b, rfl⟩ ⟨rfl, ey⟩
    rw [List.getElem?_map] at ey
    obtain ⟨n, _, rfl⟩ := Option.map_eq_some_iff.mp ey
    walk_at "q"
    refine x_timesI (.inr ⟨by decide, by decide⟩) ?_
    walk_at "q"
    refine x_mod (by decide) ?_
    walk_at "q"
    refine x_mod (by decide) ?_
    walk_at "q"
    exact ⟨rfl, _, _, rfl⟩
  · rintro σ H2 ⟨rfl, z, b, rfl⟩
    walk_at "q"
    refine x_listL hs fun q hq => ?_
    generalize hN1 : upd _ q _ = H1; obtain ⟨s1, e1⟩ := nws hN1 hq
    walk_at "q"
    refine ⟨sz rfl, fun h hh => ?_⟩; generalize hN3 : upd _ h _ = H3; obtain ⟨s3, e3⟩ := nws hN3 hh
    exact k h q _ (s1.free hh) hq (s1.trans s3) ⟨⟨z, 0, ns, e3, s3 _ _ e1, Int.le_refl _, hl⟩, ne_of_none e1 hh⟩
/-- a number below a limit -/
def spNx (K : PySem.W.Frag) : Sp := fun vs H Q _ => ∃ (h q : Addr) (c : Int), vs = [.ref h, .int c] ∧ Dr H h q ∧ 0 < c ∧ c ≤ 2000000000000000000 ∧ ∀ z H', 0 ≤ z → z < c → Same2 h q H H' → Dr H' h q → Q (.int z) H'
theorem ok__law_next (W : Wd K mg) : FnR P w K mg base CX0 1 (ga K "_law_next") (spNx K) := by
  refine (def_ok W.F__law_next sc__law_next (fun _ _ _ _ _ _ us hl => match us, hl with | [_, _], _ => rfl) (fun vs H Q E ⟨h, q, c, ev, _⟩ => by rw [ev]; rfl) fun cdv A outer s H vs Q E hr ⟨h, q, c, ev, D, c0, c1, k⟩ => ?_).2
  subst ev
  obtain ⟨⟨m, ix, ns, eh, eq, ix0, nl⟩, nq⟩ := D
  refine ⟨_, PSs.nox (pss_cons (ps_set (i := 2) sc__law_next.nd rfl (Or.inl rfl) (pe_ix (ix_K K) (pe_op op_plus (pe_ix (ix_K K) (pv 0) pe_int (fun _ _ => rfl)) (pe_lst (pa_cons pe_int pa_nil))) (pe_op op_modP (pe_ix (ix_K K) (pv 0) pe_int (fun _ _ => rfl)) (pe_callB (c_max2 rfl) (by rfl) W.f_max (by decide +kernel) (pa_cons pe_int (pa_cons (pe_callB (c_lenK K) (by rfl) W.f_len (by decide +kernel) (pa_cons (pe_ix (ix_K K) (pv 0) pe_int (fun _ _ => rfl)) pa_nil)) pa_nil)))) (fun _ _ => rfl))) (pss_cons (ps_if (pt_cmpR op_geI (pv 2) (pe_op op_powP pe_int pe_int) (nomark _)) (pss_cons (ps_asg (pe_op op_divP (pv 2) (pv 1)) (pg_sub (pe_ix (ix_K K) (pv 0) pe_int (fun _ _ => rfl)) (pe_op op_modP (pe_ix (ix_K K) (pv 0) pe_int (fun _ _ => rfl)) (pe_callB (c_lenK K) (by rfl) W.f_len (by decide +kernel) (pa_cons (pe_ix (ix_K K) (pv 0) pe_int (fun _ _ => rfl)) pa_nil))) set_list)) (pss_one (ps_ret (pe_op op_modP (pv 2) (pv 1))))) pss_nil) (pss_cons (ps_asg (pe_op op_modP (pe_op op_plus (pe_op op_plus (pe_op op_times (pe_ix (ix_K K) (pv 0) pe_int (fun _ _ => rfl)) pe_int) (pe_op op_times (pv 2) pe_int)) pe_int) pe_int) (pg_sub (pv 0) pe_int set_list)) (pss_cons (ps_asg (pe_op op_plus (pe_ix (ix_K K) (pv 0) pe_int (fun _ _ => rfl)) pe_int) (pg_sub (pv 0) pe_int set_list)) (pss_one (ps_ret (pe_op op_modP (pe_op op_divP (pe_ix (ix_K K) (pv 0) pe_int (fun _ _ => rfl)) pe_int) (pv 1)))))))), ?_⟩
  walk_at "q"
  refine x_ixL (SqL.of eh) (i := 1) rfl ?_
  walk_at "q"
  refine ⟨sz rfl, fun t1 ht1 => ?_⟩; generalize hN1 : upd _ t1 _ = H1; obtain ⟨s1, e1⟩ := nws hN1 ht1
  refine n_plusL (s1 _ _ eq) e1 (sz5 (by rw [List.length_map]; show ns.length + 1 ≤ _; omega)) fun t2 H2 ht2 s2 e2 => ?_
  have s12 := s1.trans s2
  have eh2 := s12 _ _ eh
  have eq2 := s12 _ _ eq
  walk_at "q"
  refine x_ixL (SqL.of eh2) (i := 2) rfl ?_
  walk_at "q"
  refine x_ixL (SqL.of eh2) (i := 1) rfl ?_
  walk_at "q"
  refine x_lenL (SqL.of eq2) ?_
  rw [List.length_map]
  walk_at "q"
  have L0 : 0 < (if ((ns.length : Nat) : Int) > 1 then ((ns.length : Nat) : Int) else 1) := by split <;> omega
  refine x_mod L0 ?_
  obtain ⟨j, hj, n, hn, hz⟩ : ∃ j : Nat, ix % (if ((ns.length : Nat) : Int) > 1 then ((ns.length : Nat) : Int) else 1) = j ∧ ∃ n : Int, (ns ++ [0])[j]? = some n ∧ (ns.length ≠ 0 → ns[j]? = some n ∧ ix % (ns.length : Nat) = j) ∧ (ns.length = 0 → n = 0) := by
    have a0 := Int.emod_nonneg ix (Int.ne_of_gt L0)
    have a1 := Int.emod_lt_of_pos ix L0
    refine ⟨(ix % _).toNat, (Int.toNat_of_nonneg a0).symm, ?_⟩
    generalize hw : ix % (if ((ns.length : Nat) : Int) > 1 then ((ns.length : Nat) : Int) else 1) = w at a0 a1
    by_cases z : ns.length = 0
    · have e : ns = [] := List.eq_nil_of_length_eq_zero z
      subst e
      have : w = 0 := by
        rw [if_neg (by decide)] at a1
        omega
      subst this
      exact ⟨0, rfl, fun q => absurd rfl q, fun _ => rfl⟩
    · have eL : (if ((ns.length : Nat) : Int) > 1 then ((ns.length : Nat) : Int) else 1) = (ns.length : Nat) := by
        split <;> omega
      rw [eL] at a1 hw
      have hlt : w.toNat < ns.length := by omega
      refine ⟨ns[w.toNat], ?_, fun _ => ⟨List.getElem?_eq_getElem hlt, ?_⟩, fun q => absurd q z⟩
      · rw [List.getElem?_append_left hlt, List.getElem?_eq_getElem hlt]
      · rw [hw]; omega
  rw [hj]
  refine x_ixL (v := .int n) (SqL.of e2) (atI_nat (by
    have e3 : (ns.map V.int ++ [V.int 0])[j]? = some (V.int n) := by
      rw [show ns.map V.int ++ [V.int 0] = (ns ++ [0]).map V.int by rw [List.map_append]; rfl, List.getElem?_map, hn]
      rfl
    exact e3)) ?_
  walk_at "q"
  have e18 : (10 : Int) ^ ((18 : Int).toNat) = 1000000000000000000 := by decide
  refine x_pow ⟨by decide, by decide, by decide⟩ ?_
  rw [e18]
  walk_at "q"
  refine x_ifd (fun hb => ?_) fun hb => ?_
  · have nz : ns.length ≠ 0 := fun z => by
      have := hz.2 z
      omega
    obtain ⟨hnj, hij⟩ := hz.1 nz
    have hlt := (List.getElem?_eq_some_iff.mp hnj).1
    walk_at "q"
    refine x_div (divW c0 c1) ?_
    walk_at "q"
    refine x_ixL (SqL.of eh2) (i := 1) rfl ?_
    walk_at "q"
    refine x_ixL (SqL.of eh2) (i := 2) rfl ?_
    walk_at "q"
    refine x_ixL (SqL.of eh2) (i := 1) rfl ?_
    walk_at "q"
    refine x_lenL (SqL.of eq2) ?_
    rw [List.length_map]
    refine x_mod (by omega) ?_
    rw [hij]
    refine x_setL (j := j) eq2 (by rw [List.length_map]; unfold ixN; rw [if_pos (by omega), if_pos (by omega), Int.toNat_natCast]) ?_
    walk_at "q"
    refine x_mod c0 ?_
    refine k _ _ (Int.emod_nonneg _ (by omega)) (Int.emod_lt_of_pos _ c0) ((Same2.of s12).trans Same2.upd2) ⟨⟨m, ix, ns.set j (n / c), ?_, ?_, ix0, by rw [List.length_set]; exact nl⟩, nq⟩
    · rw [upd_ne nq.symm]; exact eh2
    · rw [upd_same, List.map_set]
  · walk_at "q"
    refine x_ixL (SqL.of eh2) (i := 0) rfl ?_
    walk_at "q"
    refine x_timesI (.inr ⟨by decide, by decide⟩) ?_
    walk_at "q"
    refine x_timesI (.inr ⟨by decide, by decide⟩) ?_
    walk_at "q"
    refine x_mod (by decide) ?_
    walk_at "q"
    refine x_setL eh2 rfl ?_
    walk_at "q"
    refine x_ixL (SqL.of upd_same) (i := 2) rfl ?_
    walk_at "q"
    refine x_setL upd_same rfl ?_
    walk_at "q"
    refine x_ixL (SqL.of upd_same) (i := 0) rfl ?_
    walk_at "q"
    refine x_div (divW (by decide) (by decide)) ?_
    walk_at "q"
    refine x_mod c0 ?_
    refine k _ _ (Int.emod_nonneg _ (by omega)) (Int.emod_lt_of_pos _ c0) (((Same2.of s12).trans Same2.upd1).trans Same2.upd1) ⟨⟨_, ix + 1, ns, upd_same, ?_, by omega, nl⟩, nq⟩
    rw [upd_ne nq, upd_ne nq]
    exact eq2
theorem Dr.tup {H H' : Hp} {h q p : Addr} {xs : List V} (d : Dr H h q) (s : Same2 h q H H') (e : H p = some (.tup xs)) : H' p = some (.tup xs) := by
  obtain ⟨m, ix, ns, e1, e2, _, _⟩ := d.ex
  exact s _ _ (fun z => by rw [z, e1] at e; cases e) (fun z => by rw [z, e2] at e; cases e) e
theorem Dr.steps {H H' : Hp} {h q : Addr} {vs : List V} {l : List Stp} (d : Dr H h q) (s : Same2 h q H H') (hs : StepsAt H vs l) : StepsAt H' vs l := pr_im (fun _ _ ⟨p, e1, e2⟩ => ⟨p, e1, d.tup s e2⟩) hs
theorem Dr.other {H : Hp} {h q r : Addr} {o : HO} (d : Dr H h q) (n : r ≠ h) (m : r ≠ q) : Dr (upd H r o) h q := by
  obtain ⟨a, ix, ns, e1, e2, e3, e4⟩ := d.ex
  exact ⟨⟨a, ix, ns, by rw [upd_ne n.symm]; exact e1, by rw [upd_ne m.symm]; exact e2, e3, e4⟩, d.ne⟩
theorem Dr.neN {H : Hp} {h q r : Addr} (d : Dr H h q) (e : H r = none) : r ≠ h ∧ r ≠ q := by
  obtain ⟨a, ix, ns, e1, e2, _, _⟩ := d.ex
  exact ⟨(ne_of_none e1 e).symm, (ne_of_none e2 e).symm⟩
theorem Same2.mut {h q r : Addr} {H H' : Hp} {o : HO} (s : Same2 h q H H') (e : H r = none) : Same2 h q H (upd H' r o) := fun b u n m hb => by
  rw [upd_ne (ne_of_none hb e)]
  exact s b u n m hb
/-- steps that are drawn -/
def spSs (K : PySem.W.Frag) : Sp := fun vs H Q _ => ∃ (h q : Addr) (c m : Int), vs = [.ref h, .int c, .int m] ∧ Dr H h q ∧ 0 ≤ c ∧ c ≤ 1000000000000000000 ∧ 0 ≤ m ∧ m ≤ 100 ∧
  ∀ r H' ps l, H r = none → r ≠ h → r ≠ q → Same2 h q H H' → Dr H' h q → H' r = some (.lst ps) → StepsAt H' ps l → (l.length : Int) ≤ m → fitsS c l → Q (.ref r) H'
end
end K42

set_option Elab.async false
set_option linter.all false
set_option autoImplicit false
set_option maxRecDepth 100000
set_option pp.maxSteps 500
set_option maxHeartbeats 4000000
namespace K42
open PySem PySem.Spec PyProof.Rows L2 He ChH Ch ChM
local macro_rules | `(tactic| walk_at "x1") => `(tactic| first
  | ((with_reducible apply x_var); exact rfl)
  | with_reducible refine x_c ?_
  | with_reducible refine x_op ?_
  | with_reducible refine x_seq ?_
  | with_reducible refine x_asg ?_
  | with_reducible refine x_gname ?_
  | with_reducible refine x_cons ?_
  | with_reducible refine x_nil ?_
  | with_reducible refine x_fld ?_
  | with_reducible refine x_ret ?_
  | with_reducible refine x_ifS ?_
  | with_reducible refine x_test ?_
  | with_reducible refine x_ex ?_
  | with_reducible refine x_call ?_
  | with_reducible refine x_mk ?_
  | with_reducible refine x_meth ?_
  | with_reducible refine x_prop ?_
  | with_reducible refine x_cb ?_
  | with_reducible refine x_tup ?_
  | with_reducible refine x_lst ?_
  | with_reducible refine x_drop ?_
  | with_reducible refine x_for ?_
  | with_reducible refine x_iL ?_
  | with_reducible refine x_iT ?_
  | with_reducible refine x_iE ?_
  | with_reducible refine x_iU ?_
  | with_reducible refine x_iR1 ?_
  | with_reducible refine x_iR2 ?_
  | with_reducible refine x_gcons ?_
  | with_reducible refine x_gnil ?_
  | with_reducible refine x_par ?_
  | with_reducible refine x_lstRg ?_
  | with_reducible refine x_rg1 ?_
  | with_reducible refine x_rg1At ?_
  | with_reducible refine x_par3 ?_
  | with_reducible refine x_bm ?_
  | with_reducible refine x_bm0 ?_
  | with_reducible refine x_gSub ?_
  | with_reducible refine x_lc ?_
  | with_reducible refine x_yes ?_
  | with_reducible refine x_setf ?_
  | with_reducible refine x_next ?_
  | with_reducible refine x_B ?_
  | with_reducible refine x_and ?_
  | with_reducible refine x_or ?_
  | with_reducible refine x_not ?_
  | with_reducible refine x_andV ?_
  | with_reducible refine x_orV ?_
  | with_reducible refine x_notV ?_
  | with_reducible refine x_ifE ?_
  | with_reducible refine x_chain ?_
  | with_reducible refine x_chain3 ?_
  | with_reducible refine x_un ?_
  | with_reducible refine x_isNe ?_
  | with_reducible refine x_notNe ?_
  | with_reducible refine x_starA ?_
  | with_reducible refine x_plusI ?_
  | with_reducible refine x_minus ?_
  | with_reducible refine x_lt ?_
  | with_reducible refine x_le ?_
  | with_reducible refine x_gt ?_
  | with_reducible refine x_ge ?_
  | with_reducible refine x_eqI ?_
  | with_reducible refine x_neI ?_
  | with_reducible refine x_eqS ?_
  | with_reducible refine x_eqB ?_
  | with_reducible refine x_neB ?_
  | with_reducible refine x_int ?_
  | with_reducible refine x_intB ?_
  | with_reducible refine x_max2 ?_
  | with_reducible refine x_min2 ?_
  | with_reducible refine x_max3 ?_
  | with_reducible refine x_abs ?_
  | with_reducible refine x_neg ?_
  | with_reducible refine x_isi_ii ?_
  | with_reducible refine x_isi_ib ?_
  | with_reducible refine x_T ?_
  | with_reducible refine x_nT ?_
  | with_reducible refine x_nF ?_
  | with_reducible refine x_F ?_)
local macro_rules | `(tactic| walk_at "x") => `(tactic| repeat walk_at "x1")

local macro_rules | `(tactic| walk_at "q1") => `(tactic| first
  | walk_at "x1"
  | with_reducible refine x_sl ?_
  | with_reducible refine x_cmeth ?_
  | with_reducible refine x_noPart ?_
  | with_reducible refine x_part ?_
  | with_reducible refine x_partI ?_)
local macro_rules | `(tactic| walk_at "q") => `(tactic| repeat walk_at "q1")

section
variable {P : Program} {w : World} {K : PySem.W.Frag} {mg : Str → Option Value} {base : Heap}
theorem kit2 {K : PySem.W.Frag} {a b c : String} {r q : Bool} (h1 : kitB a b = some r) (h2 : kitB a c = some q) : PySem.W.kitAny K (.type a) [.type b, .type c] = some (r || q) := by
  unfold PySem.W.kitAny PySem.W.kitAny PySem.W.kitAny
  rw [kit_ty h1, kit_ty h2]
  cases r <;> cases q <;> rfl
theorem x_isiT2 {K : PySem.W.Frag} {H : Hp} {Q : VK} {x : V} {tp : Addr} {a b c : String} {r q : Bool} (h : H tp = some (.tup [.ty b, .ty c])) (t : TyX K H x (.type a)) (h1 : kitB a b = some r) (h2 : kitB a c = some q) (k : Q (.bl (r || q)) H) : rIsiT K [x, .ref tp] H Q :=
  ⟨x, tp, _, _, [.type b, .type c], _, rfl, h, .cons (.ty _) (.cons (.ty _) .nil), t, kit2 h1 h2, k⟩
/-- two values that are alike -/
def spAlk (R : Hp → V → V → Prop) : Sp := fun vs H Q _ => ∃ a b : V, vs = [a, b] ∧ R H a b ∧ ∀ H', Same H H' → Q (.bl true) H'
def aPl : Hp → V → V → Prop := fun _ a b => a = b ∧ plV a = true
/-- the same sort of row, of alike items -/
def aSq (R : Hp → V → V → Prop) : Hp → V → V → Prop := fun H a b => ∃ (p q : Addr) (xs ys : List V), a = .ref p ∧ b = .ref q ∧ ((H p = some (.lst xs) ∧ H q = some (.lst ys)) ∨ (H p = some (.tup xs) ∧ H q = some (.tup ys))) ∧ xs.length = ys.length ∧ xs.length ≤ 10000 ∧ ∀ (i : Nat) (x y : V), xs[i]? = some x → ys[i]? = some y → R H x y
def aOr (R S : Hp → V → V → Prop) : Hp → V → V → Prop := fun H a b => R H a b ∨ S H a b
def Mono (R : Hp → V → V → Prop) : Prop := ∀ H H' a b, Same H H' → R H a b → R H' a b
theorem mono_pl : Mono aPl := fun _ _ _ _ _ h => h
theorem mono_sq {R : Hp → V → V → Prop} (m : Mono R) : Mono (aSq R) := fun H H' a b s ⟨p, q, xs, ys, e1, e2, h, h3, h4, h5⟩ => ⟨p, q, xs, ys, e1, e2, h.imp (fun z => ⟨s _ _ z.1, s _ _ z.2⟩) (fun z => ⟨s _ _ z.1, s _ _ z.2⟩), h3, h4, fun i x y a b => m H H' x y s (h5 i x y a b)⟩
theorem mono_or {R S : Hp → V → V → Prop} (m : Mono R) (n : Mono S) : Mono (aOr R S) := fun H H' a b s h => h.imp (m H H' a b s) (n H H' a b s)
theorem alk_pl (W : Wd K mg) {k0 : Nat} {sp0 : Sp} (hc : FnR P w K mg base CX0 k0 (ga K "_law_alike") sp0) : FnR P w K mg base CX0 (k0 + 3) (ga K "_law_alike") (spAlk aPl) := by
  have hk : k0 ≤ k0 + 2 := by omega
  refine (def_ok W.F__law_alike sc__law_alike (fun _ _ _ _ _ _ us hl => match us, hl with | [_, _], _ => rfl) (fun vs H Q E ⟨a, b, e, _⟩ => by rw [e]; rfl) fun cdv A outer s H vs Q E hr ⟨a, b, e, ⟨e2, hp⟩, k⟩ => ?_).2
  subst e e2
  refine ⟨_, PSs.nox (pss_cons (ps_if (pt_val (pe_callB (c_isiK K) (by rfl) W.f_isinstance (by decide +kernel) (pa_cons (pv 1) (pa_cons (pe_bltn (v := .ty "dict") (by rfl) W.f_dict (by decide +kernel) rfl) pa_nil)))) (pss_one ps_never) pss_nil) (pss_cons (ps_if (pt_val (pe_callB (c_isiTK K) (by rfl) W.f_isinstance (by decide +kernel) (pa_cons (pv 1) (pa_cons (pe_tup (pa_cons (pe_bltn (v := .ty "tuple") (by rfl) W.f_tuple (by decide +kernel) rfl) (pa_cons (pe_bltn (v := .ty "list") (by rfl) W.f_list (by decide +kernel) rfl) pa_nil))) pa_nil)))) (pss_cons (ps_if (PW.pt (pw_or (pt_not (pt_val (pe_callB (c_isiTK K) (by rfl) W.f_isinstance (by decide +kernel) (pa_cons (pv 0) (pa_cons (pe_tup (pa_cons (pe_bltn (v := .ty "tuple") (by rfl) W.f_tuple (by decide +kernel) rfl) (pa_cons (pe_bltn (v := .ty "list") (by rfl) W.f_list (by decide +kernel) rfl) pa_nil))) pa_nil))))) (pw_or1 (pt_cmpR (op_neK K hr.units) (pe_callB (c_isiK K) (by rfl) W.f_isinstance (by decide +kernel) (pa_cons (pv 0) (pa_cons (pe_bltn (v := .ty "list") (by rfl) W.f_list (by decide +kernel) rfl) pa_nil))) (pe_callB (c_isiK K) (by rfl) W.f_isinstance (by decide +kernel) (pa_cons (pv 1) (pa_cons (pe_bltn (v := .ty "list") (by rfl) W.f_list (by decide +kernel) rfl) pa_nil))) (nomark _))))) (pss_one (ps_ret pe_bl)) pss_nil) (pss_cons (ps_if (pt_cmpR (op_neK K hr.units) (pe_callB (c_lenK K) (by rfl) W.f_len (by decide +kernel) (pa_cons (pv 0) pa_nil)) (pe_callB (c_lenK K) (by rfl) W.f_len (by decide +kernel) (pa_cons (pv 1) pa_nil)) (nomark _)) (pss_one (ps_ret pe_bl)) pss_nil) (pss_one (ps_ret (pe_cmpR (op_eqK K hr.units) (pe_lc (own := [("_law_k", 2)]) (g := gName 2) rfl sc__law_alike.nd (pi_range1 (by rfl) W.f_range (pa_cons (pe_callB (c_lenK K) (by rfl) W.f_len (by decide +kernel) (pa_cons (pv 1) pa_nil)) pa_nil)) (blkOk_by (own := [("_law_k", 2)]) (N := N__law_alike) (sc := defScope s__law_alike) (by decide +kernel)) (fun _ _ _ _ _ => (pg_name (i := 2) sc__law_alike.nd rfl (Or.inl rfl))) (fun _ _ _ _ _ => (pts_one (pt_not (pt_val (pe_callR hc (hr.mono hk) W.g__law_alike W.k__law_alike pass0 rfl (pa_cons (pe_ix (ix_K K) (pv 0) (pv 2) (fun _ _ => rfl)) (pa_cons (pe_ix (ix_K K) (pv 1) (pv 2) (fun _ _ => rfl)) pa_nil))))))) (fun _ _ _ _ _ => (pv 2))) (pe_lst pa_nil) (nomark _)))))) pss_nil) (pss_cons (ps_if (PW.pt (pw_or (pt_cmp (pc_isN (pv 1))) (pw_or1 (pt_val (pe_callB (c_isiK K) (by rfl) W.f_isinstance (by decide +kernel) (pa_cons (pv 1) (pa_cons (pe_bltn (v := .ty "str") (by rfl) W.f_str (by decide +kernel) rfl) pa_nil))))))) (pss_one (ps_ret (pe_and (pe_cmpR (op_eqK K hr.units) (pv 0) (pv 1) (nomark _)) (pe_one (pe_cmpR (op_eqK K hr.units) (pe_callB (c_isiK K) (by rfl) W.f_isinstance (by decide +kernel) (pa_cons (pv 0) (pa_cons (pe_bltn (v := .ty "str") (by rfl) W.f_str (by decide +kernel) rfl) pa_nil))) (pe_callB (c_isiK K) (by rfl) W.f_isinstance (by decide +kernel) (pa_cons (pv 1) (pa_cons (pe_bltn (v := .ty "str") (by rfl) W.f_str (by decide +kernel) rfl) pa_nil))) (nomark _)))))) pss_nil) (pss_one (ps_ret (pe_and (pe_callB (c_isiK K) (by rfl) W.f_isinstance (by decide +kernel) (pa_cons (pv 0) (pa_cons (pe_bltn (v := .ty "int") (by rfl) W.f_int (by decide +kernel) rfl) pa_nil))) (pe_and (pe_cmpR (op_eqK K hr.units) (pe_callB (c_isiK K) (by rfl) W.f_isinstance (by decide +kernel) (pa_cons (pv 0) (pa_cons (pe_bltn (v := .ty "bool") (by rfl) W.f_bool (by decide +kernel) rfl) pa_nil))) (pe_callB (c_isiK K) (by rfl) W.f_isinstance (by decide +kernel) (pa_cons (pv 1) (pa_cons (pe_bltn (v := .ty "bool") (by rfl) W.f_bool (by decide +kernel) rfl) pa_nil))) (nomark _)) (pe_one (pe_cmpR (op_eqK K hr.units) (pv 0) (pv 1) (nomark _)))))))))), ?_⟩
  walk_at "q"
  have fin : ∀ H1, Same H H1 → Q (.bl true) H1 := fun H1 s1 => k H1 s1
  cases a with
  | non =>
    refine x_isiB (r := false) (.base .non) (by decide +kernel) ?_
    walk_at "q"
    refine ⟨sz rfl, fun t1 ht1 => ?_⟩; generalize hN1 : upd _ t1 _ = H1; obtain ⟨s1, e1⟩ := nws hN1 ht1
    walk_at "q"
    refine x_isiT2 (r := false) (q := false) e1 (.base .non) (by decide +kernel) (by decide +kernel) ?_
    walk_at "q"
    refine x_F ?_
    walk_at "q"
    rw [decide_eq_true rfl]
    walk_at "q"
    refine .inl ⟨rfl, ?_⟩
    rw [decide_eq_true rfl]
    walk_at "q"
    refine x_isiB (r := false) (.base .non) (by decide +kernel) ?_
    walk_at "q"
    refine x_isiB (r := false) (.base .non) (by decide +kernel) ?_
    walk_at "q"
    rw [decide_eq_true rfl]
    exact k _ s1
  | bl b =>
    refine x_isiB (r := false) (.base (.bl b)) (by decide +kernel) ?_
    walk_at "q"
    refine ⟨sz rfl, fun t1 ht1 => ?_⟩; generalize hN1 : upd _ t1 _ = H1; obtain ⟨s1, e1⟩ := nws hN1 ht1
    walk_at "q"
    refine x_isiT2 (r := false) (q := false) e1 (.base (.bl b)) (by decide +kernel) (by decide +kernel) ?_
    walk_at "q"
    refine x_F ?_
    walk_at "q"
    rw [decide_eq_false (show ¬ V.bl b = V.non from fun z => nomatch z)]
    walk_at "q"
    refine x_isiB (r := false) (.base (.bl b)) (by decide +kernel) ?_
    walk_at "q"
    refine x_isiB (r := true) (.base (.bl b)) (by decide +kernel) ?_
    walk_at "q"
    refine x_isiB (r := true) (.base (.bl b)) (by decide +kernel) ?_
    walk_at "q"
    refine x_isiB (r := true) (.base (.bl b)) (by decide +kernel) ?_
    walk_at "q"
    rw [decide_eq_true rfl]
    walk_at "q"
    rw [decide_eq_true rfl]
    exact k _ s1
  | int i =>
    refine x_isiB (r := false) (.base (.int i)) (by decide +kernel) ?_
    walk_at "q"
    refine ⟨sz rfl, fun t1 ht1 => ?_⟩; generalize hN1 : upd _ t1 _ = H1; obtain ⟨s1, e1⟩ := nws hN1 ht1
    walk_at "q"
    refine x_isiT2 (r := false) (q := false) e1 (.base (.int i)) (by decide +kernel) (by decide +kernel) ?_
    walk_at "q"
    refine x_F ?_
    walk_at "q"
    rw [decide_eq_false (show ¬ V.int i = V.non from fun z => nomatch z)]
    walk_at "q"
    refine x_isiB (r := false) (.base (.int i)) (by decide +kernel) ?_
    walk_at "q"
    rw [decide_eq_true rfl]
    walk_at "q"
    rw [decide_eq_true rfl]
    exact k _ s1
  | str z =>
    refine x_isiB (r := false) (.base (.str z)) (by decide +kernel) ?_
    walk_at "q"
    refine ⟨sz rfl, fun t1 ht1 => ?_⟩; generalize hN1 : upd _ t1 _ = H1; obtain ⟨s1, e1⟩ := nws hN1 ht1
    walk_at "q"
    refine x_isiT2 (r := false) (q := false) e1 (.base (.str z)) (by decide +kernel) (by decide +kernel) ?_
    walk_at "q"
    refine x_F ?_
    walk_at "q"
    rw [decide_eq_false (show ¬ V.str z = V.non from fun z => nomatch z)]
    walk_at "q"
    refine x_isiB (r := true) (.base (.str z)) (by decide +kernel) ?_
    walk_at "q"
    rw [decide_eq_true rfl]
    walk_at "q"
    refine x_isiB (r := true) (.base (.str z)) (by decide +kernel) ?_
    walk_at "q"
    refine x_isiB (r := true) (.base (.str z)) (by decide +kernel) ?_
    walk_at "q"
    rw [decide_eq_true rfl]
    exact k _ s1
  | _ => exact absurd (show false = true from hp) (by decide)
theorem alk_sq (W : Wd K mg) {R : Hp → V → V → Prop} (m : Mono R) {k0 : Nat} (hc : FnR P w K mg base CX0 k0 (ga K "_law_alike") (spAlk R)) : FnR P w K mg base CX0 (k0 + 3) (ga K "_law_alike") (spAlk (aSq R)) := by
  have hk : k0 ≤ k0 + 2 := by omega
  refine (def_ok W.F__law_alike sc__law_alike (fun _ _ _ _ _ _ us hl => match us, hl with | [_, _], _ => rfl) (fun vs H Q E ⟨a, b, e, _⟩ => by rw [e]; rfl) fun cdv A outer s H vs Q E hr ⟨a, b, e, ⟨p, q, xs, ys, e1, e2, hpq, hl, hz, hR⟩, k⟩ => ?_).2
  subst e e1 e2
  refine ⟨_, PSs.nox (pss_cons (ps_if (pt_val (pe_callB (c_isiK K) (by rfl) W.f_isinstance (by decide +kernel) (pa_cons (pv 1) (pa_cons (pe_bltn (v := .ty "dict") (by rfl) W.f_dict (by decide +kernel) rfl) pa_nil)))) (pss_one ps_never) pss_nil) (pss_cons (ps_if (pt_val (pe_callB (c_isiTK K) (by rfl) W.f_isinstance (by decide +kernel) (pa_cons (pv 1) (pa_cons (pe_tup (pa_cons (pe_bltn (v := .ty "tuple") (by rfl) W.f_tuple (by decide +kernel) rfl) (pa_cons (pe_bltn (v := .ty "list") (by rfl) W.f_list (by decide +kernel) rfl) pa_nil))) pa_nil)))) (pss_cons (ps_if (PW.pt (pw_or (pt_not (pt_val (pe_callB (c_isiTK K) (by rfl) W.f_isinstance (by decide +kernel) (pa_cons (pv 0) (pa_cons (pe_tup (pa_cons (pe_bltn (v := .ty "tuple") (by rfl) W.f_tuple (by decide +kernel) rfl) (pa_cons (pe_bltn (v := .ty "list") (by rfl) W.f_list (by decide +kernel) rfl) pa_nil))) pa_nil))))) (pw_or1 (pt_cmpR (op_neK K hr.units) (pe_callB (c_isiK K) (by rfl) W.f_isinstance (by decide +kernel) (pa_cons (pv 0) (pa_cons (pe_bltn (v := .ty "list") (by rfl) W.f_list (by decide +kernel) rfl) pa_nil))) (pe_callB (c_isiK K) (by rfl) W.f_isinstance (by decide +kernel) (pa_cons (pv 1) (pa_cons (pe_bltn (v := .ty "list") (by rfl) W.f_list (by decide +kernel) rfl) pa_nil))) (nomark _))))) (pss_one (ps_ret pe_bl)) pss_nil) (pss_cons (ps_if (pt_cmpR (op_neK K hr.units) (pe_callB (c_lenK K) (by rfl) W.f_len (by decide +kernel) (pa_cons (pv 0) pa_nil)) (pe_callB (c_lenK K) (by rfl) W.f_len (by decide +kernel) (pa_cons (pv 1) pa_nil)) (nomark _)) (pss_one (ps_ret pe_bl)) pss_nil) (pss_one (ps_ret (pe_cmpR (op_eqK K hr.units) (pe_lc (own := [("_law_k", 2)]) (g := gName 2) rfl sc__law_alike.nd (pi_range1 (by rfl) W.f_range (pa_cons (pe_callB (c_lenK K) (by rfl) W.f_len (by decide +kernel) (pa_cons (pv 1) pa_nil)) pa_nil)) (blkOk_by (own := [("_law_k", 2)]) (N := N__law_alike) (sc := defScope s__law_alike) (by decide +kernel)) (fun _ _ _ _ _ => (pg_name (i := 2) sc__law_alike.nd rfl (Or.inl rfl))) (fun _ _ _ _ _ => (pts_one (pt_not (pt_val (pe_callR hc (hr.mono hk) W.g__law_alike W.k__law_alike pass0 rfl (pa_cons (pe_ix (ix_K K) (pv 0) (pv 2) (fun _ _ => rfl)) (pa_cons (pe_ix (ix_K K) (pv 1) (pv 2) (fun _ _ => rfl)) pa_nil))))))) (fun _ _ _ _ _ => (pv 2))) (pe_lst pa_nil) (nomark _)))))) pss_nil) (pss_cons (ps_if (PW.pt (pw_or (pt_cmp (pc_isN (pv 1))) (pw_or1 (pt_val (pe_callB (c_isiK K) (by rfl) W.f_isinstance (by decide +kernel) (pa_cons (pv 1) (pa_cons (pe_bltn (v := .ty "str") (by rfl) W.f_str (by decide +kernel) rfl) pa_nil))))))) (pss_one (ps_ret (pe_and (pe_cmpR (op_eqK K hr.units) (pv 0) (pv 1) (nomark _)) (pe_one (pe_cmpR (op_eqK K hr.units) (pe_callB (c_isiK K) (by rfl) W.f_isinstance (by decide +kernel) (pa_cons (pv 0) (pa_cons (pe_bltn (v := .ty "str") (by rfl) W.f_str (by decide +kernel) rfl) pa_nil))) (pe_callB (c_isiK K) (by rfl) W.f_isinstance (by decide +kernel) (pa_cons (pv 1) (pa_cons (pe_bltn (v := .ty "str") (by rfl) W.f_str (by decide +kernel) rfl) pa_nil))) (nomark _)))))) pss_nil) (pss_one (ps_ret (pe_and (pe_callB (c_isiK K) (by rfl) W.f_isinstance (by decide +kernel) (pa_cons (pv 0) (pa_cons (pe_bltn (v := .ty "int") (by rfl) W.f_int (by decide +kernel) rfl) pa_nil))) (pe_and (pe_cmpR (op_eqK K hr.units) (pe_callB (c_isiK K) (by rfl) W.f_isinstance (by decide +kernel) (pa_cons (pv 0) (pa_cons (pe_bltn (v := .ty "bool") (by rfl) W.f_bool (by decide +kernel) rfl) pa_nil))) (pe_callB (c_isiK K) (by rfl) W.f_isinstance (by decide +kernel) (pa_cons (pv 1) (pa_cons (pe_bltn (v := .ty "bool") (by rfl) W.f_bool (by decide +kernel) rfl) pa_nil))) (nomark _)) (pe_one (pe_cmpR (op_eqK K hr.units) (pv 0) (pv 1) (nomark _)))))))))), ?_⟩
  walk_at "q"
  rcases hpq with ⟨h1, h2⟩ | ⟨h1, h2⟩
  · refine x_isiB (r := false) (.base (.lst h2)) (by decide +kernel) ?_
    walk_at "q"
    refine ⟨sz rfl, fun t1 ht1 => ?_⟩; generalize hN1 : upd _ t1 _ = H1; obtain ⟨s1, e1⟩ := nws hN1 ht1
    walk_at "q"
    refine x_isiT2 (r := false) (q := true) e1 (.base (.lst (s1 _ _ h2))) (by decide +kernel) (by decide +kernel) ?_
    walk_at "q"
    refine x_T ?_
    walk_at "q"
    refine ⟨sz rfl, fun t2 ht2 => ?_⟩; generalize hN2 : upd _ t2 _ = H2; obtain ⟨s2, e2⟩ := nws hN2 ht2
    have s12 := s1.trans s2
    have g1 := s12 _ _ h1
    have g2 := s12 _ _ h2
    walk_at "q"
    refine x_isiT2 (r := false) (q := true) e2 (.base (.lst g1)) (by decide +kernel) (by decide +kernel) ?_
    walk_at "q"
    refine x_F ?_
    walk_at "q"
    refine x_isi_ll g1 ?_
    walk_at "q"
    refine x_isi_ll g2 ?_
    walk_at "q"
    refine x_ifnd (fun hne => absurd rfl hne) fun _ => ?_
    walk_at "q"
    refine x_lenL (SqL.of g1) ?_
    walk_at "q"
    refine x_lenL (SqL.of g2) ?_
    walk_at "q"
    rw [hl]
    refine x_ifnd (fun hne => absurd rfl hne) fun _ => ?_
    walk_at "q"
    refine x_lenL (SqL.of g2) ?_
    walk_at "q"
    refine x_iR1At (by omega) (by omega) ?_
    refine x_lcA walk_range (fun i acc _ => acc = []) (fun _ _ _ _ _ _ _ h => h) (fun _ _ => rfl) (by omega) (fun _ _ => trivial) ?_ ?_
    · rintro i y acc H3 H4 NT NF hT hF hi s3 rfl ⟨rfl, rfl⟩
      have hi' : i < ys.length := by omega
      have hx : xs[i]? = some xs[i] := List.getElem?_eq_getElem (by omega)
      have hy : ys[i]? = some ys[i] := List.getElem?_eq_getElem hi'
      have ax : atI xs ((0 : Int) + (i : Nat)) = some xs[i] := by
        rw [Int.zero_add]
        exact atI_nat hx
      have ay : atI ys ((0 : Int) + (i : Nat)) = some ys[i] := by
        rw [Int.zero_add]
        exact atI_nat hy
      walk_at "q"
      refine ⟨rfl, ?_⟩
      walk_at "q"
      refine x_ixL (SqL.of (s3 _ _ g1)) ax ?_
      walk_at "q"
      refine x_ixL (SqL.of (s3 _ _ g2)) ay ?_
      walk_at "q"
      refine ⟨_, _, rfl, m _ _ _ _ (s12.trans s3) (hR i _ _ hx hy), fun H5 s5 => ?_⟩
      walk_at "q"
      exact hF _ s5 rfl
    rintro D acc H3 hD s3 hD3 rfl hdl
    walk_at "q"
    refine ⟨sz rfl, fun t4 ht4 => ?_⟩; generalize hN4 : upd _ t4 _ = H4; obtain ⟨s4, e4⟩ := nws hN4 ht4
    refine x_eqL (ns := []) (ms := []) (SqL.of (s4 _ _ hD3)) (SqL.of e4) ?_
    exact k _ (s12.trans (s3.trans s4))
  · refine x_isiB (r := false) (.base (.tup h2)) (by decide +kernel) ?_
    walk_at "q"
    refine ⟨sz rfl, fun t1 ht1 => ?_⟩; generalize hN1 : upd _ t1 _ = H1; obtain ⟨s1, e1⟩ := nws hN1 ht1
    walk_at "q"
    refine x_isiT2 (r := true) (q := false) e1 (.base (.tup (s1 _ _ h2))) (by decide +kernel) (by decide +kernel) ?_
    walk_at "q"
    refine x_T ?_
    walk_at "q"
    refine ⟨sz rfl, fun t2 ht2 => ?_⟩; generalize hN2 : upd _ t2 _ = H2; obtain ⟨s2, e2⟩ := nws hN2 ht2
    have s12 := s1.trans s2
    have g1 := s12 _ _ h1
    have g2 := s12 _ _ h2
    walk_at "q"
    refine x_isiT2 (r := true) (q := false) e2 (.base (.tup g1)) (by decide +kernel) (by decide +kernel) ?_
    walk_at "q"
    refine x_F ?_
    walk_at "q"
    refine x_isi_tl g1 ?_
    walk_at "q"
    refine x_isi_tl g2 ?_
    walk_at "q"
    refine x_ifnd (fun hne => absurd rfl hne) fun _ => ?_
    walk_at "q"
    refine x_lenT (SqT.of g1) ?_
    walk_at "q"
    refine x_lenT (SqT.of g2) ?_
    walk_at "q"
    rw [hl]
    refine x_ifnd (fun hne => absurd rfl hne) fun _ => ?_
    walk_at "q"
    refine x_lenT (SqT.of g2) ?_
    walk_at "q"
    refine x_iR1At (by omega) (by omega) ?_
    refine x_lcA walk_range (fun i acc _ => acc = []) (fun _ _ _ _ _ _ _ h => h) (fun _ _ => rfl) (by omega) (fun _ _ => trivial) ?_ ?_
    · rintro i y acc H3 H4 NT NF hT hF hi s3 rfl ⟨rfl, rfl⟩
      have hi' : i < ys.length := by omega
      have hx : xs[i]? = some xs[i] := List.getElem?_eq_getElem (by omega)
      have hy : ys[i]? = some ys[i] := List.getElem?_eq_getElem hi'
      have ax : atI xs ((0 : Int) + (i : Nat)) = some xs[i] := by
        rw [Int.zero_add]
        exact atI_nat hx
      have ay : atI ys ((0 : Int) + (i : Nat)) = some ys[i] := by
        rw [Int.zero_add]
        exact atI_nat hy
      walk_at "q"
      refine ⟨rfl, ?_⟩
      walk_at "q"
      refine x_ixT (SqT.of (s3 _ _ g1)) ax ?_
      walk_at "q"
      refine x_ixT (SqT.of (s3 _ _ g2)) ay ?_
      walk_at "q"
      refine ⟨_, _, rfl, m _ _ _ _ (s12.trans s3) (hR i _ _ hx hy), fun H5 s5 => ?_⟩
      walk_at "q"
      exact hF _ s5 rfl
    rintro D acc H3 hD s3 hD3 rfl hdl
    walk_at "q"
    refine ⟨sz rfl, fun t4 ht4 => ?_⟩; generalize hN4 : upd _ t4 _ = H4; obtain ⟨s4, e4⟩ := nws hN4 ht4
    refine x_eqL (ns := []) (ms := []) (SqL.of (s4 _ _ hD3)) (SqL.of e4) ?_
    exact k _ (s12.trans (s3.trans s4))
/-- to begin with -/
theorem fn_never {k0 : Nat} {f : Addr} : FnR P w K mg base CX0 k0 f (fun _ _ _ _ => False) := by
  intros
  intro z
  first | exact False.elim ‹False› | (intros; exact False.elim ‹False›)
theorem fn_or {k0 k1 : Nat} {R S : Hp → V → V → Prop} {f : Addr} (a : FnR P w K mg base CX0 k0 f (spAlk R)) (b : FnR P w K mg base CX0 k1 f (spAlk S)) {k : Nat} (h0 : k0 ≤ k) (h1 : k1 ≤ k) : FnR P w K mg base CX0 k f (spAlk (aOr R S)) := by
  intro A outer s H us vs Q E hr env rv ⟨x, y, e, h, kk⟩
  rcases h with h | h
  · exact a A outer s H us vs Q E (hr.mono h0) env rv ⟨x, y, e, h, kk⟩
  · exact b A outer s H us vs Q E (hr.mono h1) env rv ⟨x, y, e, h, kk⟩
/-- plain values; rows of them; rows of these -/
abbrev A0 : Hp → V → V → Prop := aPl
abbrev A1 : Hp → V → V → Prop := aOr A0 (aSq A0)
abbrev A2 : Hp → V → V → Prop := aOr A1 (aSq A1)
abbrev A3 : Hp → V → V → Prop := aOr A2 (aSq A2)
theorem mono1 : Mono A1 := mono_or mono_pl (mono_sq mono_pl)
theorem mono2 : Mono A2 := mono_or mono1 (mono_sq mono1)
theorem mono3 : Mono A3 := mono_or mono2 (mono_sq mono2)
theorem alk0 (W : Wd K mg) : FnR P w K mg base CX0 3 (ga K "_law_alike") (spAlk A0) := alk_pl W (k0 := 0) fn_never
theorem alk1 (W : Wd K mg) : FnR P w K mg base CX0 6 (ga K "_law_alike") (spAlk A1) := fn_or (alk0 W) (alk_sq W mono_pl (alk0 W)) (by decide) (by decide)
theorem alk2 (W : Wd K mg) : FnR P w K mg base CX0 9 (ga K "_law_alike") (spAlk A2) := fn_or (alk1 W) (alk_sq W mono1 (alk1 W)) (by decide) (by decide)
theorem ok__law_alike (W : Wd K mg) : FnR P w K mg base CX0 12 (ga K "_law_alike") (spAlk A3) := fn_or (alk2 W) (alk_sq W mono2 (alk2 W)) (by decide) (by decide)
end
end K42

set_option Elab.async false
set_option linter.all false
set_option autoImplicit false
set_option maxRecDepth 100000
set_option pp.maxSteps 500
set_option maxHeartbeats 4000000
namespace K42
open PySem PySem.Spec PyProof.Rows L2 He ChH Ch LamX
local macro_rules | `(tactic| walk_at "x1") => `(tactic| first
  | ((with_reducible apply x_var); exact rfl)
  | with_reducible refine x_c ?_
  | with_reducible refine x_op ?_
  | with_reducible refine x_seq ?_
  | with_reducible refine x_asg ?_
  | with_reducible refine x_gname ?_
  | with_reducible refine x_cons ?_
  | with_reducible refine x_nil ?_
  | with_reducible refine x_fld ?_
  | with_reducible refine x_ret ?_
  | with_reducible refine x_ifS ?_
  | with_reducible refine x_test ?_
  | with_reducible refine x_ex ?_
  | with_reducible refine x_call ?_
  | with_reducible refine x_mk ?_
  | with_reducible refine x_meth ?_
  | with_reducible refine x_prop ?_
  | with_reducible refine x_cb ?_
  | with_reducible refine x_tup ?_
  | with_reducible refine x_lst ?_
  | with_reducible refine x_drop ?_
  | with_reducible refine x_for ?_
  | with_reducible refine x_iL ?_
  | with_reducible refine x_iT ?_
  | with_reducible refine x_iE ?_
  | with_reducible refine x_iU ?_
  | with_reducible refine x_iR1 ?_
  | with_reducible refine x_iR2 ?_
  | with_reducible refine x_gcons ?_
  | with_reducible refine x_gnil ?_
  | with_reducible refine x_par ?_
  | with_reducible refine x_lstRg ?_
  | with_reducible refine x_rg1 ?_
  | with_reducible refine x_rg1At ?_
  | with_reducible refine x_par3 ?_
  | with_reducible refine x_bm ?_
  | with_reducible refine x_bm0 ?_
  | with_reducible refine x_gSub ?_
  | with_reducible refine x_lc ?_
  | with_reducible refine x_yes ?_
  | with_reducible refine x_setf ?_
  | with_reducible refine x_next ?_
  | with_reducible refine x_B ?_
  | with_reducible refine x_and ?_
  | with_reducible refine x_or ?_
  | with_reducible refine x_not ?_
  | with_reducible refine x_andV ?_
  | with_reducible refine x_orV ?_
  | with_reducible refine x_notV ?_
  | with_reducible refine x_ifE ?_
  | with_reducible refine x_chain ?_
  | with_reducible refine x_chain3 ?_
  | with_reducible refine x_un ?_
  | with_reducible refine x_isNe ?_
  | with_reducible refine x_notNe ?_
  | with_reducible refine x_starA ?_
  | with_reducible refine x_plusI ?_
  | with_reducible refine x_minus ?_
  | with_reducible refine x_lt ?_
  | with_reducible refine x_le ?_
  | with_reducible refine x_gt ?_
  | with_reducible refine x_ge ?_
  | with_reducible refine x_eqI ?_
  | with_reducible refine x_neI ?_
  | with_reducible refine x_eqS ?_
  | with_reducible refine x_eqB ?_
  | with_reducible refine x_neB ?_
  | with_reducible refine x_int ?_
  | with_reducible refine x_intB ?_
  | with_reducible refine x_max2 ?_
  | with_reducible refine x_min2 ?_
  | with_reducible refine x_max3 ?_
  | with_reducible refine x_abs ?_
  | with_reducible refine x_neg ?_
  | with_reducible refine x_isi_ii ?_
  | with_reducible refine x_isi_ib ?_
  | with_reducible refine x_T ?_
  | with_reducible refine x_nT ?_
  | with_reducible refine x_nF ?_
  | with_reducible refine x_F ?_)
local macro_rules | `(tactic| walk_at "x") => `(tactic| repeat walk_at "x1")

local macro_rules | `(tactic| walk_at "q1") => `(tactic| first
  | walk_at "x1"
  | with_reducible refine x_sl ?_
  | with_reducible refine x_cmeth ?_
  | with_reducible refine x_noPart ?_
  | with_reducible refine x_part ?_
  | with_reducible refine x_partI ?_)
local macro_rules | `(tactic| walk_at "q") => `(tactic| repeat walk_at "q1")

/-! ### _law_outcome and what it got -/
/-- what an error is: which of the nine kinds -/
structure OutC (K : PySem.W.Frag) (C : Addr) (i : Nat) : Prop where
  T : ExcC K C
  xm : PySem.W.exmOne K (.ref C) (.ref (ga K "ChairError")) = some true
  ve : PySem.W.kitOne K (.ref C) (.type "ValueError") = some true
  k0 : PySem.W.kitOne K (.ref C) (.ref (ga K "DaybookError")) = some (decide (i = 0))
  k1 : PySem.W.kitOne K (.ref C) (.ref (ga K "DecodeError")) = some (decide (i = 1))
  k2 : PySem.W.kitOne K (.ref C) (.ref (ga K "InvalidBooking")) = some (decide (i = 2))
  k3 : PySem.W.kitOne K (.ref C) (.ref (ga K "InvalidNumber")) = some (decide (i = 3))
  k4 : PySem.W.kitOne K (.ref C) (.ref (ga K "InvalidOperation")) = some (decide (i = 4))
  k5 : PySem.W.kitOne K (.ref C) (.ref (ga K "InvalidPlan")) = some (decide (i = 5))
  k6 : PySem.W.kitOne K (.ref C) (.ref (ga K "InvalidText")) = some (decide (i = 6))
  k7 : PySem.W.kitOne K (.ref C) (.ref (ga K "NotEnough")) = some (decide (i = 7))
  k8 : PySem.W.kitOne K (.ref C) (.ref (ga K "TooFewChairs")) = some (decide (i = 8))
def outW (i : Nat) : Str := match i with
  | 0 => "daybook" | 1 => "code" | 2 => "booking" | 3 => "number" | 4 => "operation" | 5 => "plan" | 6 => "text" | 7 => "enough" | _ => "few"
def outF (i : Nat) : Str := match i with
  | 0 => "row" | 1 => "offset" | 6 => "row" | _ => "index"
def L9 (i : Nat) : List V := [.bl (decide (i = 0)), .bl (decide (i = 1)), .bl (decide (i = 2)), .bl (decide (i = 3)), .bl (decide (i = 4)), .bl (decide (i = 5)), .bl (decide (i = 6)), .bl (decide (i = 7)), .bl (decide (i = 8))]
theorem lt9 {i : Nat} (h : i < 9) : i = 0 ∨ i = 1 ∨ i = 2 ∨ i = 3 ∨ i = 4 ∨ i = 5 ∨ i = 6 ∨ i = 7 ∨ i = 8 := by omega
theorem l9_cnt {i : Nat} (h : i < 9) : (L9 i).countP (fun z => eqV z (.bl true)) = 1 := by
  rcases lt9 h with h | h | h | h | h | h | h | h | h <;> subst h <;> decide
theorem l9_at {i : Nat} (h : i < 9) : (L9 i)[i]? = some (.bl true) := by
  rcases lt9 h with h | h | h | h | h | h | h | h | h <;> subst h <;> rfl
theorem l9_no {i : Nat} (h : i < 9) (m : Nat) (z' : V) (hm : m < i) (e : (L9 i)[m]? = some z') : eqV z' (.bl true) = false := by
  have hm9 : m < 9 := by omega
  have ne : ¬ i = m := by omega
  have : (L9 i)[m]? = some (.bl (decide (i = m))) := by
    rcases lt9 hm9 with h | h | h | h | h | h | h | h | h <;> subst h <;> rfl
  rw [this, decide_eq_false ne] at e
  cases e
  rfl
theorem w9_at {i : Nat} (h : i < 9) : ([.str "daybook", .str "code", .str "booking", .str "number", .str "operation", .str "plan", .str "text", .str "enough", .str "few"] : List V)[i]? = some (.str (outW i)) := by
  rcases lt9 h with h | h | h | h | h | h | h | h | h <;> subst h <;> rfl
theorem in9a {i : Nat} (h : i < 9) : inV (.str (outW i)) [.str "operation", .str "plan", .str "few"] = decide (i = 4 ∨ i = 5 ∨ i = 8) := by
  rcases lt9 h with h | h | h | h | h | h | h | h | h <;> subst h <;> decide
theorem in9b {i : Nat} (h : i < 9) : inV (.str (outW i)) [.str "daybook", .str "text"] = decide (i = 0 ∨ i = 6) := by
  rcases lt9 h with h | h | h | h | h | h | h | h | h <;> subst h <;> decide
theorem is9 {i : Nat} (h : i < 9) : decide (outW i = "code") = decide (i = 1) := by
  rcases lt9 h with h | h | h | h | h | h | h | h | h <;> subst h <;> decide
/-- an error that tells nothing more -/
def outN (K : PySem.W.Frag) (Q : VK) (cls : Value) (d : Option Addr) (H' : Hp) : Prop := ∃ C i, cls = .ref C ∧ OutC K C i ∧ (i = 2 ∨ i = 3 ∨ i = 7) ∧ d = none ∧ ∀ t H2, H' t = none → Same H' H2 → H2 t = some (.tup [.str (outW i)]) → Q (.ref t) H2
/-- an error with a field -/
def outX (K : PySem.W.Frag) (Q : VK) (cls : Value) (d : Option Addr) (H' : Hp) : Prop := ∃ C i dd v, cls = .ref C ∧ OutC K C i ∧ (i = 0 ∨ i = 1 ∨ i = 4 ∨ i = 5 ∨ i = 6 ∨ i = 8) ∧ XfC K C ∧ PySem.W.findIn K (.ref C) (outF i) = some none ∧ d = some dd ∧ H' dd = some (.xd [(outF i, v)]) ∧
  ∀ t H2, H' t = none → Same H' H2 → H2 t = some (.tup [.str (outW i), v]) → Q (.ref t) H2
def TTo (K : PySem.W.Frag) : (XK → Hp → VK → Prop) → Hp → VK → Prop := fun tl H Q => tl (fun cls d H' => outN K Q cls d H' ∨ outX K Q cls d H') H fun v H1 => [V.str "value", v].length ≤ sizeLine ∧ ∀ t, H1 t = none → Q (.ref t) (upd H1 t (.tup [.str "value", v]))
theorem x_TTo {K : PySem.W.Frag} {tl : XK → Hp → VK → Prop} {H : Hp} {Q : VK} (k : tl (fun cls d H' => outN K Q cls d H' ∨ outX K Q cls d H') H fun v H1 => [V.str "value", v].length ≤ sizeLine ∧ ∀ t, H1 t = none → Q (.ref t) (upd H1 t (.tup [.str "value", v]))) : TTo K tl H Q := k
theorem law_outcome_gives {X : Cx} {cdg : Value} {q : Str} (W : Wd X.K X.mg) (hrr : Room 3 X.A) : GivesTo X N__law_outcome "_law_outcome" (defScope s__law_outcome) (ga X.K "_law_outcome") cdg (defBody s__law_outcome) "_law_call" q (TTo X.K) := by
  intro f c' s H Q tl act hc h
  have hu : (cxOf C8.CX0 X.prog X.w X.K X.mg X.base N__law_outcome "_law_outcome" (defScope s__law_outcome) (ga X.K "_law_outcome") cdg X.A X.stack s H C8.E0).nox.A.units + 64 < cLine := (hrr.deeper _).units
  refine ⟨_, pss_one (ps_try_cl (X := (cxOf C8.CX0 X.prog X.w X.K X.mg X.base N__law_outcome "_law_outcome" (defScope s__law_outcome) (ga X.K "_law_outcome") cdg X.A X.stack s H C8.E0).nox)
      (tb := fun W D σ H => ∃ Ech : XK, (∀ cls d σ' H', σ'.length = 5 → Ech cls d H' → W cls d σ' H') ∧ σ[0]? = some (some (.ref f)) ∧ H c' = some (CodeO c' q) ∧ tl Ech H fun v H1 => [V.str "value", v].length ≤ sizeLine ∧ ∀ t, H1 t = none → D.rt (.ref t) (upd H1 t (.tup [.str "value", v])))
      rfl rfl sc__law_outcome.nd L2.takes0 (fun W pn xe tk _ => ?_)
      (.as (i := 1) (c := .ref (ga X.K "ChairError")) rfl rfl ⟨rfl, by decide, .inl W.g_ChairError⟩ (fun a oe cls d pn hz hf => (pss_cons (ps_set (i := 2) sc__law_outcome.nd rfl (Or.inl rfl) (pe_lst (pa_cons (pe_callB (call_isXK X.K hz hf) (by rfl) W.f_isinstance (by decide +kernel) (pa_cons (pv 1) (pa_cons (pe_gr W.g_DaybookError rfl) pa_nil))) (pa_cons (pe_callB (call_isXK X.K hz hf) (by rfl) W.f_isinstance (by decide +kernel) (pa_cons (pv 1) (pa_cons (pe_gr W.g_DecodeError rfl) pa_nil))) (pa_cons (pe_callB (call_isXK X.K hz hf) (by rfl) W.f_isinstance (by decide +kernel) (pa_cons (pv 1) (pa_cons (pe_gr W.g_InvalidBooking rfl) pa_nil))) pa_nil))))) (pss_cons (ps_expr (pe_bmK X.K PySem.F.plainAttrs_list PySem.F.slot_list_extend PySem.F.type_list_extend mt_extend (pv 2) (pa_cons (pe_lst (pa_cons (pe_callB (call_isXK X.K hz hf) (by rfl) W.f_isinstance (by decide +kernel) (pa_cons (pv 1) (pa_cons (pe_gr W.g_InvalidNumber rfl) pa_nil))) (pa_cons (pe_callB (call_isXK X.K hz hf) (by rfl) W.f_isinstance (by decide +kernel) (pa_cons (pv 1) (pa_cons (pe_gr W.g_InvalidOperation rfl) pa_nil))) (pa_cons (pe_callB (call_isXK X.K hz hf) (by rfl) W.f_isinstance (by decide +kernel) (pa_cons (pv 1) (pa_cons (pe_gr W.g_InvalidPlan rfl) pa_nil))) pa_nil)))) pa_nil))) (pss_cons (ps_expr (pe_bmK X.K PySem.F.plainAttrs_list PySem.F.slot_list_extend PySem.F.type_list_extend mt_extend (pv 2) (pa_cons (pe_lst (pa_cons (pe_callB (call_isXK X.K hz hf) (by rfl) W.f_isinstance (by decide +kernel) (pa_cons (pv 1) (pa_cons (pe_gr W.g_InvalidText rfl) pa_nil))) (pa_cons (pe_callB (call_isXK X.K hz hf) (by rfl) W.f_isinstance (by decide +kernel) (pa_cons (pv 1) (pa_cons (pe_gr W.g_NotEnough rfl) pa_nil))) (pa_cons (pe_callB (call_isXK X.K hz hf) (by rfl) W.f_isinstance (by decide +kernel) (pa_cons (pv 1) (pa_cons (pe_gr W.g_TooFewChairs rfl) pa_nil))) pa_nil)))) pa_nil))) (pss_cons (ps_if (PW.pt (pw_or (pt_cmpR (op_neK X.K hu) (pe_bmK X.K PySem.F.plainAttrs_list PySem.F.slot_list_count PySem.F.type_list_count (mt_countK X.K) (pv 2) (pa_cons pe_bl pa_nil)) pe_int (nomark _)) (pw_or1 (pt_not (pt_val (pe_callB (call_isXK X.K hz hf) (by rfl) W.f_isinstance (by decide +kernel) (pa_cons (pv 1) (pa_cons (pe_bltn (v := .ty "ValueError") (by rfl) W.f_ValueError (by decide +kernel) rfl) pa_nil)))))))) (pss_one (ps_ret (pe_tup (pa_cons pe_str pa_nil)))) pss_nil) (pss_cons (ps_set (i := 3) sc__law_outcome.nd rfl (Or.inl rfl) (pe_lst (pa_cons pe_str (pa_cons pe_str (pa_cons pe_str (pa_cons pe_str (pa_cons pe_str (pa_cons pe_str (pa_cons pe_str (pa_cons pe_str (pa_cons pe_str pa_nil))))))))))) (pss_cons (ps_set (i := 4) sc__law_outcome.nd rfl (Or.inl rfl) (pe_ix (ix_K X.K) (pv 3) (pe_bmK X.K PySem.F.plainAttrs_list PySem.F.slot_list_index PySem.F.type_list_index (mt_indexK X.K) (pv 2) (pa_cons pe_bl pa_nil)) (fun _ _ => rfl))) (pss_cons (ps_if (pt_cmpR (op_inK X.K) (pv 4) (pe_tup (pa_cons pe_str (pa_cons pe_str (pa_cons pe_str pa_nil)))) rfl) (pss_one (ps_ret (pe_tup (pa_cons (pv 4) (pa_cons (pe_xfAK X.K hz hf (pv 1)) pa_nil))))) pss_nil) (pss_cons (ps_if (pt_cmpR (op_inK X.K) (pv 4) (pe_tup (pa_cons pe_str (pa_cons pe_str pa_nil))) rfl) (pss_one (ps_ret (pe_tup (pa_cons (pv 4) (pa_cons (pe_xfAK X.K hz hf (pv 1)) pa_nil))))) pss_nil) (pss_one (ps_ret (pe_ifExp (pt_cmpR (op_eqK X.K hu) (pv 4) pe_str (nomark _)) (pe_tup (pa_cons (pv 4) (pa_cons (pe_xfAK X.K hz hf (pv 1)) pa_nil))) (pe_tup (pa_cons (pv 4) pa_nil)))))))))))))) .nil)), ?_⟩
  · refine ⟨fun pins s' σ H' D I h' => ?_⟩
    obtain ⟨Ech, hW, h1, h2, h3⟩ := h'
    exact L2.PSs.run (t := tRet (tTup (tCons (tC (.str "value")) (tCons (fun σZ HZ Q => σZ[0]? = some (some (V.ref f)) ∧ HZ c' = some (CodeO c' q) ∧ tl Ech HZ Q) tNil)))) (pss_one (ps_ret (pe_tup (pa_cons pe_str (pa_cons (act _ pn xe Ech _ _ (takes_len tk) fun cls d σ' H' he hl => hW cls d σ' H' hl he) pa_nil))))) pins s' σ H' D I ⟨h1, h2, h3⟩
  · refine ⟨fun cls d H' => outN X.K Q cls d H' ∨ outX X.K Q cls d H', fun cls d σ' H' hl hE => ?_, rfl, hc, h⟩
    obtain ⟨u0, u1, u2, u3, u4, rfl⟩ : ∃ u0 u1 u2 u3 u4, σ' = [u0, u1, u2, u3, u4] := match σ', hl with | [u0, u1, u2, u3, u4], _ => ⟨u0, u1, u2, u3, u4, rfl⟩
    have hC : ∃ C i, cls = .ref C ∧ OutC X.K C i ∧ DxAt H' d ∧ i < 9 ∧ (((i = 2 ∨ i = 3 ∨ i = 7) ∧ ∀ t H2, H' t = none → Same H' H2 → H2 t = some (.tup [.str (outW i)]) → Q (.ref t) H2) ∨
        ((i = 0 ∨ i = 1 ∨ i = 4 ∨ i = 5 ∨ i = 6 ∨ i = 8) ∧ XfC X.K C ∧ PySem.W.findIn X.K (.ref C) (outF i) = some none ∧ ∃ dd v, d = some dd ∧ H' dd = some (.xd [(outF i, v)]) ∧ ∀ t H2, H' t = none → Same H' H2 → H2 t = some (.tup [.str (outW i), v]) → Q (.ref t) H2)) := by
      rcases hE with ⟨C, i, e1, O, hi, e2, kk⟩ | ⟨C, i, dd, v, e1, O, hi, hx, hno, e2, e3, kk⟩
      · exact ⟨C, i, e1, O, .inl e2, by omega, .inl ⟨hi, kk⟩⟩
      · exact ⟨C, i, e1, O, .inr ⟨dd, _, e2, e3⟩, by omega, .inr ⟨hi, hx, hno, dd, v, e2, e3, kk⟩⟩
    obtain ⟨C, i, e1, O, hd, hi, hF⟩ := hC
    clear hE
    subst e1
    refine ⟨true, O.xm, fun _ a ha => ?_, fun z => nomatch z⟩
    unfold Cl.run
    dsimp only
    walk_at "q"
    refine x_isX O.T hd (.own _) O.k0 ?_
    walk_at "q"
    refine x_isX O.T hd (.own _) O.k1 ?_
    walk_at "q"
    refine x_isX O.T hd (.own _) O.k2 ?_
    walk_at "q"
    refine ⟨sz rfl, fun t1 ht1 => ?_⟩; generalize hN1 : upd _ t1 _ = H1; obtain ⟨s1, e1⟩ := nws hN1 ht1
    have hd1 := hd.mono s1
    walk_at "q"
    refine ⟨ty_lst e1, ?_⟩
    walk_at "q"
    refine x_isX O.T hd1 (.own _) O.k3 ?_
    walk_at "q"
    refine x_isX O.T hd1 (.own _) O.k4 ?_
    walk_at "q"
    refine x_isX O.T hd1 (.own _) O.k5 ?_
    walk_at "q"
    refine ⟨sz rfl, fun t2 ht2 => ?_⟩; generalize hN2 : upd _ t2 _ = H2; obtain ⟨s2, e2⟩ := nws hN2 ht2
    walk_at "q"
    refine ⟨t1, t2, _, _, rfl, rfl, s2 _ _ e1, e2, sz5 (Nat.le_of_ble_eq_true rfl), ?_⟩
    have s3 : Same H' (upd H2 t1 (.lst ([.bl (decide (i = 0)), .bl (decide (i = 1)), .bl (decide (i = 2))] ++ [.bl (decide (i = 3)), .bl (decide (i = 4)), .bl (decide (i = 5))]))) := Same.mut (s1.trans s2) ht1
    have e3 : (upd H2 t1 (.lst ([.bl (decide (i = 0)), .bl (decide (i = 1)), .bl (decide (i = 2))] ++ [.bl (decide (i = 3)), .bl (decide (i = 4)), .bl (decide (i = 5))]))) t1 = some (.lst ([.bl (decide (i = 0)), .bl (decide (i = 1)), .bl (decide (i = 2))] ++ [.bl (decide (i = 3)), .bl (decide (i = 4)), .bl (decide (i = 5))])) := upd_same
    generalize upd H2 t1 _ = H3 at s3 e3 ⊢
    have hd3 := hd.mono s3
    walk_at "q"
    refine ⟨ty_lst e3, ?_⟩
    walk_at "q"
    refine x_isX O.T hd3 (.own _) O.k6 ?_
    walk_at "q"
    refine x_isX O.T hd3 (.own _) O.k7 ?_
    walk_at "q"
    refine x_isX O.T hd3 (.own _) O.k8 ?_
    walk_at "q"
    refine ⟨sz rfl, fun t4 ht4 => ?_⟩; generalize hN4 : upd _ t4 _ = H4; obtain ⟨s4, e4⟩ := nws hN4 ht4
    walk_at "q"
    refine ⟨t1, t4, _, _, rfl, rfl, s4 _ _ e3, e4, sz5 (Nat.le_of_ble_eq_true rfl), ?_⟩
    have s5 : Same H' (upd H4 t1 (.lst ([.bl (decide (i = 0)), .bl (decide (i = 1)), .bl (decide (i = 2)), .bl (decide (i = 3)), .bl (decide (i = 4)), .bl (decide (i = 5)), .bl (decide (i = 6)), .bl (decide (i = 7)), .bl (decide (i = 8))]))) := Same.mut (s3.trans s4) ht1
    have e5 : (upd H4 t1 (.lst (L9 i))) t1 = some (.lst (L9 i)) := upd_same
    show tNext _ _ (upd H4 t1 (.lst (L9 i)))
    have s5 : Same H' (upd H4 t1 (.lst (L9 i))) := s5
    generalize upd H4 t1 _ = H5 at s5 e5 ⊢
    have hd5 := hd.mono s5
    walk_at "q"
    refine ⟨ty_lst e5, ?_⟩
    walk_at "q"
    refine ⟨t1, L9 i, .bl true, rfl, rfl, SqL.of e5, rfl, rfl, ?_⟩
    rw [l9_cnt hi]
    walk_at "q"
    rw [show decide (((1 : Nat) : Int) = 1) = true from rfl]
    walk_at "q"
    refine x_isX O.T hd5 (.ty _) O.ve ?_
    walk_at "q"
    refine ⟨sz rfl, fun t6 ht6 => ?_⟩; generalize hN6 : upd _ t6 _ = H6; obtain ⟨s6, e6⟩ := nws hN6 ht6
    walk_at "q"
    refine ⟨ty_lst (s6 _ _ e5), ?_⟩
    walk_at "q"
    refine ⟨t1, L9 i, .bl true, i, .bl true, rfl, rfl, SqL.of (s6 _ _ e5), rfl, rfl, l9_at hi, rfl, l9_no hi, ?_⟩
    refine x_ixL (SqL.of e6) (atI_nat (w9_at hi)) ?_
    walk_at "q"
    refine ⟨sz rfl, fun t7 ht7 => ?_⟩; generalize hN7 : upd _ t7 _ = H7; obtain ⟨s7, e7⟩ := nws hN7 ht7
    refine x_inT (SqT.of e7) rfl rfl ?_
    rw [in9a hi]
    walk_at "q"
    have sF := s5.trans (s6.trans s7)
    have lk : ∀ (f : Str) (v : V), List.lookup f [(f, v)] = some v := fun f v => by simp
    refine x_ifd (fun ha9 => ?_) fun ha9 => ?_
    · rcases hF with ⟨hi', _⟩ | ⟨hi', hx, hno, dd, v, e2', e3', kk⟩
      · omega
      have ef : outF i = "index" := by rcases ha9 with h | h | h <;> subst h <;> rfl
      rw [ef] at hno e3'
      walk_at "q"
      refine x_xa hx hno (x_xf ?_)
      walk_at "q"
      refine ⟨rfl, rfl, dd, _, v, e2', sF _ _ e3', lk _ _, ?_⟩
      walk_at "q"
      refine ⟨sz rfl, fun t8 ht8 => ?_⟩; generalize hN8 : upd _ t8 _ = H8; obtain ⟨s8, e8⟩ := nws hN8 ht8
      exact kk t8 H8 (sF.free ht8) (sF.trans s8) e8
    · walk_at "q"
      refine ⟨sz rfl, fun t8 ht8 => ?_⟩; generalize hN8 : upd _ t8 _ = H8; obtain ⟨s8, e8⟩ := nws hN8 ht8
      refine x_inT (SqT.of e8) rfl rfl ?_
      rw [in9b hi]
      walk_at "q"
      have sG := sF.trans s8
      refine x_ifd (fun hb9 => ?_) fun hb9 => ?_
      · rcases hF with ⟨hi', _⟩ | ⟨hi', hx, hno, dd, v, e2', e3', kk⟩
        · omega
        have ef : outF i = "row" := by rcases hb9 with h | h <;> subst h <;> rfl
        rw [ef] at hno e3'
        walk_at "q"
        refine x_xa hx hno (x_xf ?_)
        walk_at "q"
        refine ⟨rfl, rfl, dd, _, v, e2', sG _ _ e3', lk _ _, ?_⟩
        walk_at "q"
        refine ⟨sz rfl, fun t9 ht9 => ?_⟩; generalize hN9 : upd _ t9 _ = H9; obtain ⟨s9, e9⟩ := nws hN9 ht9
        exact kk t9 H9 (sG.free ht9) (sG.trans s9) e9
      · walk_at "q"
        rw [is9 hi]
        refine x_ifd (fun hc9 => ?_) fun hc9 => ?_
        · rcases hF with ⟨hi', _⟩ | ⟨hi', hx, hno, dd, v, e2', e3', kk⟩
          · omega
          have ef : outF i = "offset" := by subst hc9; rfl
          rw [ef] at hno e3'
          walk_at "q"
          refine x_xa hx hno (x_xf ?_)
          walk_at "q"
          refine ⟨rfl, rfl, dd, _, v, e2', sG _ _ e3', lk _ _, ?_⟩
          walk_at "q"
          refine ⟨sz rfl, fun t9 ht9 => ?_⟩; generalize hN9 : upd _ t9 _ = H9; obtain ⟨s9, e9⟩ := nws hN9 ht9
          exact kk t9 H9 (sG.free ht9) (sG.trans s9) e9
        · rcases hF with ⟨hi', kk⟩ | ⟨hi', _⟩
          · walk_at "q"
            refine ⟨sz rfl, fun t9 ht9 => ?_⟩; generalize hN9 : upd _ t9 _ = H9; obtain ⟨s9, e9⟩ := nws hN9 ht9
            exact kk t9 H9 (sG.free ht9) (sG.trans s9) e9
          · omega
theorem law_outcome_givesK {X : Cx} {cdg : Value} {q : Str} (K : PySem.W.Frag) (W : Wd K X.mg) (hrr : Room 3 X.A) (hK : X.K = K := by rfl) : GivesTo X N__law_outcome "_law_outcome" (defScope s__law_outcome) (ga K "_law_outcome") cdg (defBody s__law_outcome) "_law_call" q (TTo K) := by
  subst hK
  exact law_outcome_gives W hrr
end K42

set_option Elab.async false
set_option linter.all false
set_option autoImplicit false
set_option maxRecDepth 100000
set_option pp.maxSteps 500
set_option maxHeartbeats 4000000
namespace K42
open PySem PySem.Spec PyProof.Rows L2 He ChH Ch ChM LamX
/-! ### laws of part 2: draws and lambdas -/
section
variable {P : Program} {w : World} {K : PySem.W.Frag} {mg : Str → Option Value} {base : Heap} {H H' : Hp}
/-- a def that may raise, where it does not -/
theorem fn_calm {k : Nat} {f : Addr} {sp : Sp} (F : FnR P w K mg base (CX P w) k f sp) : FnR P w K mg base CX0 k f (fun vs H Q _ => sp vs H Q fun _ _ _ => False) := by
  intro A outer s H us vs Q E hr e0 r hs
  refine codeAny_mono (F A outer s H us vs Q (fun _ _ _ => False) hr e0 r hs) fun z s' hq => ?_
  cases z with
  | error er =>
    obtain ⟨_, _, _, _, _, _, _, _, _, _, _, _, z⟩ := (show CX P w outer H s (fun _ _ _ => False) er s' from hq)
    exact z.elim
  | ok fl => cases fl <;> exact hq
theorem Dr.ext {h q : Addr} (d : Dr H h q) (e : ExtN H H') : Dr H' h q := by
  obtain ⟨m, ix, ns, e1, e2, e3, e4⟩ := d.ex
  exact ⟨⟨m, ix, ns, ExtN.lst e e1, ExtN.lst e e2, e3, e4⟩, d.ne⟩
theorem Dr.keep {h q b : Addr} {o : HO} (d : Dr H h q) (s : Same2 h q H H') (n : ∀ xs, o ≠ .lst xs) (e : H b = some o) : H' b = some o := by
  obtain ⟨m, ix, ns, e1, e2, _, _⟩ := d.ex
  exact s _ _ (fun z => by rw [z, e1] at e; exact n _ (Option.some.inj e).symm) (fun z => by rw [z, e2] at e; exact n _ (Option.some.inj e).symm) e
theorem Dr.tabs {T : List (Addr × Str)} {h q : Addr} (d : Dr H h q) (t : Tabs T H) (s : Same2 h q H H') : Tabs T H' := tabs_keep t fun b o n e => d.keep s n e
theorem Dr.plan {C p h q : Addr} {l : List Stp} (d : Dr H h q) (hp : PlanAt C H p l) (s : Same2 h q H H') : PlanAt C H' p l := by
  obtain ⟨dx, t, vs, h1, h2, h3⟩ := hp.ex
  exact ⟨dx, t, vs, d.keep s (fun xs z => nomatch z) h1, d.keep s (fun xs z => nomatch z) h2, d.steps s h3⟩
theorem pickI (L : List Int) {z : Int} (h0 : 0 ≤ z) (h1 : z < L.length) : ∃ n, n ∈ L ∧ atI (L.map V.int) z = some (.int n) := by
  obtain ⟨j, rfl⟩ : ∃ j : Nat, z = j := ⟨z.toNat, by omega⟩
  have hj : j < L.length := by omega
  exact ⟨L[j], List.getElem_mem hj, atI_nat (by rw [List.getElem?_map, List.getElem?_eq_getElem hj]; rfl)⟩
theorem pickV (L : List V) {z : Int} (h0 : 0 ≤ z) (h1 : z < L.length) : ∃ v, v ∈ L ∧ atI L z = some v := by
  obtain ⟨j, rfl⟩ : ∃ j : Nat, z = j := ⟨z.toNat, by omega⟩
  have hj : j < L.length := by omega
  exact ⟨L[j], List.getElem_mem hj, atI_nat (List.getElem?_eq_getElem hj)⟩
theorem seq2 {h q a : Addr} {xs : List V} (e : Same2 h q H H') (n1 : a ≠ h) (n2 : a ≠ q) (h1 : H a = some (.lst xs)) : H' a = some (.lst xs) := e a _ n1 n2 h1
theorem dp_steps {K : PySem.W.Frag} {H : Hp} : ∀ {vs : List V} {l : List Stp}, StepsAt H vs l → DpAll K H vs (l.map stepD)
  | _, _, .nil => .nil
  | _, _, .cons ⟨p, e, h⟩ t => by
    subst e
    exact .cons (step_dp h) (dp_steps t)
theorem lay_step (s : Stp) : Lay 1 (stepD s) := by
  cases s with
  | turn => exact lay_tup fun d hd => by rw [List.mem_singleton.mp hd]; exact lay_str 0 _ (by decide +kernel)
  | mt b n =>
    refine lay_tup fun d hd => ?_
    rcases List.mem_cons.mp hd with e | hd
    · rw [e]; cases b <;> exact lay_str 0 _ (by decide +kernel)
    · rw [List.mem_singleton.mp hd]; exact lay_int 0 _
theorem x_neSteps {K : PySem.W.Frag} {H : Hp} {Q : VK} {p q : Addr} {vs us : List V} {l : List Stp} (h1 : SqT K H p vs) (hp : StepsAt H vs l) (h2 : SqT K H q us) (hq : StepsAt H us l) (k : Q (.bl false) H) : rNeU K (.ref p) (.ref q) H Q := by
  have l1 : Lay 2 (.tuple (l.map stepD)) := lay_tup fun d hd => by
    obtain ⟨s, _, e⟩ := List.mem_map.mp hd
    rw [← e]
    exact lay_step s
  refine x_neDp (.tup h1 (dp_steps hp)) (.tup h2 (dp_steps hq)) l1.shaped l1.shaped ?_
  rw [PySem.SeqAt.eqv_refl _ l1.1]
  exact k
theorem x_eqSame {K : PySem.W.Frag} {H : Hp} {Q : VK} {p q : Addr} {vs : List V} (h1 : SqT K H p vs) (h2 : SqT K H q vs) (hv : vs.all plV = true) (k : Q (.bl true) H) : rEqU K (.ref p) (.ref q) H Q := by
  have l := lay_tup (pdV_lays hv)
  refine x_eqDp (.tup h1 (pdV_all hv)) (.tup h2 (pdV_all hv)) l.shaped l.shaped ?_
  rw [PySem.SeqAt.eqv_refl _ l.1]
  exact k
theorem x_seqR {t1 t2 : TS} {D : Ends} {σ : L2.St} {H : Hp} (R : L2.St → Hp → Prop) (h1 : ∀ σ' H', R σ' H' → t2 D σ' H') (h2 : ∀ nx : L2.St → Hp → Prop, (∀ σ' H', R σ' H' → nx σ' H') → t1 { D with nx := nx } σ H) : tSeq t1 t2 D σ H := h2 _ h1
theorem cut_from (xs : List V) (i : Nat) (h : i ≤ xs.length) : cutV xs (some (i : Int)) none = xs.drop i := by
  unfold cutV
  rw [HT.sIx_nat, HT.sIx_none, Nat.min_eq_left h]
  exact List.take_of_length_le (by rw [List.length_drop]; exact Nat.le_refl _)
theorem cut_last (xs : List V) (h : 0 < xs.length) : cutV xs none (some (-1)) = xs.take (xs.length - 1) := by
  unfold cutV
  rw [HT.sIx_none, List.drop_zero]
  congr 1
  show (if (-1 : Int) < 0 then ((-1 : Int) + (xs.length : Int)).toNat else min (-1 : Int).toNat xs.length) - 0 = _
  rw [if_pos (by decide)]
  omega
def lamQ : Str := (envOfC "law" (defScope s_law) 0 0 .none).qual ++ "<lambda>"
end
section
variable {K : PySem.W.Frag} {mg : Str → Option Value}
end
end K42

set_option Elab.async false
set_option linter.all false
set_option autoImplicit false
set_option maxRecDepth 100000
set_option pp.maxSteps 500
set_option maxHeartbeats 4000000
namespace K42
open PySem PySem.Spec PyProof.Rows L2 He ChH Ch ChM TxX StrX NumX LsX
local macro_rules | `(tactic| walk_at "x1") => `(tactic| first
  | ((with_reducible apply x_var); exact rfl)
  | with_reducible refine x_c ?_
  | with_reducible refine x_op ?_
  | with_reducible refine x_seq ?_
  | with_reducible refine x_asg ?_
  | with_reducible refine x_gname ?_
  | with_reducible refine x_cons ?_
  | with_reducible refine x_nil ?_
  | with_reducible refine x_fld ?_
  | with_reducible refine x_ret ?_
  | with_reducible refine x_ifS ?_
  | with_reducible refine x_test ?_
  | with_reducible refine x_ex ?_
  | with_reducible refine x_call ?_
  | with_reducible refine x_mk ?_
  | with_reducible refine x_meth ?_
  | with_reducible refine x_prop ?_
  | with_reducible refine x_cb ?_
  | with_reducible refine x_tup ?_
  | with_reducible refine x_lst ?_
  | with_reducible refine x_drop ?_
  | with_reducible refine x_for ?_
  | with_reducible refine x_iL ?_
  | with_reducible refine x_iT ?_
  | with_reducible refine x_iE ?_
  | with_reducible refine x_iU ?_
  | with_reducible refine x_iR1 ?_
  | with_reducible refine x_iR2 ?_
  | with_reducible refine x_gcons ?_
  | with_reducible refine x_gnil ?_
  | with_reducible refine x_par ?_
  | with_reducible refine x_lstRg ?_
  | with_reducible refine x_rg1 ?_
  | with_reducible refine x_rg1At ?_
  | with_reducible refine x_par3 ?_
  | with_reducible refine x_bm ?_
  | with_reducible refine x_bm0 ?_
  | with_reducible refine x_gSub ?_
  | with_reducible refine x_lc ?_
  | with_reducible refine x_yes ?_
  | with_reducible refine x_setf ?_
  | with_reducible refine x_next ?_
  | with_reducible refine x_B ?_
  | with_reducible refine x_and ?_
  | with_reducible refine x_or ?_
  | with_reducible refine x_not ?_
  | with_reducible refine x_andV ?_
  | with_reducible refine x_orV ?_
  | with_reducible refine x_notV ?_
  | with_reducible refine x_ifE ?_
  | with_reducible refine x_chain ?_
  | with_reducible refine x_chain3 ?_
  | with_reducible refine x_un ?_
  | with_reducible refine x_isNe ?_
  | with_reducible refine x_notNe ?_
  | with_reducible refine x_starA ?_
  | with_reducible refine x_plusI ?_
  | with_reducible refine x_minus ?_
  | with_reducible refine x_lt ?_
  | with_reducible refine x_le ?_
  | with_reducible refine x_gt ?_
  | with_reducible refine x_ge ?_
  | with_reducible refine x_eqI ?_
  | with_reducible refine x_neI ?_
  | with_reducible refine x_eqS ?_
  | with_reducible refine x_eqB ?_
  | with_reducible refine x_neB ?_
  | with_reducible refine x_int ?_
  | with_reducible refine x_intB ?_
  | with_reducible refine x_max2 ?_
  | with_reducible refine x_min2 ?_
  | with_reducible refine x_max3 ?_
  | with_reducible refine x_abs ?_
  | with_reducible refine x_neg ?_
  | with_reducible refine x_isi_ii ?_
  | with_reducible refine x_isi_ib ?_
  | with_reducible refine x_T ?_
  | with_reducible refine x_nT ?_
  | with_reducible refine x_nF ?_
  | with_reducible refine x_F ?_)
local macro_rules | `(tactic| walk_at "x") => `(tactic| repeat walk_at "x1")

local macro_rules | `(tactic| walk_at "q1") => `(tactic| first
  | walk_at "x1"
  | with_reducible refine x_sl ?_
  | with_reducible refine x_cmeth ?_
  | with_reducible refine x_noPart ?_
  | with_reducible refine x_part ?_
  | with_reducible refine x_partI ?_)
local macro_rules | `(tactic| walk_at "q") => `(tactic| repeat walk_at "q1")

local macro_rules | `(tactic| walk_at "q1") => `(tactic| with_reducible refine TxX.x_m1 ?_)
section
variable {P : Program} {w : World} {K : PySem.W.Frag} {mg : Str → Option Value} {base : Heap}
abbrev oddW : List Str := ["", "0", "01", "-1", "-0", "x", "turn", "times", "more", "61", "7", "red", "Blue", "alternate"]
/-- a text bent -/
def spBt (K : PySem.W.Frag) : Sp := fun vs H Q _ => ∃ (h q : Addr) (t : Str), vs = [.ref h, .str t] ∧ Dr H h q ∧ t.length ≤ 5000 ∧ PyData.strOk t = true ∧
  ∀ t' H', t'.length ≤ t.length + 12 → PyData.strOk t' = true → Same2 h q H H' → Dr H' h q → Q (.str t') H'
theorem ok__law_bent (W : Wd K mg) : FnR P w K mg base CX0 2 (ga K "_law_bent") (spBt K) := by
  refine (def_ok W.F__law_bent sc__law_bent (fun _ _ _ _ _ _ us hl => match us, hl with | [_, _], _ => rfl) (fun vs H Q E ⟨h, q, t, e, _⟩ => by rw [e]; rfl) fun cdv A outer s H vs Q E hr ⟨h, q, t, e, D, ht, hok, k⟩ => ?_).2
  subst e
  refine ⟨_, PSs.nox (pss_cons (ps_set (i := 2) sc__law_bent.nd rfl (Or.inl rfl) (StrX.pe_splitK (pv 1) pe_str)) (pss_cons (ps_set (i := 3) sc__law_bent.nd rfl (Or.inl rfl) (pe_callR (ok__law_next W) (hr.mono (by decide)) W.g__law_next W.k__law_next pass0 rfl (pa_cons (pv 0) (pa_cons (pe_callB (c_lenK K) (by rfl) W.f_len (by decide +kernel) (pa_cons (pv 2) pa_nil)) pa_nil)))) (pss_cons (ps_set (i := 4) sc__law_bent.nd rfl (Or.inl rfl) (StrX.pe_splitK (pe_ix (ix_K K) (pv 2) (pv 3) (fun _ _ => rfl)) pe_str)) (pss_cons (ps_set (i := 5) sc__law_bent.nd rfl (Or.inl rfl) (pe_callR (ok__law_next W) (hr.mono (by decide)) W.g__law_next W.k__law_next pass0 rfl (pa_cons (pv 0) (pa_cons (pe_callB (c_lenK K) (by rfl) W.f_len (by decide +kernel) (pa_cons (pv 4) pa_nil)) pa_nil)))) (pss_cons (ps_set (i := 6) sc__law_bent.nd rfl (Or.inl rfl) (pe_ix (ix_K K) (pe_lst (pa_cons pe_str (pa_cons pe_str (pa_cons pe_str (pa_cons pe_str (pa_cons pe_str (pa_cons pe_str (pa_cons pe_str (pa_cons pe_str (pa_cons pe_str (pa_cons pe_str (pa_cons pe_str (pa_cons pe_str (pa_cons pe_str (pa_cons pe_str pa_nil))))))))))))))) (pe_callR (ok__law_next W) (hr.mono (by decide)) W.g__law_next W.k__law_next pass0 rfl (pa_cons (pv 0) (pa_cons pe_int pa_nil))) (fun _ _ => rfl))) (pss_cons (ps_set (i := 7) sc__law_bent.nd rfl (Or.inl rfl) (pe_ix (ix_K K) (pe_lst (pa_cons (pe_op op_plus (pe_op op_plus (pe_slice (sl_listK K) (pv 4) po_none (po_some (pv 5))) (pe_lst (pa_cons (pv 6) pa_nil))) (pe_slice (sl_listK K) (pv 4) (po_some (pe_op op_plus (pv 5) pe_int)) po_none)) (pa_cons (pe_op op_plus (pe_slice (sl_listK K) (pv 4) po_none (po_some (pv 5))) (pe_slice (sl_listK K) (pv 4) (po_some (pe_op op_plus (pv 5) pe_int)) po_none)) (pa_cons (pe_op op_plus (pe_op op_plus (pe_slice (sl_listK K) (pv 4) po_none (po_some (pv 5))) (pe_lst (pa_cons (pv 6) pa_nil))) (pe_slice (sl_listK K) (pv 4) (po_some (pv 5)) po_none)) pa_nil)))) (pe_callR (ok__law_next W) (hr.mono (by decide)) W.g__law_next W.k__law_next pass0 rfl (pa_cons (pv 0) (pa_cons pe_int pa_nil))) (fun _ _ => rfl))) (pss_cons (ps_set (i := 8) sc__law_bent.nd rfl (Or.inl rfl) (pe_lst (pa_cons (TxX.pe_joinK K pe_str (pv 7)) pa_nil))) (pss_cons (ps_set (i := 9) sc__law_bent.nd rfl (Or.inl rfl) (pe_lst (pa_cons (pe_op op_plus (pe_op op_plus (pe_slice (sl_listK K) (pv 2) po_none (po_some (pv 3))) (pv 8)) (pe_slice (sl_listK K) (pv 2) (po_some (pe_op op_plus (pv 3) pe_int)) po_none)) (pa_cons (pe_op op_plus (pe_op op_plus (pe_slice (sl_listK K) (pv 2) po_none (po_some (pv 3))) (pv 8)) (pe_slice (sl_listK K) (pv 2) (po_some (pe_op op_plus (pv 3) pe_int)) po_none)) (pa_cons (pe_op op_plus (pe_slice (sl_listK K) (pv 2) po_none (po_some (pv 3))) (pe_slice (sl_listK K) (pv 2) (po_some (pe_op op_plus (pv 3) pe_int)) po_none)) (pa_cons (pe_op op_plus (pv 2) (pe_lst (pa_cons pe_str pa_nil))) pa_nil)))))) (pss_one (ps_ret (TxX.pe_joinK K pe_str (pe_ix (ix_K K) (pv 9) (pe_callR (ok__law_next W) (hr.mono (by decide)) W.g__law_next W.k__law_next pass0 rfl (pa_cons (pv 0) (pa_cons pe_int pa_nil))) (fun _ _ => rfl))))))))))))), ?_⟩
  have Gl := Gd.split nl_tl nl_k hok
  have hlne := split_ne nl_tl nl_k t
  walk_at "q"
  refine ⟨⟨_, rfl⟩, ?_⟩
  walk_at "q"
  refine x_split (by decide +kernel) (by omega) fun p1 hp1 => ?_; generalize hN1 : upd _ p1 _ = H1; obtain ⟨s1, e1⟩ := nws hN1 hp1
  obtain ⟨p1h, p1q⟩ := D.neN hp1
  generalize Txt.split t "\n" = ls at Gl hlne e1
  have hl0 : 0 < ls.length := List.length_pos_iff.mpr hlne
  have hll := Gl.len
  walk_at "q"
  refine x_lenL (SqL.of e1) ?_
  rw [List.length_map]
  walk_at "q"
  refine ⟨h, q, _, rfl, D.mono s1, by omega, by omega, fun z2 H2 z20 z21 s2 D2 => ?_⟩
  obtain ⟨i, rfl, hi⟩ := natOf z20 z21
  obtain ⟨ln, hln⟩ : ∃ ln, ls[i]? = some ln := ⟨_, List.getElem?_eq_getElem hi⟩
  have e2 := s2 _ _ p1h p1q e1
  have S2 : Same2 h q H H2 := (Same2.of s1).trans s2
  walk_at "q"
  refine x_ixL (SqL.of e2) (v := .str ln) (atI_nat (by rw [List.getElem?_map, hln]; rfl)) ?_
  have gln := Gl.at hln
  have Gw := Gd.split sp_tl sp_k gln.2
  have hwne := split_ne sp_tl sp_k ln
  walk_at "q"
  refine ⟨⟨_, rfl⟩, ?_⟩
  walk_at "q"
  refine x_split (by decide +kernel) (by omega) fun p3 hp3 => ?_; generalize hN3 : upd _ p3 _ = H3; obtain ⟨s3, e3⟩ := nws hN3 hp3
  obtain ⟨p3h, p3q⟩ := D2.neN hp3
  generalize Txt.split ln " " = ws at Gw hwne e3
  have hw0 : 0 < ws.length := List.length_pos_iff.mpr hwne
  have hwl := Gw.len
  walk_at "q"
  refine x_lenL (SqL.of e3) ?_
  rw [List.length_map]
  walk_at "q"
  refine ⟨h, q, _, rfl, D2.mono s3, by omega, by omega, fun z4 H4 z40 z41 s4 D4 => ?_⟩
  obtain ⟨j, rfl, hj⟩ := natOf z40 z41
  obtain ⟨wd, hwd⟩ : ∃ wd, ws[j]? = some wd := ⟨_, List.getElem?_eq_getElem hj⟩
  have e4 := s4 _ _ p3h p3q e3
  have el4 := s4 _ _ p1h p1q (s3 _ _ e2)
  have S4 : Same2 h q H H4 := S2.trans ((Same2.of s3).trans s4)
  walk_at "q"
  refine ⟨sz rfl, fun u5 hu5 => ?_⟩; generalize hN5 : upd _ u5 _ = H5; obtain ⟨s5, e5⟩ := nws hN5 hu5
  obtain ⟨u5h, u5q⟩ := D4.neN hu5
  walk_at "q"
  refine ⟨h, q, 14, rfl, D4.mono s5, by decide, by decide, fun z6 H6 z60 z61 s6 D6 => ?_⟩
  obtain ⟨od, hod, hodx⟩ := pickS oddW z60 z61
  have god : od.length + 1 ≤ 10 ∧ PyData.strOk od = true := by
    have : ∀ a ∈ oddW, a.length + 1 ≤ 10 ∧ PyData.strOk a = true := by decide +kernel
    exact this od hod
  refine x_ixL (SqL.of (s6 _ _ u5h u5q e5)) hodx ?_
  have e6 := s6 _ _ p3h p3q (s5 _ _ e4)
  have el6 := s6 _ _ p1h p1q (s5 _ _ el4)
  have S6 : Same2 h q H H6 := S4.trans ((Same2.of s5).trans s6)
  clear s6 s5 s4 s3 s2 s1 hodx hod
  have tk : ∀ {l : List Str} {n : Nat}, (l.take n).length ≤ l.length := fun {l n} => by rw [List.length_take]; exact Nat.min_le_right _ _
  have dr : ∀ {l : List Str} {n : Nat}, (l.drop n).length ≤ l.length := fun {l n} => by rw [List.length_drop]; exact Nat.sub_le _ _
  have GA : Gd (ws.take j ++ [od] ++ ws.drop (j + 1)) (ln.length + 1 + 10) := Gw.put hwd (Gd.one (by omega) god.2)
  have GB : Gd (ws.take j ++ ws.drop (j + 1)) (ln.length + 1) := Gw.cut hwd
  have GC : Gd (ws.take j ++ [od] ++ ws.drop j) (ln.length + 1 + 10) := Gw.ins j (Gd.one god.1 god.2)
  walk_at "q"
  refine n_to j (SqL.of e6) rfl (by omega) fun a1 G1 ha1 t1 f1 => ?_
  walk_at "q"
  refine ⟨sz rfl, fun a2 ha2 => ?_⟩; generalize hM2 : upd _ a2 _ = G2; obtain ⟨t2, f2⟩ := nws hM2 ha2
  refine n_plusS (ys := [od]) (t2 _ _ f1) f2 (by have := tk (l := ws) (n := j); show _ + 1 ≤ _; omega) fun a3 G3 ha3 t3 f3 => ?_
  walk_at "q"
  refine n_from (j + 1) (SqL.of ((t1.trans (t2.trans t3)) _ _ e6)) rfl (by omega) fun a4 G4 ha4 t4 f4 => ?_
  refine n_plusS (t4 _ _ f3) f4 (by have := tk (l := ws) (n := j); have := dr (l := ws) (n := j + 1); rw [List.length_append]; show _ + 1 + _ ≤ _; omega) fun b1 G5 hb1 t5 f5 => ?_
  have T5 : Same H6 G5 := t1.trans (t2.trans (t3.trans (t4.trans t5)))
  have nb1 := (D6.mono (t1.trans (t2.trans (t3.trans t4)))).neN hb1
  clear t1 t2 t3 t4 t5 f1 f2 f3 f4
  walk_at "q"
  refine n_to j (SqL.of (T5 _ _ e6)) rfl (by omega) fun a1 G6 ha1 t1 f1 => ?_
  walk_at "q"
  refine n_from (j + 1) (SqL.of ((T5.trans t1) _ _ e6)) rfl (by omega) fun a4 G7 ha4 t4 f4 => ?_
  refine n_plusS (t4 _ _ f1) f4 (by have := tk (l := ws) (n := j); have := dr (l := ws) (n := j + 1); omega) fun b2 G8 hb2 t5 f8 => ?_
  have T58 : Same G5 G8 := t1.trans (t4.trans t5)
  have T8 := T5.trans T58
  have nb2 := (D6.mono (T5.trans (t1.trans t4))).neN hb2
  clear t1 t4 t5 f1 f4
  walk_at "q"
  refine n_to j (SqL.of (T8 _ _ e6)) rfl (by omega) fun a1 G9 ha1 t1 f1 => ?_
  walk_at "q"
  refine ⟨sz rfl, fun a2 ha2 => ?_⟩; generalize hM2 : upd _ a2 _ = Ga; obtain ⟨t2, f2⟩ := nws hM2 ha2
  refine n_plusS (ys := [od]) (t2 _ _ f1) f2 (by have := tk (l := ws) (n := j); show _ + 1 ≤ _; omega) fun a3 Gb ha3 t3 f3 => ?_
  walk_at "q"
  refine n_from j (SqL.of ((T8.trans (t1.trans (t2.trans t3))) _ _ e6)) rfl (by omega) fun a4 Gc ha4 t4 f4 => ?_
  refine n_plusS (t4 _ _ f3) f4 (by have := tk (l := ws) (n := j); have := dr (l := ws) (n := j); rw [List.length_append]; show _ + 1 + _ ≤ _; omega) fun b3 Gd' hb3 t5 fd => ?_
  have T8d : Same G8 Gd' := t1.trans (t2.trans (t3.trans (t4.trans t5)))
  have Td := T8.trans T8d
  have nb3 := (D6.mono (T8.trans (t1.trans (t2.trans (t3.trans t4))))).neN hb3
  have f5d := (T58.trans T8d) _ _ f5
  have f8d := T8d _ _ f8
  clear t1 t2 t3 t4 t5 f1 f2 f3 f4
  walk_at "q"
  refine ⟨sz rfl, fun u7 hu7 => ?_⟩; generalize hN7 : upd _ u7 _ = H7; obtain ⟨s7, e7⟩ := nws hN7 hu7
  have T7 := Td.trans s7
  have D7 := D6.mono T7
  obtain ⟨u7h, u7q⟩ := (D6.mono Td).neN hu7
  walk_at "q"
  refine ⟨h, q, 3, rfl, D7, by decide, by decide, fun z8 H8 z80 z81 s8 D8 => ?_⟩
  obtain ⟨bx, ch, hbx, fbx, Gch⟩ : ∃ (bx : Addr) (ch : List Str), atI [V.ref b1, V.ref b2, V.ref b3] z8 = some (.ref bx) ∧ H8 bx = some (.lst (ch.map V.str)) ∧ Gd ch (ln.length + 1 + 10) := by
    have : z8 = 0 ∨ z8 = 1 ∨ z8 = 2 := by omega
    rcases this with z | z | z <;> rw [z]
    · exact ⟨b1, _, rfl, s8 _ _ nb1.1 nb1.2 (s7 _ _ f5d), GA⟩
    · exact ⟨b2, _, rfl, s8 _ _ nb2.1 nb2.2 (s7 _ _ f8d), GB.le (by omega)⟩
    · exact ⟨b3, _, rfl, s8 _ _ nb3.1 nb3.2 (s7 _ _ fd), GC⟩
  refine x_ixL (SqL.of (s8 _ _ u7h u7q e7)) hbx ?_
  have el8 := s8 _ _ p1h p1q (T7 _ _ el6)
  have S8 : Same2 h q H H8 := S6.trans ((Same2.of T7).trans s8)
  clear s8 f5d f8d fd hbx nb1 nb2 nb3 GA GB GC T7 T8 T58 T8d Td T5
  walk_at "q"
  refine ⟨⟨_, rfl⟩, ?_⟩
  walk_at "q"
  refine x_joinG sp_tl (SqL.of fbx) Gch (by omega) ?_
  obtain ⟨nl1, nl2⟩ := Gch.join sp_tl (y := " ") (by decide +kernel)
  generalize Txt.join " " ch = nl at nl1 nl2 ⊢
  walk_at "q"
  refine ⟨sz rfl, fun l9 hl9 => ?_⟩; generalize hN9 : upd _ l9 _ = H9; obtain ⟨s9, e9⟩ := nws hN9 hl9
  have GX : Gd (ls.take i ++ [nl] ++ ls.drop (i + 1)) (t.length + 1 + 11) := Gl.put hln (Gd.one (by omega) nl2)
  have GY : Gd (ls.take i ++ ls.drop (i + 1)) (t.length + 1) := Gl.cut hln
  have GZ : Gd (ls ++ ([""] : List Str)) (t.length + 1 + 1) := Gl.app (Gd.one (a := "") (by decide) (by decide +kernel))
  replace e9 : H9 l9 = some (.lst (([nl] : List Str).map V.str)) := e9
  have el9 := s9 _ _ el8
  have S9 := S8.trans (Same2.of s9)
  have D9 := D8.mono s9
  walk_at "q"
  refine n_to i (SqL.of el9) rfl (by omega) fun a1 G1 ha1 t1 f1 => ?_
  walk_at "q"
  refine n_plusS (xs := ls.take i) (ys := [nl]) f1 (t1 _ _ e9) (by have := tk (l := ls) (n := i); show _ + 1 ≤ _; omega) fun a3 G3 ha3 t3 f3 => ?_
  walk_at "q"
  refine n_from (i + 1) (SqL.of ((t1.trans t3) _ _ el9)) rfl (by omega) fun a4 G4 ha4 t4 f4 => ?_
  refine n_plusS (xs := ls.take i ++ [nl]) (ys := ls.drop (i + 1)) (t4 _ _ f3) f4 (by have := tk (l := ls) (n := i); have := dr (l := ls) (n := i + 1); rw [List.length_append]; show _ + 1 + _ ≤ _; omega) fun ca Ka hca t5 ga => ?_
  have Ta : Same H9 Ka := t1.trans (t3.trans (t4.trans t5))
  have nca := (D9.mono (t1.trans (t3.trans t4))).neN hca
  have Da := D9.mono Ta
  clear t1 t3 t4 t5 f1 f3 f4
  walk_at "q"
  refine n_to i (SqL.of (Ta _ _ el9)) rfl (by omega) fun a1 G1 ha1 t1 f1 => ?_
  walk_at "q"
  refine n_plusS (xs := ls.take i) (ys := [nl]) f1 (t1 _ _ (Ta _ _ e9)) (by have := tk (l := ls) (n := i); show _ + 1 ≤ _; omega) fun a3 G3 ha3 t3 f3 => ?_
  walk_at "q"
  refine n_from (i + 1) (SqL.of ((t1.trans t3) _ _ (Ta _ _ el9))) rfl (by omega) fun a4 G4 ha4 t4 f4 => ?_
  refine n_plusS (xs := ls.take i ++ [nl]) (ys := ls.drop (i + 1)) (t4 _ _ f3) f4 (by have := tk (l := ls) (n := i); have := dr (l := ls) (n := i + 1); rw [List.length_append]; show _ + 1 + _ ≤ _; omega) fun cb Kb hcb t5 gb => ?_
  have Tb : Same Ka Kb := t1.trans (t3.trans (t4.trans t5))
  have ncb := (Da.mono (t1.trans (t3.trans t4))).neN hcb
  have Db := Da.mono Tb
  clear t1 t3 t4 t5 f1 f3 f4
  walk_at "q"
  have elb := (Ta.trans Tb) _ _ el9
  refine n_to i (SqL.of elb) rfl (by omega) fun a1 G1 ha1 t1 f1 => ?_
  walk_at "q"
  refine n_from (i + 1) (SqL.of (t1 _ _ elb)) rfl (by omega) fun a4 G4 ha4 t4 f4 => ?_
  refine n_plusS (xs := ls.take i) (ys := ls.drop (i + 1)) (t4 _ _ f1) f4 (by have := tk (l := ls) (n := i); have := dr (l := ls) (n := i + 1); omega) fun cc Kc hcc t5 gc => ?_
  have Tc : Same Kb Kc := t1.trans (t4.trans t5)
  have ncc := (Db.mono (t1.trans t4)).neN hcc
  have Dc := Db.mono Tc
  clear t1 t4 t5 f1 f4
  walk_at "q"
  refine ⟨sz rfl, fun a2 ha2 => ?_⟩; generalize hM2 : upd _ a2 _ = G2; obtain ⟨t2, f2⟩ := nws hM2 ha2
  refine n_plusS (xs := ls) (ys := [""]) (t2 _ _ (Tc _ _ elb)) f2 (by show _ + 1 ≤ _; omega) fun cd Kd hcd t5 gd => ?_
  have Td : Same Kc Kd := t2.trans t5
  have ncd := (Dc.mono t2).neN hcd
  have Dd := Dc.mono Td
  clear t2 t5 f2
  walk_at "q"
  refine ⟨sz rfl, fun uE huE => ?_⟩; generalize hNE : upd _ uE _ = HE; obtain ⟨sE, eE⟩ := nws hNE huE
  have nuE := Dd.neN huE
  have DE := Dd.mono sE
  have s9E : Same H9 HE := Ta.trans (Tb.trans (Tc.trans (Td.trans sE)))
  walk_at "q"
  refine ⟨⟨_, rfl⟩, ?_⟩
  walk_at "q"
  refine ⟨h, q, 4, rfl, DE, by decide, by decide, fun zF HF zF0 zF1 sF DF => ?_⟩
  obtain ⟨cx, xs, hcx, fcx, Gx⟩ : ∃ (cx : Addr) (xs : List Str), atI [V.ref ca, V.ref cb, V.ref cc, V.ref cd] zF = some (.ref cx) ∧ HF cx = some (.lst (xs.map V.str)) ∧ Gd xs (t.length + 12) := by
    have : zF = 0 ∨ zF = 1 ∨ zF = 2 ∨ zF = 3 := by omega
    rcases this with z | z | z | z <;> rw [z]
    · exact ⟨ca, _, rfl, sF _ _ nca.1 nca.2 ((Tb.trans (Tc.trans (Td.trans sE))) _ _ ga), GX⟩
    · exact ⟨cb, _, rfl, sF _ _ ncb.1 ncb.2 ((Tc.trans (Td.trans sE)) _ _ gb), GX⟩
    · exact ⟨cc, _, rfl, sF _ _ ncc.1 ncc.2 ((Td.trans sE) _ _ gc), GY.le (by omega)⟩
    · exact ⟨cd, _, rfl, sF _ _ ncd.1 ncd.2 (sE _ _ gd), GZ.le (by omega)⟩
  refine x_ixL (SqL.of (sF _ _ nuE.1 nuE.2 eE)) hcx ?_
  refine x_joinG nl_tl (SqL.of fcx) Gx (by omega) ?_
  obtain ⟨r1, r2⟩ := Gx.join nl_tl (y := "\n") (by decide +kernel)
  exact k _ _ r1 r2 (S9.trans ((Same2.of s9E).trans sF)) DF
end
end K42

set_option Elab.async false
set_option linter.all false
set_option autoImplicit false
set_option maxRecDepth 100000
set_option pp.maxSteps 500
set_option maxHeartbeats 4000000
namespace K42
open PySem PySem.Spec PyProof.Rows L2 He ChH Ch ChM SuX
local macro_rules | `(tactic| walk_at "x1") => `(tactic| first
  | ((with_reducible apply x_var); exact rfl)
  | with_reducible refine x_c ?_
  | with_reducible refine x_op ?_
  | with_reducible refine x_seq ?_
  | with_reducible refine x_asg ?_
  | with_reducible refine x_gname ?_
  | with_reducible refine x_cons ?_
  | with_reducible refine x_nil ?_
  | with_reducible refine x_fld ?_
  | with_reducible refine x_ret ?_
  | with_reducible refine x_ifS ?_
  | with_reducible refine x_test ?_
  | with_reducible refine x_ex ?_
  | with_reducible refine x_call ?_
  | with_reducible refine x_mk ?_
  | with_reducible refine x_meth ?_
  | with_reducible refine x_prop ?_
  | with_reducible refine x_cb ?_
  | with_reducible refine x_tup ?_
  | with_reducible refine x_lst ?_
  | with_reducible refine x_drop ?_
  | with_reducible refine x_for ?_
  | with_reducible refine x_iL ?_
  | with_reducible refine x_iT ?_
  | with_reducible refine x_iE ?_
  | with_reducible refine x_iU ?_
  | with_reducible refine x_iR1 ?_
  | with_reducible refine x_iR2 ?_
  | with_reducible refine x_gcons ?_
  | with_reducible refine x_gnil ?_
  | with_reducible refine x_par ?_
  | with_reducible refine x_lstRg ?_
  | with_reducible refine x_rg1 ?_
  | with_reducible refine x_rg1At ?_
  | with_reducible refine x_par3 ?_
  | with_reducible refine x_bm ?_
  | with_reducible refine x_bm0 ?_
  | with_reducible refine x_gSub ?_
  | with_reducible refine x_lc ?_
  | with_reducible refine x_yes ?_
  | with_reducible refine x_setf ?_
  | with_reducible refine x_next ?_
  | with_reducible refine x_B ?_
  | with_reducible refine x_and ?_
  | with_reducible refine x_or ?_
  | with_reducible refine x_not ?_
  | with_reducible refine x_andV ?_
  | with_reducible refine x_orV ?_
  | with_reducible refine x_notV ?_
  | with_reducible refine x_ifE ?_
  | with_reducible refine x_chain ?_
  | with_reducible refine x_chain3 ?_
  | with_reducible refine x_un ?_
  | with_reducible refine x_isNe ?_
  | with_reducible refine x_notNe ?_
  | with_reducible refine x_starA ?_
  | with_reducible refine x_plusI ?_
  | with_reducible refine x_minus ?_
  | with_reducible refine x_lt ?_
  | with_reducible refine x_le ?_
  | with_reducible refine x_gt ?_
  | with_reducible refine x_ge ?_
  | with_reducible refine x_eqI ?_
  | with_reducible refine x_neI ?_
  | with_reducible refine x_eqS ?_
  | with_reducible refine x_eqB ?_
  | with_reducible refine x_neB ?_
  | with_reducible refine x_int ?_
  | with_reducible refine x_intB ?_
  | with_reducible refine x_max2 ?_
  | with_reducible refine x_min2 ?_
  | with_reducible refine x_max3 ?_
  | with_reducible refine x_abs ?_
  | with_reducible refine x_neg ?_
  | with_reducible refine x_isi_ii ?_
  | with_reducible refine x_isi_ib ?_
  | with_reducible refine x_T ?_
  | with_reducible refine x_nT ?_
  | with_reducible refine x_nF ?_
  | with_reducible refine x_F ?_)
local macro_rules | `(tactic| walk_at "x") => `(tactic| repeat walk_at "x1")

local macro_rules | `(tactic| walk_at "q1") => `(tactic| first
  | walk_at "x1"
  | with_reducible refine x_sl ?_
  | with_reducible refine x_cmeth ?_
  | with_reducible refine x_noPart ?_
  | with_reducible refine x_part ?_
  | with_reducible refine x_partI ?_)
local macro_rules | `(tactic| walk_at "q") => `(tactic| repeat walk_at "q1")

section
variable {P : Program} [SP : SupP P mfile] {w : World} {K : PySem.W.Frag} {mg : Str → Option Value} {base : Heap}
abbrev roomOk (z : Str) : Prop := z = "red" ∨ z = "blue"
def spVR (K : PySem.W.Frag) : Sp := fun vs H Q E => ∃ z : Str, vs = [.str z] ∧ (roomOk z → ∀ H', Same H H' → Q .non H') ∧ (¬ roomOk z → ∀ H', Same H H' → E (.ref (ga K "InvalidBooking")) none H')
omit SP in
theorem okn_validate_room (W : Wd K mg) : FnR P w K mg base (L2N.CX P w) 1 (ga K "validate_room") (spVR K) := by
  refine (def_ok W.F_validate_room sc_validate_room (fun _ _ _ _ _ _ us hl => match us, hl with | [_], _ => rfl) (fun vs H Q E ⟨z, e, _⟩ => by rw [e]; rfl) fun cdv A outer s H vs Q E hr ⟨z, e, k, kB⟩ => ?_).2
  subst e
  refine ⟨_, (pss_one (ps_if (pt_cmpR (op_notInK K) (pv 0) (pe_tup (pa_cons (pe_gs W.t_RED rfl) (pa_cons (pe_gs W.t_BLUE rfl) pa_nil))) rfl) (pss_one (L2N.ps_raise rfl (L2N.takes_of rfl rfl rfl rfl) (L2N.pmk_own PySem.F.excBase_ValueError (W.x_InvalidBooking).1 W.g_InvalidBooking (W.x_InvalidBooking).2.1 (raises_own (W.x_InvalidBooking).2.2.1 (W.x_InvalidBooking).2.2.2) rfl))) pss_nil)), ?_⟩
  walk_at "q"
  refine ⟨sz rfl, fun t ht => ?_⟩; generalize hN1 : upd _ t _ = H1; obtain ⟨s1, e1⟩ := nws hN1 ht
  refine x_notinT (SqT.of e1) rfl rfl ?_
  have ei : inV (.str z) [.str "red", .str "blue"] = decide (roomOk z) := by
    unfold inV roomOk
    show (("red" : Str) == z || (("blue" : Str) == z || false)) = _
    rw [Bool.or_false]
    by_cases h1 : z = "red"
    · rw [h1]; rfl
    · by_cases h2 : z = "blue"
      · rw [h2]; rfl
      · rw [decide_eq_false (fun q => q.elim h1 h2), beq_false_of_ne (fun q => h1 q.symm), beq_false_of_ne (fun q => h2 q.symm)]
        rfl
  rw [ei]
  walk_at "q"
  refine x_ifnd (fun hn => ?_) fun hy => ?_
  · exact kB hn _ s1
  · exact k hy _ s1
abbrev needOk (n : Int) : Prop := 0 ≤ n ∧ n ≤ 1000000000000000000
def spVNd (K : PySem.W.Frag) : Sp := fun vs H Q E => ∃ n : Int, vs = [.int n] ∧ (needOk n → Q .non H) ∧ (¬ needOk n → E (.ref (ga K "InvalidBooking")) none H)
omit SP in
theorem okn_validate_need (W : Wd K mg) : FnR P w K mg base (L2N.CX P w) 1 (ga K "validate_need") (spVNd K) := by
  refine (def_ok W.F_validate_need sc_validate_need (fun _ _ _ _ _ _ us hl => match us, hl with | [_], _ => rfl) (fun vs H Q E ⟨n, e, _⟩ => by rw [e]; rfl) fun cdv A outer s H vs Q E hr ⟨n, e, k, kB⟩ => ?_).2
  subst e
  refine ⟨_, (pss_one (ps_if (pt_not (pt_chain op_leI op_leI pe_int (pv 0) (pe_cv W.g_Plan W.r_Plan W.v_Plan_MAX_CHAIRS rfl))) (pss_one (L2N.ps_raise rfl (L2N.takes_of rfl rfl rfl rfl) (L2N.pmk_own PySem.F.excBase_ValueError (W.x_InvalidBooking).1 W.g_InvalidBooking (W.x_InvalidBooking).2.1 (raises_own (W.x_InvalidBooking).2.2.1 (W.x_InvalidBooking).2.2.2) rfl))) pss_nil)), ?_⟩
  walk_at "q"
  refine x_ifd (fun h1 => ?_) fun h1 => ?_
  · walk_at "q"
    refine x_ifnd (fun h2 => ?_) fun h2 => ?_
    · exact kB fun z => h2 z.2
    · exact k ⟨h1, h2⟩
  · walk_at "q"
    exact kB fun z => h1 z.1
/-- the needs are right -/
abbrev nsOk (ns : List Int) : Prop := (∀ n ∈ ns, needOk n) ∧ ns.length ≤ 60
def spBI (K : PySem.W.Frag) : Sp := fun vs H Q E => ∃ (o C dx T : Addr) (ns : List Int), vs = [.ref o, .ref T] ∧ H o = some (.ins C dx []) ∧ Cls K C ∧ NoAttr K C "needs" ∧ H T = some (.tup (ns.map V.int)) ∧ ns.length ≤ 1000 ∧
  (nsOk ns → ∀ H', (∀ b u, b ≠ o → H b = some u → H' b = some u) → H' o = some (.ins C dx [("needs", .ref T)]) → Q .non H') ∧
  (¬ nsOk ns → ∀ H', Same H H' → E (.ref (ga K "InvalidBooking")) none H')
omit SP in
theorem okn_Booking_init (W : Wd K mg) : FnR P w K mg base (L2N.CX P w) 3 (ma K (ga K "Booking") "__init__") (spBI K) := by
  refine (def_ok W.F_Booking_init sc_Booking_init (fun _ _ _ _ _ _ us hl => match us, hl with | [_, _], _ => rfl) (fun vs H Q E ⟨o, C, dx, T, ns, e, _⟩ => by rw [e]; rfl) fun cdv A outer s H vs Q E hr ⟨o, C, dx, T, ns, e, ho, hc, hn, hT, hl, k, kB⟩ => ?_).2
  subst e
  refine ⟨_, (pss_cons (ps_for (passes_of rfl) rfl (pi_tupK K (pv 1)) (pg_name (i := 2) sc_Booking_init.nd rfl (Or.inl rfl)) (pss_one (ps_expr (pe_callR (okn_validate_need W) (hr.mono (by decide)) W.g_validate_need W.k_validate_need (L2N.passes_call (L2N.takes_of rfl rfl rfl rfl) (fun _ _ _ _ h => h)) rfl (pa_cons (pv 2) pa_nil))))) (pss_cons (ps_if (pt_cmpR op_gtI (pe_callB (c_lenK K) (by rfl) W.f_len (by decide +kernel) (pa_cons (pv 1) pa_nil)) (pe_gi W.i_MAX_TIMES rfl) (nomark _)) (pss_one (L2N.ps_raise rfl (L2N.takes_of rfl rfl rfl rfl) (L2N.pmk_own PySem.F.excBase_ValueError (W.x_InvalidBooking).1 W.g_InvalidBooking (W.x_InvalidBooking).2.1 (raises_own (W.x_InvalidBooking).2.2.1 (W.x_InvalidBooking).2.2.2) rfl))) pss_nil) (pss_one (ps_fldK K (pv 0) (pv 1))))), ?_⟩
  walk_at "q"
  refine x_iTAt (SqT.of hT) (x_loop walk_tup (fun i σ H2 => H2 = H ∧ (∃ a, σ = [some (.ref o), some (.ref T), a]) ∧ ∀ j n, j < i → ns[j]? = some n → needOk n) ⟨rfl, ⟨_, rfl⟩, fun j n hj => absurd hj (by omega)⟩ (fun i σ H2 _ ⟨e, _⟩ => by rw [e]; exact SqT.of hT) ?_ ?_)
  · rintro i y σ H2 H3 hi ⟨rfl, ⟨a, rfl⟩, hok⟩ ⟨rfl, ey⟩
    rw [List.getElem?_map] at ey
    obtain ⟨n, en, rfl⟩ := Option.map_eq_some_iff.mp ey
    walk_at "q"
    refine ⟨n, rfl, fun hn1 => ?_, fun hn1 => kB (fun z => hn1 (z.1 n (List.mem_of_getElem? en))) _ (Same.refl _)⟩
    walk_at "q"
    refine ⟨rfl, ⟨_, rfl⟩, fun j m hj hm => ?_⟩
    by_cases z : j < i
    · exact hok j m z hm
    · have : j = i := by omega
      subst this
      rw [en] at hm
      cases hm
      exact hn1
  rintro σ H2 ⟨rfl, ⟨a, rfl⟩, hok⟩
  rw [List.length_map] at hok
  have hall : ∀ n ∈ ns, needOk n := fun n hm => by
    obtain ⟨j, hj, ej⟩ := List.getElem_of_mem hm
    exact hok j n hj (by rw [List.getElem?_eq_getElem hj, ej])
  walk_at "q"
  refine x_lenT (SqT.of hT) ?_
  rw [List.length_map]
  walk_at "q"
  refine x_ifd (fun h => ?_) fun h => ?_
  · exact kB (fun z => absurd z.2 (by omega)) _ (Same.refl _)
  walk_at "q"
  refine x_setAt ho hc hn (by decide) ?_
  refine k ⟨hall, by omega⟩ _ (fun b u hb e => by rw [upd_ne hb]; exact e) ?_
  rw [upd_same]
  rfl
/-! ### Meeting -/
abbrev aBI (K : PySem.W.Frag) : Addr := ma K (ga K "Booking") "__init__"
abbrev aMI (K : PySem.W.Frag) : Addr := ma K (ga K "Meeting") "__init__"
def spMI (K : PySem.W.Frag) : Sp := fun vs H Q E => ∃ (o C dx T : Addr) (z : Str) (ns : List Int), vs = [.ref o, .str z, .ref T] ∧ H o = some (.ins C dx []) ∧ Cls K C ∧ NoAttr K C "needs" ∧ NoAttr K C "room" ∧ SupIn K C (ga K "Meeting") "__init__" (aBI K) ∧ H T = some (.tup (ns.map V.int)) ∧ ns.length ≤ 1000 ∧
  (roomOk z → nsOk ns → ∀ H', (∀ b u, b ≠ o → H b = some u → H' b = some u) → H' o = some (.ins C dx [("needs", .ref T), ("room", .str z)]) → Q .non H') ∧
  (¬ (roomOk z ∧ nsOk ns) → ∀ H', Same H H' → E (.ref (ga K "InvalidBooking")) none H')
theorem okn_Meeting_init (W : Wd K mg) : FnR P w K mg base (L2N.CX P w) 5 (aMI K) (fun vs H Q E => ∃ ws rest, vs = ws ++ rest ∧ ws.length = ["self", "room"].length ∧ rest.length ≤ sizeLine ∧ ∀ p, H p = none → spMI K (ws ++ [V.ref p]) (upd H p (.tup rest)) Q E) := by
  refine starS_ok (ps := ["self", "room"]) (pv := "needs") (sp := spMI K) (by decide +kernel) W.S_Meeting_init sc_Meeting_init StrX.cxUpN (fun _ _ _ _ _ _ us rest hl => match us, rest, hl with | [_, _], [], _ => rfl | [_, _], _ :: _, _ => rfl) fun cc cA FS A outer s H vs Q E hr ⟨o, C, dx, T, z, ns, e, ho, hc, hn1, hn2, hS, hT, hl, k, kB⟩ => ?_
  subst e
  have hsx := FS.sup (CX := L2N.CX P w) (P := P) (w := w) (mg := mg) (base := base) (A := A) (outer := outer) (s := s) (H := H) (E := E) (i := 0) sc_Meeting_init rfl rfl (by decide +kernel) (by decide +kernel) (by decide +kernel) W.f_super rfl
  refine ⟨_, (SuX.psa_cons (SuX.ps1_of (ps_expr (pe_callR (okn_validate_room W) (hr.mono (by decide)) W.g_validate_room W.k_validate_room (L2N.passes_call (L2N.takes_of rfl rfl rfl rfl) (fun _ _ _ _ h => h)) rfl (pa_cons (pv 1) pa_nil)))) (SuX.psa_cons (SuX.ps1_sup hsx (okn_Booking_init W) (hr.mono (by decide)) (L2N.passes_call (L2N.takes_of rfl rfl rfl rfl) (fun _ _ _ _ h => h)) (pa_cons (pv 2) pa_nil)) (SuX.psa_of (pss_one (ps_fldK K (pv 0) (pv 1)))))), ?_⟩
  walk_at "q"
  refine ⟨z, rfl, fun hz H1 s1 => ?_, fun hz H1 s1 => kB (fun y => hz y.1) _ s1⟩
  walk_at "q"
  refine ⟨o, C, dx, [], rfl, s1 _ _ ho, hS, fun q hq => ?_⟩
  walk_at "q"
  have s2 : Same H (upd H1 q (.met (aBI K) o)) := s1.trans (Same.new hq)
  refine ⟨upd_same, o, C, dx, T, ns, rfl, s2 _ _ ho, hc, hn1, s2 _ _ hT, hl, fun hok H3 k3 h3 => ?_, fun hok H3 s3 => kB (fun y => hok y.2) _ (s2.trans s3)⟩
  walk_at "q"
  refine x_setAt h3 hc hn2 (by show 1 < 1000; decide) ?_
  refine k hz hok _ (fun b u hb e => by rw [upd_ne hb]; exact k3 b u hb (s2 _ _ e)) ?_
  rw [upd_same]
  rfl
end
end K42

set_option Elab.async false
set_option linter.all false
set_option autoImplicit false
set_option maxRecDepth 100000
set_option pp.maxSteps 500
set_option maxHeartbeats 4000000
namespace K42
open PySem PySem.Spec PyProof.Rows L2 He ChH Ch ChM SuX
local macro_rules | `(tactic| walk_at "x1") => `(tactic| first
  | ((with_reducible apply x_var); exact rfl)
  | with_reducible refine x_c ?_
  | with_reducible refine x_op ?_
  | with_reducible refine x_seq ?_
  | with_reducible refine x_asg ?_
  | with_reducible refine x_gname ?_
  | with_reducible refine x_cons ?_
  | with_reducible refine x_nil ?_
  | with_reducible refine x_fld ?_
  | with_reducible refine x_ret ?_
  | with_reducible refine x_ifS ?_
  | with_reducible refine x_test ?_
  | with_reducible refine x_ex ?_
  | with_reducible refine x_call ?_
  | with_reducible refine x_mk ?_
  | with_reducible refine x_meth ?_
  | with_reducible refine x_prop ?_
  | with_reducible refine x_cb ?_
  | with_reducible refine x_tup ?_
  | with_reducible refine x_lst ?_
  | with_reducible refine x_drop ?_
  | with_reducible refine x_for ?_
  | with_reducible refine x_iL ?_
  | with_reducible refine x_iT ?_
  | with_reducible refine x_iE ?_
  | with_reducible refine x_iU ?_
  | with_reducible refine x_iR1 ?_
  | with_reducible refine x_iR2 ?_
  | with_reducible refine x_gcons ?_
  | with_reducible refine x_gnil ?_
  | with_reducible refine x_par ?_
  | with_reducible refine x_lstRg ?_
  | with_reducible refine x_rg1 ?_
  | with_reducible refine x_rg1At ?_
  | with_reducible refine x_par3 ?_
  | with_reducible refine x_bm ?_
  | with_reducible refine x_bm0 ?_
  | with_reducible refine x_gSub ?_
  | with_reducible refine x_lc ?_
  | with_reducible refine x_yes ?_
  | with_reducible refine x_setf ?_
  | with_reducible refine x_next ?_
  | with_reducible refine x_B ?_
  | with_reducible refine x_and ?_
  | with_reducible refine x_or ?_
  | with_reducible refine x_not ?_
  | with_reducible refine x_andV ?_
  | with_reducible refine x_orV ?_
  | with_reducible refine x_notV ?_
  | with_reducible refine x_ifE ?_
  | with_reducible refine x_chain ?_
  | with_reducible refine x_chain3 ?_
  | with_reducible refine x_un ?_
  | with_reducible refine x_isNe ?_
  | with_reducible refine x_notNe ?_
  | with_reducible refine x_starA ?_
  | with_reducible refine x_plusI ?_
  | with_reducible refine x_minus ?_
  | with_reducible refine x_lt ?_
  | with_reducible refine x_le ?_
  | with_reducible refine x_gt ?_
  | with_reducible refine x_ge ?_
  | with_reducible refine x_eqI ?_
  | with_reducible refine x_neI ?_
  | with_reducible refine x_eqS ?_
  | with_reducible refine x_eqB ?_
  | with_reducible refine x_neB ?_
  | with_reducible refine x_int ?_
  | with_reducible refine x_intB ?_
  | with_reducible refine x_max2 ?_
  | with_reducible refine x_min2 ?_
  | with_reducible refine x_max3 ?_
  | with_reducible refine x_abs ?_
  | with_reducible refine x_neg ?_
  | with_reducible refine x_isi_ii ?_
  | with_reducible refine x_isi_ib ?_
  | with_reducible refine x_T ?_
  | with_reducible refine x_nT ?_
  | with_reducible refine x_nF ?_
  | with_reducible refine x_F ?_)
local macro_rules | `(tactic| walk_at "x") => `(tactic| repeat walk_at "x1")

local macro_rules | `(tactic| walk_at "q1") => `(tactic| first
  | walk_at "x1"
  | with_reducible refine x_sl ?_
  | with_reducible refine x_cmeth ?_
  | with_reducible refine x_noPart ?_
  | with_reducible refine x_part ?_
  | with_reducible refine x_partI ?_)
local macro_rules | `(tactic| walk_at "q") => `(tactic| repeat walk_at "q1")

section
variable {K : PySem.W.Frag} {x qual : Str} {params : Arguments} {body : List Stmt} {scope : Scope} {kws : List (Str × V)} {D f : Addr} {fd : FuncData} {F : NdefX.NF} {file : Str} {ps : List Str}
theorem skbinds0 (FS : FunS K x qual params body scope kws D file f fd F) (n : Nat) (ks : List Str) (ms : List (Str × V)) (g : {α : Type} → List α → List α → List α → List α) (hk : kws ≠ []) (hms : ∀ q ∈ ms, q ∈ kws)
    (hrel : ∀ {vs mz zs : List V} {us mv ws : List Value}, Vals vs us → Vals mz mv → Vals zs ws → Vals (g vs mz zs) (g us mv ws))
    (h : ∀ (D : Addr) (doc pm : Value) (an : Option Addr) (cdv ct : Value) (us mv ws : List Value), us.length = n → mv.length = ms.length → ws.length = ks.length →
      KwChain D ((ms.map (·.1)).zip mv) (bindArgs (PySem.W.fnOf x qual params body scope .none (.ref D) doc pm an cdv ct) ⟨us, ks.zip ws⟩) (ps.zip (g us mv ws))) :
    ∃ mv : List Value, KBn K fd ps n ks (fun us ws => g us mv ws) (fun vs zs => g vs (ms.map (·.2)) zs) := by
  obtain ⟨oc, od, kV, doc, pm, an, ct, osl, cc, n1, n2, n3, n4, n5, n6, efd, lk, hcd, hK, lcc⟩ := id FS.ex
  subst efd
  rcases hK with e | ⟨D, rfl, hq⟩
  · exact absurd e hk
  · obtain ⟨mv, hl, rk, hks⟩ := kwd_vals (ms := ms) fun q hm => hq q (hms q hm)
    exact ⟨mv, ⟨fun s us ws X l1 l2 => BindsTo.of_looks fun M => KwChain.looks X hks (h D doc pm an (.ref F.c) ct us mv ws l1 hl l2), fun r1 r2 => hrel r1 rk r2⟩⟩
end
section
variable {P : Program} [SP : SupP P mfile] {w : World} {K : PySem.W.Frag} {mg : Str → Option Value} {base : Heap}
/-! ### Series -/
def serL (n m : Int) (t : Nat) : List Int := (List.range t).map fun (i : Nat) => n + (i : Int) * m
theorem serL_len {n m : Int} {t : Nat} : (serL n m t).length = t := by unfold serL; rw [List.length_map, List.length_range]
theorem serL_succ {n m : Int} {t : Nat} : serL n m (t + 1) = serL n m t ++ [n + (t : Int) * m] := by
  unfold serL
  rw [List.range_succ, List.map_append]
  rfl
abbrev serOk (z : Str) (n t m : Int) : Prop := roomOk z ∧ needOk n ∧ 1 ≤ t ∧ t ≤ 60 ∧ ∀ y ∈ serL n m t.toNat, needOk y
abbrev aSI (K : PySem.W.Frag) : Addr := ma K (ga K "Series") "__init__"
def spSI (K : PySem.W.Frag) : Sp := fun vs H Q E => ∃ (o dx : Addr) (z : Str) (n t m : Int), vs = [.ref o, .str z, .int n, .int t, .int m] ∧ H o = some (.ins (ga K "Series") dx []) ∧
  (serOk z n t m → ∀ T H', H T = none → (∀ b u, b ≠ o → H b = some u → H' b = some u) → H' T = some (.tup ((serL n m t.toNat).map V.int)) → H' o = some (.ins (ga K "Series") dx [("needs", .ref T), ("room", .str z), ("more", .int m)]) → Q .non H') ∧
  (¬ serOk z n t m → ∀ H', Same H H' → E (.ref (ga K "InvalidBooking")) none H')
theorem okkn_Series_init (W : Wd K mg) : FnOk P w K mg base (L2N.CX P w) 7 (aSI K) (fdOf K (aSI K)) ["self", "room", "need", "times", "more"] (spSI K) := by
  refine fnokS (by decide +kernel) W.S_Series_init sc_Series_init (fun vs H Q E ⟨o, dx, z, n, t, m, e, _⟩ => by rw [e]; rfl) fun cc cA FS A outer s H vs Q E hr ⟨o, dx, z, n, t, m, e, ho, k, kB⟩ => ?_
  subst e
  have hsx := FS.sup (CX := L2N.CX P w) (P := P) (w := w) (mg := mg) (base := base) (A := A) (outer := outer) (s := s) (H := H) (E := E) (i := 0) sc_Series_init rfl rfl (by decide +kernel) (by decide +kernel) (by decide +kernel) W.f_super rfl
  refine ⟨_, (SuX.psa_cons (SuX.ps1_of (ps_expr (pe_callR (okn_validate_room W) (hr.mono (by decide)) W.g_validate_room W.k_validate_room (L2N.passes_call (L2N.takes_of rfl rfl rfl rfl) (fun _ _ _ _ h => h)) rfl (pa_cons (pv 1) pa_nil)))) (SuX.psa_cons (SuX.ps1_of (ps_expr (pe_callR (okn_validate_need W) (hr.mono (by decide)) W.g_validate_need W.k_validate_need (L2N.passes_call (L2N.takes_of rfl rfl rfl rfl) (fun _ _ _ _ h => h)) rfl (pa_cons (pv 2) pa_nil)))) (SuX.psa_cons (SuX.ps1_of (ps_if (pt_not (pt_chain op_leI op_leI pe_int (pv 3) (pe_gi W.i_MAX_TIMES rfl))) (pss_one (L2N.ps_raise rfl (L2N.takes_of rfl rfl rfl rfl) (L2N.pmk_own PySem.F.excBase_ValueError (W.x_InvalidBooking).1 W.g_InvalidBooking (W.x_InvalidBooking).2.1 (raises_own (W.x_InvalidBooking).2.2.1 (W.x_InvalidBooking).2.2.2) rfl))) pss_nil)) (SuX.psa_cons (SuX.ps1_of (ps_setLc (i := 5) (own := [("turn", 6)]) (g := gName 6) (tt := tYes) rfl sc_Series_init.nd rfl rfl (sw_true rfl rfl rfl (by decide +kernel)) (pi_range1 (by rfl) W.f_range (pa_cons (pv 3) pa_nil)) (blkOk_by (own := [("turn", 6)]) (N := N_Series_init) (sc := defScope s_Series_init) (by decide +kernel)) (fun _ _ _ _ _ => (pg_name (i := 6) sc_Series_init.nd rfl (Or.inl rfl))) (fun _ _ _ _ _ => pts_nil) (fun _ _ _ _ _ => (pe_op op_plus (pv 2) (pe_op op_times (pv 6) (pv 4)))))) (SuX.psa_cons (SuX.ps1_supS hsx (okn_Meeting_init (P := P) W) (hr.mono (by decide)) (L2N.passes_call (L2N.takes_of rfl rfl rfl rfl) (fun _ _ _ _ h => h)) (pv 1) (pv 5)) (SuX.psa_of (pss_one (ps_fldK K (pv 0) (pv 4))))))))), ?_⟩
  walk_at "q"
  refine ⟨z, rfl, fun hz H1 s1 => ?_, fun hz H1 s1 => kB (fun y => hz y.1) _ s1⟩
  walk_at "q"
  refine ⟨n, rfl, fun hn => ?_, fun hn => kB (fun y => hn y.2.1) _ s1⟩
  walk_at "q"
  refine x_ifd (fun t0 => ?_) fun t0 => ?_
  · walk_at "q"
    refine x_ifnd (fun t1 => ?_) fun t1 => ?_
    · exact kB (fun y => t1 y.2.2.2.1) _ s1
    walk_at "q"
    refine x_iR1At (by omega) (by omega) ?_
    refine x_lcA walk_range (fun i acc _ => acc = (serL n m i).map V.int) (fun _ _ _ _ _ _ _ h => h) (fun _ _ => by unfold serL; rfl) (by omega) (fun _ _ => trivial) ?_ ?_
    · rintro i y acc H3 H4 NT NF hT hF hi s3 rfl ⟨rfl, rfl⟩
      walk_at "q"
      refine ⟨rfl, ?_⟩
      walk_at "q"
      refine x_timesI (.inl ⟨by omega, by omega⟩) ?_
      walk_at "q"
      refine hT _ _ (Same.refl _) ?_
      rw [serL_succ, List.map_append, Int.zero_add]
      rfl
    rintro L acc H6 hL s6 hL2 rfl hdl
    walk_at "q"
    have s16 : Same H H6 := s1.trans s6
    refine ⟨o, _, dx, [], rfl, s16 _ _ ho, W.su_Series_Series, fun q hq => ?_⟩
    walk_at "q"
    have s7 : Same H (upd H6 q (.met (aMI K) o)) := s16.trans (Same.new hq)
    have hsl : (serL n m t.toNat).length = t.toNat := serL_len
    refine ⟨L, _, rfl, .inr (SqL.of (up hL2 hq)), upd_same, [.ref o, .str z], _, rfl, rfl, sz5 (by rw [List.length_map, hsl]; omega), fun p hp => ?_⟩
    have s8 : Same H (upd (upd H6 q (.met (aMI K) o)) p (.tup ((serL n m t.toNat).map V.int))) := s7.trans (Same.new hp)
    refine ⟨o, _, dx, p, z, _, rfl, s8 _ _ ho, W.c_Series, W.n_Series_needs, W.n_Series_room, W.su_Series_Meeting, upd_same, by rw [hsl]; omega, fun h1 h2 H9 k9 h9 => ?_, fun hb H9 s9 => kB (fun y => hb ⟨y.1, y.2.2.2.2, by rw [hsl]; omega⟩) _ (s8.trans s9)⟩
    have hpo : p ≠ o := fun e => by
      rw [e] at hp
      exact absurd (hp.symm.trans (s7 _ _ ho)) (fun z => nomatch z)
    walk_at "q"
    refine x_setAt h9 W.c_Series W.n_Series_more (by show 2 < 1000; decide) ?_
    refine k ⟨hz, hn, t0, by omega, h2.1⟩ p _ (s7.free hp) (fun b u hb e => by rw [upd_ne hb]; exact k9 b u hb (s8 _ _ e)) ?_ ?_
    · rw [upd_ne hpo]
      exact k9 p _ hpo upd_same
    · rw [upd_same]
      rfl
  · walk_at "q"
    exact kB (fun y => t0 y.2.2.1) _ s1
theorem kbe_Series_init_times (W : Wd K mg) : ∃ mv : List Value, KBn K (fdOf K (aSI K)) ["self", "room", "need", "times", "more"] 3 ["times"] (fun us ws => us ++ ws ++ mv) (fun vs zs => vs ++ zs ++ [V.int 0]) :=
  skbinds0 (ps := ["self", "room", "need", "times", "more"]) W.S_Series_init 3 ["times"] [("more", V.int 0)] (fun a b c => a ++ c ++ b) (fun z => nomatch z) (fun q hq => hq) (fun r1 r2 r3 => (r1.append r3).append r2) (fun D doc pm an cdv ct us mv ws l1 l2 l3 => match us, mv, ws, l1, l2, l3 with
    | [_, _, _], [_], [_], _, _, _ => ⟨_, _, _, _, _, _, rfl, rfl, rfl⟩)
theorem kb_Series_init_times (W : Wd K mg) : KBn K (fdOf K (aSI K)) ["self", "room", "need", "times", "more"] 3 ["times"] (fun us ws => us ++ ws ++ Classical.choose (kbe_Series_init_times W)) (fun vs zs => vs ++ zs ++ [V.int 0]) := Classical.choose_spec (kbe_Series_init_times W)
theorem kb_Series_init_times_more (W : Wd K mg) : KBn K (fdOf K (aSI K)) ["self", "room", "need", "times", "more"] 3 ["times", "more"] (fun us ws => us ++ ws) (fun vs zs => vs ++ zs) := by
  obtain ⟨mv, h⟩ := skbinds0 (ps := ["self", "room", "need", "times", "more"]) W.S_Series_init 3 ["times", "more"] [] (fun a _ c => a ++ c) (fun z => nomatch z) (fun q hq => nomatch hq) (fun r1 _ r3 => r1.append r3) (fun D doc pm an cdv ct us mv ws l1 l2 l3 => match us, ws, l1, l3 with
    | [_, _, _], [_, _], _, _ => rfl)
  exact h
/-! ### Alternation, Turning -/
abbrev aAI (K : PySem.W.Frag) : Addr := ma K (ga K "Alternation") "__init__"
def spAI (K : PySem.W.Frag) : Sp := fun vs H Q E => ∃ (o dx T : Addr) (ns : List Int), vs = [.ref o, .ref T] ∧ H o = some (.ins (ga K "Alternation") dx []) ∧ H T = some (.tup (ns.map V.int)) ∧ ns.length ≤ 1000 ∧
  (ns ≠ [] → nsOk ns → ∀ H', (∀ b u, b ≠ o → H b = some u → H' b = some u) → H' o = some (.ins (ga K "Alternation") dx [("needs", .ref T)]) → Q .non H') ∧
  (¬ (ns ≠ [] ∧ nsOk ns) → ∀ H', Same H H' → E (.ref (ga K "InvalidBooking")) none H')
theorem okn_Alternation_init (W : Wd K mg) : FnR P w K mg base (L2N.CX P w) 5 (aAI K) (fun vs H Q E => ∃ ws rest, vs = ws ++ rest ∧ ws.length = ["self"].length ∧ rest.length ≤ sizeLine ∧ ∀ p, H p = none → spAI K (ws ++ [V.ref p]) (upd H p (.tup rest)) Q E) := by
  refine starS_ok (ps := ["self"]) (pv := "needs") (sp := spAI K) (by decide +kernel) W.S_Alternation_init sc_Alternation_init StrX.cxUpN (fun _ _ _ _ _ _ us rest hl => match us, rest, hl with | [_], [], _ => rfl | [_], _ :: _, _ => rfl) fun cc cA FS A outer s H vs Q E hr ⟨o, dx, T, ns, e, ho, hT, hl, k, kB⟩ => ?_
  subst e
  have hsx := FS.sup (CX := L2N.CX P w) (P := P) (w := w) (mg := mg) (base := base) (A := A) (outer := outer) (s := s) (H := H) (E := E) (i := 0) sc_Alternation_init rfl rfl (by decide +kernel) (by decide +kernel) (by decide +kernel) W.f_super rfl
  refine ⟨_, (SuX.psa_cons (SuX.ps1_of (ps_if (pt_cmpR (op_eqK K hr.units) (pv 1) (pe_tup pa_nil) (nomark _)) (pss_one (L2N.ps_raise rfl (L2N.takes_of rfl rfl rfl rfl) (L2N.pmk_own PySem.F.excBase_ValueError (W.x_InvalidBooking).1 W.g_InvalidBooking (W.x_InvalidBooking).2.1 (raises_own (W.x_InvalidBooking).2.2.1 (W.x_InvalidBooking).2.2.2) rfl))) pss_nil)) (SuX.psa_cons (SuX.ps1_sup hsx (okn_Booking_init W) (hr.mono (by decide)) (L2N.passes_call (L2N.takes_of rfl rfl rfl rfl) (fun _ _ _ _ h => h)) (pa_cons (pv 1) pa_nil)) (SuX.psa_of pss_nil))), ?_⟩
  walk_at "q"
  refine ⟨sz rfl, fun t1 ht1 => ?_⟩; generalize hN1 : upd _ t1 _ = H1; obtain ⟨s1, e1⟩ := nws hN1 ht1
  refine x_eqTu (ms := []) (SqT.of (s1 _ _ hT)) (SqT.of e1) ?_
  walk_at "q"
  refine x_ifd (fun h0 => ?_) fun h0 => ?_
  · exact kB (fun y => y.1 h0) _ s1
  walk_at "q"
  refine ⟨o, _, dx, [], rfl, s1 _ _ ho, W.su_Alternation_Alternation, fun q hq => ?_⟩
  walk_at "q"
  have s2 := s1.trans (Same.new (o := .met (aBI K) o) hq)
  refine ⟨upd_same, o, _, dx, T, ns, rfl, s2 _ _ ho, W.c_Alternation, W.n_Alternation_needs, s2 _ _ hT, hl, fun hok H3 k3 h3 => ?_, fun hok H3 s3 => kB (fun y => hok y.2) _ (s2.trans s3)⟩
  exact k h0 hok _ (fun b u hb e => k3 b u hb (s2 _ _ e)) h3
abbrev aTI (K : PySem.W.Frag) : Addr := ma K (ga K "Turning") "__init__"
def spTI (K : PySem.W.Frag) : Sp := fun vs H Q E => ∃ (o dx : Addr), vs = [.ref o] ∧ H o = some (.ins (ga K "Turning") dx []) ∧
  ∀ T H', H T = none → (∀ b u, b ≠ o → H b = some u → H' b = some u) → H' T = some (.tup []) → H' o = some (.ins (ga K "Turning") dx [("needs", .ref T)]) → Q .non H'
theorem okn_Turning_init (W : Wd K mg) : FnR P w K mg base (L2N.CX P w) 5 (aTI K) (spTI K) := by
  refine defS_ok (ps := ["self"]) (by decide +kernel) W.S_Turning_init sc_Turning_init (fun _ _ _ _ _ _ us hl => match us, hl with | [_], _ => rfl) (fun vs H Q E ⟨o, dx, e, _⟩ => by rw [e]; rfl) fun cc cA FS A outer s H vs Q E hr ⟨o, dx, e, ho, k⟩ => ?_
  subst e
  have hsx := FS.sup (CX := L2N.CX P w) (P := P) (w := w) (mg := mg) (base := base) (A := A) (outer := outer) (s := s) (H := H) (E := E) (i := 0) sc_Turning_init rfl rfl (by decide +kernel) (by decide +kernel) (by decide +kernel) W.f_super rfl
  refine ⟨_, (SuX.psa_cons (SuX.ps1_sup hsx (okn_Booking_init W) (hr.mono (by decide)) (L2N.passes_call (L2N.takes_of rfl rfl rfl rfl) (fun _ _ _ _ h => h)) (pa_cons (pe_tup pa_nil) pa_nil)) (SuX.psa_of pss_nil)), ?_⟩
  walk_at "q"
  refine ⟨o, _, dx, [], rfl, ho, W.su_Turning_Turning, fun q hq => ?_⟩
  walk_at "q"
  have s1 : Same H (upd H q (.met (aBI K) o)) := Same.new hq
  refine ⟨sz rfl, fun t2 ht2 => ?_⟩; generalize hN2 : upd _ t2 _ = H2; obtain ⟨s2, e2⟩ := nws hN2 ht2
  have s12 := s1.trans s2
  have hto : t2 ≠ o := fun e => by
    rw [e] at ht2
    exact absurd (ht2.symm.trans (s1 _ _ ho)) (fun z => nomatch z)
  walk_at "q"
  refine ⟨s2 _ _ upd_same, o, _, dx, t2, [], rfl, s12 _ _ ho, W.c_Turning, W.n_Turning_needs, e2, by show 0 ≤ 1000; decide, fun hok H3 k3 h3 => ?_, fun hok H3 s3 => absurd ⟨(fun n hn => nomatch hn), (by show 0 ≤ 60; decide)⟩ hok⟩
  exact k t2 _ (s1.free ht2) (fun b u hb e => k3 b u hb (s12 _ _ e)) (k3 t2 _ hto e2) h3
end
end K42

set_option Elab.async false
set_option linter.all false
set_option autoImplicit false
set_option maxRecDepth 100000
set_option pp.maxSteps 500
set_option maxHeartbeats 4000000
namespace K42
open PySem PySem.Spec PyProof.Rows L2 He ChH Ch ChM SuX TxX
local macro_rules | `(tactic| walk_at "x1") => `(tactic| first
  | ((with_reducible apply x_var); exact rfl)
  | with_reducible refine x_c ?_
  | with_reducible refine x_op ?_
  | with_reducible refine x_seq ?_
  | with_reducible refine x_asg ?_
  | with_reducible refine x_gname ?_
  | with_reducible refine x_cons ?_
  | with_reducible refine x_nil ?_
  | with_reducible refine x_fld ?_
  | with_reducible refine x_ret ?_
  | with_reducible refine x_ifS ?_
  | with_reducible refine x_test ?_
  | with_reducible refine x_ex ?_
  | with_reducible refine x_call ?_
  | with_reducible refine x_mk ?_
  | with_reducible refine x_meth ?_
  | with_reducible refine x_prop ?_
  | with_reducible refine x_cb ?_
  | with_reducible refine x_tup ?_
  | with_reducible refine x_lst ?_
  | with_reducible refine x_drop ?_
  | with_reducible refine x_for ?_
  | with_reducible refine x_iL ?_
  | with_reducible refine x_iT ?_
  | with_reducible refine x_iE ?_
  | with_reducible refine x_iU ?_
  | with_reducible refine x_iR1 ?_
  | with_reducible refine x_iR2 ?_
  | with_reducible refine x_gcons ?_
  | with_reducible refine x_gnil ?_
  | with_reducible refine x_par ?_
  | with_reducible refine x_lstRg ?_
  | with_reducible refine x_rg1 ?_
  | with_reducible refine x_rg1At ?_
  | with_reducible refine x_par3 ?_
  | with_reducible refine x_bm ?_
  | with_reducible refine x_bm0 ?_
  | with_reducible refine x_gSub ?_
  | with_reducible refine x_lc ?_
  | with_reducible refine x_yes ?_
  | with_reducible refine x_setf ?_
  | with_reducible refine x_next ?_
  | with_reducible refine x_B ?_
  | with_reducible refine x_and ?_
  | with_reducible refine x_or ?_
  | with_reducible refine x_not ?_
  | with_reducible refine x_andV ?_
  | with_reducible refine x_orV ?_
  | with_reducible refine x_notV ?_
  | with_reducible refine x_ifE ?_
  | with_reducible refine x_chain ?_
  | with_reducible refine x_chain3 ?_
  | with_reducible refine x_un ?_
  | with_reducible refine x_isNe ?_
  | with_reducible refine x_notNe ?_
  | with_reducible refine x_starA ?_
  | with_reducible refine x_plusI ?_
  | with_reducible refine x_minus ?_
  | with_reducible refine x_lt ?_
  | with_reducible refine x_le ?_
  | with_reducible refine x_gt ?_
  | with_reducible refine x_ge ?_
  | with_reducible refine x_eqI ?_
  | with_reducible refine x_neI ?_
  | with_reducible refine x_eqS ?_
  | with_reducible refine x_eqB ?_
  | with_reducible refine x_neB ?_
  | with_reducible refine x_int ?_
  | with_reducible refine x_intB ?_
  | with_reducible refine x_max2 ?_
  | with_reducible refine x_min2 ?_
  | with_reducible refine x_max3 ?_
  | with_reducible refine x_abs ?_
  | with_reducible refine x_neg ?_
  | with_reducible refine x_isi_ii ?_
  | with_reducible refine x_isi_ib ?_
  | with_reducible refine x_T ?_
  | with_reducible refine x_nT ?_
  | with_reducible refine x_nF ?_
  | with_reducible refine x_F ?_)
local macro_rules | `(tactic| walk_at "x") => `(tactic| repeat walk_at "x1")

local macro_rules | `(tactic| walk_at "q1") => `(tactic| first
  | walk_at "x1"
  | with_reducible refine x_sl ?_
  | with_reducible refine x_cmeth ?_
  | with_reducible refine x_noPart ?_
  | with_reducible refine x_part ?_
  | with_reducible refine x_partI ?_)
local macro_rules | `(tactic| walk_at "q") => `(tactic| repeat walk_at "q1")

local macro_rules | `(tactic| walk_at "q1") => `(tactic| with_reducible refine TxX.x_m1 ?_)
/-! ### bookings told -/
inductive Bk where
  | mt (b : Bool) (n : Int)
  | sr (b : Bool) (n m : Int) (t : Nat)
  | al (ns : List Int)
  | tn
def altS : Bool → List Int → List Stp
  | _, [] => []
  | b, n :: r => .mt b n :: altS (!b) r
namespace Bk
def ns : Bk → List Int
  | mt _ n => [n]
  | sr _ n m t => serL n m t
  | al ns => ns
  | tn => []
def C (K : PySem.W.Frag) : Bk → Addr
  | mt _ _ => ga K "Meeting"
  | sr _ _ _ _ => ga K "Series"
  | al _ => ga K "Alternation"
  | tn => ga K "Turning"
def fs (T : Addr) : Bk → List (Str × V)
  | mt b _ => [("needs", .ref T), ("room", .str (roomS b))]
  | sr b _ m _ => [("needs", .ref T), ("room", .str (roomS b)), ("more", .int m)]
  | al _ => [("needs", .ref T)]
  | tn => [("needs", .ref T)]
def ok : Bk → Prop
  | mt _ n => needOk n
  | sr _ n m t => needOk n ∧ 1 ≤ t ∧ t ≤ 60 ∧ ∀ y ∈ serL n m t, needOk y
  | al ns => ns ≠ [] ∧ nsOk ns
  | tn => True
def sm : Bk → Prop
  | sr _ _ m _ => -4 ≤ m ∧ m ≤ 4
  | al ns => ns.length ≤ 5
  | _ => True
def steps : Bk → List Stp
  | mt b n => [.mt b n]
  | sr b n m t => (serL n m t).map (Stp.mt b)
  | al ns => altS true ns
  | tn => [.turn]
def words : Bk → List Str
  | mt b n => [roomS b, nt n]
  | sr b n m t => [roomS b, nt n, ("times" : Str), nt (t : Int)] ++ (if m ≠ 0 then [("more" : Str), nt m] else [])
  | al ns => "alternate" :: ns.map nt
  | tn => ["turn"]
def line (b : Bk) : Str := Txt.join " " b.words
end Bk
structure BkAt (K : PySem.W.Frag) (H : Hp) (o : Addr) (b : Bk) : Prop where
  ex : ∃ dx T, H o = some (.ins (b.C K) dx (b.fs T)) ∧ H T = some (.tup (b.ns.map V.int))
  ok : b.ok
theorem BkAt.keep {K : PySem.W.Frag} {H H' : Hp} {o : Addr} {b : Bk} (h : BkAt K H o b) (k1 : ∀ a C dx fs, H a = some (.ins C dx fs) → H' a = some (.ins C dx fs)) (k2 : ∀ a xs, H a = some (.tup xs) → H' a = some (.tup xs)) : BkAt K H' o b := by
  obtain ⟨dx, T, e1, e2⟩ := h.ex
  exact ⟨⟨dx, T, k1 _ _ _ _ e1, k2 _ _ e2⟩, h.ok⟩
theorem BkAt.mono {K : PySem.W.Frag} {H H' : Hp} {o : Addr} {b : Bk} (h : BkAt K H o b) (s : Same H H') : BkAt K H' o b := h.keep (fun _ _ _ _ e => s _ _ e) fun _ _ e => s _ _ e
theorem altS_snoc : ∀ (b : Bool) (l : List Int) (n : Int), altS b (l ++ [n]) = altS b l ++ [.mt (if l.length % 2 = 0 then b else !b) n]
  | b, [], n => rfl
  | b, m :: r, n => by
    show Stp.mt b m :: altS (!b) (r ++ [n]) = Stp.mt b m :: (altS (!b) r ++ [_])
    rw [altS_snoc (!b) r n]
    have : (if r.length % 2 = 0 then !b else !(!b)) = (if (m :: r).length % 2 = 0 then b else !b) := by
      rw [List.length_cons, Bool.not_not]
      by_cases h : r.length % 2 = 0
      · rw [if_pos h, if_neg (by omega)]
      · rw [if_neg h, if_pos (by omega)]
    rw [this]
theorem altS_len : ∀ (b : Bool) (l : List Int), (altS b l).length = l.length
  | _, [] => rfl
  | b, n :: r => congrArg (· + 1) (altS_len (!b) r)
theorem steps_len {H : Hp} {vs : List V} {l : List Stp} (h : StepsAt H vs l) : vs.length = l.length := pr_len (R := fun (v : V) (s : Stp) => ∃ p, v = V.ref p ∧ H p = some (.tup (stepV s))) h
theorem Bk.ns_len {b : Bk} (h : b.ok) : b.ns.length ≤ 60 := by
  cases b with
  | mt b n => exact Nat.le_of_ble_eq_true rfl
  | sr b n m t => show (serL n m t).length ≤ 60; rw [serL_len]; exact h.2.2.1
  | al ns => exact h.2.2
  | tn => exact Nat.le_of_ble_eq_true rfl
section
variable {P : Program} {w : World} {K : PySem.W.Frag} {mg : Str → Option Value} {base : Heap}
/-! ### planned -/
def spPl (K : PySem.W.Frag) (g : Bk → Prop) : SpG := fun vs H cont _ => ∃ (o : Addr) (b : Bk), vs = [.ref o] ∧ BkAt K H o b ∧ g b ∧ ∀ ys H', Same H H' → StepsAt H' ys b.steps → cont ys H'
theorem okg_Turning_planned (W : Wd K mg) : G2.GFn2 P w K mg base 3 (ma K (ga K "Turning") "planned") (fdOf K (ma K (ga K "Turning") "planned")) ["self"] (spPl K fun b => b = .tn) := by
  refine G2.gen_ok W.F_Turning_planned sc_Turning_planned (fun vs H Q E ⟨o, b, e, _⟩ => by rw [e]; rfl) fun cdv A outer s H vs Q E pn hr ⟨o, b, e, hb, hg, k⟩ => ?_
  subst e hg
  refine ⟨_, (G2.gss2_cons (G2.gs2_yield (pe_tup (pa_cons (pe_gs W.t_TURN rfl) pa_nil))) G2.gss2_nil), ?_⟩
  with_reducible refine G2.x_gthen ?_
  with_reducible refine G2.x_gyield (by decide) ?_
  walk_at "q"
  refine ⟨sz rfl, fun t1 ht1 => ?_⟩; generalize hN1 : upd _ t1 _ = H1; obtain ⟨s1, e1⟩ := nws hN1 ht1
  with_reducible refine G2.x_gm ?_
  with_reducible refine G2.x_g0 ?_
  exact k _ H1 s1 (.cons ⟨t1, rfl, e1⟩ .nil)
theorem okg_Meeting_planned (W : Wd K mg) : G2.GFn2 P w K mg base 3 (ma K (ga K "Meeting") "planned") (fdOf K (ma K (ga K "Meeting") "planned")) ["self"] (spPl K fun b => (∃ r n, b = .mt r n) ∨ ∃ r n m t, b = .sr r n m t) := by
  refine G2.gen_ok W.F_Meeting_planned sc_Meeting_planned (fun vs H Q E ⟨o, b, e, _⟩ => by rw [e]; rfl) fun cdv A outer s H vs Q E pn hr ⟨o, b, e, hb, hg, k⟩ => ?_
  subst e
  have hq : ∃ C dx T r fs, H o = some (.ins C dx fs) ∧ Cls K C ∧ NoAttr K C "needs" ∧ NoAttr K C "room" ∧ fs.lookup ("needs" : Str) = some (.ref T) ∧ fs.lookup ("room" : Str) = some (.str (roomS r)) ∧ H T = some (.tup (b.ns.map V.int)) ∧ b.steps = b.ns.map (Stp.mt r) := by
    obtain ⟨dx, T, e1, e2⟩ := hb.ex
    rcases hg with ⟨r, n, rfl⟩ | ⟨r, n, m, t, rfl⟩
    · exact ⟨_, dx, T, r, _, e1, W.c_Meeting, W.n_Meeting_needs, W.n_Meeting_room, rfl, rfl, e2, rfl⟩
    · exact ⟨_, dx, T, r, _, e1, W.c_Series, W.n_Series_needs, W.n_Series_room, rfl, rfl, e2, rfl⟩
  obtain ⟨C, dx, T, r, fs, ho, hc, hn1, hn2, l1, l2, hT, hst⟩ := hq
  have hln := Bk.ns_len hb.ok
  refine ⟨_, (G2.gss2_cons (G2.gs2_for owns_gcx rfl (pi_tupK K (pe_fldK K (pv 0))) (pg_name (i := 1) sc_Meeting_planned.nd rfl (Or.inl rfl)) (G2.gss2_cons (G2.gs2_yield (pe_tup (pa_cons (pe_fldK K (pv 0)) (pa_cons (pv 1) pa_nil)))) G2.gss2_nil)) G2.gss2_nil), ?_⟩
  with_reducible refine G2.x_gthen ?_
  with_reducible refine G2.x_gfor ?_
  walk_at "q"
  refine x_fldAt ho hc hn1 l1 ?_
  refine x_iTAt (SqT.of hT) (G2.x_gloopW walk_tup (fun i ys σ H1 => Same H H1 ∧ (∃ a, σ = [some (.ref o), a]) ∧ StepsAt H1 ys ((b.ns.take i).map (Stp.mt r))) ⟨Same.refl _, ⟨_, rfl⟩, .nil⟩ (fun i ys σ H1 _ ⟨s1, _⟩ => SqT.of (s1 _ _ hT)) ?_ ?_)
  · rintro i y ys σ H1 H2 hi ⟨s1, ⟨a, rfl⟩, hys⟩ ⟨rfl, ey⟩
    rw [List.getElem?_map] at ey
    obtain ⟨n, en, rfl⟩ := Option.map_eq_some_iff.mp ey
    rw [List.length_map] at hi
    walk_at "q"
    with_reducible refine G2.x_gthen ?_
    have hyl := steps_len hys
    rw [List.length_map, List.length_take] at hyl
    with_reducible refine G2.x_gyield (sz5' (by omega)) ?_
    walk_at "q"
    refine x_fldAt (s1 _ _ ho) hc hn2 l2 ?_
    walk_at "q"
    refine ⟨sz rfl, fun t1 ht1 => ?_⟩; generalize hN1 : upd _ t1 _ = H3; obtain ⟨s3, e3⟩ := nws hN1 ht1
    with_reducible refine G2.x_gm ?_
    with_reducible refine G2.x_g0 ?_
    refine ⟨s1.trans s3, ⟨_, rfl⟩, ?_⟩
    rw [List.take_add_one, en, List.map_append]
    exact pr_snoc (pr_im (fun _ _ ⟨p, q1, q2⟩ => ⟨p, q1, s3 _ _ q2⟩) hys) ⟨t1, rfl, e3⟩
  · rintro ys σ H1 ⟨s1, ⟨a, rfl⟩, hys⟩
    rw [List.length_map, List.take_length, ← hst] at hys
    with_reducible refine G2.x_gm ?_
    with_reducible refine G2.x_g0 ?_
    exact k _ _ s1 hys
theorem okg_Booking_planned (W : Wd K mg) : G2.GFn2 P w K mg base 3 (ma K (ga K "Booking") "planned") (fdOf K (ma K (ga K "Booking") "planned")) ["self"] (spPl K fun b => ∃ l, b = .al l) := by
  refine G2.gen_ok W.F_Booking_planned sc_Booking_planned (fun vs H Q E ⟨o, b, e, _⟩ => by rw [e]; rfl) fun cdv A outer s H vs Q E pn hr ⟨o, b, e, hb, ⟨l, hg⟩, k⟩ => ?_
  subst e hg
  obtain ⟨dx, T, ho, hT⟩ := hb.ex
  have hln : l.length ≤ 60 := Bk.ns_len hb.ok
  refine ⟨_, (G2.gss2_cons (G2.gs2_for owns_gcx rfl (pi_enumTK K W.f_enumerate (pa_cons (pe_fldK K (pv 0)) pa_nil)) (pg_tupK (n := 2) K rfl (pgs_cons (pg_name (i := 1) sc_Booking_planned.nd rfl (Or.inl rfl)) (pgs_cons (pg_name (i := 2) sc_Booking_planned.nd rfl (Or.inl rfl)) pgs_nil))) (G2.gss2_cons (G2.gs2_yield (pe_tup (pa_cons (pe_ix (ix_K K) (pe_tup (pa_cons (pe_gs W.t_RED rfl) (pa_cons (pe_gs W.t_BLUE rfl) pa_nil))) (pe_op op_modP (pe_callTy c_int (by rfl) W.f_int (by decide +kernel) (pa_cons (pv 1) pa_nil)) pe_int) (fun _ _ => rfl)) (pa_cons (pv 2) pa_nil)))) G2.gss2_nil)) G2.gss2_nil), ?_⟩
  with_reducible refine G2.x_gthen ?_
  with_reducible refine G2.x_gfor ?_
  walk_at "q"
  refine x_fldAt ho W.c_Alternation W.n_Alternation_needs rfl ?_
  walk_at "q"
  refine x_iUAt (SqT.of hT) ?_
  refine (G2.x_gloopW walk_enumT (fun i ys σ H1 => Same H H1 ∧ (∃ a c, σ = [some (.ref o), a, c]) ∧ StepsAt H1 ys (altS true (l.take i))) ⟨Same.refl _, ⟨_, _, rfl⟩, .nil⟩ (fun i ys σ H1 _ ⟨s1, _⟩ => SqT.of (s1 _ _ hT)) ?_ ?_)
  · rintro i y ys σ H1 H2 hi ⟨s1, ⟨a, c, rfl⟩, hys⟩ ⟨T2, v1, v2, rfl, hT2, rfl, e1, e2⟩
    cases e1
    replace e2 : (l.map V.int)[i]? = some v2 := e2
    rw [List.getElem?_map] at e2
    obtain ⟨n, en, rfl⟩ := Option.map_eq_some_iff.mp e2
    have hi : i < l.length := by
      have := (List.getElem?_eq_some_iff.mp en).1
      exact this
    have sT : Same H1 (upd H1 T2 (.tup [.int (i : Nat), .int n])) := Same.new hT2
    refine x_gTup upd_same rfl ?_
    walk_at "q"
    with_reducible refine G2.x_gthen ?_
    have hyl := steps_len hys
    rw [altS_len, List.length_take] at hyl
    with_reducible refine G2.x_gyield (sz5' (by omega)) ?_
    walk_at "q"
    refine ⟨sz rfl, fun t4 ht4 => ?_⟩; generalize hN4 : upd _ t4 _ = H4; obtain ⟨s4, e4⟩ := nws hN4 ht4
    walk_at "q"
    refine x_mod (show (0 : Int) < 2 by decide) ?_
    have hpick : atI [V.str "red", V.str "blue"] ((i : Int) % 2) = some (.str (roomS (if i % 2 = 0 then true else !true))) := by
      by_cases h : i % 2 = 0
      · rw [if_pos h, show (i : Int) % 2 = ((0 : Nat) : Int) by omega]
        rfl
      · rw [if_neg h, show (i : Int) % 2 = ((1 : Nat) : Int) by omega]
        rfl
    refine x_ixT (SqT.of e4) hpick ?_
    walk_at "q"
    refine ⟨sz rfl, fun t5 ht5 => ?_⟩; generalize hN5 : upd _ t5 _ = H5; obtain ⟨s5, e5⟩ := nws hN5 ht5
    with_reducible refine G2.x_gm ?_
    with_reducible refine G2.x_g0 ?_
    have s15 := sT.trans (s4.trans s5)
    refine ⟨s1.trans s15, ⟨_, _, rfl⟩, ?_⟩
    rw [List.take_add_one, en]
    show StepsAt H5 _ (altS true (l.take i ++ [n]))
    rw [altS_snoc, List.length_take, Nat.min_eq_left (by omega)]
    exact pr_snoc (pr_im (fun _ _ ⟨p, q1, q2⟩ => ⟨p, q1, s15 _ _ q2⟩) hys) ⟨t5, rfl, e5⟩
  · rintro ys σ H1 ⟨s1, ⟨a, c, rfl⟩, hys⟩
    rw [List.length_map, show (Bk.al l).ns.length = l.length from rfl, List.take_length] at hys
    with_reducible refine G2.x_gm ?_
    with_reducible refine G2.x_g0 ?_
    exact k _ _ s1 hys
/-! ### line -/
def spLn (K : PySem.W.Frag) (g : Bk → Prop) : Sp := fun vs H Q _ => ∃ (o : Addr) (b : Bk), vs = [.ref o] ∧ BkAt K H o b ∧ g b ∧ ∀ H', Same H H' → Q (.str b.line) H'
theorem ok_Turning_line (W : Wd K mg) : FnR P w K mg base CX0 1 (gp "Turning" "line" K) (spLn K fun b => b = .tn) := by
  refine (def_ok W.F_Turning_line sc_Turning_line (fun _ _ _ _ _ _ us hl => match us, hl with | [_], _ => rfl) (fun vs H Q E ⟨o, b, e, _⟩ => by rw [e]; rfl) fun cdv A outer s H vs Q E hr ⟨o, b, e, hb, hg, k⟩ => ?_).2
  subst e hg
  refine ⟨_, PSs.nox (pss_one (ps_ret (pe_gs W.t_TURN rfl))), ?_⟩
  walk_at "q"
  have e : Bk.line .tn = "turn" := by
    unfold Bk.line
    rw [TL.join_eq]
    rfl
  rw [← e]
  exact k _ (Same.refl _)
theorem nt_le {n : Int} (h : needOk n) : (nt n).length ≤ 20 := nt_len h.1 (by have := h.2; omega)
theorem nt_nat20 {n : Int} (h : needOk n) : n.natAbs < 10 ^ 20 := by have := h.1; have := h.2; omega
theorem ok_Meeting_line (W : Wd K mg) : FnR P w K mg base CX0 1 (gp "Meeting" "line" K) (spLn K fun b => ∃ r n, b = .mt r n) := by
  refine (def_ok W.F_Meeting_line sc_Meeting_line (fun _ _ _ _ _ _ us hl => match us, hl with | [_], _ => rfl) (fun vs H Q E ⟨o, b, e, _⟩ => by rw [e]; rfl) fun cdv A outer s H vs Q E hr ⟨o, b, e, hb, ⟨r, n, hg⟩, k⟩ => ?_).2
  subst e hg
  obtain ⟨dx, T, ho, hT⟩ := hb.ex
  have hn : needOk n := hb.ok
  refine ⟨_, PSs.nox (pss_one (ps_ret (TxX.pe_joinK K pe_str (pe_lst (pa_cons (pe_fldK K (pv 0)) (pa_cons (pe_callTy TxX.c_strI (by rfl) W.f_str (by decide +kernel) (pa_cons (pe_ix (ix_K K) (pe_fldK K (pv 0)) pe_int (fun _ _ => rfl)) pa_nil)) pa_nil)))))), ?_⟩
  walk_at "q"
  refine ⟨⟨_, rfl⟩, ?_⟩
  walk_at "q"
  refine x_fldAt ho W.c_Meeting W.n_Meeting_room rfl ?_
  walk_at "q"
  refine x_fldAt ho W.c_Meeting W.n_Meeting_needs rfl ?_
  walk_at "q"
  refine x_ixT (SqT.of hT) (i := ((0 : Nat) : Int)) (v := .int n) (atI_nat rfl) ?_
  walk_at "q"
  refine x_strI (nt_nat20 hn) ?_
  walk_at "q"
  refine ⟨sz rfl, fun t1 ht1 => ?_⟩; generalize hN1 : upd _ t1 _ = H1; obtain ⟨s1, e1⟩ := nws hN1 ht1
  have hl := nt_le hn
  refine x_joinL (ys := [roomS r, nt n]) (SqL.of e1) ?_ ?_
  · show (roomS r).length + ((nt n).length + 0) + 2 * 1 ≤ 16777216
    have : (roomS r).length ≤ 4 := by cases r <;> decide
    omega
  exact k _ s1
theorem ok_Booking_line (W : Wd K mg) : FnR P w K mg base CX0 1 (gp "Booking" "line" K) (spLn K fun b => ∃ l, b = .al l) := by
  refine (def_ok W.F_Booking_line sc_Booking_line (fun _ _ _ _ _ _ us hl => match us, hl with | [_], _ => rfl) (fun vs H Q E ⟨o, b, e, _⟩ => by rw [e]; rfl) fun cdv A outer s H vs Q E hr ⟨o, b, e, hb, ⟨l, hg⟩, k⟩ => ?_).2
  subst e hg
  obtain ⟨dx, T, ho, hT⟩ := hb.ex
  have hok : nsOk l := hb.ok.2
  refine ⟨_, PSs.nox (pss_one (ps_ret (TxX.pe_joinK K pe_str (pe_op op_plus (pe_lst (pa_cons pe_str pa_nil)) (pe_lc (own := [("need", 1)]) (g := gName 1) (tt := tYes) rfl sc_Booking_line.nd (pi_tupK K (pe_fldK K (pv 0))) (blkOk_by (own := [("need", 1)]) (N := N_Booking_line) (sc := defScope s_Booking_line) (by decide +kernel)) (fun _ _ _ _ _ => (pg_name (i := 1) sc_Booking_line.nd rfl (Or.inl rfl))) (fun _ _ _ _ _ => pts_nil) (fun _ _ _ _ _ => (pe_callTy TxX.c_strI (by rfl) W.f_str (by decide +kernel) (pa_cons (pv 1) pa_nil)))))))), ?_⟩
  walk_at "q"
  refine ⟨⟨_, rfl⟩, ?_⟩
  walk_at "q"
  refine ⟨sz rfl, fun t1 ht1 => ?_⟩; generalize hN1 : upd _ t1 _ = H1; obtain ⟨s1, e1⟩ := nws hN1 ht1
  walk_at "q"
  refine x_fldAt (s1 _ _ ho) W.c_Alternation W.n_Alternation_needs rfl ?_
  refine x_iTAt (SqT.of (s1 _ _ hT)) ?_
  refine x_lcA walk_tup (fun i acc _ => acc = ((l.take i).map nt).map V.str) (fun _ _ _ _ _ _ _ h => h) (fun _ _ => rfl) (by rw [List.length_map]; have : l.length ≤ 60 := hok.2; show l.length ≤ _; omega) (fun H' s' => SqT.of (s' _ _ (s1 _ _ hT))) ?_ ?_
  · rintro i y acc H3 H4 NT NF hTT hF hi s3 rfl ⟨rfl, ey⟩
    rw [List.getElem?_map] at ey
    obtain ⟨n, en, rfl⟩ := Option.map_eq_some_iff.mp ey
    replace en : l[i]? = some n := en
    walk_at "q"
    refine ⟨rfl, ?_⟩
    walk_at "q"
    refine x_strI (nt_nat20 (hok.1 n (List.mem_of_getElem? en))) ?_
    refine hTT _ _ (Same.refl _) ?_
    rw [List.take_add_one, en, List.map_append, List.map_append]
    rfl
  rintro L acc H6 hL s6 hL2 rfl hdl
  rw [List.length_map, show (Bk.al l).ns.length = l.length from rfl, List.take_length] at hL2
  refine n_plusL (s6 _ _ e1) hL2 (sz5 (by rw [List.length_map, List.length_map]; have : l.length ≤ 60 := hok.2; show 1 + l.length ≤ _; omega)) fun y H8 hy s8 e8 => ?_
  have hsum : ∀ (r : List Int), (∀ n ∈ r, needOk n) → ((r.map nt).map (·.length)).sum ≤ 20 * r.length := by
    intro r
    induction r with
    | nil => intro _; exact Nat.le_refl _
    | cons n r ih =>
      intro h
      have h1 := nt_le (h n List.mem_cons_self)
      have h2 := ih fun m hm => h m (List.mem_cons_of_mem _ hm)
      show (nt n).length + ((r.map nt).map (·.length)).sum ≤ 20 * (r.length + 1)
      omega
  refine x_joinL (ys := "alternate" :: l.map nt) (SqL.of e8) ?_ ?_
  · have h1 := hsum l hok.1
    have h2 : l.length ≤ 60 := hok.2
    show 9 + ((l.map nt).map (·.length)).sum + ((l.map nt).length + 1) * 1 ≤ 16777216
    rw [List.length_map]
    omega
  exact k _ (s1.trans (s6.trans s8))
theorem ok_Series_line (W : Wd K mg) : FnR P w K mg base CX0 1 (gp "Series" "line" K) (spLn K fun b => ∃ r n m t, b = .sr r n m t ∧ -4 ≤ m ∧ m ≤ 4) := by
  refine (def_ok W.F_Series_line sc_Series_line (fun _ _ _ _ _ _ us hl => match us, hl with | [_], _ => rfl) (fun vs H Q E ⟨o, b, e, _⟩ => by rw [e]; rfl) fun cdv A outer s H vs Q E hr ⟨o, b, e, hb, ⟨r, n, m, t, hg, m0, m1⟩, k⟩ => ?_).2
  subst e hg
  obtain ⟨dx, T, ho, hT⟩ := hb.ex
  obtain ⟨hn, t1, t60, hall⟩ := hb.ok
  have hln : (serL n m t).length = t := serL_len
  have hhead : ∃ r, serL n m t = n :: r := by
    cases t with
    | zero => omega
    | succ t =>
      unfold serL
      rw [List.range_succ_eq_map]
      exact ⟨_, by rw [List.map_cons]; show (n + ((0 : Nat) : Int) * m) :: _ = n :: _; rw [show n + ((0 : Nat) : Int) * m = n by simp]⟩
  obtain ⟨rs, hrs⟩ := hhead
  have hT' : H T = some (.tup ((n :: rs).map V.int)) := by rw [← hrs]; exact hT
  have hlr : (roomS r).length ≤ 4 := by cases r <;> decide
  have hlt := nt_len (n := (t : Int)) (by omega) (by omega)
  have hln1 := nt_le hn
  have hm := nt_small m0 m1
  refine ⟨_, PSs.nox (pss_cons (ps_set (i := 1) sc_Series_line.nd rfl (Or.inl rfl) (pe_lst (pa_cons (pe_fldK K (pv 0)) (pa_cons (pe_callTy TxX.c_strI (by rfl) W.f_str (by decide +kernel) (pa_cons (pe_ix (ix_K K) (pe_fldK K (pv 0)) pe_int (fun _ _ => rfl)) pa_nil)) (pa_cons pe_str (pa_cons (pe_callTy TxX.c_strI (by rfl) W.f_str (by decide +kernel) (pa_cons (pe_callB (c_lenK K) (by rfl) W.f_len (by decide +kernel) (pa_cons (pe_fldK K (pv 0)) pa_nil)) pa_nil)) pa_nil)))))) (pss_one (ps_ret (TxX.pe_joinK K pe_str (pe_ifExp (pt_cmpR (op_neK K hr.units) (pe_fldK K (pv 0)) pe_int (nomark _)) (pe_op op_plus (pv 1) (pe_lst (pa_cons pe_str (pa_cons (pe_callTy TxX.c_strI (by rfl) W.f_str (by decide +kernel) (pa_cons (pe_fldK K (pv 0)) pa_nil)) pa_nil)))) (pv 1)))))), ?_⟩
  walk_at "q"
  refine x_fldAt ho W.c_Series W.n_Series_room rfl ?_
  walk_at "q"
  refine x_fldAt ho W.c_Series W.n_Series_needs rfl ?_
  walk_at "q"
  refine x_ixT (SqT.of hT') (i := ((0 : Nat) : Int)) (v := .int n) (atI_nat rfl) ?_
  walk_at "q"
  refine x_strI (nt_nat20 hn) ?_
  walk_at "q"
  refine x_fldAt ho W.c_Series W.n_Series_needs rfl ?_
  walk_at "q"
  refine x_lenT (SqT.of hT) ?_
  rw [List.length_map, show (Bk.sr r n m t).ns.length = t from hln]
  walk_at "q"
  refine x_strI (by omega) ?_
  walk_at "q"
  refine ⟨sz rfl, fun u1 hu1 => ?_⟩; generalize hN1 : upd _ u1 _ = H1; obtain ⟨s1, e1⟩ := nws hN1 hu1
  walk_at "q"
  refine ⟨⟨_, rfl⟩, ?_⟩
  walk_at "q"
  refine x_fldAt (s1 _ _ ho) W.c_Series W.n_Series_more rfl ?_
  walk_at "q"
  refine x_ifnd (fun hm0 => ?_) fun hm0 => ?_
  · walk_at "q"
    refine x_fldAt (s1 _ _ ho) W.c_Series W.n_Series_more rfl ?_
    walk_at "q"
    refine x_strI (by omega) ?_
    walk_at "q"
    refine ⟨sz rfl, fun u2 hu2 => ?_⟩; generalize hN2 : upd _ u2 _ = H2; obtain ⟨s2, e2⟩ := nws hN2 hu2
    refine n_plusL (s2 _ _ e1) e2 (sz5 (by show 6 ≤ _; decide)) fun y H3 hy s3 e3 => ?_
    have ew : Bk.words (.sr r n m t) = [roomS r, nt n, ("times" : Str), nt (t : Int), ("more" : Str), nt m] := by
      show [roomS r, nt n, ("times" : Str), nt (t : Int)] ++ (if m ≠ 0 then [("more" : Str), nt m] else []) = _
      rw [if_pos (show m ≠ 0 from hm0)]
      rfl
    refine x_joinL (ys := [roomS r, nt n, ("times" : Str), nt (t : Int), ("more" : Str), nt m]) (SqL.of e3) ?_ ?_
    · show (roomS r).length + ((nt n).length + (5 + ((nt (t : Int)).length + (4 + ((nt m).length + 0))))) + 6 * 1 ≤ 16777216
      have := hm.2.1
      omega
    rw [← ew]
    exact k _ (s1.trans (s2.trans s3))
  · walk_at "q"
    have ew : Bk.words (.sr r n m t) = [roomS r, nt n, ("times" : Str), nt (t : Int)] := by
      show [roomS r, nt n, ("times" : Str), nt (t : Int)] ++ (if m ≠ 0 then [("more" : Str), nt m] else []) = _
      rw [if_neg (show ¬ m ≠ 0 from fun z => z hm0)]
      rfl
    refine x_joinL (ys := [roomS r, nt n, ("times" : Str), nt (t : Int)]) (SqL.of e1) ?_ ?_
    · show (roomS r).length + ((nt n).length + (5 + ((nt (t : Int)).length + 0))) + 4 * 1 ≤ 16777216
      omega
    rw [← ew]
    exact k _ s1
end
end K42

set_option Elab.async false
set_option linter.all false
set_option autoImplicit false
set_option maxRecDepth 100000
set_option pp.maxSteps 500
set_option maxHeartbeats 4000000
namespace K42
open PySem PySem.Spec PyProof.Rows L2 He ChH Ch ChM SuX TxX
local macro_rules | `(tactic| walk_at "x1") => `(tactic| first
  | ((with_reducible apply x_var); exact rfl)
  | with_reducible refine x_c ?_
  | with_reducible refine x_op ?_
  | with_reducible refine x_seq ?_
  | with_reducible refine x_asg ?_
  | with_reducible refine x_gname ?_
  | with_reducible refine x_cons ?_
  | with_reducible refine x_nil ?_
  | with_reducible refine x_fld ?_
  | with_reducible refine x_ret ?_
  | with_reducible refine x_ifS ?_
  | with_reducible refine x_test ?_
  | with_reducible refine x_ex ?_
  | with_reducible refine x_call ?_
  | with_reducible refine x_mk ?_
  | with_reducible refine x_meth ?_
  | with_reducible refine x_prop ?_
  | with_reducible refine x_cb ?_
  | with_reducible refine x_tup ?_
  | with_reducible refine x_lst ?_
  | with_reducible refine x_drop ?_
  | with_reducible refine x_for ?_
  | with_reducible refine x_iL ?_
  | with_reducible refine x_iT ?_
  | with_reducible refine x_iE ?_
  | with_reducible refine x_iU ?_
  | with_reducible refine x_iR1 ?_
  | with_reducible refine x_iR2 ?_
  | with_reducible refine x_gcons ?_
  | with_reducible refine x_gnil ?_
  | with_reducible refine x_par ?_
  | with_reducible refine x_lstRg ?_
  | with_reducible refine x_rg1 ?_
  | with_reducible refine x_rg1At ?_
  | with_reducible refine x_par3 ?_
  | with_reducible refine x_bm ?_
  | with_reducible refine x_bm0 ?_
  | with_reducible refine x_gSub ?_
  | with_reducible refine x_lc ?_
  | with_reducible refine x_yes ?_
  | with_reducible refine x_setf ?_
  | with_reducible refine x_next ?_
  | with_reducible refine x_B ?_
  | with_reducible refine x_and ?_
  | with_reducible refine x_or ?_
  | with_reducible refine x_not ?_
  | with_reducible refine x_andV ?_
  | with_reducible refine x_orV ?_
  | with_reducible refine x_notV ?_
  | with_reducible refine x_ifE ?_
  | with_reducible refine x_chain ?_
  | with_reducible refine x_chain3 ?_
  | with_reducible refine x_un ?_
  | with_reducible refine x_isNe ?_
  | with_reducible refine x_notNe ?_
  | with_reducible refine x_starA ?_
  | with_reducible refine x_plusI ?_
  | with_reducible refine x_minus ?_
  | with_reducible refine x_lt ?_
  | with_reducible refine x_le ?_
  | with_reducible refine x_gt ?_
  | with_reducible refine x_ge ?_
  | with_reducible refine x_eqI ?_
  | with_reducible refine x_neI ?_
  | with_reducible refine x_eqS ?_
  | with_reducible refine x_eqB ?_
  | with_reducible refine x_neB ?_
  | with_reducible refine x_int ?_
  | with_reducible refine x_intB ?_
  | with_reducible refine x_max2 ?_
  | with_reducible refine x_min2 ?_
  | with_reducible refine x_max3 ?_
  | with_reducible refine x_abs ?_
  | with_reducible refine x_neg ?_
  | with_reducible refine x_isi_ii ?_
  | with_reducible refine x_isi_ib ?_
  | with_reducible refine x_T ?_
  | with_reducible refine x_nT ?_
  | with_reducible refine x_nF ?_
  | with_reducible refine x_F ?_)
local macro_rules | `(tactic| walk_at "x") => `(tactic| repeat walk_at "x1")

local macro_rules | `(tactic| walk_at "q1") => `(tactic| first
  | walk_at "x1"
  | with_reducible refine x_sl ?_
  | with_reducible refine x_cmeth ?_
  | with_reducible refine x_noPart ?_
  | with_reducible refine x_part ?_
  | with_reducible refine x_partI ?_)
local macro_rules | `(tactic| walk_at "q") => `(tactic| repeat walk_at "q1")

local macro_rules | `(tactic| walk_at "q1") => `(tactic| with_reducible refine TxX.x_m1 ?_)
section
variable {P : Program} {w : World} {K : PySem.W.Frag} {mg : Str → Option Value} {base : Heap}
theorem x_cut {t u : TS} {De : Ends} {σ : L2.St} {H : Hp} (R : L2.St → Hp → Prop) (h1 : ∀ nx : L2.St → Hp → Prop, (∀ σ' H', R σ' H' → nx σ' H') → t { De with nx := nx } σ H) (h2 : ∀ σ' H', R σ' H' → u De σ' H') : tSeq t u De σ H := h1 (u De) h2
/-- a booking drawn: its words, its steps -/
def spLB (K : PySem.W.Frag) : Sp := fun vs H Q _ => ∃ (h q : Addr), vs = [.ref h] ∧ Dr H h q ∧
  ∀ r wl sl ps (b : Bk) H', H r = none → H wl = none → H sl = none → Same2 h q H H' → Dr H' h q → H' r = some (.tup [.ref wl, .ref sl]) → H' wl = some (.lst (b.words.map V.str)) → H' sl = some (.lst ps) → StepsAt H' ps b.steps → b.ok → b.sm → Q (.ref r) H'
theorem ok__law_booking (W : Wd K mg) : FnR P w K mg base CX0 2 (ga K "_law_booking") (spLB K) := by
  refine (def_ok W.F__law_booking sc__law_booking (fun _ _ _ _ _ _ us hl => match us, hl with | [_], _ => rfl) (fun vs H Q E ⟨h, q, e, _⟩ => by rw [e]; rfl) fun cdv A outer s H vs Q E hr ⟨h, q, e, D, k⟩ => ?_).2
  subst e
  refine ⟨_, PSs.nox (pss_cons (ps_asg (pe_tup (pa_cons (pe_ix (ix_K K) (pe_lst (pa_cons pe_str (pa_cons pe_str pa_nil))) (pe_callR (ok__law_next W) (hr.mono (by decide)) W.g__law_next W.k__law_next pass0 rfl (pa_cons (pv 0) (pa_cons pe_int pa_nil))) (fun _ _ => rfl)) (pa_cons (pe_callR (ok__law_next W) (hr.mono (by decide)) W.g__law_next W.k__law_next pass0 rfl (pa_cons (pv 0) (pa_cons (pe_ix (ix_K K) (pe_lst (pa_cons pe_int (pa_cons (pe_op op_plus (pe_op op_powP pe_int pe_int) pe_int) pa_nil))) (pe_op op_divP (pe_callR (ok__law_next W) (hr.mono (by decide)) W.g__law_next W.k__law_next pass0 rfl (pa_cons (pv 0) (pa_cons pe_int pa_nil))) pe_int) (fun _ _ => rfl)) pa_nil))) (pa_cons (pe_callR (ok__law_next W) (hr.mono (by decide)) W.g__law_next W.k__law_next pass0 rfl (pa_cons (pv 0) (pa_cons pe_int pa_nil))) pa_nil)))) (pg_tupK (n := 3) K rfl (pgs_cons (pg_name (i := 1) sc__law_booking.nd rfl (Or.inr rfl)) (pgs_cons (pg_name (i := 2) sc__law_booking.nd rfl (Or.inr rfl)) (pgs_cons (pg_name (i := 3) sc__law_booking.nd rfl (Or.inl rfl)) pgs_nil))))) (pss_cons (ps_if (pt_cmpR (op_eqK K hr.units) (pv 3) pe_int (nomark _)) (pss_one (ps_ret (pe_tup (pa_cons (pe_lst (pa_cons pe_str pa_nil)) (pa_cons (pe_lst (pa_cons (pe_tup (pa_cons pe_str pa_nil)) pa_nil)) pa_nil))))) pss_nil) (pss_cons (ps_if (pt_cmpR (op_eqK K hr.units) (pv 3) pe_int (nomark _)) (pss_one (ps_ret (pe_tup (pa_cons (pe_lst (pa_cons (pv 1) (pa_cons (pe_callTy TxX.c_strI (by rfl) W.f_str (by decide +kernel) (pa_cons (pv 2) pa_nil)) pa_nil))) (pa_cons (pe_lst (pa_cons (pe_tup (pa_cons (pv 1) (pa_cons (pv 2) pa_nil))) pa_nil)) pa_nil))))) pss_nil) (pss_cons (ps_if (pt_cmpR (op_eqK K hr.units) (pv 3) pe_int (nomark _)) (pss_cons (ps_set (i := 4) sc__law_booking.nd rfl (Or.inr rfl) (pe_lc (own := [("_law_k", 10)]) (g := gName 10) (tt := tYes) rfl sc__law_booking.nd (pi_range1 (by rfl) W.f_range (pa_cons (pe_op op_plus pe_int (pe_callR (ok__law_next W) (hr.mono (by decide)) W.g__law_next W.k__law_next pass0 rfl (pa_cons (pv 0) (pa_cons pe_int pa_nil)))) pa_nil)) (blkOk_by (own := [("_law_k", 10)]) (N := N__law_booking) (sc := defScope s__law_booking) (by decide +kernel)) (fun _ _ _ _ _ => (pg_name (i := 10) sc__law_booking.nd rfl (Or.inl rfl))) (fun _ _ _ _ _ => pts_nil) (fun _ _ _ _ _ => (pe_callR (ok__law_next W) (hr.mono (by decide)) W.g__law_next W.k__law_next pass0 rfl (pa_cons (pv 0) (pa_cons pe_int pa_nil)))))) (pss_cons (ps_setLc (i := 5) (own := [("_law_k", 10)]) (g := gName 10) (tt := tYes) rfl sc__law_booking.nd rfl rfl (sw_true rfl rfl rfl (by decide +kernel)) (pi_range1 (by rfl) W.f_range (pa_cons (pe_callB (c_lenK K) (by rfl) W.f_len (by decide +kernel) (pa_cons (pv 4) pa_nil)) pa_nil)) (blkOk_by (own := [("_law_k", 10)]) (N := N__law_booking) (sc := defScope s__law_booking) (by decide +kernel)) (fun _ _ _ _ _ => (pg_name (i := 10) sc__law_booking.nd rfl (Or.inl rfl))) (fun _ _ _ _ _ => pts_nil) (fun _ _ _ _ _ => (pe_tup (pa_cons (pe_ix (ix_K K) (pe_lst (pa_cons pe_str (pa_cons pe_str pa_nil))) (pe_op op_modP (pv 10) pe_int) (fun _ _ => rfl)) (pa_cons (pe_ix (ix_K K) (pv 4) (pv 10) (fun _ _ => rfl)) pa_nil))))) (pss_one (ps_ret (pe_tup (pa_cons (pe_op op_plus (pe_lst (pa_cons pe_str pa_nil)) (pe_lc (own := [("_law_one", 11)]) (g := gName 11) (tt := tYes) rfl sc__law_booking.nd (pi_listK K (pv 4)) (blkOk_by (own := [("_law_one", 11)]) (N := N__law_booking) (sc := defScope s__law_booking) (by decide +kernel)) (fun _ _ _ _ _ => (pg_name (i := 11) sc__law_booking.nd rfl (Or.inl rfl))) (fun _ _ _ _ _ => pts_nil) (fun _ _ _ _ _ => (pe_callTy TxX.c_strI (by rfl) W.f_str (by decide +kernel) (pa_cons (pv 11) pa_nil))))) (pa_cons (pv 5) pa_nil))))))) pss_nil) (pss_cons (ps_asg (pe_tup (pa_cons (pe_op op_plus pe_int (pe_callR (ok__law_next W) (hr.mono (by decide)) W.g__law_next W.k__law_next pass0 rfl (pa_cons (pv 0) (pa_cons (pe_ix (ix_K K) (pe_lst (pa_cons pe_int (pa_cons pe_int pa_nil))) (pe_op op_divP (pe_callR (ok__law_next W) (hr.mono (by decide)) W.g__law_next W.k__law_next pass0 rfl (pa_cons (pv 0) (pa_cons pe_int pa_nil))) pe_int) (fun _ _ => rfl)) pa_nil)))) (pa_cons (pe_op op_minus (pe_callR (ok__law_next W) (hr.mono (by decide)) W.g__law_next W.k__law_next pass0 rfl (pa_cons (pv 0) (pa_cons pe_int pa_nil))) pe_int) pa_nil))) (pg_tupK (n := 2) K rfl (pgs_cons (pg_name (i := 6) sc__law_booking.nd rfl (Or.inl rfl)) (pgs_cons (pg_name (i := 7) sc__law_booking.nd rfl (Or.inr rfl)) pgs_nil)))) (pss_cons (ps_if (PW.pt (pw_or (pt_cmpR op_ltI (pe_op op_plus (pv 2) (pe_op op_times (pe_op op_minus (pv 6) pe_int) (pv 7))) pe_int (nomark _)) (pw_or1 (pt_cmpR op_gtI (pe_op op_plus (pv 2) (pe_op op_times (pv 6) pe_int)) (pe_op op_powP pe_int pe_int) (nomark _))))) (pss_one (ps_set (i := 2) sc__law_booking.nd rfl (Or.inr rfl) pe_int)) pss_nil) (pss_cons (ps_setLc (i := 5) (own := [("_law_turn", 9)]) (g := gName 9) (tt := tYes) rfl sc__law_booking.nd rfl rfl (sw_true rfl rfl rfl (by decide +kernel)) (pi_range1 (by rfl) W.f_range (pa_cons (pv 6) pa_nil)) (blkOk_by (own := [("_law_turn", 9)]) (N := N__law_booking) (sc := defScope s__law_booking) (by decide +kernel)) (fun _ _ _ _ _ => (pg_name (i := 9) sc__law_booking.nd rfl (Or.inl rfl))) (fun _ _ _ _ _ => pts_nil) (fun _ _ _ _ _ => (pe_tup (pa_cons (pv 1) (pa_cons (pe_op op_plus (pv 2) (pe_op op_times (pv 9) (pv 7))) pa_nil))))) (pss_cons (ps_set (i := 8) sc__law_booking.nd rfl (Or.inl rfl) (pe_lst (pa_cons (pv 1) (pa_cons (pe_callTy TxX.c_strI (by rfl) W.f_str (by decide +kernel) (pa_cons (pv 2) pa_nil)) (pa_cons pe_str (pa_cons (pe_callTy TxX.c_strI (by rfl) W.f_str (by decide +kernel) (pa_cons (pv 6) pa_nil)) pa_nil)))))) (pss_one (ps_ret (pe_tup (pa_cons (pe_ifExp (pt_cmpR (op_neK K hr.units) (pv 7) pe_int (nomark _)) (pe_op op_plus (pv 8) (pe_lst (pa_cons pe_str (pa_cons (pe_callTy TxX.c_strI (by rfl) W.f_str (by decide +kernel) (pa_cons (pv 7) pa_nil)) pa_nil)))) (pv 8)) (pa_cons (pv 5) pa_nil))))))))))))), ?_⟩
  have e18 : (10 : Int) ^ ((18 : Int).toNat) = 1000000000000000000 := by decide
  walk_at "q"
  refine ⟨sz rfl, fun u1 hu1 => ?_⟩; generalize hN1 : upd _ u1 _ = H1; obtain ⟨s1, e1⟩ := nws hN1 hu1
  obtain ⟨u1h, u1q⟩ := D.neN hu1
  walk_at "q"
  refine ⟨h, q, 2, rfl, D.mono s1, by decide, by decide, fun z2 H2 z20 z21 s2 D2 => ?_⟩
  obtain ⟨y2, hy2, hyy2⟩ := pick2 (u := .str "red") (v := .str "blue") z20 z21
  refine x_ixL (SqL.of (s2 _ _ u1h u1q e1)) hy2 ?_
  obtain ⟨rm, rfl⟩ : ∃ b : Bool, y2 = .str (roomS b) := by
    rcases hyy2 with ⟨_, e⟩ | ⟨_, e⟩
    · exact ⟨true, e⟩
    · exact ⟨false, e⟩
  walk_at "q"
  refine x_pow ⟨by decide, by decide, by decide⟩ ?_
  rw [e18]
  walk_at "q"
  refine ⟨sz rfl, fun u3 hu3 => ?_⟩; generalize hN3 : upd _ u3 _ = H3; obtain ⟨s3, e3⟩ := nws hN3 hu3
  obtain ⟨u3h, u3q⟩ := D2.neN hu3
  walk_at "q"
  refine ⟨h, q, 5, rfl, D2.mono s3, by decide, by decide, fun z4 H4 z40 z41 s4 D4 => ?_⟩
  walk_at "q"
  refine x_div (divW (by decide) (by decide)) ?_
  have hz4 : z4 / 4 = 0 ∨ z4 / 4 = 1 := by omega
  obtain ⟨mx, hmx, hmx2⟩ : ∃ m : Int, atI [V.int 20, V.int (1000000000000000000 + 1)] (z4 / 4) = some (.int m) ∧ 0 < m ∧ m ≤ 1000000000000000001 := by
    rcases hz4 with h | h <;> rw [h]
    · exact ⟨20, rfl, by decide⟩
    · exact ⟨1000000000000000000 + 1, rfl, by decide⟩
  refine x_ixL (SqL.of (s4 _ _ u3h u3q e3)) hmx ?_
  walk_at "q"
  refine ⟨h, q, mx, rfl, D4, hmx2.1, by omega, fun nd H5 nd0 nd1 s5 D5 => ?_⟩
  walk_at "q"
  refine ⟨h, q, 5, rfl, D5, by decide, by decide, fun kd H6 kd0 kd1 s6 D6 => ?_⟩
  walk_at "q"
  refine ⟨sz rfl, fun u7 hu7 => ?_⟩; generalize hN7 : upd _ u7 _ = H7; obtain ⟨s7, e7⟩ := nws hN7 hu7
  have s17 : Same2 h q H H7 := (Same2.of s1).trans (s2.trans ((Same2.of s3).trans (s4.trans (s5.trans (s6.trans (Same2.of s7))))))
  have D7 := D6.mono s7
  have hnd : needOk nd := ⟨nd0, by omega⟩
  clear s6 s5 s4 s3 s2 s1
  refine x_gTup e7 rfl ?_
  walk_at "q"
  have free2 : ∀ {a : Addr} {Ha : Hp}, Same2 h q H Ha → Dr Ha h q → Ha a = none → H a = none := fun {a Ha} s Da ha => by
    obtain ⟨n1, n2⟩ := Da.neN ha
    cases z : H a with
    | none => rfl
    | some o =>
      have := s a o n1 n2 z
      rw [ha] at this
      cases this
  -- the end of each way
  have fin : ∀ (wl sl : Addr) (ps : List V) (b : Bk) (H8 : Hp), Same2 h q H H8 → Dr H8 h q → H wl = none → H sl = none → H8 wl = some (.lst (b.words.map V.str)) → H8 sl = some (.lst ps) → StepsAt H8 ps b.steps → b.ok → b.sm → ∀ r, H8 r = none → Q (.ref r) (upd H8 r (.tup [.ref wl, .ref sl])) := by
    intro wl sl ps b H8 s8 D8 hw hsl ew es hst hok h5 r hr0
    have sr : Same H8 (upd H8 r (.tup [.ref wl, .ref sl])) := Same.new hr0
    exact k r wl sl ps b _ (free2 s8 D8 hr0) hw hsl (s8.trans (Same2.of sr)) (D8.mono sr) upd_same (sr _ _ ew) (sr _ _ es) (hst.mono sr) hok h5
  refine x_ifd (fun h0 => ?_) fun h0 => ?_
  · walk_at "q"
    refine ⟨sz rfl, fun w1 hw1 => ?_⟩; generalize hN8 : upd _ w1 _ = H8; obtain ⟨s8, e8⟩ := nws hN8 hw1
    walk_at "q"
    refine ⟨sz rfl, fun t1 ht1 => ?_⟩; generalize hN9 : upd _ t1 _ = H9; obtain ⟨s9, e9⟩ := nws hN9 ht1
    walk_at "q"
    refine ⟨sz rfl, fun l1 hl1 => ?_⟩; generalize hNa : upd _ l1 _ = Ha; obtain ⟨sa, ea⟩ := nws hNa hl1
    have s7a := s8.trans (s9.trans sa)
    walk_at "q"
    exact ⟨sz rfl, fin w1 l1 [.ref t1] .tn Ha (s17.trans (Same2.of s7a)) (D7.mono s7a) (free2 s17 D7 hw1) (free2 s17 D7 ((s8.trans s9).free hl1)) ((s9.trans sa) _ _ e8) ea (.cons ⟨t1, rfl, sa _ _ e9⟩ .nil) trivial trivial⟩
  walk_at "q"
  refine x_ifd (fun h1 => ?_) fun h1 => ?_
  · walk_at "q"
    refine x_strI (nt_nat20 hnd) ?_
    walk_at "q"
    refine ⟨sz rfl, fun w1 hw1 => ?_⟩; generalize hN8 : upd _ w1 _ = H8; obtain ⟨s8, e8⟩ := nws hN8 hw1
    walk_at "q"
    refine ⟨sz rfl, fun t1 ht1 => ?_⟩; generalize hN9 : upd _ t1 _ = H9; obtain ⟨s9, e9⟩ := nws hN9 ht1
    walk_at "q"
    refine ⟨sz rfl, fun l1 hl1 => ?_⟩; generalize hNa : upd _ l1 _ = Ha; obtain ⟨sa, ea⟩ := nws hNa hl1
    have s7a := s8.trans (s9.trans sa)
    walk_at "q"
    exact ⟨sz rfl, fin w1 l1 [.ref t1] (.mt rm nd) Ha (s17.trans (Same2.of s7a)) (D7.mono s7a) (free2 s17 D7 hw1) (free2 s17 D7 ((s8.trans s9).free hl1)) ((s9.trans sa) _ _ e8) ea (.cons ⟨t1, rfl, sa _ _ e9⟩ .nil) hnd trivial⟩
  walk_at "q"
  refine x_ifd (fun h2 => ?_) fun h2 => ?_
  · walk_at "q"
    refine ⟨h, q, 5, rfl, D7, by decide, by decide, fun z8 H8 z80 z81 s8 D8 => ?_⟩
    walk_at "q"
    refine x_iR1At (by omega) (by omega) ?_
    have s18 := s17.trans s8
    refine x_lcG walk_range (fun L j Hj => Dr Hj h q ∧ Same2 h q H8 Hj ∧ ∃ xs : List Int, Hj L = some (.lst (xs.map V.int)) ∧ xs.length = j ∧ ∀ x ∈ xs, 0 ≤ x ∧ x < 30) (fun L hL => ⟨D8.mono (Same.new hL), Same2.of (Same.new hL), [], upd_same, rfl, fun z hz => nomatch hz⟩) (fun _ _ _ _ _ => trivial) ?_ ?_
    · rintro L j y Ha' Ha hL hj ⟨Da, sa, xs, ha, hxl, hxr⟩ ⟨rfl, rfl⟩
      obtain ⟨nL1, nL2⟩ := D8.neN hL
      walk_at "q"
      refine ⟨rfl, ?_⟩
      walk_at "q"
      refine ⟨h, q, 30, rfl, Da, by decide, by decide, fun zc Hc zc0 zc1 sc Dc => ?_⟩
      refine ⟨_, sc _ _ nL1 nL2 ha, sz5' (by rw [List.length_map]; omega), Dc.other nL1 nL2, Same2.mut (sa.trans sc) hL, xs ++ [zc], by rw [upd_same, List.map_append]; rfl, by rw [List.length_append, hxl]; rfl, fun x hx => ?_⟩
      rcases List.mem_append.mp hx with z | z
      · exact hxr x z
      · rw [List.mem_singleton.mp z]
        exact ⟨zc0, zc1⟩
    rintro L Ha hL ⟨Da, sa, xs, ha, hxl, hxr⟩
    obtain ⟨nL1, nL2⟩ := D8.neN hL
    have hx5 : 1 ≤ xs.length ∧ xs.length ≤ 5 := by omega
    have hbok : Bk.ok (.al xs) := ⟨fun z => by rw [z] at hx5; exact absurd hx5.1 (by decide), fun n hn => ⟨(hxr n hn).1, by have := (hxr n hn).2; omega⟩, by omega⟩
    walk_at "q"
    refine x_lenL (SqL.of ha) ?_
    rw [List.length_map]
    walk_at "q"
    refine x_iR1At (by omega) (by omega) ?_
    refine x_lcG walk_range (fun S j Hj => Same Ha Hj ∧ ∃ ps, Hj S = some (.lst ps) ∧ ps.length = j ∧ StepsAt Hj ps (altS true (xs.take j))) (fun S hS => ⟨Same.new hS, [], upd_same, rfl, .nil⟩) (fun _ _ _ _ _ => trivial) ?_ ?_
    · rintro S j y Hb' Hb hS hj ⟨sb, ps, hb, hpl, hps⟩ ⟨rfl, rfl⟩
      have hj : j < xs.length := by omega
      obtain ⟨n, hn⟩ : ∃ n, xs[j]? = some n := ⟨_, List.getElem?_eq_getElem hj⟩
      walk_at "q"
      refine ⟨rfl, ?_⟩
      walk_at "q"
      refine ⟨sz rfl, fun u9 hu9 => ?_⟩; generalize hN9 : upd _ u9 _ = H9; obtain ⟨s9, e9⟩ := nws hN9 hu9
      walk_at "q"
      refine x_mod (show (0 : Int) < 2 by decide) ?_
      have hpick : atI [V.str "red", V.str "blue"] ((0 + (j : Int)) % 2) = some (.str (roomS (if j % 2 = 0 then true else !true))) := by
        by_cases h : j % 2 = 0
        · rw [if_pos h, show (0 + (j : Int)) % 2 = ((0 : Nat) : Int) by omega]
          rfl
        · rw [if_neg h, show (0 + (j : Int)) % 2 = ((1 : Nat) : Int) by omega]
          rfl
      refine x_ixL (SqL.of e9) hpick ?_
      walk_at "q"
      refine x_ixL (SqL.of (s9 _ _ (sb _ _ ha))) (v := .int n) (by rw [Int.zero_add]; exact atI_nat (by rw [List.getElem?_map, hn]; rfl)) ?_
      walk_at "q"
      refine ⟨sz rfl, fun t1 ht1 => ?_⟩; generalize hNt : upd _ t1 _ = Ht; obtain ⟨st, et⟩ := nws hNt ht1
      have sbt := s9.trans st
      have hbS := sbt _ _ hb
      have kp : ∀ p ys, Ht p = some (.tup ys) → (upd Ht S (.lst (ps ++ [.ref t1]))) p = some (.tup ys) := fun p ys e => by
        rw [upd_ne (fun z => by rw [z, hbS] at e; cases e)]
        exact e
      refine ⟨ps, hbS, sz5' (by omega), Same.mut (sb.trans sbt) hS, ps ++ [.ref t1], upd_same, by rw [List.length_append, hpl]; rfl, ?_⟩
      rw [List.take_add_one, hn]
      show StepsAt _ _ (altS true (xs.take j ++ [n]))
      rw [altS_snoc, List.length_take, Nat.min_eq_left (by omega)]
      exact pr_snoc (pr_im (fun _ _ ⟨p, q1, q2⟩ => ⟨p, q1, kp _ _ (sbt _ _ q2)⟩) hps) ⟨t1, rfl, kp _ _ et⟩
    rintro S Hb hS ⟨sb, ps, hb, hpl, hps⟩
    walk_at "q"
    refine ⟨sz rfl, fun w1 hw1 => ?_⟩; generalize hNc : upd _ w1 _ = Hc; obtain ⟨sc, ec⟩ := nws hNc hw1
    have sbc := sb.trans sc
    walk_at "q"
    refine x_iLAt (SqL.of (sbc _ _ ha)) ?_
    refine x_lcA walk_list (fun i acc _ => acc = ((xs.take i).map nt).map V.str) (fun _ _ _ _ _ _ _ h => h) (fun _ _ => rfl) (by rw [List.length_map]; omega) (fun H' s' => SqL.of (s' _ _ (sbc _ _ ha))) ?_ ?_
    · rintro i y acc H3 H4 NT NF hTT hF hi s3 rfl ⟨rfl, ey⟩
      rw [List.getElem?_map] at ey
      obtain ⟨n, en, rfl⟩ := Option.map_eq_some_iff.mp ey
      have hnr := hxr n (List.mem_of_getElem? en)
      walk_at "q"
      refine ⟨rfl, ?_⟩
      walk_at "q"
      refine x_strI (by omega) ?_
      refine hTT _ _ (Same.refl _) ?_
      rw [List.take_add_one, en, List.map_append, List.map_append]
      rfl
    rintro Y acc Hd hY sd hY2 rfl hdl
    rw [List.length_map, List.take_length] at hY2
    refine n_plusL (sd _ _ ec) hY2 (sz5 (by rw [List.length_map, List.length_map]; show 1 + xs.length ≤ _; omega)) fun wl He hwl se ee => ?_
    walk_at "q"
    have sde := sd.trans se
    have sce := sc.trans sde
    have sbe := sb.trans sce
    have Dse := Da.mono sbe
    have s1e := s18.trans (sa.trans (Same2.of sbe))
    have hst : StepsAt He ps (Bk.steps (.al xs)) := by
      show StepsAt He ps (altS true xs)
      have : (xs.take ((xs.length : Nat) : Int).toNat) = xs := by rw [Int.toNat_natCast, List.take_length]
      rw [this] at hps
      exact hps.mono sce
    exact ⟨sz rfl, fin wl S ps (.al xs) He s1e Dse (free2 (s18.trans sa) Da ((sb.trans (sc.trans sd)).free hwl)) (free2 (s18.trans sa) Da hS) ee (sce _ _ hb) hst hbok hx5.2⟩
  walk_at "q"
  refine ⟨sz rfl, fun u8 hu8 => ?_⟩; generalize hN8 : upd _ u8 _ = H8; obtain ⟨s8, e8⟩ := nws hN8 hu8
  obtain ⟨u8h, u8q⟩ := D7.neN hu8
  walk_at "q"
  refine ⟨h, q, 9, rfl, D7.mono s8, by decide, by decide, fun z9 H9 z90 z91 s9 D9 => ?_⟩
  walk_at "q"
  refine x_div (divW (by decide) (by decide)) ?_
  have hz9 : z9 / 8 = 0 ∨ z9 / 8 = 1 := by omega
  obtain ⟨mm, hmm, hmm2⟩ : ∃ m : Int, atI [V.int 5, V.int 60] (z9 / 8) = some (.int m) ∧ 0 < m ∧ m ≤ 60 := by
    rcases hz9 with h | h <;> rw [h]
    · exact ⟨5, rfl, by decide⟩
    · exact ⟨60, rfl, by decide⟩
  refine x_ixL (SqL.of (s9 _ _ u8h u8q e8)) hmm ?_
  walk_at "q"
  refine ⟨h, q, mm, rfl, D9, hmm2.1, by omega, fun my Ha my0 my1 sa Da => ?_⟩
  walk_at "q"
  refine ⟨h, q, 9, rfl, Da, by decide, by decide, fun pl Hb pl0 pl1 sb Db => ?_⟩
  have s1b := s17.trans ((Same2.of s8).trans (s9.trans (sa.trans sb)))
  walk_at "q"
  refine ⟨sz rfl, fun uc huc => ?_⟩; generalize hNc : upd _ uc _ = Hc; obtain ⟨sc, ec⟩ := nws hNc huc
  refine x_gTup ec rfl ?_
  repeat (first | with_reducible refine x_gcons ?_ | with_reducible refine x_gname ?_ | with_reducible refine x_gnil ?_)
  obtain ⟨mt, hmt⟩ : ∃ mt : Nat, 1 + my = (mt : Int) := ⟨(1 + my).toNat, by omega⟩
  rw [hmt]
  have hmt1 : 1 ≤ mt ∧ mt ≤ 60 := by omega
  have s1c := s1b.trans (Same2.of sc)
  have Dc := Db.mono sc
  dsimp only
  with_reducible refine x_cut (fun σ' H' => H' = Hc ∧ ∃ n2 : Int, needOk n2 ∧ (∀ y ∈ serL n2 (pl - 4) mt, needOk y) ∧ σ' = [some (.ref h), some (.str (roomS rm)), some (.int n2), some (.int kd), none, none, some (.int (mt : Int)), some (.int (pl - 4)), none, none, none, none]) (fun nx hnx => ?_) ?_
  · have ser : ∀ n2 : Int, needOk n2 → 0 ≤ n2 + ((mt : Int) - 1) * (pl - 4) → n2 + (mt : Int) * 9 ≤ 1000000000000000000 → ∀ y ∈ serL n2 (pl - 4) mt, needOk y := by
      intro n2 hn2 h1 h2 y hy
      unfold serL at hy
      obtain ⟨i, hi, rfl⟩ := List.mem_map.mp hy
      have hi : i < mt := List.mem_range.mp hi
      have hi' : (i : Int) ≤ (mt : Int) - 1 := by omega
      have i0 : (0 : Int) ≤ i := by omega
      by_cases hp : 0 ≤ pl - 4
      · have a1 : 0 ≤ (i : Int) * (pl - 4) := Int.mul_nonneg i0 hp
        have a2 : (i : Int) * (pl - 4) ≤ (i : Int) * 4 := Int.mul_le_mul_of_nonneg_left (by omega) i0
        have := hn2.1
        constructor <;> omega
      · have a1 : ((mt : Int) - 1) * (pl - 4) ≤ (i : Int) * (pl - 4) := Int.mul_le_mul_of_nonpos_right hi' (by omega)
        have a2 : (i : Int) * (pl - 4) ≤ 0 := Int.mul_nonpos_of_nonneg_of_nonpos i0 (by omega)
        have := hn2.2
        constructor <;> omega
    have good : nx [some (.ref h), some (.str (roomS rm)), some (.int 240), some (.int kd), none, none, some (.int (mt : Int)), some (.int (pl - 4)), none, none, none, none] Hc := by
      refine hnx _ _ ⟨rfl, 240, ⟨by decide, by decide⟩, ser 240 ⟨by decide, by decide⟩ ?_ (by omega), rfl⟩
      have : ((mt : Int) - 1) * (-4) ≤ ((mt : Int) - 1) * (pl - 4) := Int.mul_le_mul_of_nonneg_left (by omega) (by omega)
      omega
    walk_at "q"
    refine x_timesI (.inr ⟨by omega, by omega⟩) ?_
    walk_at "q"
    refine x_ifd (fun hA => ?_) fun hA => ?_
    · walk_at "q"
      exact good
    walk_at "q"
    refine x_timesI (.inr ⟨by omega, by omega⟩) ?_
    walk_at "q"
    refine x_pow ⟨by decide, by decide, by decide⟩ ?_
    rw [e18]
    walk_at "q"
    refine x_ifd (fun hB => ?_) fun hB => ?_
    · walk_at "q"
      exact good
    · walk_at "q"
      exact hnx _ _ ⟨rfl, nd, hnd, ser nd hnd (by omega) (by omega), rfl⟩
  rintro σ Hc' ⟨rfl, n2, hn2, hser, rfl⟩
  walk_at "q"
  refine x_iR1At (by omega) (by omega) ?_
  rw [Int.toNat_natCast]
  refine x_lcG walk_range (fun S j Hj => Same Hc' Hj ∧ ∃ ps, Hj S = some (.lst ps) ∧ ps.length = j ∧ StepsAt Hj ps ((serL n2 (pl - 4) j).map (Stp.mt rm))) (fun S hS => ⟨Same.new hS, [], upd_same, rfl, .nil⟩) (fun _ _ _ _ _ => trivial) ?_ ?_
  · rintro S j y Hd' Hd hS hj ⟨sd, ps, hd, hpl, hps⟩ ⟨rfl, rfl⟩
    walk_at "q"
    refine ⟨rfl, ?_⟩
    walk_at "q"
    refine x_timesI (.inr ⟨by omega, by omega⟩) ?_
    walk_at "q"
    refine ⟨sz rfl, fun t1 ht1 => ?_⟩; generalize hNt : upd _ t1 _ = Ht; obtain ⟨st, et⟩ := nws hNt ht1
    have hbS := st _ _ hd
    have kp : ∀ p ys, Ht p = some (.tup ys) → (upd Ht S (.lst (ps ++ [.ref t1]))) p = some (.tup ys) := fun p ys e => by
      rw [upd_ne (fun z => by rw [z, hbS] at e; cases e)]
      exact e
    refine ⟨ps, hbS, sz5' (by omega), Same.mut (sd.trans st) hS, ps ++ [.ref t1], upd_same, by rw [List.length_append, hpl]; rfl, ?_⟩
    rw [serL_succ, List.map_append]
    refine pr_snoc (pr_im (fun _ _ ⟨p, q1, q2⟩ => ⟨p, q1, kp _ _ (st _ _ q2)⟩) hps) ⟨t1, rfl, kp _ _ ?_⟩
    rw [et, Int.zero_add]
    rfl
  rintro S Hd hS ⟨sd, ps, hd, hpl, hps⟩
  walk_at "q"
  refine x_strI (nt_nat20 hn2) ?_
  walk_at "q"
  refine x_strI (by omega) ?_
  walk_at "q"
  refine ⟨sz rfl, fun w1 hw1 => ?_⟩; generalize hNe : upd _ w1 _ = He; obtain ⟨se, ee⟩ := nws hNe hw1
  have sce := sd.trans se
  have Dce := Dc.mono sce
  have s1e := s1c.trans (Same2.of sce)
  have hbok : Bk.ok (.sr rm n2 (pl - 4) mt) := ⟨hn2, hmt1.1, hmt1.2, hser⟩
  have hst : StepsAt He ps (Bk.steps (.sr rm n2 (pl - 4) mt)) := hps.mono se
  have hwS := free2 s1c Dc hS
  walk_at "q"
  refine x_ifnd (fun hm0 => ?_) fun hm0 => ?_
  · walk_at "q"
    refine x_strI (by omega) ?_
    walk_at "q"
    refine ⟨sz rfl, fun w2 hw2 => ?_⟩; generalize hNf : upd _ w2 _ = Hf; obtain ⟨sf, ef⟩ := nws hNf hw2
    refine n_plusL (sf _ _ ee) ef (sz5 (by show 6 ≤ _; decide)) fun wl Hg hwl sg eg => ?_
    walk_at "q"
    have sfg := sf.trans sg
    have ew : Bk.words (.sr rm n2 (pl - 4) mt) = [roomS rm, nt n2, ("times" : Str), nt (mt : Int), ("more" : Str), nt (pl - 4)] := by
      show [roomS rm, nt n2, ("times" : Str), nt (mt : Int)] ++ (if pl - 4 ≠ 0 then [("more" : Str), nt (pl - 4)] else []) = _
      rw [if_pos (show pl - 4 ≠ 0 from hm0)]
      rfl
    exact ⟨sz rfl, fin wl S ps _ Hg (s1e.trans (Same2.of sfg)) (Dce.mono sfg) (free2 s1e Dce (sf.free hwl)) hwS (by rw [ew]; exact eg) ((se.trans sfg) _ _ hd) (hst.mono sfg) hbok (show -4 ≤ pl - 4 ∧ pl - 4 ≤ 4 from ⟨by omega, by omega⟩)⟩
  · walk_at "q"
    have ew : Bk.words (.sr rm n2 (pl - 4) mt) = [roomS rm, nt n2, ("times" : Str), nt (mt : Int)] := by
      show [roomS rm, nt n2, ("times" : Str), nt (mt : Int)] ++ (if pl - 4 ≠ 0 then [("more" : Str), nt (pl - 4)] else []) = _
      rw [if_neg (show ¬ pl - 4 ≠ 0 from fun z => z hm0)]
      rfl
    exact ⟨sz rfl, fin w1 S ps _ He s1e Dce (free2 s1c Dc (sd.free hw1)) hwS (by rw [ew]; exact ee) (se _ _ hd) hst hbok (show -4 ≤ pl - 4 ∧ pl - 4 ≤ 4 from ⟨by omega, by omega⟩)⟩
end
end K42

set_option Elab.async false
set_option linter.all false
set_option autoImplicit false
set_option maxRecDepth 100000
set_option pp.maxSteps 500
set_option maxHeartbeats 4000000
namespace K42
open PySem PySem.Spec PyProof.Rows L2 He ChH Ch TxX StrX NumX
local macro_rules | `(tactic| walk_at "x1") => `(tactic| first
  | ((with_reducible apply x_var); exact rfl)
  | with_reducible refine x_c ?_
  | with_reducible refine x_op ?_
  | with_reducible refine x_seq ?_
  | with_reducible refine x_asg ?_
  | with_reducible refine x_gname ?_
  | with_reducible refine x_cons ?_
  | with_reducible refine x_nil ?_
  | with_reducible refine x_fld ?_
  | with_reducible refine x_ret ?_
  | with_reducible refine x_ifS ?_
  | with_reducible refine x_test ?_
  | with_reducible refine x_ex ?_
  | with_reducible refine x_call ?_
  | with_reducible refine x_mk ?_
  | with_reducible refine x_meth ?_
  | with_reducible refine x_prop ?_
  | with_reducible refine x_cb ?_
  | with_reducible refine x_tup ?_
  | with_reducible refine x_lst ?_
  | with_reducible refine x_drop ?_
  | with_reducible refine x_for ?_
  | with_reducible refine x_iL ?_
  | with_reducible refine x_iT ?_
  | with_reducible refine x_iE ?_
  | with_reducible refine x_iU ?_
  | with_reducible refine x_iR1 ?_
  | with_reducible refine x_iR2 ?_
  | with_reducible refine x_gcons ?_
  | with_reducible refine x_gnil ?_
  | with_reducible refine x_par ?_
  | with_reducible refine x_lstRg ?_
  | with_reducible refine x_rg1 ?_
  | with_reducible refine x_rg1At ?_
  | with_reducible refine x_par3 ?_
  | with_reducible refine x_bm ?_
  | with_reducible refine x_bm0 ?_
  | with_reducible refine x_gSub ?_
  | with_reducible refine x_lc ?_
  | with_reducible refine x_yes ?_
  | with_reducible refine x_setf ?_
  | with_reducible refine x_next ?_
  | with_reducible refine x_B ?_
  | with_reducible refine x_and ?_
  | with_reducible refine x_or ?_
  | with_reducible refine x_not ?_
  | with_reducible refine x_andV ?_
  | with_reducible refine x_orV ?_
  | with_reducible refine x_notV ?_
  | with_reducible refine x_ifE ?_
  | with_reducible refine x_chain ?_
  | with_reducible refine x_chain3 ?_
  | with_reducible refine x_un ?_
  | with_reducible refine x_isNe ?_
  | with_reducible refine x_notNe ?_
  | with_reducible refine x_starA ?_
  | with_reducible refine x_plusI ?_
  | with_reducible refine x_minus ?_
  | with_reducible refine x_lt ?_
  | with_reducible refine x_le ?_
  | with_reducible refine x_gt ?_
  | with_reducible refine x_ge ?_
  | with_reducible refine x_eqI ?_
  | with_reducible refine x_neI ?_
  | with_reducible refine x_eqS ?_
  | with_reducible refine x_eqB ?_
  | with_reducible refine x_neB ?_
  | with_reducible refine x_int ?_
  | with_reducible refine x_intB ?_
  | with_reducible refine x_max2 ?_
  | with_reducible refine x_min2 ?_
  | with_reducible refine x_max3 ?_
  | with_reducible refine x_abs ?_
  | with_reducible refine x_neg ?_
  | with_reducible refine x_isi_ii ?_
  | with_reducible refine x_isi_ib ?_
  | with_reducible refine x_T ?_
  | with_reducible refine x_nT ?_
  | with_reducible refine x_nF ?_
  | with_reducible refine x_F ?_)
local macro_rules | `(tactic| walk_at "x") => `(tactic| repeat walk_at "x1")

local macro_rules | `(tactic| walk_at "q1") => `(tactic| first
  | walk_at "x1"
  | with_reducible refine x_sl ?_
  | with_reducible refine x_cmeth ?_
  | with_reducible refine x_noPart ?_
  | with_reducible refine x_part ?_
  | with_reducible refine x_partI ?_)
local macro_rules | `(tactic| walk_at "q") => `(tactic| repeat walk_at "q1")

section
variable {P : Program} {w : World} {K : PySem.W.Frag} {mg : Str → Option Value} {base : Heap}
theorem x_iteV {c : Prop} [Decidable c] {te tf : TE} {σ : L2.St} {H : Hp} {Q : VK} (v : V) (h1 : c → ∀ Q' : VK, Q' v H → te σ H Q') (h2 : ¬ c → ∀ Q' : VK, Q' v H → tf σ H Q') (k : Q v H) : if decide c = true then te σ H Q else tf σ H Q := x_ifd (fun h => h1 h _ k) fun h => h2 h _ k
theorem x_ifBS {tt : TT} {ta tb : TS} {D : Ends} {σ : L2.St} {H : Hp} (b : Bool) (h : ∀ QT : Bool → Hp → Prop, (∀ H', Same H H' → QT b H') → tt σ H QT) (k : ∀ H', Same H H' → if b = true then ta D σ H' else tb D σ H') : tIfS tt ta tb D σ H := x_ifS (h _ k)
theorem x_iStr {te : TE} {σ : L2.St} {H : Hp} {R : It → Hp → Prop} (k : te σ H fun v H1 => ∃ x, v = .str x ∧ R (Its x) H1) : iStr te σ H R := k
theorem x_lenS {z : Str} {H : Hp} {Q : VK} (hz : z.length ≤ 100000) (k : Q (.int z.length) H) : rLn K [.str z] H Q := ⟨.str z, z.length, rfl, ⟨by rw [sizeLine_eq]; omega, rfl⟩, k⟩
def optV : Option Int → V
  | none => .non
  | some n => .int n
/-- the characters of a text, as texts -/
def chs (z : Str) : List Str := (TL.tl z).map fun c => (⟨#[c]⟩ : Str)
/-- those that are no digits -/
def bads (l : List Nat) : List V := (l.filter fun c => !isDig c).map fun c => V.str ⟨#[c]⟩
theorem bads_snoc (l : List Nat) (c : Nat) : bads (l ++ [c]) = bads l ++ (if isDig c = true then [] else [V.str ⟨#[c]⟩]) := by
  unfold bads
  rw [List.filter_append, List.map_append]
  congr 1
  cases h : isDig c
  · rw [List.filter_cons, h]; rfl
  · rw [List.filter_cons, h]; rfl
theorem bads_pl {l : List Nat} (h : ∀ c ∈ l, c < 0x110000) : (bads l).all plV = true := by
  rw [List.all_eq_true]
  intro v hv
  obtain ⟨c, hc, rfl⟩ := List.mem_map.mp hv
  refine ok_of fun d hd => ?_
  rw [List.mem_singleton.mp hd]
  exact h c (List.mem_filter.mp hc).1
theorem bads_nil (l : List Nat) : (bads l).isEmpty = l.all isDig := by
  induction l with
  | nil => rfl
  | cons c l ih =>
    unfold bads at ih ⊢
    rw [List.filter_cons, List.all_cons]
    cases h : isDig c
    · rw [if_pos (by rfl)]; rfl
    · rw [if_neg (by simp)]
      rw [Bool.true_and]
      exact ih
theorem x_neNilS {H : Hp} {Q : VK} {p q : Addr} {xs : List V} (h1 : SqL K H p xs) (hx : xs.all plV = true) (h2 : SqL K H q []) (k : Q (.bl (!xs.isEmpty)) H) : rNeU K (.ref p) (.ref q) H Q := by
  have l := lay_list (pdV_lays hx)
  refine x_neDp (.lst h1 (pdV_all hx)) (.lst h2 .nil) l.shaped (by decide) ?_
  cases xs with
  | nil => exact k
  | cons d ds => exact k
theorem digs_in (c : Nat) : decide (c ∈ ("0123456789" : Str).cps.toList) = isDig c := by
  rw [show ("0123456789" : Str).cps.toList = [48, 49, 50, 51, 52, 53, 54, 55, 56, 57] from rfl]
  by_cases h : 48 ≤ c ∧ c ≤ 57
  · rw [decide_eq_true (by simp only [List.mem_cons, List.not_mem_nil, or_false]; omega)]
    show true = (decide _ && decide _)
    rw [decide_eq_true h.1, decide_eq_true h.2]
    rfl
  · rw [decide_eq_false (by simp only [List.mem_cons, List.not_mem_nil, or_false]; omega)]
    show false = (decide _ && decide _)
    by_cases h1 : 48 ≤ c
    · rw [decide_eq_false (p := c ≤ 57) (fun z => h ⟨h1, z⟩), Bool.and_false]
    · rw [decide_eq_false h1, Bool.false_and]
theorem lt1 (a b : Nat) : decide (([a] : List Nat) < [b]) = decide (a < b) := by
  by_cases h : a < b
  · rw [decide_eq_true h]
    exact decide_eq_true (List.Lex.rel h)
  · rw [decide_eq_false h]
    refine decide_eq_false fun z => ?_
    cases z with
    | rel z => exact h z
    | cons z => exact nomatch z
def spPIn : Sp := fun vs H Q _ => ∃ z : Str, vs = [.str z] ∧ z.length ≤ 600 ∧ PyData.strOk z = true ∧ ∀ H', Same H H' → Q (optV (pInt z)) H'
theorem ok_parse_integer (W : Wd K mg) : FnR P w K mg base CX0 1 (ga K "parse_integer") spPIn := by
  refine (def_ok W.F_parse_integer sc_parse_integer (fun _ _ _ _ _ _ us hl => match us, hl with | [_], _ => rfl) (fun vs H Q E ⟨z, e, _⟩ => by rw [e]; rfl) fun cdv A outer s H vs Q E hr ⟨z, e, hz, hok, k⟩ => ?_).2
  subst e
  refine ⟨_, PSs.nox (pss_cons (ps_set (i := 1) sc_parse_integer.nd rfl (Or.inl rfl) (pe_ifExp (pt_cmpR (op_eqK K hr.units) (pe_slice sl_str (pv 0) po_none (po_some pe_int)) pe_str (nomark _)) (pe_slice sl_str (pv 0) (po_some pe_int) po_none) (pv 0))) (pss_cons (ps_if (PW.pt (pw_or (pt_cmpR (op_eqK K hr.units) (pv 1) pe_str (nomark _)) (pw_or1 (pt_cmpR (op_neK K hr.units) (pe_lc (own := [("digit", 2)]) (g := gName 2) rfl sc_parse_integer.nd (pi_str (pv 1)) (blkOk_by (own := [("digit", 2)]) (N := N_parse_integer) (sc := defScope s_parse_integer) (by decide +kernel)) (fun _ _ _ _ _ => (pg_name (i := 2) sc_parse_integer.nd rfl (Or.inl rfl))) (fun _ _ _ _ _ => (pts_one (pt_cmpR op_notIn_sign (pv 2) (pe_gs W.t_DIGITS rfl) rfl))) (fun _ _ _ _ _ => (pv 2))) (pe_lst pa_nil) (nomark _))))) (pss_one (ps_ret pe_non)) pss_nil) (pss_cons (ps_if (PW.pt (pw_or (PW.pt (pw_and (pt_cmpR op_gtI (pe_callB (c_lenK K) (by rfl) W.f_len (by decide +kernel) (pa_cons (pv 1) pa_nil)) pe_int (nomark _)) (pw_and1 (pt_cmpR (op_eqK K hr.units) (pe_ix (ix_K K) (pv 1) pe_int (fun _ _ => rfl)) pe_str (nomark _))))) (pw_or1 (pt_cmpR (op_eqK K hr.units) (pv 0) pe_str (nomark _))))) (pss_one (ps_ret pe_non)) pss_nil) (pss_one (ps_ret (pe_ifExp (pt_cmpR (op_eqK K hr.units) (pv 1) (pv 0) (nomark _)) (pe_callTy TxX.c_intS (by rfl) W.f_int (by decide +kernel) (pa_cons (pv 1) pa_nil)) (pe_op op_minus pe_int (pe_callTy TxX.c_intS (by rfl) W.f_int (by decide +kernel) (pa_cons (pv 1) pa_nil))))))))), ?_⟩
  have hcl := core_len z
  have hco := core_ok hok
  walk_at "q"
  refine x_cutS (by omega) ?_
  walk_at "q"
  refine x_iteV (.str (core z)) (fun h Q' k' => ?_) (fun h Q' k' => ?_) ?_
  · walk_at "q"
    refine x_cutS (by omega) ?_
    rw [show core z = cutS z (some 1) none from if_pos h] at k'
    exact k'
  · walk_at "q"
    rw [show core z = z from if_neg h] at k'
    exact k'
  with_reducible refine x_gname ?_
  with_reducible refine x_seq ?_
  refine x_ifBS (decide (core z = "" ∨ dgOk z = false)) (fun QT hq => ?_) fun H1 s1 => ?_
  · walk_at "q"
    refine x_ifd (fun h0 => ?_) fun h0 => ?_
    · rw [decide_eq_true (Or.inl h0)] at hq
      exact hq _ (Same.refl _)
    walk_at "q"
    refine x_iStr ?_
    walk_at "q"
    refine ⟨core z, rfl, ?_⟩
    refine x_lcA walk_str (fun i acc _ => acc = bads ((TL.tl (core z)).take i)) (fun _ _ _ _ _ _ _ h => h) (fun _ _ => rfl) (by show (core z).length ≤ _; omega) (fun _ _ => trivial) ?_ ?_
    · rintro i y acc H3 H4 NT NF hT hF hi s3 rfl ⟨rfl, c, hc, rfl⟩
      have hc' : (TL.tl (core z))[i]? = some c := by rw [← hc]; exact Array.getElem?_toList ..
      have hb : bads ((TL.tl (core z)).take (i + 1)) = bads ((TL.tl (core z)).take i) ++ (if isDig c = true then [] else [V.str ⟨#[c]⟩]) := by
        rw [List.take_add_one, hc']; exact bads_snoc _ _
      walk_at "q"
      refine ⟨rfl, ?_⟩
      walk_at "q"
      refine ⟨c, _, rfl, rfl, ?_⟩
      rw [digs_in]
      walk_at "q"
      cases hd : isDig c
      · rw [hd] at hb
        show tVar 2 _ _ NT
        walk_at "q"
        exact hT _ _ (Same.refl _) hb.symm
      · rw [hd] at hb
        exact hF _ (Same.refl _) (by rw [hb]; exact (List.append_nil _).symm)
    rintro L acc H6 hL s6 hL2 rfl hdl
    rw [List.take_of_length_le (by show (TL.tl (core z)).length ≤ _; rw [← TL.len_tl]; exact Nat.le_refl _)] at hL2
    walk_at "q"
    refine ⟨sz rfl, fun u1 hu1 => ?_⟩; generalize hN1 : upd _ u1 _ = H7; obtain ⟨s7, e7⟩ := nws hN1 hu1
    refine x_neNilS (SqL.of (s7 _ _ hL2)) (bads_pl (of_ok hco)) (SqL.of e7) ?_
    rw [bads_nil, show (TL.tl (core z)).all isDig = dgOk z from rfl]
    walk_at "q"
    have hb : (!dgOk z) = decide (core z = "" ∨ dgOk z = false) := by
      cases dgOk z
      · exact (decide_eq_true (Or.inr rfl)).symm
      · exact (decide_eq_false fun x => x.elim h0 fun e => nomatch e).symm
    rw [hb]
    exact hq _ (s6.trans s7)
  refine x_ifd (fun h0 => ?_) fun h0 => ?_
  · walk_at "q"
    have := k _ s1
    rw [show pInt z = none from if_pos h0] at this
    exact this
  have hdg : dgOk z = true := by
    cases h : dgOk z
    · exact absurd (Or.inr h) h0
    · rfl
  have hne : core z ≠ "" := fun e => h0 (.inl e)
  have hpos : 0 < (TL.tl (core z)).length := by
    rw [← TL.len_tl]
    cases h : (core z).length with
    | zero => exact absurd ((TL.len0_tl (core z)).mp h) fun e => hne (TL.ext_tl (e.trans rfl))
    | succ n => omega
  obtain ⟨c0, hc0⟩ : ∃ c, (TL.tl (core z))[0]? = some c := ⟨_, List.getElem?_eq_getElem hpos⟩
  have hint := core_int hz hdg hne
  have h1s : ∀ c : Nat, ((⟨#[c]⟩ : Str) = "0") ↔ c = 48 := fun c => ⟨fun e => by
    have := congrArg TL.tl e
    exact (List.cons.inj (this : [c] = [48])).1, fun e => by rw [e]; rfl⟩
  with_reducible refine x_next ?_
  with_reducible refine x_seq ?_
  refine x_ifBS (decide ((1 < (core z).length ∧ (TL.tl (core z))[0]? = some 48) ∨ z = "-0")) (fun QT hq => ?_) fun H2 s2 => ?_
  · have rest : ∀ QT : Bool → Hp → Prop, (∀ H', Same H1 H' → QT (decide ((1 < (core z).length ∧ (TL.tl (core z))[0]? = some 48) ∨ z = "-0")) H') → ¬ (1 < (core z).length ∧ (TL.tl (core z))[0]? = some 48) → QT (decide (z = "-0")) H1 := fun QT hq hn => by
      have := hq _ (Same.refl _)
      rw [show decide ((1 < (core z).length ∧ (TL.tl (core z))[0]? = some 48) ∨ z = "-0") = decide (z = "-0") from decide_eq_decide.mpr ⟨fun x => x.resolve_left hn, .inr⟩] at this
      exact this
    walk_at "q"
    refine x_lenS (by omega) ?_
    walk_at "q"
    refine x_ifd (fun h1 => ?_) fun h1 => ?_
    · walk_at "q"
      refine x_ixS (by omega) (atI_nat hc0) ?_
      walk_at "q"
      refine x_ifd (fun h2 => ?_) fun h2 => ?_
      · rw [decide_eq_true (Or.inl ⟨by omega, by rw [hc0, (h1s c0).mp h2]⟩)] at hq
        exact hq _ (Same.refl _)
      · walk_at "q"
        exact rest QT hq fun x => h2 ((h1s c0).mpr (Option.some.inj (hc0.symm.trans x.2)))
    · walk_at "q"
      exact rest QT hq fun x => h1 (by omega)
  refine x_ifd (fun h3 => ?_) fun h3 => ?_
  · walk_at "q"
    have := k _ (s1.trans s2)
    rw [show pInt z = none from (if_neg h0).trans (if_pos h3)] at this
    exact this
  have hp : pInt z = some (if core z = z then (PySem.NumText.digitsVal (TL.tl (core z)) : Int) else 0 - (PySem.NumText.digitsVal (TL.tl (core z)) : Int)) := (if_neg h0).trans (if_neg h3)
  have kk := k _ (s1.trans s2)
  rw [hp] at kk
  walk_at "q"
  refine x_ifd (fun h4 => ?_) fun h4 => ?_
  · rw [if_pos h4] at kk
    walk_at "q"
    exact x_intS hint (by omega) kk
  · rw [if_neg h4] at kk
    walk_at "q"
    refine x_intS hint (by omega) ?_
    walk_at "q"
    exact kk
theorem ok__law_number (W : Wd K mg) : FnR P w K mg base CX0 1 (ga K "_law_number") spPIn := by
  refine (def_ok W.F__law_number sc__law_number (fun _ _ _ _ _ _ us hl => match us, hl with | [_], _ => rfl) (fun vs H Q E ⟨z, e, _⟩ => by rw [e]; rfl) fun cdv A outer s H vs Q E hr ⟨z, e, hz, hok, k⟩ => ?_).2
  subst e
  refine ⟨_, PSs.nox (pss_cons (ps_set (i := 1) sc__law_number.nd rfl (Or.inl rfl) (pe_ifExp (pt_cmpR (op_eqK K hr.units) (pe_slice sl_str (pv 0) po_none (po_some pe_int)) pe_str (nomark _)) (pe_slice sl_str (pv 0) (po_some pe_int) po_none) (pv 0))) (pss_cons (ps_if (PW.pt (pw_or (pt_cmpR (op_eqK K hr.units) (pv 1) pe_str (nomark _)) (pw_or (pt_cmpR (op_neK K hr.units) (pe_lc (own := [("_law_c", 2)]) (g := gName 2) rfl sc__law_number.nd (pi_str (pv 1)) (blkOk_by (own := [("_law_c", 2)]) (N := N__law_number) (sc := defScope s__law_number) (by decide +kernel)) (fun _ _ _ _ _ => (pg_name (i := 2) sc__law_number.nd rfl (Or.inl rfl))) (fun _ _ _ _ _ => (pts_one (pt_not (pt_chain op_le_str op_le_str pe_str (pv 2) pe_str)))) (fun _ _ _ _ _ => (pv 2))) (pe_lst pa_nil) (nomark _)) (pw_or1 (PW.pt (pw_and (pt_cmpR op_gtI (pe_callB (c_lenK K) (by rfl) W.f_len (by decide +kernel) (pa_cons (pv 1) pa_nil)) pe_int (nomark _)) (pw_and1 (pt_cmpR (op_eqK K hr.units) (pe_ix (ix_K K) (pv 1) pe_int (fun _ _ => rfl)) pe_str (nomark _))))))))) (pss_one (ps_ret pe_non)) pss_nil) (pss_one (ps_ret (pe_ifExp (pt_cmpR (op_eqK K hr.units) (pv 0) pe_str (nomark _)) pe_non (pe_op op_times (pe_callTy TxX.c_intS (by rfl) W.f_int (by decide +kernel) (pa_cons (pv 1) pa_nil)) (pe_op op_minus pe_int (pe_op op_times pe_int (pe_callTy c_int (by rfl) W.f_int (by decide +kernel) (pa_cons (pe_cmpR (op_neK K hr.units) (pv 0) (pv 1) (nomark _)) pa_nil)))))))))), ?_⟩
  have hcl := core_len z
  have hco := core_ok hok
  walk_at "q"
  refine x_cutS (by omega) ?_
  walk_at "q"
  refine x_iteV (.str (core z)) (fun h Q' k' => ?_) (fun h Q' k' => ?_) ?_
  · walk_at "q"
    refine x_cutS (by omega) ?_
    rw [show core z = cutS z (some 1) none from if_pos h] at k'
    exact k'
  · walk_at "q"
    rw [show core z = z from if_neg h] at k'
    exact k'
  with_reducible refine x_gname ?_
  with_reducible refine x_seq ?_
  have hpos0 : core z ≠ "" → 0 < (TL.tl (core z)).length := fun hne => by
    rw [← TL.len_tl]
    cases h : (core z).length with
    | zero => exact absurd ((TL.len0_tl (core z)).mp h) fun e => hne (TL.ext_tl (e.trans rfl))
    | succ n => omega
  have h1s : ∀ c : Nat, ((⟨#[c]⟩ : Str) = "0") ↔ c = 48 := fun c => ⟨fun e => by
    have := congrArg TL.tl e
    exact (List.cons.inj (this : [c] = [48])).1, fun e => by rw [e]; rfl⟩
  refine x_ifBS (decide ((core z = "" ∨ dgOk z = false) ∨ (1 < (core z).length ∧ (TL.tl (core z))[0]? = some 48))) (fun QT hq => ?_) fun H1 s1 => ?_
  · walk_at "q"
    refine x_ifd (fun h0 => ?_) fun h0 => ?_
    · rw [decide_eq_true (Or.inl (Or.inl h0))] at hq
      exact hq _ (Same.refl _)
    walk_at "q"
    refine x_iStr ?_
    walk_at "q"
    refine ⟨core z, rfl, ?_⟩
    refine x_lcA walk_str (fun i acc _ => acc = bads ((TL.tl (core z)).take i)) (fun _ _ _ _ _ _ _ h => h) (fun _ _ => rfl) (by show (core z).length ≤ _; omega) (fun _ _ => trivial) ?_ ?_
    · rintro i y acc H3 H4 NT NF hT hF hi s3 rfl ⟨rfl, c, hc, rfl⟩
      have hc' : (TL.tl (core z))[i]? = some c := by rw [← hc]; exact Array.getElem?_toList ..
      have hb : bads ((TL.tl (core z)).take (i + 1)) = bads ((TL.tl (core z)).take i) ++ (if isDig c = true then [] else [V.str ⟨#[c]⟩]) := by
        rw [List.take_add_one, hc']; exact bads_snoc _ _
      walk_at "q"
      refine ⟨rfl, ?_⟩
      walk_at "q"
      refine ⟨_, _, rfl, rfl, ?_⟩
      rw [show decide ((⟨#[c]⟩ : Str).cps.toList < ("0" : Str).cps.toList) = decide (c < 48) from lt1 c 48]
      refine ⟨_, rfl, ?_⟩
      refine x_ifnd (fun h48 => ?_) fun h48 => ?_
      · walk_at "q"
        refine ⟨_, _, rfl, rfl, ?_⟩
        rw [show decide (("9" : Str).cps.toList < (⟨#[c]⟩ : Str).cps.toList) = decide (57 < c) from lt1 57 c]
        refine ⟨_, rfl, ?_⟩
        by_cases h57 : 57 < c
        · have hd : isDig c = false := by
            show (decide (48 ≤ c) && decide (c ≤ 57)) = false
            rw [decide_eq_false (p := c ≤ 57) (by omega), Bool.and_false]
          rw [hd] at hb
          rw [decide_eq_true h57]
          show tVar 2 _ _ NT
          walk_at "q"
          exact hT _ _ (Same.refl _) hb.symm
        · have hd : isDig c = true := by
            show (decide (48 ≤ c) && decide (c ≤ 57)) = true
            rw [decide_eq_true (p := c ≤ 57) (by omega), decide_eq_true (p := 48 ≤ c) (by omega)]
            rfl
          rw [hd] at hb
          rw [decide_eq_false h57]
          exact hF _ (Same.refl _) (by rw [hb]; exact (List.append_nil _).symm)
      · refine ⟨_, rfl, ?_⟩
        have hd : isDig c = false := by
          show (decide (48 ≤ c) && decide (c ≤ 57)) = false
          rw [decide_eq_false (p := 48 ≤ c) (by omega)]
          rfl
        rw [hd] at hb
        show tVar 2 _ _ NT
        walk_at "q"
        exact hT _ _ (Same.refl _) hb.symm
    rintro L acc H6 hL s6 hL2 rfl hdl
    rw [List.take_of_length_le (by show (TL.tl (core z)).length ≤ _; rw [← TL.len_tl]; exact Nat.le_refl _)] at hL2
    walk_at "q"
    refine ⟨sz rfl, fun u1 hu1 => ?_⟩; generalize hN1 : upd _ u1 _ = H7; obtain ⟨s7, e7⟩ := nws hN1 hu1
    refine x_neNilS (SqL.of (s7 _ _ hL2)) (bads_pl (of_ok hco)) (SqL.of e7) ?_
    rw [bads_nil, show (TL.tl (core z)).all isDig = dgOk z from rfl]
    walk_at "q"
    cases hdg : dgOk z
    · rw [decide_eq_true (Or.inl (Or.inr hdg))] at hq
      exact hq _ (s6.trans s7)
    refine x_nT ?_
    obtain ⟨c0, hc0⟩ : ∃ c, (TL.tl (core z))[0]? = some c := ⟨_, List.getElem?_eq_getElem (hpos0 h0)⟩
    have hn : ¬ (core z = "" ∨ dgOk z = false) := fun x => x.elim h0 fun e => by rw [hdg] at e; cases e
    walk_at "q"
    refine x_lenS (by omega) ?_
    walk_at "q"
    refine x_ifd (fun h1 => ?_) fun h1 => ?_
    · walk_at "q"
      refine x_ixS (by omega) (atI_nat hc0) ?_
      walk_at "q"
      have := hq _ (s6.trans s7)
      rw [show decide ((core z = "" ∨ dgOk z = false) ∨ (1 < (core z).length ∧ (TL.tl (core z))[0]? = some 48)) = decide ((⟨#[c0]⟩ : Str) = "0") from decide_eq_decide.mpr ⟨fun x => (h1s c0).mpr (Option.some.inj (hc0.symm.trans (x.resolve_left hn).2)), fun x => .inr ⟨by omega, by rw [hc0, (h1s c0).mp x]⟩⟩] at this
      exact this
    · walk_at "q"
      have := hq _ (s6.trans s7)
      rw [decide_eq_false (fun x => x.elim hn fun y => h1 (by omega))] at this
      exact this
  refine x_ifd (fun h0 => ?_) fun h0 => ?_
  · walk_at "q"
    have := k _ s1
    rw [show pInt z = none from by
      rcases h0 with x | x
      · exact if_pos x
      · by_cases y : core z = "" ∨ dgOk z = false
        · exact if_pos y
        · exact (if_neg y).trans (if_pos (.inl x))] at this
    exact this
  have hn : ¬ (core z = "" ∨ dgOk z = false) := fun x => h0 (.inl x)
  have hdg : dgOk z = true := by
    cases h : dgOk z
    · exact absurd (Or.inr h) hn
    · rfl
  have hne : core z ≠ "" := fun e => hn (.inl e)
  have hint := core_int hz hdg hne
  walk_at "q"
  refine x_ifd (fun h3 => ?_) fun h3 => ?_
  · walk_at "q"
    have := k _ s1
    rw [show pInt z = none from (if_neg hn).trans (if_pos (.inr h3))] at this
    exact this
  have hp : pInt z = some (if core z = z then (PySem.NumText.digitsVal (TL.tl (core z)) : Int) else 0 - (PySem.NumText.digitsVal (TL.tl (core z)) : Int)) := (if_neg hn).trans (if_neg fun x => x.elim (fun y => h0 (.inr y)) h3)
  have kk := k _ s1
  rw [hp] at kk
  walk_at "q"
  refine x_intS hint (by omega) ?_
  walk_at "q"
  refine x_neS ?_
  by_cases h4 : core z = z
  · rw [if_pos h4] at kk
    rw [decide_eq_true h4.symm]
    walk_at "q"
    refine x_timesI (.inl ⟨by decide, by decide⟩) ?_
    walk_at "q"
    refine x_timesI (.inr ⟨by decide, by decide⟩) ?_
    rw [show ((PySem.NumText.digitsVal (TL.tl (core z)) : Int) * (1 - 2 * (if (!true) = true then 1 else 0))) = (PySem.NumText.digitsVal (TL.tl (core z)) : Int) from by
      rw [show ((1 : Int) - 2 * (if (!true) = true then 1 else 0)) = 1 from rfl, Int.mul_one]]
    exact kk
  · rw [if_neg h4] at kk
    rw [decide_eq_false fun e => h4 e.symm]
    walk_at "q"
    refine x_timesI (.inl ⟨by decide, by decide⟩) ?_
    walk_at "q"
    refine x_timesI (.inr ⟨by decide, by decide⟩) ?_
    rw [show ((PySem.NumText.digitsVal (TL.tl (core z)) : Int) * (1 - 2 * (if (!false) = true then 1 else 0))) = 0 - (PySem.NumText.digitsVal (TL.tl (core z)) : Int) from by
      rw [show ((1 : Int) - 2 * (if (!false) = true then 1 else 0)) = -1 from rfl]; omega]
    exact kk
end
end K42

set_option Elab.async false
set_option linter.all false
set_option autoImplicit false
set_option maxRecDepth 100000
set_option pp.maxSteps 500
set_option maxHeartbeats 4000000
namespace K42
open PySem PySem.Spec PyProof.Rows L2 He ChH Ch ChM SuX TxX StrX NumX
local macro_rules | `(tactic| walk_at "x1") => `(tactic| first
  | ((with_reducible apply x_var); exact rfl)
  | with_reducible refine x_c ?_
  | with_reducible refine x_op ?_
  | with_reducible refine x_seq ?_
  | with_reducible refine x_asg ?_
  | with_reducible refine x_gname ?_
  | with_reducible refine x_cons ?_
  | with_reducible refine x_nil ?_
  | with_reducible refine x_fld ?_
  | with_reducible refine x_ret ?_
  | with_reducible refine x_ifS ?_
  | with_reducible refine x_test ?_
  | with_reducible refine x_ex ?_
  | with_reducible refine x_call ?_
  | with_reducible refine x_mk ?_
  | with_reducible refine x_meth ?_
  | with_reducible refine x_prop ?_
  | with_reducible refine x_cb ?_
  | with_reducible refine x_tup ?_
  | with_reducible refine x_lst ?_
  | with_reducible refine x_drop ?_
  | with_reducible refine x_for ?_
  | with_reducible refine x_iL ?_
  | with_reducible refine x_iT ?_
  | with_reducible refine x_iE ?_
  | with_reducible refine x_iU ?_
  | with_reducible refine x_iR1 ?_
  | with_reducible refine x_iR2 ?_
  | with_reducible refine x_gcons ?_
  | with_reducible refine x_gnil ?_
  | with_reducible refine x_par ?_
  | with_reducible refine x_lstRg ?_
  | with_reducible refine x_rg1 ?_
  | with_reducible refine x_rg1At ?_
  | with_reducible refine x_par3 ?_
  | with_reducible refine x_bm ?_
  | with_reducible refine x_bm0 ?_
  | with_reducible refine x_gSub ?_
  | with_reducible refine x_lc ?_
  | with_reducible refine x_yes ?_
  | with_reducible refine x_setf ?_
  | with_reducible refine x_next ?_
  | with_reducible refine x_B ?_
  | with_reducible refine x_and ?_
  | with_reducible refine x_or ?_
  | with_reducible refine x_not ?_
  | with_reducible refine x_andV ?_
  | with_reducible refine x_orV ?_
  | with_reducible refine x_notV ?_
  | with_reducible refine x_ifE ?_
  | with_reducible refine x_chain ?_
  | with_reducible refine x_chain3 ?_
  | with_reducible refine x_un ?_
  | with_reducible refine x_isNe ?_
  | with_reducible refine x_notNe ?_
  | with_reducible refine x_starA ?_
  | with_reducible refine x_plusI ?_
  | with_reducible refine x_minus ?_
  | with_reducible refine x_lt ?_
  | with_reducible refine x_le ?_
  | with_reducible refine x_gt ?_
  | with_reducible refine x_ge ?_
  | with_reducible refine x_eqI ?_
  | with_reducible refine x_neI ?_
  | with_reducible refine x_eqS ?_
  | with_reducible refine x_eqB ?_
  | with_reducible refine x_neB ?_
  | with_reducible refine x_int ?_
  | with_reducible refine x_intB ?_
  | with_reducible refine x_max2 ?_
  | with_reducible refine x_min2 ?_
  | with_reducible refine x_max3 ?_
  | with_reducible refine x_abs ?_
  | with_reducible refine x_neg ?_
  | with_reducible refine x_isi_ii ?_
  | with_reducible refine x_isi_ib ?_
  | with_reducible refine x_T ?_
  | with_reducible refine x_nT ?_
  | with_reducible refine x_nF ?_
  | with_reducible refine x_F ?_)
local macro_rules | `(tactic| walk_at "x") => `(tactic| repeat walk_at "x1")

local macro_rules | `(tactic| walk_at "q1") => `(tactic| first
  | walk_at "x1"
  | with_reducible refine x_sl ?_
  | with_reducible refine x_cmeth ?_
  | with_reducible refine x_noPart ?_
  | with_reducible refine x_part ?_
  | with_reducible refine x_partI ?_)
local macro_rules | `(tactic| walk_at "q") => `(tactic| repeat walk_at "q1")

local macro_rules | `(tactic| walk_at "q1") => `(tactic| first
  | with_reducible refine x_match ?_
  | with_reducible refine x_cend ?_
  | with_reducible refine x_gcons ?_
  | with_reducible refine x_gname ?_
  | with_reducible refine x_gnil ?_)
/-! ### words read -/
def allN : List Str → Option (List Int)
  | [] => some []
  | a :: r => match pInt a, allN r with
    | some n, some ns => some (n :: ns)
    | _, _ => none
def rdMt (r : Str) (a : Option Int) : Option Bk := match a with
  | some n => if roomOk r ∧ needOk n then some (.mt (decide (r = "red")) n) else none
  | none => none
def rdSr (r : Str) (a t m : Option Int) : Option Bk := match a, t, m with
  | some n, some t, some m => if serOk r n t m then some (.sr (decide (r = "red")) n m t.toNat) else none
  | _, _, _ => none
/-- the booking of a line's words -/
def read (ws : List Str) : Option Bk :=
  if ws = [("turn" : Str)] then some .tn
  else match ws with
    | a :: r => if a = "alternate" then (match allN r with | some ns => if ns ≠ [] ∧ nsOk ns then some (.al ns) else none | none => none)
      else match ws with
        | [r, a] => rdMt r (pInt a)
        | [r, a, x, t] => if x = "times" then rdSr r (pInt a) (pInt t) (some 0) else none
        | [r, a, x, t, y, m] => if x = "times" ∧ y = "more" ∧ pInt m ≠ some 0 then rdSr r (pInt a) (pInt t) (pInt m) else none
        | _ => none
    | [] => none
theorem room_of {r : Str} (h : roomOk r) : roomS (decide (r = "red")) = r := by
  rcases h with h | h <;> subst h <;> rfl
theorem ne_alt {r : Str} (h : roomOk r) : r ≠ "alternate" := fun e => by
  rw [e] at h
  exact absurd h (by decide)
theorem read_turn : read [("turn" : Str)] = some .tn := if_pos rfl
theorem read_alt (r : List Str) : read (("alternate" : Str) :: r) = (match allN r with | some ns => if ns ≠ [] ∧ nsOk ns then some (.al ns) else none | none => none) :=
  (if_neg (fun e => absurd (List.cons.inj e).1 (by decide))).trans (if_pos rfl)
theorem read2 {r a : Str} (h : r ≠ "alternate") : read [r, a] = rdMt r (pInt a) := by
  unfold read
  rw [if_neg (show ¬ [r, a] = [("turn" : Str)] from fun e => absurd (congrArg List.length e) (by show ¬ 2 = 1; decide))]
  exact if_neg h
theorem read4 {r a t : Str} (h : r ≠ "alternate") : read [r, a, ("times" : Str), t] = rdSr r (pInt a) (pInt t) (some 0) := by
  unfold read
  rw [if_neg (show ¬ [r, a, ("times" : Str), t] = [("turn" : Str)] from fun e => absurd (congrArg List.length e) (by show ¬ 4 = 1; decide))]
  exact (if_neg h).trans (if_pos rfl)
theorem read6 {r a t m : Str} (h : r ≠ "alternate") : read [r, a, ("times" : Str), t, ("more" : Str), m] = if pInt m ≠ some 0 then rdSr r (pInt a) (pInt t) (pInt m) else none := by
  unfold read
  rw [if_neg (show ¬ [r, a, ("times" : Str), t, ("more" : Str), m] = [("turn" : Str)] from fun e => absurd (congrArg List.length e) (by show ¬ 6 = 1; decide))]
  refine (if_neg h).trans ?_
  by_cases hm : pInt m ≠ some 0
  · rw [if_pos hm]; exact if_pos ⟨rfl, rfl, hm⟩
  · rw [if_neg hm]; exact if_neg fun z => hm z.2.2
theorem rdMt_no {r : Str} {a : Option Int} (h : ¬ roomOk r) : rdMt r a = none := by
  cases a with
  | none => rfl
  | some n => exact if_neg fun z => h z.1
theorem rdSr_no {r : Str} {a t m : Option Int} (h : ¬ roomOk r) : rdSr r a t m = none := by
  cases a <;> cases t <;> cases m <;> first | rfl | exact if_neg fun z => h z.1
theorem read_no {ws : List Str} (h1 : ws ≠ [("turn" : Str)]) (h2 : ∀ r, ws ≠ ("alternate" : Str) :: r) (h3 : ∀ r a, ws = [r, a] → ¬ roomOk r) (h4 : ∀ r a t, ws = [r, a, ("times" : Str), t] → ¬ roomOk r)
    (h6 : ∀ r a t m, ws = [r, a, ("times" : Str), t, ("more" : Str), m] → ¬ roomOk r) : read ws = none := by
  refine (if_neg h1).trans ?_
  match ws, h2, h3, h4, h6 with
  | [], _, _, _, _ => rfl
  | [a], h2, _, _, _ => exact if_neg fun e => h2 _ (by rw [e])
  | [r, a], h2, h3, _, _ => exact (if_neg fun e => h2 _ (by rw [e])).trans (rdMt_no (h3 r a rfl))
  | [r, a, b], h2, _, _, _ => exact if_neg fun e => h2 _ (by rw [e])
  | [r, a, x, t], h2, _, h4, _ =>
    refine (if_neg fun e => h2 _ (by rw [e])).trans ?_
    show (if x = "times" then rdSr r (pInt a) (pInt t) (some 0) else none) = none
    by_cases hx : x = "times"
    · rw [if_pos hx]; exact rdSr_no (h4 r a t (by rw [hx]))
    · rw [if_neg hx]
  | [r, a, x, t, y], h2, _, _, _ => exact if_neg fun e => h2 _ (by rw [e])
  | [r, a, x, t, y, m], h2, _, _, h6 =>
    refine (if_neg fun e => h2 _ (by rw [e])).trans ?_
    show (if x = "times" ∧ y = "more" ∧ pInt m ≠ some 0 then rdSr r (pInt a) (pInt t) (pInt m) else none) = none
    by_cases hx : x = "times" ∧ y = "more" ∧ pInt m ≠ some 0
    · rw [if_pos hx]; exact rdSr_no (h6 r a t m (by rw [hx.1, hx.2.1]))
    · rw [if_neg hx]
  | r :: a :: x :: t :: y :: m :: z :: l, h2, _, _, _ => exact if_neg fun e => h2 _ (by rw [e])
theorem optV_flat (ws : List Str) : (ws.map fun a => optV (pInt a)).all flatV = true := by
  rw [List.all_eq_true]
  intro v hv
  obtain ⟨a, _, rfl⟩ := List.mem_map.mp hv
  cases pInt a <;> rfl
theorem cut_fr (xs : List V) (i : Nat) (h : i ≤ xs.length) : cutV xs (some (i : Int)) none = xs.drop i := by
  unfold cutV
  rw [HT.sIx_nat, HT.sIx_none, Nat.min_eq_left h]
  exact List.take_of_length_le (by rw [List.length_drop]; exact Nat.le_refl _)
theorem allN_in : ∀ ws : List Str, inV .non (ws.map fun a => optV (pInt a)) = (allN ws).isNone
  | [] => rfl
  | a :: r => by
    have ih := allN_in r
    unfold inV at ih ⊢
    rw [List.map_cons, List.any_cons, ih]
    show _ = (match pInt a, allN r with | some n, some ns => some (n :: ns) | _, _ => (none : Option (List Int))).isNone
    cases pInt a <;> cases allN r <;> rfl
theorem allN_map : ∀ {ws : List Str} {ns : List Int}, allN ws = some ns → ws.map (fun a => optV (pInt a)) = ns.map V.int
  | [], ns, h => by cases h; rfl
  | a :: r, ns, h => by
    replace h : (match pInt a, allN r with | some n, some ns => some (n :: ns) | _, _ => (none : Option (List Int))) = some ns := h
    cases ha : pInt a with
    | none => rw [ha] at h; cases h
    | some n =>
      cases hr : allN r with
      | none => rw [ha, hr] at h; cases h
      | some ms =>
        rw [ha, hr] at h
        cases h
        rw [List.map_cons, ha, allN_map hr]
        rfl
theorem allN_len : ∀ {ws : List Str} {ns : List Int}, allN ws = some ns → ns.length = ws.length := fun h => by
  have := congrArg List.length (allN_map h)
  rw [List.length_map, List.length_map] at this
  exact this.symm
/-- a word of a line -/
def okW (a : Str) : Prop := a.length ≤ 600 ∧ PyData.strOk a = true
/-! ### the patterns, told once -/
section
variable {H : Hp} {L : Addr} {ws : List Str} {Q : Option (List V) → Hp → Prop}
theorem qs_miss {n : Nat} {ts : TPats} (h : H L = some (.lst (ws.map V.str))) (hl : ws.length ≠ n) (k : Q none H) : qSeqL n ts (.ref L) H Q := ⟨L, _, rfl, h, by rw [List.length_map, if_neg hl]; exact k⟩
theorem qs_hit {n : Nat} {ts : TPats} (h : H L = some (.lst (ws.map V.str))) (hl : ws.length = n) (k : ts (ws.map V.str) H Q) : qSeqL n ts (.ref L) H Q := ⟨L, _, rfl, h, by rw [List.length_map, if_pos hl]; exact k⟩
theorem q_txt {x y : Str} (hy : y = x → Q (some []) H) (hn : y ≠ x → Q none H) : qText x (.str y) H Q := ⟨y, rfl, by by_cases h : y = x; rw [if_pos h]; exact hy h; rw [if_neg h]; exact hn h⟩
theorem q_room {y : Str} (hy : roomOk y → Q (some []) H) (hn : ¬ roomOk y → Q none H) : qOr (qText "red") (qOr (qText "blue") qMiss) (.str y) H Q :=
  q_txt (fun h => hy (.inl h)) fun h => q_txt (fun h2 => hy (.inr h2)) fun h2 => hn fun x => x.elim h h2
theorem p_turn (h : H L = some (.lst (ws.map V.str))) (hy : ws = [("turn" : Str)] → Q (some []) H) (hn : ws ≠ [("turn" : Str)] → Q none H) : qSeqL 1 (qCons (qText "turn") qNil) (.ref L) H Q := by
  by_cases hl : ws.length = 1
  · obtain ⟨a, rfl⟩ := List.length_eq_one_iff.mp hl
    refine qs_hit h hl (x_qcons (q_txt (fun e => ?_) fun e => ?_))
    · exact x_qnil (hy (by rw [e]))
    · exact hn fun z => e (List.cons.inj z).1
  · exact qs_miss h hl (hn fun z => hl (by rw [z]; rfl))
theorem p_alt (h : H L = some (.lst (ws.map V.str))) (hl : ws.length ≤ 1000) (hy : ∀ r, ws = ("alternate" : Str) :: r → ∀ d H', Same H H' → Q (some [.ref d]) H') (hn : (∀ r, ws ≠ ("alternate" : Str) :: r) → ∀ H', Same H H' → Q none H') :
    qSeqS 2 1 (qCons (qText "alternate") (qCons qCap qNil)) (.ref L) H Q := by
  refine ⟨L, _, rfl, h, by rw [List.length_map]; omega, fun hs => hn (fun r e => ?_) _ (Same.refl _), fun hs d hd => ?_⟩
  · rw [e, List.length_map, List.length_cons] at hs
    omega
  · cases ws with
    | nil => exact absurd hs (by show ¬ 2 ≤ 0 + 1; decide)
    | cons a r =>
      have e : (((a :: r).map V.str).take 1 ++ [V.ref d] ++ (((a :: r).map V.str).drop 1).drop (((a :: r).map V.str).length + 1 - 2)) = [.str a, .ref d] := by
        rw [List.drop_drop, List.drop_eq_nil_of_le (by rw [List.length_map, List.length_cons]; omega)]
        rfl
      rw [e]
      refine x_qcons (q_txt (fun ea => ?_) fun ea => ?_)
      · rw [ea] at hy
        exact x_qcons (x_qcap (x_qnil (hy r rfl d _ (Same.new hd))))
      · exact hn (fun r e => ea (List.cons.inj e).1) _ (Same.new hd)
theorem p_r2 (h : H L = some (.lst (ws.map V.str))) (hy : ∀ r a, ws = [r, a] → roomOk r → Q (some [.str a]) H) (hn : (∀ r a, ws = [r, a] → ¬ roomOk r) → Q none H) :
    qSeqL 2 (qCons (qOr (qText "red") (qOr (qText "blue") qMiss)) (qCons qCap qNil)) (.ref L) H Q := by
  by_cases hl : ws.length = 2
  · match ws, hl with
    | [r, a], hl =>
      refine qs_hit h hl (x_qcons (q_room (fun hr => x_qcons (x_qcap (x_qnil (hy r a rfl hr)))) fun hr => hn fun r' a' e => ?_))
      rw [← (List.cons.inj e).1]; exact hr
  · exact qs_miss h hl (hn fun r a e => absurd (by rw [e]; rfl) hl)
theorem p_r4 (h : H L = some (.lst (ws.map V.str))) (hy : ∀ r a t, ws = [r, a, ("times" : Str), t] → roomOk r → Q (some [.str a, .str t]) H) (hn : (∀ r a t, ws = [r, a, ("times" : Str), t] → ¬ roomOk r) → Q none H) :
    qSeqL 4 (qCons (qOr (qText "red") (qOr (qText "blue") qMiss)) (qCons qCap (qCons (qText "times") (qCons qCap qNil)))) (.ref L) H Q := by
  by_cases hl : ws.length = 4
  · match ws, hl with
    | [r, a, x, t], hl =>
      refine qs_hit h hl (x_qcons (q_room (fun hr => x_qcons (x_qcap (x_qcons (q_txt (fun hx => x_qcons (x_qcap (x_qnil ?_))) fun hx => hn fun r' a' t' e => ?_)))) fun hr => hn fun r' a' t' e => ?_))
      · exact hy r a t (by rw [hx]) hr
      · exact absurd (List.cons.inj (List.cons.inj (List.cons.inj e).2).2).1 hx
      · rw [← (List.cons.inj e).1]; exact hr
  · exact qs_miss h hl (hn fun r a t e => absurd (by rw [e]; rfl) hl)
theorem p_r6 (h : H L = some (.lst (ws.map V.str))) (hy : ∀ r a t m, ws = [r, a, ("times" : Str), t, ("more" : Str), m] → roomOk r → Q (some [.str a, .str t, .str m]) H) (hn : (∀ r a t m, ws = [r, a, ("times" : Str), t, ("more" : Str), m] → ¬ roomOk r) → Q none H) :
    qSeqL 6 (qCons (qOr (qText "red") (qOr (qText "blue") qMiss)) (qCons qCap (qCons (qText "times") (qCons qCap (qCons (qText "more") (qCons qCap qNil)))))) (.ref L) H Q := by
  by_cases hl : ws.length = 6
  · match ws, hl with
    | [r, a, x, t, y, m], hl =>
      refine qs_hit h hl (x_qcons (q_room (fun hr => x_qcons (x_qcap (x_qcons (q_txt (fun hx => x_qcons (x_qcap (x_qcons (q_txt (fun hy2 => x_qcons (x_qcap (x_qnil ?_))) fun hy2 => hn fun r' a' t' m' e => ?_)))) fun hx => hn fun r' a' t' m' e => ?_)))) fun hr => hn fun r' a' t' m' e => ?_))
      · exact hy r a t m (by rw [hx, hy2]) hr
      · exact absurd (List.cons.inj (List.cons.inj (List.cons.inj (List.cons.inj (List.cons.inj e).2).2).2).2).1 hy2
      · exact absurd (List.cons.inj (List.cons.inj (List.cons.inj e).2).2).1 hx
      · rw [← (List.cons.inj e).1]; exact hr
  · exact qs_miss h hl (hn fun r a t m e => absurd (by rw [e]; rfl) hl)
end
/-! ### bookings made, or refused -/
section
variable {K : PySem.W.Frag} {mg : Str → Option Value} {H : Hp} {kk : Addr → Hp → Prop} {E : XK}
theorem x_mkK {C : Addr} {n m : Nat} {sp : Sp} {gV : List V → List V → List V} {E : XK} {t tk : TA} {σ : L2.St} {H : Hp} {Q : VK} (k : t σ H fun vs H1 => tk σ H1 fun zs H2 => vs.length = n ∧ zs.length = m ∧ ∀ x dx, H2 x = none → H2 dx = none → dx ≠ x →
  sp (gV (.ref x :: vs) zs) (upd (upd H2 dx (.own x)) x (.ins C dx [])) (fun v H3 => v = .non ∧ Q (.ref x) H3) E) : tMakeK C n m sp gV E t tk σ H Q := k
theorem made1 {x dx C : Addr} (hx : H x = none) (hdx : H dx = none) : Same H (upd (upd H dx (.own x)) x (.ins C dx [])) := Same.mut (Same.new hdx) hx
theorem made2 {x : Addr} {H1 H' : Hp} (hx : H x = none) (s : Same H H1) (k : ∀ b u, b ≠ x → H1 b = some u → H' b = some u) : Same H H' := fun b u e => k b u (ne_of_none e hx) (s b u e)
theorem made3 {x : Addr} {H1 H' : Hp} (s : Same H H1) (k : Same H1 H') : Same H H' := s.trans k
theorem mkA {ns : List Int} (hlen : ns.length ≤ 1000) (k : Bk.ok (.al ns) → ∀ x H', H x = none → Same H H' → BkAt K H' x (.al ns) → kk x H') (kB : ¬ Bk.ok (.al ns) → ∀ H', Same H H' → E (.ref (ga K "InvalidBooking")) none H') (W : Wd K mg) :
    ∀ x dx, H x = none → H dx = none → dx ≠ x → ∃ ws rest, V.ref x :: ns.map V.int = ws ++ rest ∧ ws.length = ["self"].length ∧ rest.length ≤ sizeLine ∧
    ∀ p, (upd (upd H dx (.own x)) x (.ins (ga K "Alternation") dx [])) p = none → spAI K (ws ++ [V.ref p]) (upd (upd (upd H dx (.own x)) x (.ins (ga K "Alternation") dx [])) p (.tup rest)) (fun v H2 => v = .non ∧ kk x H2) E := by
  intro x dx hx hdx hne
  refine ⟨[.ref x], _, rfl, rfl, sz5 (by rw [List.length_map]; omega), fun p hp => ?_⟩
  have s1 := made1 (C := ga K "Alternation") hx hdx
  have s2 := s1.trans (Same.new (o := .tup (ns.map V.int)) hp)
  have hpx : p ≠ x := fun e => by
    rw [e, upd_same] at hp
    cases hp
  exact ⟨x, dx, p, ns, rfl, up upd_same hp, upd_same, by omega, fun h1 h2 H' kp hx' => ⟨rfl, k ⟨h1, h2⟩ x H' hx (made2 hx s2 kp) ⟨⟨dx, p, hx', kp p _ hpx upd_same⟩, ⟨h1, h2⟩⟩⟩, fun z H' s => kB z H' (s2.trans s)⟩
theorem mkM (W : Wd K mg) {r : Str} {n : Int} (k : roomOk r → needOk n → ∀ x H', H x = none → Same H H' → BkAt K H' x (.mt (decide (r = "red")) n) → kk x H') (kB : ¬ (roomOk r ∧ needOk n) → ∀ H', Same H H' → E (.ref (ga K "InvalidBooking")) none H') :
    ∀ x dx, H x = none → H dx = none → dx ≠ x → ∃ ws rest, [V.ref x, .str r, .int n] = ws ++ rest ∧ ws.length = ["self", "room"].length ∧ rest.length ≤ sizeLine ∧
    ∀ p, (upd (upd H dx (.own x)) x (.ins (ga K "Meeting") dx [])) p = none → spMI K (ws ++ [V.ref p]) (upd (upd (upd H dx (.own x)) x (.ins (ga K "Meeting") dx [])) p (.tup rest)) (fun v H2 => v = .non ∧ kk x H2) E := by
  intro x dx hx hdx hne
  refine ⟨[.ref x, .str r], [.int n], rfl, rfl, sz5 (by show 1 ≤ _; decide), fun p hp => ?_⟩
  have s1 := made1 (C := ga K "Meeting") hx hdx
  have s2 := s1.trans (Same.new (o := .tup [.int n]) hp)
  have hpx : p ≠ x := fun e => by
    rw [e, upd_same] at hp
    cases hp
  have hns : nsOk [n] ↔ needOk n := ⟨fun h => h.1 n List.mem_cons_self, fun h => ⟨fun m hm => by rw [List.mem_singleton.mp hm]; exact h, by show 1 ≤ 60; decide⟩⟩
  exact ⟨x, _, dx, p, r, [n], rfl, up upd_same hp, W.c_Meeting, W.n_Meeting_needs, W.n_Meeting_room, W.su_Meeting_Meeting, upd_same, by show 1 ≤ 1000; decide, fun h1 h2 H' kp hx' => ⟨rfl, k h1 (hns.mp h2) x H' hx (made2 hx s2 kp) ⟨⟨dx, p, by rw [hx']; show _ = some (HO.ins (ga K "Meeting") dx [("needs", .ref p), ("room", .str (roomS (decide (r = "red"))))]); rw [room_of h1], kp p _ hpx upd_same⟩, hns.mp h2⟩⟩, fun z H' s => kB (fun y => z ⟨y.1, hns.mpr y.2⟩) H' (s2.trans s)⟩
theorem mkT (k : ∀ x H', H x = none → Same H H' → BkAt K H' x .tn → kk x H') : ∀ x dx, H x = none → H dx = none → dx ≠ x → spTI K [V.ref x] (upd (upd H dx (.own x)) x (.ins (ga K "Turning") dx [])) (fun v H2 => v = .non ∧ kk x H2) E := by
  intro x dx hx hdx hne
  have s1 := made1 (C := ga K "Turning") hx hdx
  exact ⟨x, dx, rfl, upd_same, fun T H' hT kp e1 e2 => ⟨rfl, k x H' hx (made2 hx s1 kp) ⟨⟨dx, T, e2, e1⟩, trivial⟩⟩⟩
theorem mkS {r : Str} {n t m : Int} (k : serOk r n t m → ∀ x H', H x = none → Same H H' → BkAt K H' x (.sr (decide (r = "red")) n m t.toNat) → kk x H') (kB : ¬ serOk r n t m → ∀ H', Same H H' → E (.ref (ga K "InvalidBooking")) none H') :
    ∀ x dx, H x = none → H dx = none → dx ≠ x → spSI K [V.ref x, .str r, .int n, .int t, .int m] (upd (upd H dx (.own x)) x (.ins (ga K "Series") dx [])) (fun v H2 => v = .non ∧ kk x H2) E := by
  intro x dx hx hdx hne
  have s1 := made1 (C := ga K "Series") hx hdx
  refine ⟨x, dx, r, n, t, m, rfl, upd_same, fun hok T H' hT kp e1 e2 => ⟨rfl, k hok x H' hx (made2 hx s1 kp) ⟨⟨dx, T, by rw [e2]; show _ = some (HO.ins (ga K "Series") dx [("needs", .ref T), ("room", .str (roomS (decide (r = "red")))), ("more", .int m)]); rw [room_of hok.1], e1⟩, ⟨hok.2.1, by have := hok.2.2.1; omega, by have := hok.2.2.2.1; omega, hok.2.2.2.2⟩⟩⟩, fun z H' s => kB z H' (s1.trans s)⟩
end
section
variable {P : Program} [SP : SupP P mfile] {w : World} {K : PySem.W.Frag} {mg : Str → Option Value} {base : Heap}
def spBo (K : PySem.W.Frag) : Sp := fun vs H Q E => ∃ (L : Addr) (ws : List Str), vs = [.ref L] ∧ H L = some (.lst (ws.map V.str)) ∧ ws.length ≤ 600 ∧ (∀ a ∈ ws, okW a) ∧
  (∀ b, read ws = some b → ∀ o H', H o = none → Same H H' → BkAt K H' o b → Q (.ref o) H') ∧
  (read ws = none → ∀ H', Same H H' → Q .non H') ∧ (read ws = none → ∀ H', Same H H' → E (.ref (ga K "InvalidBooking")) none H')
theorem okn_booking_of (W : Wd K mg) : FnR P w K mg base (L2N.CX P w) 9 (ga K "booking_of") (spBo K) := by
  refine (def_ok W.F_booking_of sc_booking_of (fun _ _ _ _ _ _ us hl => match us, hl with | [_], _ => rfl) (fun vs H Q E ⟨L, ws, e, _⟩ => by rw [e]; rfl) fun cdv A outer s H vs Q E hr ⟨L, ws, e, hL, hlen, hw, k, kN, kE⟩ => ?_).2
  subst e
  refine ⟨_, (pss_cons (ps_setLc (i := 1) (own := [("word", 7)]) (g := gName 7) (tt := tYes) rfl sc_booking_of.nd rfl rfl (sw_true rfl rfl rfl (by decide +kernel)) (pi_listK K (pv 0)) (blkOk_by (own := [("word", 7)]) (N := N_booking_of) (sc := defScope s_booking_of) (by decide +kernel)) (fun _ _ _ _ _ => (pg_name (i := 7) sc_booking_of.nd rfl (Or.inl rfl))) (fun _ _ _ _ _ => pts_nil) (fun _ _ _ _ _ => (pe_callR (ok_parse_integer W) (hr.mono (by decide)) W.g_parse_integer W.k_parse_integer pass0 rfl (pa_cons (pv 7) pa_nil)))) (pss_cons (ps_match (pv 0) (qc_case (qp_seqL rfl (qps_cons qp_text qps_nil)) qn_nil (pss_one (ps_ret (pe_mk0 W.mk_Turning (okn_Turning_init (P := P) W) (hr.mono (by decide)) W.g_Turning (L2N.passes_call (L2N.takes_of rfl rfl rfl rfl) (fun _ _ _ _ h => h)) rfl))) (qc_guard (StrX.qp_seqS (n := 2) (i := 1) rfl (qps_cons qp_text (StrX.qps_star qps_nil))) (qn_cons (i := 2) sc_booking_of.nd rfl (Or.inl rfl) qn_nil) (pt_cmpR (op_notInK K) pe_non (pe_slice (sl_listK K) (pv 1) (po_some pe_int) po_none) rfl) (pss_cons (ps_set (i := 3) sc_booking_of.nd rfl (Or.inl rfl) (pe_slice (sl_listK K) (pv 1) (po_some pe_int) po_none)) (pss_one (ps_ret (pe_mkS W.mk_Alternation (okn_Alternation_init (P := P) W) (hr.mono (by decide)) W.g_Alternation (L2N.passes_call (L2N.takes_of rfl rfl rfl rfl) (fun _ _ _ _ h => h)) rfl (pv 3))))) (qc_guard (qp_seqL rfl (qps_cons (qp_or (qo_cons qp_text (qo_cons qp_text qo_nil))) (qps_cons qp_cap qps_nil))) (qn_cons (i := 4) sc_booking_of.nd rfl (Or.inl rfl) qn_nil) (pt_cmp (pc_notN (pe_ix (ix_K K) (pv 1) pe_int (fun _ _ => rfl)))) (pss_one (ps_ret (pe_mk W.mk_Meeting (okn_Meeting_init (P := P) W) (hr.mono (by decide)) W.g_Meeting (L2N.passes_call (L2N.takes_of rfl rfl rfl rfl) (fun _ _ _ _ h => h)) rfl (pa_cons (pe_ix (ix_K K) (pv 0) pe_int (fun _ _ => rfl)) (pa_cons (pe_ix (ix_K K) (pv 1) pe_int (fun _ _ => rfl)) pa_nil))))) (qc_guard (qp_seqL rfl (qps_cons (qp_or (qo_cons qp_text (qo_cons qp_text qo_nil))) (qps_cons qp_cap (qps_cons qp_text (qps_cons qp_cap qps_nil))))) (qn_cons (i := 4) sc_booking_of.nd rfl (Or.inl rfl) (qn_cons (i := 5) sc_booking_of.nd rfl (Or.inl rfl) qn_nil)) (PW.pt (pw_and (pt_cmp (pc_notN (pe_ix (ix_K K) (pv 1) pe_int (fun _ _ => rfl)))) (pw_and1 (pt_cmp (pc_notN (pe_ix (ix_K K) (pv 1) pe_int (fun _ _ => rfl))))))) (pss_one (ps_ret (pe_makeK W.mk_Series (okkn_Series_init (P := P) W) (hr.mono (by decide)) rfl W.g_Series (kb_Series_init_times W) (L2N.passes_call (L2N.takes_of rfl rfl rfl rfl) (fun _ _ _ _ h => h)) (pa_cons (pe_ix (ix_K K) (pv 0) pe_int (fun _ _ => rfl)) (pa_cons (pe_ix (ix_K K) (pv 1) pe_int (fun _ _ => rfl)) pa_nil)) (pk_cons (pe_ix (ix_K K) (pv 1) pe_int (fun _ _ => rfl)) pk_nil)))) (qc_guard (qp_seqL rfl (qps_cons (qp_or (qo_cons qp_text (qo_cons qp_text qo_nil))) (qps_cons qp_cap (qps_cons qp_text (qps_cons qp_cap (qps_cons qp_text (qps_cons qp_cap qps_nil))))))) (qn_cons (i := 4) sc_booking_of.nd rfl (Or.inl rfl) (qn_cons (i := 5) sc_booking_of.nd rfl (Or.inl rfl) (qn_cons (i := 6) sc_booking_of.nd rfl (Or.inl rfl) qn_nil))) (pt_cmpR (op_notInK K) pe_non (pe_tup (pa_cons (pe_ix (ix_K K) (pv 1) pe_int (fun _ _ => rfl)) (pa_cons (pe_ix (ix_K K) (pv 1) pe_int (fun _ _ => rfl)) (pa_cons (pe_ix (ix_K K) (pv 1) pe_int (fun _ _ => rfl)) pa_nil)))) rfl) (pss_one (ps_ret (pe_ifExp (pt_cmpR (op_neK K hr.units) (pe_ix (ix_K K) (pv 1) pe_int (fun _ _ => rfl)) pe_int (nomark _)) (pe_makeK W.mk_Series (okkn_Series_init (P := P) W) (hr.mono (by decide)) rfl W.g_Series (kb_Series_init_times_more W) (L2N.passes_call (L2N.takes_of rfl rfl rfl rfl) (fun _ _ _ _ h => h)) (pa_cons (pe_ix (ix_K K) (pv 0) pe_int (fun _ _ => rfl)) (pa_cons (pe_ix (ix_K K) (pv 1) pe_int (fun _ _ => rfl)) pa_nil)) (pk_cons (pe_ix (ix_K K) (pv 1) pe_int (fun _ _ => rfl)) (pk_cons (pe_ix (ix_K K) (pv 1) pe_int (fun _ _ => rfl)) pk_nil))) pe_non))) qc_nil)))))) (pss_one (ps_ret pe_non)))), ?_⟩
  walk_at "q"
  refine x_iLAt (SqL.of hL) ?_
  refine x_lcA walk_list (fun i acc _ => acc = (ws.take i).map fun a => optV (pInt a)) (fun _ _ _ _ _ _ _ h => h) (fun _ _ => rfl) (by rw [List.length_map]; omega) (fun H' s' => SqL.of (s' _ _ hL)) ?_ ?_
  · rintro i y acc H3 H4 NT NF hT hF hi s3 rfl ⟨rfl, ey⟩
    rw [List.getElem?_map] at ey
    obtain ⟨a, ea, rfl⟩ := Option.map_eq_some_iff.mp ey
    have ha := hw a (List.mem_of_getElem? ea)
    walk_at "q"
    refine ⟨rfl, ?_⟩
    walk_at "q"
    refine ⟨a, rfl, ha.1, ha.2, fun H5 s5 => ?_⟩
    refine hT _ _ s5 ?_
    rw [List.take_add_one, ea, List.map_append]
    rfl
  rintro N acc H6 hN s6 hN2 rfl hdl
  rw [List.length_map, List.take_length] at hN2
  walk_at "q"
  have hL6 := s6 _ _ hL
  refine x_case (p_turn hL6 (fun e => ?_) fun hn1 => ?_)
  · subst e
    dsimp only
    walk_at "q"
    exact mkT fun x H' hx s hb => k _ read_turn x H' (s6.free hx) (s6.trans s) hb
  dsimp only
  refine x_cguard (p_alt hL6 (by omega) (fun r e d H7 s7 => ?_) fun hn2 H7 s7 => ?_)
  · subst e
    dsimp only
    have s67 := s6.trans s7
    walk_at "q"
    refine n_slL (SqL.of (s7 _ _ hN2)) fun q1 H8 hq1 s8 e8 => ?_
    have ec : cutV ((("alternate" : Str) :: r).map fun a => optV (pInt a)) (some 1) none = r.map fun a => optV (pInt a) := cut_fr _ 1 (by rw [List.length_map, List.length_cons]; omega)
    rw [ec] at e8
    refine x_notinL (SqL.of e8) rfl (optV_flat r) ?_
    rw [allN_in]
    walk_at "q"
    have s68 := s67.trans s8
    have hra := read_alt r
    cases hall : allN r with
    | none =>
      rw [hall] at hra
      refine x_nT ?_
      have s6' := s7.trans s8
      refine x_cguard (p_r2 (s6' _ _ hL6) (fun r' a' e hr => absurd ((List.cons.inj e).1 ▸ hr) (by decide)) fun _ => ?_)
      refine x_cguard (p_r4 (s6' _ _ hL6) (fun r' a' t' e hr => absurd ((List.cons.inj e).1 ▸ hr) (by decide)) fun _ => ?_)
      refine x_cguard (p_r6 (s6' _ _ hL6) (fun r' a' t' m' e hr => absurd ((List.cons.inj e).1 ▸ hr) (by decide)) fun _ => ?_)
      dsimp only
      walk_at "q"
      exact kN hra _ s68
    | some ns =>
      rw [hall] at hra
      refine x_nF ?_
      walk_at "q"
      refine n_slL (SqL.of (s8 _ _ (s7 _ _ hN2))) fun q2 H9 hq2 s9 e9 => ?_
      rw [ec, allN_map hall] at e9
      walk_at "q"
      have s69 := s68.trans s9
      have hnl : ns.length ≤ 600 := by rw [allN_len hall]; rw [List.length_cons] at hlen; omega
      refine ⟨q2, _, rfl, .inr (SqL.of e9), mkA (by omega) (fun hok x H' hx s hb => k _ (hra.trans (if_pos hok)) x H' (s69.free hx) (s69.trans s) hb) (fun hno H' s => kE (hra.trans (if_neg hno)) H' (s69.trans s)) W⟩
  dsimp only
  have s67 := s6.trans s7
  have hL7 := s7 _ _ hL6
  have hN7 := s7 _ _ hN2
  refine x_cguard (p_r2 hL7 (fun r a e hr => ?_) fun hn3 => ?_)
  · subst e
    dsimp only
    have hrd := read2 (a := a) (ne_alt hr)
    walk_at "q"
    refine x_ixL (SqL.of hN7) (i := ((1 : Nat) : Int)) (v := optV (pInt a)) (atI_nat rfl) ?_
    walk_at "q"
    cases ha : pInt a with
    | none =>
      rw [ha] at hrd
      refine x_nT ?_
      refine x_cguard (p_r4 hL7 (fun r' a' t' e hr => absurd (congrArg List.length e) (by show ¬ 2 = 4; decide)) fun _ => ?_)
      refine x_cguard (p_r6 hL7 (fun r' a' t' m' e hr => absurd (congrArg List.length e) (by show ¬ 2 = 6; decide)) fun _ => ?_)
      dsimp only
      walk_at "q"
      exact kN hrd _ s67
    | some n =>
      rw [ha] at hrd
      refine x_nF ?_
      walk_at "q"
      refine x_ixL (SqL.of hL7) (i := ((0 : Nat) : Int)) (v := .str r) (atI_nat rfl) ?_
      walk_at "q"
      refine x_ixL (SqL.of hN7) (i := ((1 : Nat) : Int)) (v := .int n) (atI_nat (by show some (optV (pInt a)) = _; rw [ha]; rfl)) ?_
      walk_at "q"
      exact mkM W (fun h1 h2 x H' hx s hb => k _ (hrd.trans (if_pos ⟨h1, h2⟩)) x H' (s67.free hx) (s67.trans s) hb) (fun hno H' s => kE (hrd.trans (if_neg hno)) H' (s67.trans s))
  dsimp only
  refine x_cguard (p_r4 hL7 (fun r a t e hr => ?_) fun hn4 => ?_)
  · subst e
    dsimp only
    have hrd := read4 (a := a) (t := t) (ne_alt hr)
    walk_at "q"
    refine x_ixL (SqL.of hN7) (i := ((1 : Nat) : Int)) (v := optV (pInt a)) (atI_nat rfl) ?_
    walk_at "q"
    have miss : ∀ r' a' t' m', [r, a, ("times" : Str), t] = [r', a', ("times" : Str), t', ("more" : Str), m'] → False := fun r' a' t' m' e => absurd (congrArg List.length e) (by show ¬ 4 = 6; decide)
    cases ha : pInt a with
    | none =>
      rw [ha] at hrd
      refine x_nT ?_
      refine x_cguard (p_r6 hL7 (fun r' a' t' m' e hr => (miss r' a' t' m' e).elim) fun _ => ?_)
      dsimp only
      walk_at "q"
      exact kN hrd _ s67
    | some n =>
      rw [ha] at hrd
      refine x_nF ?_
      walk_at "q"
      refine x_ixL (SqL.of hN7) (i := ((3 : Nat) : Int)) (v := optV (pInt t)) (atI_nat rfl) ?_
      walk_at "q"
      cases ht : pInt t with
      | none =>
        rw [ht] at hrd
        refine x_nT ?_
        refine x_cguard (p_r6 hL7 (fun r' a' t' m' e hr => (miss r' a' t' m' e).elim) fun _ => ?_)
        dsimp only
        walk_at "q"
        exact kN hrd _ s67
      | some tt =>
        rw [ht] at hrd
        refine x_nF ?_
        walk_at "q"
        refine x_mkK ?_
        walk_at "q"
        refine x_ixL (SqL.of hL7) (i := ((0 : Nat) : Int)) (v := .str r) (atI_nat rfl) ?_
        walk_at "q"
        refine x_ixL (SqL.of hN7) (i := ((1 : Nat) : Int)) (v := .int n) (atI_nat (by show some (optV (pInt a)) = _; rw [ha]; rfl)) ?_
        walk_at "q"
        refine x_ixL (SqL.of hN7) (i := ((3 : Nat) : Int)) (v := .int tt) (atI_nat (by show some (optV (pInt t)) = _; rw [ht]; rfl)) ?_
        walk_at "q"
        exact ⟨rfl, rfl, mkS (fun hok x H' hx s hb => k _ (hrd.trans (if_pos hok)) x H' (s67.free hx) (s67.trans s) hb) (fun hno H' s => kE (hrd.trans (if_neg hno)) H' (s67.trans s))⟩
  dsimp only
  refine x_cguard (p_r6 hL7 (fun r a t m e hr => ?_) fun hn6 => ?_)
  · subst e
    dsimp only
    have hrd := read6 (a := a) (t := t) (m := m) (ne_alt hr)
    walk_at "q"
    refine x_ixL (SqL.of hN7) (i := ((1 : Nat) : Int)) (v := optV (pInt a)) (atI_nat rfl) ?_
    walk_at "q"
    refine x_ixL (SqL.of hN7) (i := ((3 : Nat) : Int)) (v := optV (pInt t)) (atI_nat rfl) ?_
    walk_at "q"
    refine x_ixL (SqL.of hN7) (i := ((5 : Nat) : Int)) (v := optV (pInt m)) (atI_nat rfl) ?_
    walk_at "q"
    refine ⟨sz rfl, fun u1 hu1 => ?_⟩; generalize hM1 : upd _ u1 _ = H8; obtain ⟨s8, e8⟩ := nws hM1 hu1
    have s68 := s67.trans s8
    have hL8 := s8 _ _ hL7
    have hN8 := s8 _ _ hN7
    refine x_notinT (SqT.of e8) rfl (by cases pInt a <;> cases pInt t <;> cases pInt m <;> rfl) ?_
    walk_at "q"
    cases ha : pInt a with
    | none =>
      refine x_nT ?_
      walk_at "q"
      refine kN (hrd.trans ?_) _ s68
      rw [ha]
      by_cases h0 : pInt m ≠ some 0
      · rw [if_pos h0]; rfl
      · rw [if_neg h0]
    | some n =>
      cases ht : pInt t with
      | none =>
        refine x_nT ?_
        walk_at "q"
        refine kN (hrd.trans ?_) _ s68
        rw [ha, ht]
        by_cases h0 : pInt m ≠ some 0
        · rw [if_pos h0]; rfl
        · rw [if_neg h0]
      | some tt =>
        cases hm : pInt m with
        | none =>
          refine x_nT ?_
          walk_at "q"
          refine kN (hrd.trans ?_) _ s68
          rw [ha, ht, hm]
          exact if_pos fun z => nomatch z
        | some mm =>
          refine x_nF ?_
          walk_at "q"
          refine x_ixL (SqL.of hN8) (i := ((5 : Nat) : Int)) (v := .int mm) (atI_nat (by show some (optV (pInt m)) = _; rw [hm]; rfl)) ?_
          walk_at "q"
          rw [ha, ht, hm] at hrd
          refine x_ifnd (fun h0 => ?_) fun h0 => ?_
          · have hrd2 := hrd.trans (if_pos fun z => h0 (Option.some.inj z))
            walk_at "q"
            refine x_mkK ?_
            walk_at "q"
            refine x_ixL (SqL.of hL8) (i := ((0 : Nat) : Int)) (v := .str r) (atI_nat rfl) ?_
            walk_at "q"
            refine x_ixL (SqL.of hN8) (i := ((1 : Nat) : Int)) (v := .int n) (atI_nat (by show some (optV (pInt a)) = _; rw [ha]; rfl)) ?_
            walk_at "q"
            refine x_ixL (SqL.of hN8) (i := ((3 : Nat) : Int)) (v := .int tt) (atI_nat (by show some (optV (pInt t)) = _; rw [ht]; rfl)) ?_
            walk_at "q"
            refine x_ixL (SqL.of hN8) (i := ((5 : Nat) : Int)) (v := .int mm) (atI_nat (by show some (optV (pInt m)) = _; rw [hm]; rfl)) ?_
            walk_at "q"
            exact ⟨rfl, rfl, mkS (fun hok x H' hx s hb => k _ (hrd2.trans (if_pos hok)) x H' (s68.free hx) (s68.trans s) hb) (fun hno H' s => kE (hrd2.trans (if_neg hno)) H' (s68.trans s))⟩
          · walk_at "q"
            exact kN (hrd.trans (if_neg fun z => z (by rw [h0]))) _ s68
  dsimp only
  walk_at "q"
  exact kN (read_no hn1 hn2 hn3 hn4 hn6) _ s67
end
end K42

set_option Elab.async false
set_option linter.all false
set_option autoImplicit false
set_option maxRecDepth 100000
set_option pp.maxSteps 500
set_option maxHeartbeats 4000000
namespace K42
open PySem PySem.Spec PyProof.Rows L2 He ChH Ch ChM SuX TxX StrX NumX DpX
local macro_rules | `(tactic| walk_at "x1") => `(tactic| first
  | ((with_reducible apply x_var); exact rfl)
  | with_reducible refine x_c ?_
  | with_reducible refine x_op ?_
  | with_reducible refine x_seq ?_
  | with_reducible refine x_asg ?_
  | with_reducible refine x_gname ?_
  | with_reducible refine x_cons ?_
  | with_reducible refine x_nil ?_
  | with_reducible refine x_fld ?_
  | with_reducible refine x_ret ?_
  | with_reducible refine x_ifS ?_
  | with_reducible refine x_test ?_
  | with_reducible refine x_ex ?_
  | with_reducible refine x_call ?_
  | with_reducible refine x_mk ?_
  | with_reducible refine x_meth ?_
  | with_reducible refine x_prop ?_
  | with_reducible refine x_cb ?_
  | with_reducible refine x_tup ?_
  | with_reducible refine x_lst ?_
  | with_reducible refine x_drop ?_
  | with_reducible refine x_for ?_
  | with_reducible refine x_iL ?_
  | with_reducible refine x_iT ?_
  | with_reducible refine x_iE ?_
  | with_reducible refine x_iU ?_
  | with_reducible refine x_iR1 ?_
  | with_reducible refine x_iR2 ?_
  | with_reducible refine x_gcons ?_
  | with_reducible refine x_gnil ?_
  | with_reducible refine x_par ?_
  | with_reducible refine x_lstRg ?_
  | with_reducible refine x_rg1 ?_
  | with_reducible refine x_rg1At ?_
  | with_reducible refine x_par3 ?_
  | with_reducible refine x_bm ?_
  | with_reducible refine x_bm0 ?_
  | with_reducible refine x_gSub ?_
  | with_reducible refine x_lc ?_
  | with_reducible refine x_yes ?_
  | with_reducible refine x_setf ?_
  | with_reducible refine x_next ?_
  | with_reducible refine x_B ?_
  | with_reducible refine x_and ?_
  | with_reducible refine x_or ?_
  | with_reducible refine x_not ?_
  | with_reducible refine x_andV ?_
  | with_reducible refine x_orV ?_
  | with_reducible refine x_notV ?_
  | with_reducible refine x_ifE ?_
  | with_reducible refine x_chain ?_
  | with_reducible refine x_chain3 ?_
  | with_reducible refine x_un ?_
  | with_reducible refine x_isNe ?_
  | with_reducible refine x_notNe ?_
  | with_reducible refine x_starA ?_
  | with_reducible refine x_plusI ?_
  | with_reducible refine x_minus ?_
  | with_reducible refine x_lt ?_
  | with_reducible refine x_le ?_
  | with_reducible refine x_gt ?_
  | with_reducible refine x_ge ?_
  | with_reducible refine x_eqI ?_
  | with_reducible refine x_neI ?_
  | with_reducible refine x_eqS ?_
  | with_reducible refine x_eqB ?_
  | with_reducible refine x_neB ?_
  | with_reducible refine x_int ?_
  | with_reducible refine x_intB ?_
  | with_reducible refine x_max2 ?_
  | with_reducible refine x_min2 ?_
  | with_reducible refine x_max3 ?_
  | with_reducible refine x_abs ?_
  | with_reducible refine x_neg ?_
  | with_reducible refine x_isi_ii ?_
  | with_reducible refine x_isi_ib ?_
  | with_reducible refine x_T ?_
  | with_reducible refine x_nT ?_
  | with_reducible refine x_nF ?_
  | with_reducible refine x_F ?_)
local macro_rules | `(tactic| walk_at "x") => `(tactic| repeat walk_at "x1")

local macro_rules | `(tactic| walk_at "q1") => `(tactic| first
  | walk_at "x1"
  | with_reducible refine x_sl ?_
  | with_reducible refine x_cmeth ?_
  | with_reducible refine x_noPart ?_
  | with_reducible refine x_part ?_
  | with_reducible refine x_partI ?_)
local macro_rules | `(tactic| walk_at "q") => `(tactic| repeat walk_at "q1")

local macro_rules | `(tactic| walk_at "q1") => `(tactic| with_reducible refine StrX.x_sl2 ?_)
def goodN (a : Str) : Option Int := match pInt a with
  | some n => if needOk n then some n else none
  | none => none
def goods (l : List Str) : List Int := l.filterMap goodN
theorem goods_snoc (l : List Str) (a : Str) : goods (l ++ [a]) = goods l ++ (goodN a).toList := by
  unfold goods
  rw [List.filterMap_append]
  congr 1
theorem goods_len (l : List Str) : (goods l).length ≤ l.length := List.length_filterMap_le _ _
theorem goods_full : ∀ {l : List Str}, l.length ≤ (goods l).length → allN l = some (goods l) ∧ ∀ n ∈ goods l, needOk n
  | [], _ => ⟨rfl, fun n hn => nomatch hn⟩
  | a :: r, h => by
    have hr := goods_len r
    cases hg : goodN a with
    | none =>
      have e : goods (a :: r) = goods r := List.filterMap_cons_none hg
      rw [e, List.length_cons] at h
      omega
    | some n =>
      have e : goods (a :: r) = n :: goods r := List.filterMap_cons_some hg
      rw [e, List.length_cons, List.length_cons] at h
      obtain ⟨h1, h2⟩ := goods_full (l := r) (by omega)
      have hp : pInt a = some n ∧ needOk n := by
        unfold goodN at hg
        cases hp : pInt a with
        | none => rw [hp] at hg; cases hg
        | some m =>
          rw [hp] at hg
          replace hg : (if needOk m then some m else none) = some n := hg
          by_cases hm : needOk m
          · rw [if_pos hm] at hg; cases hg; exact ⟨rfl, hm⟩
          · rw [if_neg hm] at hg; cases hg
      rw [e]
      refine ⟨?_, fun m hm => ?_⟩
      · show (match pInt a, allN r with | some n, some ns => some (n :: ns) | _, _ => (none : Option (List Int))) = _
        rw [hp.1, h1]
      · rcases List.mem_cons.mp hm with z | z
        · rw [z]; exact hp.2
        · exact h2 m z
theorem goods_of : ∀ {l : List Str} {ns : List Int}, allN l = some ns → (∀ n ∈ ns, needOk n) → goods l = ns
  | [], ns, h, _ => by cases h; rfl
  | a :: r, ns, h, hn => by
    replace h : (match pInt a, allN r with | some n, some ns => some (n :: ns) | _, _ => (none : Option (List Int))) = some ns := h
    cases ha : pInt a with
    | none => rw [ha] at h; cases h
    | some n =>
      cases hr : allN r with
      | none => rw [ha, hr] at h; cases h
      | some ms =>
        rw [ha, hr] at h
        cases h
        have hg : goodN a = some n := by unfold goodN; rw [ha]; exact if_pos (hn n List.mem_cons_self)
        rw [show goods (a :: r) = n :: goods r from List.filterMap_cons_some hg, goods_of hr fun m hm => hn m (List.mem_cons_of_mem _ hm)]
theorem room_in (z : Str) : inV (.str z) [.str "red", .str "blue"] = decide (roomOk z) := by
  unfold inV roomOk
  show (("red" : Str) == z || (("blue" : Str) == z || false)) = _
  rw [Bool.or_false]
  by_cases h1 : z = "red"
  · rw [h1]; rfl
  · by_cases h2 : z = "blue"
    · rw [h2]; rfl
    · rw [decide_eq_false (fun q => q.elim h1 h2), beq_false_of_ne (fun q => h1 q.symm), beq_false_of_ne (fun q => h2 q.symm)]
      rfl
abbrev ev2In (l : List Str) : Prop := l = [] ∨ l = [("times" : Str)] ∨ l = [("times" : Str), ("more" : Str)]
theorem ev2_any (l : List Str) : ([strsD [], strsD [("times" : Str)], strsD [("times" : Str), ("more" : Str)]].any fun z => PyData.eqv z (strsD l)) = decide (ev2In l) := by
  rw [List.any_cons, List.any_cons, List.any_cons, List.any_nil, eqv_strs, eqv_strs, eqv_strs, Bool.or_false]
  by_cases h1 : ([] : List Str) = l
  · rw [decide_eq_true h1, decide_eq_true (p := ev2In l) (.inl h1.symm)]
    rfl
  by_cases h2 : [("times" : Str)] = l
  · rw [decide_eq_true h2, decide_eq_true (p := ev2In l) (.inr (.inl h2.symm)), Bool.true_or, Bool.or_true]
  by_cases h3 : [("times" : Str), ("more" : Str)] = l
  · rw [decide_eq_true h3, decide_eq_true (p := ev2In l) (.inr (.inr h3.symm)), Bool.or_true, Bool.or_true]
  · rw [decide_eq_false h1, decide_eq_false h2, decide_eq_false h3, decide_eq_false (p := ev2In l) fun z => z.elim (fun e => h1 e.symm) fun z => z.elim (fun e => h2 e.symm) fun e => h3 e.symm]
    rfl
theorem ite_no {α : Type} {c : Prop} [Decidable c] {a : Option α} (h : a = none) : (if c then a else none) = none := by
  by_cases z : c
  · rw [if_pos z]; exact h
  · rw [if_neg z]
abbrev rdC (w0 : Str) (ws : List Str) : Prop := (roomOk w0 ∧ (evens (ws.drop 1)).length = 1 + (evens (ws.drop 2)).length) ∧ ev2In (evens (ws.drop 2))
theorem rd_no {ws wr : List Str} {w0 : Str} (hws : ws = w0 :: wr) (h0 : ws ≠ [("turn" : Str)]) (ha : w0 ≠ "alternate") (c : ¬ rdC w0 ws) : read ws = none := by
  have h : ∀ {r : Str} {l : List Str}, ws = r :: l → r = w0 := fun e => (List.cons.inj (e.symm.trans hws)).1
  refine read_no h0 (fun r e => ha (h e).symm) (fun r a e hr => c ?_) (fun r a t e hr => c ?_) fun r a t m e hr => c ?_
  · rw [← h e, e]; exact ⟨⟨hr, rfl⟩, .inl rfl⟩
  · rw [← h e, e]; exact ⟨⟨hr, rfl⟩, .inr (.inl rfl)⟩
  · rw [← h e, e]; exact ⟨⟨hr, rfl⟩, .inr (.inr rfl)⟩
theorem rd_sh {ws : List Str} {w0 : Str} (c : rdC w0 ws) (hh : ws.head? = some w0) : (∃ a, ws = [w0, a]) ∨ (∃ a t, ws = [w0, a, ("times" : Str), t]) ∨ ∃ a t m, ws = [w0, a, ("times" : Str), t, ("more" : Str), m] := by
  obtain ⟨⟨hr, hl⟩, he⟩ := c
  match ws, hh, hl, he with
  | [a], _, hl, _ => exact absurd (show (0 : Nat) = 1 + 0 from hl) (by decide)
  | [r, a], hh, _, _ => cases hh; exact .inl ⟨a, rfl⟩
  | [r, a, b], _, hl, _ => exact absurd (show (1 : Nat) = 1 + 1 from hl) (by decide)
  | [r, a, x, t], hh, _, he =>
    cases hh
    replace he : ev2In [x] := he
    rcases he with h | h | h
    · cases h
    · cases h; exact .inr (.inl ⟨a, t, rfl⟩)
    · cases h
  | [r, a, x, t, y], _, hl, _ => exact absurd (show (2 : Nat) = 1 + 2 from hl) (by decide)
  | [r, a, x, t, y, m], hh, _, he =>
    cases hh
    replace he : ev2In [x, y] := he
    rcases he with h | h | h
    · cases h
    · cases h
    · cases h; exact .inr (.inr ⟨a, t, m, rfl⟩)
  | r :: a :: x :: t :: y :: m :: z :: l, _, _, he =>
    have hl : 3 ≤ (evens ((r :: a :: x :: t :: y :: m :: z :: l).drop 2)).length := by
      rw [evens_len, List.length_drop]
      simp only [List.length_cons]
      omega
    rcases he with h | h | h <;> rw [h] at hl <;> exact absurd hl (by decide)
/-- what the numbers of a line give -/
def rdOk (n mn pl : Int) (l : Nat) : Prop := ¬ (l = 3 ∧ pl = 0) ∧ (1 ≤ mn ∧ mn ≤ 60) ∧ ∀ y ∈ serL n pl mn.toNat, needOk y
theorem ser_head {n mn pl : Int} (h : 1 ≤ mn) (hy : ∀ y ∈ serL n pl mn.toNat, needOk y) : needOk n := by
  refine hy n ?_
  unfold serL
  refine List.mem_map.mpr ⟨0, List.mem_range.mpr (by omega), ?_⟩
  rw [show ((0 : Nat) : Int) = 0 from rfl, Int.zero_mul, Int.add_zero]
theorem rd_steps {ws : List Str} {w0 : Str} (hr : roomOk w0) (sh : (∃ a, ws = [w0, a]) ∨ (∃ a t, ws = [w0, a, ("times" : Str), t]) ∨ ∃ a t m, ws = [w0, a, ("times" : Str), t, ("more" : Str), m]) :
    (allN (evens (ws.drop 1)) = none → read ws = none) ∧ ∀ ns, allN (evens (ws.drop 1)) = some ns → ns.length ≤ 3 ∧ ∃ n, ns[0]? = some n ∧
      (¬ rdOk n ((ns[1]?).getD 1) ((ns[2]?).getD 0) ns.length → read ws = none) ∧ (rdOk n ((ns[1]?).getD 1) ((ns[2]?).getD 0) ns.length → ∃ b, read ws = some b ∧ b.steps = (serL n ((ns[2]?).getD 0) ((ns[1]?).getD 1).toNat).map (Stp.mt (decide (w0 = "red")))) := by
  rcases sh with ⟨a, rfl⟩ | ⟨a, t, rfl⟩ | ⟨a, t, m, rfl⟩
  · rw [read2 (ne_alt hr)]
    show (allN [a] = none → _) ∧ ∀ ns, allN [a] = some ns → _
    unfold allN allN
    cases pInt a with
    | none => exact ⟨fun _ => rfl, fun ns h => nomatch h⟩
    | some n =>
      refine ⟨fun h => (nomatch h), fun ns h => ?_⟩
      cases h
      refine ⟨by show 1 ≤ 3; decide, n, rfl, fun h => if_neg fun z => h ⟨fun x => absurd x.1 (by show ¬ 1 = 3; decide), ⟨by show (1 : Int) ≤ 1; decide, by show (1 : Int) ≤ 60; decide⟩, fun y hy => ?_⟩, fun h => ⟨.mt (decide (w0 = "red")) n, if_pos ⟨hr, ser_head h.2.1.1 h.2.2⟩, ?_⟩⟩
      · have : y = n := by
          unfold serL at hy
          obtain ⟨i, hi, rfl⟩ := List.mem_map.mp hy
          have : i = 0 := by have := List.mem_range.mp hi; replace this : i < 1 := this; omega
          subst this
          rw [show ((0 : Nat) : Int) = 0 from rfl, Int.zero_mul, Int.add_zero]
        rw [this]; exact z.2
      · show [Stp.mt _ n] = [Stp.mt _ (n + ((0 : Nat) : Int) * 0)]
        rw [Int.mul_zero, Int.add_zero]
  · rw [read4 (ne_alt hr)]
    show (allN [a, t] = none → _) ∧ ∀ ns, allN [a, t] = some ns → _
    unfold allN allN allN
    cases pInt a with
    | none => exact ⟨fun _ => rfl, fun ns h => nomatch h⟩
    | some n =>
      cases pInt t with
      | none => exact ⟨fun _ => rfl, fun ns h => nomatch h⟩
      | some tt =>
        refine ⟨fun h => (nomatch h), fun ns h => ?_⟩
        cases h
        exact ⟨by show 2 ≤ 3; decide, n, rfl, fun h => if_neg fun z => h ⟨fun x => absurd x.1 (by show ¬ 2 = 3; decide), ⟨z.2.2.1, z.2.2.2.1⟩, z.2.2.2.2⟩, fun h => ⟨.sr (decide (w0 = "red")) n 0 tt.toNat, if_pos ⟨hr, ser_head h.2.1.1 h.2.2, h.2.1.1, h.2.1.2, h.2.2⟩, rfl⟩⟩
  · rw [read6 (ne_alt hr)]
    show (allN [a, t, m] = none → _) ∧ ∀ ns, allN [a, t, m] = some ns → _
    unfold allN allN allN allN
    cases pInt a with
    | none => exact ⟨fun _ => ite_no rfl, fun ns h => nomatch h⟩
    | some n =>
      cases pInt t with
      | none => exact ⟨fun _ => ite_no rfl, fun ns h => nomatch h⟩
      | some tt =>
        cases pInt m with
        | none => exact ⟨fun _ => if_pos fun z => (nomatch z), fun ns h => (nomatch h)⟩
        | some mm =>
          refine ⟨fun h => (nomatch h), fun ns h => ?_⟩
          cases h
          refine ⟨by show 3 ≤ 3; decide, n, rfl, fun h => ?_, fun h => ⟨.sr (decide (w0 = "red")) n mm tt.toNat, (if_pos fun z => h.1 ⟨rfl, Option.some.inj z⟩).trans (if_pos ⟨hr, ser_head h.2.1.1 h.2.2, h.2.1.1, h.2.1.2, h.2.2⟩), rfl⟩⟩
          by_cases h0 : mm = 0
          · exact if_neg fun z => z (by rw [h0])
          · refine (if_pos fun z => h0 (Option.some.inj z)).trans (if_neg fun z => h ⟨fun x => h0 x.2, ⟨z.2.2.1, z.2.2.2.1⟩, z.2.2.2.2⟩)
section
variable {P : Program} {w : World} {K : PySem.W.Frag} {mg : Str → Option Value} {base : Heap}
def spLRd (K : PySem.W.Frag) : Sp := fun vs H Q _ => ∃ (L : Addr) (ws : List Str), vs = [.ref L] ∧ H L = some (.lst (ws.map V.str)) ∧ ws ≠ [] ∧ ws.length ≤ 600 ∧ (∀ a ∈ ws, okW a) ∧
  (∀ b, read ws = some b → ∀ S ps H', H S = none → Same H H' → H' S = some (.lst ps) → StepsAt H' ps b.steps → Q (.ref S) H') ∧ (read ws = none → ∀ H', Same H H' → Q .non H')
theorem ok__law_read (W : Wd K mg) : FnR P w K mg base CX0 2 (ga K "_law_read") (spLRd K) := by
  refine (def_ok W.F__law_read sc__law_read (fun _ _ _ _ _ _ us hl => match us, hl with | [_], _ => rfl) (fun vs H Q E ⟨L, ws, e, _⟩ => by rw [e]; rfl) fun cdv A outer s H vs Q E hr ⟨L, ws, e, hL, hne, hlen, hw, k, kN⟩ => ?_).2
  subst e
  refine ⟨_, PSs.nox (pss_cons (ps_if (pt_cmpR (op_eqK K hr.units) (pv 0) (pe_lst (pa_cons pe_str pa_nil)) (nomark _)) (pss_one (ps_ret (pe_lst (pa_cons (pe_tup (pa_cons pe_str pa_nil)) pa_nil)))) pss_nil) (pss_cons (ps_set (i := 1) sc__law_read.nd rfl (Or.inr rfl) (pe_lc (own := [("_law_word", 8)]) (g := gName 8) (tt := tYes) rfl sc__law_read.nd (pi_listK K (StrX.pe_slice2 K (pv 0) (po_some pe_int) po_none (po_some pe_int))) (blkOk_by (own := [("_law_word", 8)]) (N := N__law_read) (sc := defScope s__law_read) (by decide +kernel)) (fun _ _ _ _ _ => (pg_name (i := 8) sc__law_read.nd rfl (Or.inl rfl))) (fun _ _ _ _ _ => pts_nil) (fun _ _ _ _ _ => (pe_callR (ok__law_number W) (hr.mono (by decide)) W.g__law_number W.k__law_number pass0 rfl (pa_cons (pv 8) pa_nil))))) (pss_cons (ps_if (pt_cmpR (op_eqK K hr.units) (pe_ix (ix_K K) (pv 0) pe_int (fun _ _ => rfl)) pe_str (nomark _)) (pss_cons (ps_set (i := 1) sc__law_read.nd rfl (Or.inr rfl) (pe_lc (own := [("_law_word", 8)]) (g := gName 8) (tt := tYes) rfl sc__law_read.nd (pi_listK K (pe_slice (sl_listK K) (pv 0) (po_some pe_int) po_none)) (blkOk_by (own := [("_law_word", 8)]) (N := N__law_read) (sc := defScope s__law_read) (by decide +kernel)) (fun _ _ _ _ _ => (pg_name (i := 8) sc__law_read.nd rfl (Or.inl rfl))) (fun _ _ _ _ _ => pts_nil) (fun _ _ _ _ _ => (pe_callR (ok__law_number W) (hr.mono (by decide)) W.g__law_number W.k__law_number pass0 rfl (pa_cons (pv 8) pa_nil))))) (pss_cons (ps_set (i := 2) sc__law_read.nd rfl (Or.inr rfl) (pe_lc (own := [("_law_one", 10)]) (g := gName 10) rfl sc__law_read.nd (pi_listK K (pv 1)) (blkOk_by (own := [("_law_one", 10)]) (N := N__law_read) (sc := defScope s__law_read) (by decide +kernel)) (fun _ _ _ _ _ => (pg_name (i := 10) sc__law_read.nd rfl (Or.inl rfl))) (fun _ _ _ _ _ => (pts_one (PW.pt (pw_and (pt_cmp (pc_notN (pv 10))) (pw_and1 (pt_chain op_leI op_leI pe_int (pv 10) (pe_op op_powP pe_int pe_int))))))) (fun _ _ _ _ _ => (pv 10)))) (pss_cons (ps_if (PW.pt (pw_or (pt_cmpR op_ltI (pe_callB (c_lenK K) (by rfl) W.f_len (by decide +kernel) (pa_cons (pv 2) pa_nil)) (pe_callB (c_lenK K) (by rfl) W.f_len (by decide +kernel) (pa_cons (pv 1) pa_nil)) (nomark _)) (pw_or1 (pt_not (pt_chain op_leI op_leI pe_int (pe_callB (c_lenK K) (by rfl) W.f_len (by decide +kernel) (pa_cons (pv 2) pa_nil)) pe_int))))) (pss_one (ps_ret pe_non)) pss_nil) (pss_one (ps_ret (pe_lc (own := [("_law_k", 11)]) (g := gName 11) (tt := tYes) rfl sc__law_read.nd (pi_range1 (by rfl) W.f_range (pa_cons (pe_callB (c_lenK K) (by rfl) W.f_len (by decide +kernel) (pa_cons (pv 2) pa_nil)) pa_nil)) (blkOk_by (own := [("_law_k", 11)]) (N := N__law_read) (sc := defScope s__law_read) (by decide +kernel)) (fun _ _ _ _ _ => (pg_name (i := 11) sc__law_read.nd rfl (Or.inl rfl))) (fun _ _ _ _ _ => pts_nil) (fun _ _ _ _ _ => (pe_tup (pa_cons (pe_ix (ix_K K) (pe_lst (pa_cons pe_str (pa_cons pe_str pa_nil))) (pe_op op_modP (pv 11) pe_int) (fun _ _ => rfl)) (pa_cons (pe_ix (ix_K K) (pv 2) (pv 11) (fun _ _ => rfl)) pa_nil)))))))))) pss_nil) (pss_cons (ps_set (i := 3) sc__law_read.nd rfl (Or.inl rfl) (pe_op op_plus (pe_lst (pa_cons (pe_ix (ix_K K) (pv 0) pe_int (fun _ _ => rfl)) pa_nil)) (StrX.pe_slice2 K (pv 0) (po_some pe_int) po_none (po_some pe_int)))) (pss_cons (ps_if (PW.pt (pw_or (pt_cmpR (op_notInK K) (pe_ix (ix_K K) (pv 0) pe_int (fun _ _ => rfl)) (pe_tup (pa_cons pe_str (pa_cons pe_str pa_nil))) rfl) (pw_or1 (pt_cmpR (op_neK K hr.units) (pe_callB (c_lenK K) (by rfl) W.f_len (by decide +kernel) (pa_cons (pv 1) pa_nil)) (pe_callB (c_lenK K) (by rfl) W.f_len (by decide +kernel) (pa_cons (pv 3) pa_nil)) (nomark _))))) (pss_one (ps_ret pe_non)) pss_nil) (pss_cons (ps_if (pt_cmpR (DpX.op_notInDTK K (DpX.units65 hr)) (pe_slice (sl_listK K) (pv 3) (po_some pe_int) po_none) (pe_tup (pa_cons (pe_lst pa_nil) (pa_cons (pe_lst (pa_cons pe_str pa_nil)) (pa_cons (pe_lst (pa_cons pe_str (pa_cons pe_str pa_nil))) pa_nil)))) rfl) (pss_one (ps_ret pe_non)) pss_nil) (pss_cons (ps_if (pt_cmpR (op_inK K) pe_non (pv 1) rfl) (pss_one (ps_ret pe_non)) pss_nil) (pss_cons (ps_set (i := 4) sc__law_read.nd rfl (Or.inl rfl) (pe_ifExp (pt_cmpR op_gtI (pe_callB (c_lenK K) (by rfl) W.f_len (by decide +kernel) (pa_cons (pv 1) pa_nil)) pe_int (nomark _)) (pe_ix (ix_K K) (pv 1) pe_int (fun _ _ => rfl)) pe_int)) (pss_cons (ps_set (i := 5) sc__law_read.nd rfl (Or.inr rfl) (pe_ifExp (pt_cmpR op_gtI (pe_callB (c_lenK K) (by rfl) W.f_len (by decide +kernel) (pa_cons (pv 1) pa_nil)) pe_int (nomark _)) (pe_ix (ix_K K) (pv 1) pe_int (fun _ _ => rfl)) pe_int)) (pss_cons (ps_if (PW.pt (pw_or (PW.pt (pw_and (pt_cmpR op_gtI (pe_callB (c_lenK K) (by rfl) W.f_len (by decide +kernel) (pa_cons (pv 1) pa_nil)) pe_int (nomark _)) (pw_and1 (pt_cmpR (op_eqK K hr.units) (pv 5) pe_int (nomark _))))) (pw_or1 (pt_not (pt_chain op_leI op_leI pe_int (pv 4) pe_int))))) (pss_one (ps_ret pe_non)) pss_nil) (pss_cons (ps_setLc (i := 6) (own := [("_law_turn", 9)]) (g := gName 9) (tt := tYes) rfl sc__law_read.nd rfl rfl (sw_true rfl rfl rfl (by decide +kernel)) (pi_range1 (by rfl) W.f_range (pa_cons (pv 4) pa_nil)) (blkOk_by (own := [("_law_turn", 9)]) (N := N__law_read) (sc := defScope s__law_read) (by decide +kernel)) (fun _ _ _ _ _ => (pg_name (i := 9) sc__law_read.nd rfl (Or.inl rfl))) (fun _ _ _ _ _ => pts_nil) (fun _ _ _ _ _ => (pe_tup (pa_cons (pe_ix (ix_K K) (pv 0) pe_int (fun _ _ => rfl)) (pa_cons (pe_op op_plus (pe_ix (ix_K K) (pv 1) pe_int (fun _ _ => rfl)) (pe_op op_times (pv 9) (pv 5))) pa_nil))))) (pss_cons (ps_setLc (i := 7) (own := [("_law_one", 10)]) (g := gName 10) (tt := tYes) rfl sc__law_read.nd rfl rfl (sw_true rfl rfl rfl (by decide +kernel)) (pi_listK K (pv 6)) (blkOk_by (own := [("_law_one", 10)]) (N := N__law_read) (sc := defScope s__law_read) (by decide +kernel)) (fun _ _ _ _ _ => (pg_name (i := 10) sc__law_read.nd rfl (Or.inl rfl))) (fun _ _ _ _ _ => pts_nil) (fun _ _ _ _ _ => (pe_ix (ix_K K) (pv 10) pe_int (fun _ _ => rfl)))) (pss_one (ps_ret (pe_ifExp (PW.pt (pw_and (pt_cmpR op_geI (pe_callB (c_minLK K rfl) (by rfl) W.f_min (by decide +kernel) (pa_cons (pv 7) pa_nil)) pe_int (nomark _)) (pw_and1 (pt_cmpR op_leI (pe_callB (c_maxLK K rfl) (by rfl) W.f_max (by decide +kernel) (pa_cons (pv 7) pa_nil)) (pe_op op_powP pe_int pe_int) (nomark _))))) (pv 6) pe_non))))))))))))))), ?_⟩
  have e18 : (10 : Int) ^ ((18 : Int).toNat) = 1000000000000000000 := by decide
  have hok : ∀ a ∈ ws, PyData.strOk a = true := fun a ha => (hw a ha).2
  -- a list of numbers, read out of a list of words
  walk_at "q"
  refine ⟨sz rfl, fun u1 hu1 => ?_⟩; generalize hN1 : upd _ u1 _ = H1; obtain ⟨s1, e1⟩ := nws hN1 hu1
  refine x_eqStrs (bs := [("turn" : Str)]) (SqL.of (s1 _ _ hL)) (SqL.of e1) hok (fun a ha => by rw [List.mem_singleton.mp ha]; decide +kernel) ?_
  walk_at "q"
  refine x_ifd (fun h0 => ?_) fun h0 => ?_
  · walk_at "q"
    refine ⟨sz rfl, fun t1 ht1 => ?_⟩; generalize hN2 : upd _ t1 _ = H2; obtain ⟨s2, e2⟩ := nws hN2 ht1
    walk_at "q"
    refine ⟨sz rfl, fun l1 hl1 => ?_⟩; generalize hN3 : upd _ l1 _ = H3; obtain ⟨s3, e3⟩ := nws hN3 hl1
    have s13 := s1.trans (s2.trans s3)
    exact k .tn (by rw [h0]; exact read_turn) l1 _ H3 ((s1.trans s2).free hl1) s13 e3 (.cons ⟨t1, rfl, s3 _ _ e2⟩ .nil)
  walk_at "q"
  refine x_evens 1 (SqL.of (s1 _ _ hL)) fun q2 H2 hq2 s2 e2 => ?_
  rw [← List.map_drop, evens_map] at e2
  refine x_iLAt (SqL.of e2) ?_
  refine x_lcA walk_list (fun i acc _ => acc = ((evens (ws.drop 1)).take i).map fun a => optV (pInt a)) (fun _ _ _ _ _ _ _ h => h) (fun _ _ => rfl) (by rw [List.length_map, evens_len, List.length_drop]; omega) (fun H' s' => SqL.of (s' _ _ e2)) ?_ ?_
  · rintro i y acc H3 H4 NT NF hT hF hi s3 rfl ⟨rfl, ey⟩
    rw [List.getElem?_map] at ey
    obtain ⟨a, ea, rfl⟩ := Option.map_eq_some_iff.mp ey
    have ha := hw a (List.mem_of_mem_drop (evens_mem (List.mem_of_getElem? ea)))
    walk_at "q"
    refine ⟨rfl, ?_⟩
    walk_at "q"
    refine ⟨a, rfl, ha.1, ha.2, fun H5 s5 => ?_⟩
    refine hT _ _ s5 ?_
    rw [List.take_add_one, ea, List.map_append]
    rfl
  rintro N acc H6 hN s6 hN2 rfl hdl
  rw [List.length_map, List.take_length] at hN2
  have s26 := s1.trans (s2.trans s6)
  have hL6 := s26 _ _ hL
  obtain ⟨w0, wr, hws⟩ : ∃ a r, ws = a :: r := by
    cases ws with
    | nil => exact absurd rfl hne
    | cons a r => exact ⟨a, r, rfl⟩
  have h00 : (ws.map V.str)[0]? = some (.str w0) := by rw [hws]; rfl
  walk_at "q"
  refine x_ixL (SqL.of hL6) (i := ((0 : Nat) : Int)) (v := .str w0) (atI_nat h00) ?_
  walk_at "q"
  refine x_ifd (fun ha => ?_) fun ha => ?_
  · walk_at "q"
    have hws' : ws = ("alternate" : Str) :: wr := by rw [hws, ha]
    have hlr : wr.length ≤ 600 := by rw [hws, List.length_cons] at hlen; omega
    refine n_slL (SqL.of hL6) fun q7 H7 hq7 s7 e7 => ?_
    have ec : cutV (ws.map V.str) (some 1) none = wr.map V.str := (cut_fr _ 1 (by rw [List.length_map, hws, List.length_cons]; omega)).trans (by rw [hws]; rfl)
    rw [ec] at e7
    refine x_iLAt (SqL.of e7) ?_
    refine x_lcA walk_list (fun i acc _ => acc = (wr.take i).map fun a => optV (pInt a)) (fun _ _ _ _ _ _ _ h => h) (fun _ _ => rfl) (by rw [List.length_map]; omega) (fun H' s' => SqL.of (s' _ _ e7)) ?_ ?_
    · rintro i y acc H3 H4 NT NF hT hF hi s3 rfl ⟨rfl, ey⟩
      rw [List.getElem?_map] at ey
      obtain ⟨a, ea, rfl⟩ := Option.map_eq_some_iff.mp ey
      have ha := hw a (by rw [hws]; exact List.mem_cons_of_mem _ (List.mem_of_getElem? ea))
      walk_at "q"
      refine ⟨rfl, ?_⟩
      walk_at "q"
      refine ⟨a, rfl, ha.1, ha.2, fun H5 s5 => ?_⟩
      refine hT _ _ s5 ?_
      rw [List.take_add_one, ea, List.map_append]
      rfl
    rintro N2 acc H8 hN8 s8 hN82 rfl hdl2
    rw [List.length_map, List.take_length] at hN82
    walk_at "q"
    refine x_iLAt (SqL.of hN82) ?_
    refine x_lcA walk_list (fun i acc _ => acc = (goods (wr.take i)).map V.int) (fun _ _ _ _ _ _ _ h => h) (fun _ _ => rfl) (by rw [List.length_map]; omega) (fun H' s' => SqL.of (s' _ _ hN82)) ?_ ?_
    · rintro i y acc H3 H4 NT NF hT hF hi s3 rfl ⟨rfl, ey⟩
      rw [List.getElem?_map] at ey
      obtain ⟨a, ea, rfl⟩ := Option.map_eq_some_iff.mp ey
      have hgs : goods (wr.take (i + 1)) = goods (wr.take i) ++ (goodN a).toList := by rw [List.take_add_one, ea]; exact goods_snoc _ _
      have no : goodN a = none → (goods (wr.take i)).map V.int = (goods (wr.take (i + 1))).map V.int := fun h => by
        rw [hgs, h]
        exact congrArg _ (List.append_nil _).symm
      walk_at "q"
      refine ⟨rfl, ?_⟩
      walk_at "q"
      cases hp : pInt a with
      | none =>
        refine x_nT ?_
        exact hF _ (Same.refl _) (no (by unfold goodN; rw [hp]))
      | some n =>
        refine x_nF ?_
        dsimp only [optV]
        walk_at "q"
        refine x_ifd (fun c0 => ?_) fun c0 => ?_
        · walk_at "q"
          refine x_pow ⟨by decide, by decide, by decide⟩ ?_
          rw [e18]
          walk_at "q"
          refine x_ifd (fun c1 => ?_) fun c1 => ?_
          · walk_at "q"
            refine hT _ _ (Same.refl _) ?_
            rw [hgs, show goodN a = some n from by unfold goodN; rw [hp]; exact if_pos ⟨c0, c1⟩, List.map_append]
            rfl
          · exact hF _ (Same.refl _) (no (by unfold goodN; rw [hp]; exact if_neg fun z => c1 z.2))
        · walk_at "q"
          exact hF _ (Same.refl _) (no (by unfold goodN; rw [hp]; exact if_neg fun z => c0 z.1))
    rintro G acc H9 hG s9 hG2 rfl hdl3
    rw [List.length_map, List.take_length] at hG2
    have s69 := s26.trans (s7.trans (s8.trans s9))
    have hra := read_alt wr
    rw [← hws'] at hra
    have hgl := goods_len wr
    walk_at "q"
    refine x_lenL (SqL.of hG2) ?_
    walk_at "q"
    refine x_lenL (SqL.of (s9 _ _ hN82)) ?_
    walk_at "q"
    rw [List.length_map, List.length_map]
    refine x_ifd (fun c1 => ?_) fun c1 => ?_
    · walk_at "q"
      refine kN (hra.trans ?_) _ s69
      cases hall : allN wr with
      | none => rfl
      | some ns =>
        refine if_neg fun z => ?_
        rw [goods_of hall z.2.1, allN_len hall] at c1
        omega
    obtain ⟨hall, hgn⟩ := goods_full (l := wr) (by omega)
    rw [hall] at hra
    walk_at "q"
    refine x_lenL (SqL.of hG2) ?_
    rw [List.length_map]
    walk_at "q"
    refine x_ifd (fun c2 => ?_) fun c2 => ?_
    · walk_at "q"
      refine x_ifnd (fun c3 => ?_) fun c3 => ?_
      · walk_at "q"
        exact kN (hra.trans (if_neg fun z => c3 (by have := z.2.2; omega))) _ s69
      have hbok : goods wr ≠ [] ∧ nsOk (goods wr) := ⟨fun z => by rw [z] at c2; exact absurd c2 (by decide), hgn, by omega⟩
      walk_at "q"
      refine x_lenL (SqL.of hG2) ?_
      rw [List.length_map]
      walk_at "q"
      refine x_iR1At (by omega) (by omega) ?_
      refine x_lcG walk_range (fun S j Hj => Same H9 Hj ∧ ∃ ps, Hj S = some (.lst ps) ∧ ps.length = j ∧ StepsAt Hj ps (altS true ((goods wr).take j))) (fun S hS => ⟨Same.new hS, [], upd_same, rfl, .nil⟩) (fun _ _ _ _ _ => trivial) ?_ ?_
      · rintro S j y Hb' Hb hS hj ⟨sb, ps, hb, hpl, hps⟩ ⟨rfl, rfl⟩
        have hj : j < (goods wr).length := by omega
        obtain ⟨n, hn⟩ : ∃ n, (goods wr)[j]? = some n := ⟨_, List.getElem?_eq_getElem hj⟩
        walk_at "q"
        refine ⟨rfl, ?_⟩
        walk_at "q"
        refine ⟨sz rfl, fun u9 hu9 => ?_⟩; generalize hN9 : upd _ u9 _ = Hc; obtain ⟨sc, ec⟩ := nws hN9 hu9
        walk_at "q"
        refine x_mod (show (0 : Int) < 2 by decide) ?_
        have hpick : atI [V.str "red", V.str "blue"] ((0 + (j : Int)) % 2) = some (.str (roomS (if j % 2 = 0 then true else !true))) := by
          by_cases h : j % 2 = 0
          · rw [if_pos h, show (0 + (j : Int)) % 2 = ((0 : Nat) : Int) by omega]
            rfl
          · rw [if_neg h, show (0 + (j : Int)) % 2 = ((1 : Nat) : Int) by omega]
            rfl
        refine x_ixL (SqL.of ec) hpick ?_
        walk_at "q"
        refine x_ixL (SqL.of (sc _ _ (sb _ _ hG2))) (v := .int n) (by rw [Int.zero_add]; exact atI_nat (by rw [List.getElem?_map, hn]; rfl)) ?_
        walk_at "q"
        refine ⟨sz rfl, fun t1 ht1 => ?_⟩; generalize hNt : upd _ t1 _ = Ht; obtain ⟨st, et⟩ := nws hNt ht1
        have sbt := sc.trans st
        have hbS := sbt _ _ hb
        have kp : ∀ p ys, Ht p = some (.tup ys) → (upd Ht S (.lst (ps ++ [.ref t1]))) p = some (.tup ys) := fun p ys e => by
          rw [upd_ne (fun z => by rw [z, hbS] at e; cases e)]
          exact e
        refine ⟨ps, hbS, sz5' (by omega), Same.mut (sb.trans sbt) hS, ps ++ [.ref t1], upd_same, by rw [List.length_append, hpl]; rfl, ?_⟩
        rw [List.take_add_one, hn]
        show StepsAt _ _ (altS true ((goods wr).take j ++ [n]))
        rw [altS_snoc, List.length_take, Nat.min_eq_left (by omega)]
        exact pr_snoc (pr_im (fun _ _ ⟨p, q1, q2⟩ => ⟨p, q1, kp _ _ (sbt _ _ q2)⟩) hps) ⟨t1, rfl, kp _ _ et⟩
      rintro S Hb hS ⟨sb, ps, hb, hpl, hps⟩
      refine k (.al (goods wr)) (hra.trans (if_pos hbok)) S ps Hb (s69.free hS) (s69.trans sb) hb ?_
      have : ((goods wr).take ((goods wr).length : Int).toNat) = goods wr := by rw [Int.toNat_natCast, List.take_length]
      rw [this] at hps
      exact hps
    · walk_at "q"
      exact kN (hra.trans (if_neg fun z => c2 (by have := List.length_pos_iff.mpr z.1; omega))) _ s69
  walk_at "q"
  refine x_ixL (SqL.of hL6) (i := ((0 : Nat) : Int)) (v := .str w0) (atI_nat h00) ?_
  walk_at "q"
  refine ⟨sz rfl, fun u7 hu7 => ?_⟩; generalize hN7 : upd _ u7 _ = H7; obtain ⟨s7, e7⟩ := nws hN7 hu7
  walk_at "q"
  refine x_evens 2 (SqL.of (s7 _ _ hL6)) fun q8 H8 hq8 s8 e8 => ?_
  rw [← List.map_drop, evens_map] at e8
  refine n_plusL (s8 _ _ e7) e8 (sz5 (by rw [List.length_map, evens_len, List.length_drop]; show 1 + _ ≤ _; omega)) fun F H9 hF s9 e9 => ?_
  have s69 : Same H6 H9 := s7.trans (s8.trans s9)
  have s09 := s26.trans s69
  have hL9 := s69 _ _ hL6
  have hN9' := s69 _ _ hN2
  with_reducible refine x_gname ?_
  with_reducible refine x_seq ?_
  refine x_ifBS (!decide (roomOk w0 ∧ (evens (ws.drop 1)).length = 1 + (evens (ws.drop 2)).length)) (fun QT hq => ?_) fun Ha sa => ?_
  · walk_at "q"
    refine x_ixL (SqL.of hL9) (i := ((0 : Nat) : Int)) (v := .str w0) (atI_nat h00) ?_
    walk_at "q"
    refine ⟨sz rfl, fun u1 hu1 => ?_⟩; generalize hM1 : upd _ u1 _ = Hb; obtain ⟨sb, eb⟩ := nws hM1 hu1
    refine x_notinT (SqT.of eb) rfl rfl ?_
    rw [room_in]
    walk_at "q"
    refine x_ifnd (fun hn => ?_) fun hy => ?_
    · rw [decide_eq_false fun z => hn z.1] at hq
      exact hq _ sb
    · walk_at "q"
      refine x_lenL (SqL.of (sb _ _ hN9')) ?_
      walk_at "q"
      refine x_lenL (SqL.of (sb _ _ e9)) ?_
      walk_at "q"
      have := hq _ sb
      rw [show decide (roomOk w0 ∧ (evens (ws.drop 1)).length = 1 + (evens (ws.drop 2)).length) = decide ((((evens (ws.drop 1)).map fun a => optV (pInt a)).length : Int) = (([V.str w0] ++ (evens (ws.drop 2)).map V.str).length : Nat)) from decide_eq_decide.mpr (by
        rw [List.length_map, List.length_append, List.length_map]
        exact ⟨fun z => by have := z.2; simp only [List.length_cons, List.length_nil]; omega, fun z => ⟨hy, by simp only [List.length_cons, List.length_nil] at z; omega⟩⟩)] at this
      exact this
  refine x_ifnd (fun c1 => ?_) fun c1 => ?_
  · walk_at "q"
    exact kN (rd_no hws h0 ha fun z => c1 z.1) _ (s09.trans sa)
  walk_at "q"
  refine n_slL (SqL.of (sa _ _ e9)) fun q2 Hb hq2 sb eb => ?_
  rw [show cutV ([V.str w0] ++ (evens (ws.drop 2)).map V.str) (some 1) none = (evens (ws.drop 2)).map V.str from cut_fr _ 1 (by rw [List.length_append]; exact Nat.le_add_right _ _)] at eb
  walk_at "q"
  refine ⟨sz rfl, fun v1 hv1 => ?_⟩; generalize hM1 : upd _ v1 _ = Hc; obtain ⟨sc, ec1⟩ := nws hM1 hv1
  walk_at "q"
  refine ⟨sz rfl, fun v2 hv2 => ?_⟩; generalize hM2 : upd _ v2 _ = Hd; obtain ⟨sd, ed⟩ := nws hM2 hv2
  walk_at "q"
  refine ⟨sz rfl, fun v3 hv3 => ?_⟩; generalize hM3 : upd _ v3 _ = He; obtain ⟨se, ee⟩ := nws hM3 hv3
  walk_at "q"
  refine ⟨sz rfl, fun v4 hv4 => ?_⟩; generalize hM4 : upd _ v4 _ = Hf; obtain ⟨sf, ef⟩ := nws hM4 hv4
  have hko : ∀ a ∈ evens (ws.drop 2), PyData.strOk a = true := fun a ha => hok a (List.mem_of_mem_drop (evens_mem ha))
  have lt : Lay 2 (.tuple [strsD [], strsD [("times" : Str)], strsD [("times" : Str), ("more" : Str)]]) := lay_tup fun d hd => by
    rcases List.mem_cons.mp hd with e | hd
    · rw [e]; exact lay_strs fun a ha => nomatch ha
    rcases List.mem_cons.mp hd with e | hd
    · rw [e]; exact lay_strs fun a ha => by rw [List.mem_singleton.mp ha]; decide +kernel
    · rw [List.mem_singleton.mp hd]
      refine lay_strs fun a ha => ?_
      rcases List.mem_cons.mp ha with e | ha
      · rw [e]; decide +kernel
      · rw [List.mem_singleton.mp ha]; decide +kernel
  refine ⟨strsD (evens (ws.drop 2)), _, dp_strs (SqL.of ((sc.trans (sd.trans (se.trans sf))) _ _ eb)), .tup (SqT.of ef) (.cons (dp_strs (ws := []) (SqL.of ((sd.trans (se.trans sf)) _ _ ec1))) (.cons (dp_strs (ws := [("times" : Str)]) (SqL.of ((se.trans sf) _ _ ed))) (.cons (dp_strs (ws := [("times" : Str), ("more" : Str)]) (SqL.of (sf _ _ ee))) .nil))), (lay_strs hko).shaped, lt.shaped, ?_⟩
  rw [ev2_any]
  have saf := sa.trans (sb.trans (sc.trans (sd.trans (se.trans sf))))
  have s0f := s09.trans saf
  walk_at "q"
  refine x_ifnd (fun c2 => ?_) fun c2 => ?_
  · walk_at "q"
    exact kN (rd_no hws h0 ha fun z => c2 z.2) _ s0f
  have hroom := c1.1
  obtain ⟨r1, r2⟩ := rd_steps hroom (rd_sh ⟨c1, c2⟩ (by rw [hws]; rfl))
  have hNf := saf _ _ hN9'
  have hLf := saf _ _ hL9
  walk_at "q"
  refine x_inL (SqL.of hNf) rfl (optV_flat _) ?_
  rw [allN_in]
  walk_at "q"
  cases hall : allN (evens (ws.drop 1)) with
  | none =>
    refine x_T ?_
    walk_at "q"
    exact kN (r1 hall) _ s0f
  | some ns =>
  obtain ⟨hn3, n, hn0, rN, rY⟩ := r2 ns hall
  rw [allN_map hall] at hNf
  refine x_F ?_
  walk_at "q"
  refine x_lenL (SqL.of hNf) ?_
  rw [List.length_map]
  walk_at "q"
  refine x_iteV (.int ((ns[1]?).getD 1)) (fun h Q' k' => ?_) (fun h Q' k' => ?_) ?_
  · obtain ⟨y, hy⟩ : ∃ y, ns[1]? = some y := ⟨_, List.getElem?_eq_getElem (by omega)⟩
    rw [hy] at k'
    walk_at "q"
    refine x_ixL (SqL.of hNf) (i := ((1 : Nat) : Int)) (v := .int y) (atI_nat (by rw [List.getElem?_map, hy]; rfl)) ?_
    exact k'
  · rw [List.getElem?_eq_none (by omega)] at k'
    walk_at "q"
    exact k'
  generalize hmn : (ns[1]?).getD 1 = mn at rN rY ⊢
  walk_at "q"
  refine x_lenL (SqL.of hNf) ?_
  rw [List.length_map]
  walk_at "q"
  refine x_iteV (.int ((ns[2]?).getD 0)) (fun h Q' k' => ?_) (fun h Q' k' => ?_) ?_
  · obtain ⟨y, hy⟩ : ∃ y, ns[2]? = some y := ⟨_, List.getElem?_eq_getElem (by omega)⟩
    rw [hy] at k'
    walk_at "q"
    refine x_ixL (SqL.of hNf) (i := ((2 : Nat) : Int)) (v := .int y) (atI_nat (by rw [List.getElem?_map, hy]; rfl)) ?_
    exact k'
  · rw [List.getElem?_eq_none (by omega)] at k'
    walk_at "q"
    exact k'
  generalize hpl : (ns[2]?).getD 0 = pl at rN rY ⊢
  with_reducible refine x_gname ?_
  with_reducible refine x_seq ?_
  refine x_ifBS (decide ((ns.length = 3 ∧ pl = 0) ∨ ¬ (1 ≤ mn ∧ mn ≤ 60))) (fun QT hq => ?_) fun Hg sg => ?_
  · walk_at "q"
    refine x_lenL (SqL.of hNf) ?_
    rw [List.length_map]
    walk_at "q"
    have fin : ¬ (ns.length = 3 ∧ pl = 0) → QT (!decide (1 ≤ mn ∧ mn ≤ 60)) Hf := fun hn => by
      have := hq _ (Same.refl _)
      rw [show decide ((ns.length = 3 ∧ pl = 0) ∨ ¬ (1 ≤ mn ∧ mn ≤ 60)) = !decide (1 ≤ mn ∧ mn ≤ 60) from by
        by_cases z : 1 ≤ mn ∧ mn ≤ 60
        · rw [decide_eq_true z, decide_eq_false fun y => y.elim hn fun y => y z]; rfl
        · rw [decide_eq_false z, decide_eq_true (Or.inr z)]; rfl] at this
      exact this
    refine x_ifd (fun h2 => ?_) fun h2 => ?_
    · walk_at "q"
      refine x_ifd (fun h3 => ?_) fun h3 => ?_
      · rw [decide_eq_true (Or.inl ⟨by omega, h3⟩)] at hq
        exact hq _ (Same.refl _)
      · have fin := fin fun z => h3 z.2
        walk_at "q"
        refine x_ifd (fun h4 => ?_) fun h4 => ?_
        · walk_at "q"
          rw [show decide (1 ≤ mn ∧ mn ≤ 60) = decide (mn ≤ 60) from decide_eq_decide.mpr ⟨fun z => z.2, fun z => ⟨h4, z⟩⟩] at fin
          exact fin
        · rw [decide_eq_false fun z => h4 z.1] at fin
          exact ⟨_, rfl, fin⟩
    · have fin := fin fun z => h2 (by omega)
      walk_at "q"
      refine x_ifd (fun h4 => ?_) fun h4 => ?_
      · walk_at "q"
        rw [show decide (1 ≤ mn ∧ mn ≤ 60) = decide (mn ≤ 60) from decide_eq_decide.mpr ⟨fun z => z.2, fun z => ⟨h4, z⟩⟩] at fin
        exact fin
      · rw [decide_eq_false fun z => h4 z.1] at fin
        exact ⟨_, rfl, fin⟩
  have s0g := s0f.trans sg
  refine x_ifd (fun c3 => ?_) fun c3 => ?_
  · walk_at "q"
    exact kN (rN fun z => c3.elim (fun y => z.1 y) fun y => y z.2.1) _ s0g
  have hmn1 : 1 ≤ mn ∧ mn ≤ 60 := by
    by_cases z : 1 ≤ mn ∧ mn ≤ 60
    · exact z
    · exact absurd (.inr z) c3
  walk_at "q"
  refine x_iR1At (by omega) (by omega) ?_
  refine x_lcG walk_range (fun S j Hj => Same Hg Hj ∧ ∃ ps, Hj S = some (.lst ps) ∧ ps.length = j ∧ StepsAt Hj ps ((serL n pl j).map (Stp.mt (decide (w0 = "red"))))) (fun S hS => ⟨Same.new hS, [], upd_same, rfl, .nil⟩) (fun _ _ _ _ _ => trivial) ?_ ?_
  · rintro S j y Hd' Hd2 hS hj ⟨sd2, ps, hd2, hpl2, hps⟩ ⟨rfl, rfl⟩
    walk_at "q"
    refine ⟨rfl, ?_⟩
    walk_at "q"
    refine x_ixL (SqL.of (sd2 _ _ (sg _ _ hLf))) (i := ((0 : Nat) : Int)) (v := .str w0) (atI_nat h00) ?_
    walk_at "q"
    refine x_ixL (SqL.of (sd2 _ _ (sg _ _ hNf))) (i := ((0 : Nat) : Int)) (v := .int n) (atI_nat (by rw [List.getElem?_map, hn0]; rfl)) ?_
    walk_at "q"
    refine x_timesI (.inl ⟨by omega, by omega⟩) ?_
    walk_at "q"
    refine ⟨sz rfl, fun t1 ht1 => ?_⟩; generalize hNt : upd _ t1 _ = Ht; obtain ⟨st, et⟩ := nws hNt ht1
    have hbS := st _ _ hd2
    have kp : ∀ p ys, Ht p = some (.tup ys) → (upd Ht S (.lst (ps ++ [.ref t1]))) p = some (.tup ys) := fun p ys e => by
      rw [upd_ne (fun z => by rw [z, hbS] at e; cases e)]
      exact e
    refine ⟨ps, hbS, sz5' (by omega), Same.mut (sd2.trans st) hS, ps ++ [.ref t1], upd_same, by rw [List.length_append, hpl2]; rfl, ?_⟩
    rw [serL_succ, List.map_append]
    refine pr_snoc (pr_im (fun _ _ ⟨p, q1, q2⟩ => ⟨p, q1, kp _ _ (st _ _ q2)⟩) hps) ⟨t1, rfl, kp _ _ ?_⟩
    rw [et, Int.zero_add]
    show _ = some (HO.tup [.str (roomS (decide (w0 = "red"))), .int (n + (j : Int) * pl)])
    rw [room_of hroom]
  rintro S Hi hS ⟨si, ps, hi, hpl2, hps⟩
  walk_at "q"
  refine x_iLAt (SqL.of hi) ?_
  refine x_lcA walk_list (fun i acc _ => acc = (serL n pl i).map V.int) (fun _ _ _ _ _ _ _ h => h) (fun _ _ => by unfold serL; rfl) (by omega) (fun H' s' => SqL.of (s' _ _ hi)) ?_ ?_
  · rintro i y acc H3 H4 NT NF hT hF hi3 s3 rfl ⟨rfl, ey⟩
    obtain ⟨st, hst, p, rfl, hp⟩ := pr_at (R := fun (v : V) (s : Stp) => ∃ p, v = V.ref p ∧ Hi p = some (.tup (stepV s))) hps ey
    have hst2 : st = Stp.mt (decide (w0 = "red")) (n + (i : Int) * pl) := by
      unfold serL at hst
      rw [List.map_map, List.getElem?_map, List.getElem?_range (by omega)] at hst
      cases hst
      rfl
    subst hst2
    walk_at "q"
    refine ⟨rfl, ?_⟩
    walk_at "q"
    refine x_ixT (SqT.of (s3 _ _ hp)) (i := ((1 : Nat) : Int)) (v := .int (n + (i : Int) * pl)) (atI_nat rfl) ?_
    refine hT _ _ (Same.refl _) ?_
    rw [serL_succ, List.map_append]
    rfl
  rintro D acc Hk hD sk hD2 rfl hdl5
  rw [hpl2] at hD2
  have s0k := s0g.trans (si.trans sk)
  have hlen5 : 0 < (serL n pl mn.toNat).length := by rw [serL_len]; omega
  walk_at "q"
  refine x_minL (SqL.of hD2) hlen5 fun mi hmi hmin => ?_
  walk_at "q"
  refine x_ifd (fun c4 => ?_) fun c4 => ?_
  · walk_at "q"
    refine x_maxL (SqL.of hD2) hlen5 fun mx hmx hmax => ?_
    walk_at "q"
    refine x_pow ⟨by decide, by decide, by decide⟩ ?_
    rw [e18]
    walk_at "q"
    refine x_ifd (fun c5 => ?_) fun c5 => ?_
    · walk_at "q"
      obtain ⟨b, hb1, hb2⟩ := rY ⟨fun z => c3 (.inl z), hmn1, fun y hy => ⟨by have := hmin y hy; omega, by have := hmax y hy; omega⟩⟩
      refine k b hb1 S ps Hk ((s0g).free hS) s0k (sk _ _ hi) ?_
      rw [hb2]
      exact hps.mono sk
    · walk_at "q"
      exact kN (rN fun z => c5 (z.2.2 mx hmx).2) _ s0k
  · walk_at "q"
    exact kN (rN fun z => c4 (z.2.2 mi hmi).1) _ s0k
end
end K42

set_option Elab.async false
set_option linter.all false
set_option autoImplicit false
set_option maxRecDepth 100000
set_option maxHeartbeats 4000000
/-! raise C(f = e) from None, while an exception is handled -/
namespace Ch
open PySem PySem.Spec PyProof.Rows L2
section
variable {X : Cx}
theorem mk_end5 {pins : List (Addr × Obj)} {σ : L2.St} {H1 H2 : Hp} {Q : XK} {hp hp2 h2 : Heap} {g1 g2 : Array GenState} {d1 d2 : Drawn} {t1 t2 : Nat} {os1 os2 : OsState} {a C d : Addr} {fs : List (Str × V)} (T : Raises X (.ref C)) (I1 : Inv X pins σ H1 ⟨hp, g1, d1, t1, os1⟩)
    (ha : hp.objs.size ≤ a) (k : ∀ b o, hp.get? b = some o → hp2.get? b = some o) (un : Un (frs X.stack) [] (upd H1 a (exo a C none)) H2 hp2 h2) (hok : HOk X.prog X.w H2 h2) (ho : os2 = os1) (hb : AllBare g2)
    (ea : H2 a = some (exo a C (some d))) (ed : H2 d = some (exd d fs)) (hd1 : H1 d = none) (q : Q (.ref C) (some d) (upd (L2.del H2 a) d (.xd fs))) : L2N.MkP X pins σ Q (.ref a) ⟨h2, g2, d2, t2, os2⟩ ∧ L2H.Six (.ref a) ⟨h2, g2, d2, t2, os2⟩ := by
  obtain ⟨t0, G, J, kG, ge, hoe, na⟩ := mk_end0 (d2 := d2) (t2 := t2) I1 ha k un hok ho hb ea ed hd1
  refine ⟨⟨a, _, _, ⟨G, g2, d2, t2, os2⟩, _, .ref C, some d, rfl, J, kG, ge, hoe, ⟨rfl, rfl, fun vs e => by cases e; rfl⟩, rfl, rfl, na, rfl, hb, T, q⟩, fun a' oe vs ea2 hg2 hd2 => ?_⟩
  cases ea2
  have hg3 : h2.get? a = some oe := hg2
  rw [hoe] at hg3
  cases hg3
  cases hd2
  show (4 : Nat) < 6
  decide
end
theorem pmk5_kwH {X : Cx} {CX : CXT} {x f : Str} {C fI : Addr} {k : Nat} {fd : FuncData} {kws : List Keyword} {tk : TA} {p pos : Pos} (T : OexC X.K C) (iC : PySem.W.findIn X.K (.ref C) "__init__" = some (some (.ref fI)))
    (tI : PySem.W.typeIn X.K (.ref fI) = some (.type "function")) (F1 : L2H.FnH X.prog X.w X.K X.mg X.base CX k fI fd ["self", f] (spXI f C)) (hr : L2H.RoomH (k + 1) X.A) (hc : L2H.HotC X)
    (hb : ∀ (s : Shared) (u v : Value), BindsTo s fd ⟨[u], [(f, v)]⟩ [("self", u), (f, v)]) (hx : Passes CX X (fun _ _ _ => False)) (hg : Gl X x) (hm : X.mg x = some (.ref C)) (hkw : PK X kws tk)
    (hall : (backToKw pos (keywordEach kws X.env)).all (·.1.isSome) = true := by rfl) (hks : (backToKw pos (keywordEach kws X.env)).filterMap (·.1) = [f] := by rfl) (hdb : (x == ("__debug__" : Str)) = false := by decide)
    (hpl : ((backTo pos (starEach [] X.env)).any (·.1) || (backToKw pos (keywordEach kws X.env)).any (·.1.isNone)) = false := by rfl) : L2H.PMk5 X (.Call (.Name x p) [] kws pos) (tRx C f tk) := by
  intro pins s σ H Q I h
  obtain ⟨nm, q, N, bs, bm, sn, sub, ab, col, dd, k0, k1, k2, k3, k5, hC, hbm⟩ := T.cls
  obtain ⟨pn, hot, hpn⟩ := hc
  refine wpAny_Call_Name_kw (ld_glob I hg hm ?_ hdb)
  refine PySem.W.callWith_KW0 (h₀ := X.base) I.ok.mod.kin T.kC hall ?_ hpl
  refine thn (hkw.run pos pins s σ H _ I h) fun ws s2 ⟨zs, H1, I1, rz, v, ez, hq⟩ => ⟨I1.kIn, ?_⟩
  rw [hks]
  subst ez
  cases rz with
  | @cons _ u _ ur ru rn =>
    cases rn
    show wpAny _ _ (call (.ref C) [] [(f, u)]) _ _ _
    obtain ⟨hp, g, dr, tk', os⟩ := s2
    have hsz : hp.objs.size ≤ hp.objs.size + 1 := Nat.le_succ _
    have hn : H1 (hp.objs.size + 1) = none := I1.hok.fresh hsz
    have kk : ∀ b o, hp.get? b = some o → ((hp.push (PySem.W.kdv_tup [])).push (PySem.HandSPX.excO C hp.objs.size)).get? b = some o := fun b o e => Heap.get?_push_of_some _ (Heap.get?_push_of_some _ e)
    have hget : ((hp.push (PySem.W.kdv_tup [])).push (PySem.HandSPX.excO C hp.objs.size)).get? (hp.objs.size + 1) = some (PySem.HandSPX.excO C hp.objs.size) := by heap_get
    have I2 : Inv X pins σ (upd H1 (hp.objs.size + 1) (exo (hp.objs.size + 1) C none)) ⟨(hp.push (PySem.W.kdv_tup [])).push (PySem.HandSPX.excO C hp.objs.size), g, dr, tk', os⟩ :=
      I1.laid (t' := tk') (a := hp.objs.size + 1) (o := exo (hp.objs.size + 1) C none) (h' := (hp.push (PySem.W.kdv_tup [])).push (PySem.HandSPX.excO C hp.objs.size)) kk hsz (exo_ok hget)
    have r2 : Vals [V.ref (hp.objs.size + 1), v] [Value.ref (hp.objs.size + 1), u] := .cons rfl (.cons ru .nil)
    have P1 := I2.pin pn (List.mem_append_left _ hpn)
    have hpin : L2H.PinOk X.stack (upd H1 (hp.objs.size + 1) (exo (hp.objs.size + 1) C none)) ⟨(hp.push (PySem.W.kdv_tup [])).push (PySem.HandSPX.excO C hp.objs.size), g, dr, tk', os⟩ pn :=
      ⟨P1.1, P1.2.1, fun hmm => (List.mem_cons.mp (I2.stkSub pn.1 hmm)).elim P1.2.2.1 P1.2.2.2.1, P1.2.2.2.2⟩
    have hsp : spXI f C [V.ref (hp.objs.size + 1), v] (upd H1 (hp.objs.size + 1) (exo (hp.objs.size + 1) C none))
        (fun w H2 => w = .non ∧ ∃ d, H1 d = none ∧ d ≠ hp.objs.size + 1 ∧ H2 = upd (upd (upd H1 (hp.objs.size + 1) (exo (hp.objs.size + 1) C none)) d (exd d [(f, v)])) (hp.objs.size + 1) (exo (hp.objs.size + 1) C (some d))) (fun _ _ _ => False) :=
      ⟨_, v, rfl, upd_same, fun d hd hne => ⟨rfl, d, by rw [upd_ne hne] at hd; exact hd, hne, rfl⟩⟩
    refine wpAny_call (ChZ.call_kw PySem.F.excBase_ValueError (fun Y => PySem.HandSPX.refsVE_contains Y bm hbm) (I1.kIn _ _ hC) (PySem.W.looks_findIn I1.kIn iC) (fun self => PySem.W.bind_fn I1.kIn self tI)
      (codeAny_mono (F1.run _ X.stack _ _ ⟨[Value.ref (hp.objs.size + 1)], [(f, u)]⟩ [Value.ref (hp.objs.size + 1), u] _ _ (fun _ _ _ => False) pn (L2H.RoomH.make hr C [] [(f, u)]) ⟨hot.1, hot.2⟩ hpin (I2.env0.make C [] [(f, u)]) (hb _ _ _) r2 hsp) fun r s' hq' => ?_))
    cases r with
    | error er => exact hx pins σ _ _ er s' I2 hq'
    | ok fl =>
      cases fl with
      | ret u' =>
        obtain ⟨w, H2, os2, bare2, un2, hok2, rv, ev, d, hd1, hda, eH⟩ := hq'
        subst ev
        have q2 := hq d hd1
        rw [← left_xd (C := C) hn hda, ← eH] at q2
        have ea : H2 (hp.objs.size + 1) = some (exo (hp.objs.size + 1) C (some d)) := by rw [eH, upd_same]
        have ed : H2 d = some (exd d [(f, v)]) := by rw [eH, upd_ne hda, upd_same]
        obtain ⟨h2, g2, d2, t2, os'⟩ := s'
        exact ⟨rv, mk_end5 (raises_own T.exC T.tyC) I1 hsz kk un2 hok2 os2 bare2 ea ed hd1 q2⟩
      | next => exact False.elim hq'
      | brk => exact False.elim hq'
      | cont => exact False.elim hq'
section
variable {X : Cx} {CX : CXT} {k : Nat} {f : Addr} {sp : Sp} {E : L2.St → XK} {x : Str} {np pos : Pos} {e : Expr} {es : List Expr} {t : TA}
/-- f(e, ..), what is raised is wished for at the slots -/
def tCallRS (sp : Sp) (E : L2.St → XK) (t : TA) : TE := fun σ H Q => t σ H fun vs H1 => sp vs H1 Q (E σ)
theorem pe_callRS (F : FnR X.prog X.w X.K X.mg X.base CX k f sp) (hr : Room k X.A) (hm : X.mg x = some (.ref f)) (hk : PySem.W.keepIn X.K (.ref f) = true) (hx : ∀ σ, PassesAt CX X σ (E σ)) (hg : Gl X x) (ha : PA X (e :: es) t)
    (hd : (x == ("__debug__" : Str)) = false := by decide) (he : starEach (e :: es) X.env = (false, eval e X.env) :: starEach es X.env := by rfl) (hpl : (backTo pos (starEach es X.env)).any (·.1) = false := by rfl) :
    PE X (.Call (.Name x np) (e :: es) [] pos) (tCallRS sp E t) :=
  ⟨fun pins s σ H Q I h => wpAny_Call_Name_kw (ld_glob I hg hm (PySem.W.callWith_K (h₀ := X.base) I.ok.mod.kin hk (thn (ha.run pos pins s σ H _ I h) fun us s1 ⟨vs, H1, I1, r, q⟩ => ⟨I1.kIn, wpAny_call (run_fnRS F hr (hx σ) I1 r q)⟩) he hpl) hd)⟩
theorem x_callRS {σ : L2.St} {H : Hp} {Q : VK} (k : t σ H fun vs H1 => sp vs H1 Q (E σ)) : tCallRS sp E t σ H Q := k
end
end Ch

set_option Elab.async false
set_option linter.all false
set_option autoImplicit false
set_option maxRecDepth 100000
set_option pp.maxSteps 500
set_option maxHeartbeats 4000000
namespace K42
open PySem PySem.Spec PyProof.Rows L2 He ChH Ch ChM SuX TxX StrX NumX DpX
local macro_rules | `(tactic| walk_at "x1") => `(tactic| first
  | ((with_reducible apply x_var); exact rfl)
  | with_reducible refine x_c ?_
  | with_reducible refine x_op ?_
  | with_reducible refine x_seq ?_
  | with_reducible refine x_asg ?_
  | with_reducible refine x_gname ?_
  | with_reducible refine x_cons ?_
  | with_reducible refine x_nil ?_
  | with_reducible refine x_fld ?_
  | with_reducible refine x_ret ?_
  | with_reducible refine x_ifS ?_
  | with_reducible refine x_test ?_
  | with_reducible refine x_ex ?_
  | with_reducible refine x_call ?_
  | with_reducible refine x_mk ?_
  | with_reducible refine x_meth ?_
  | with_reducible refine x_prop ?_
  | with_reducible refine x_cb ?_
  | with_reducible refine x_tup ?_
  | with_reducible refine x_lst ?_
  | with_reducible refine x_drop ?_
  | with_reducible refine x_for ?_
  | with_reducible refine x_iL ?_
  | with_reducible refine x_iT ?_
  | with_reducible refine x_iE ?_
  | with_reducible refine x_iU ?_
  | with_reducible refine x_iR1 ?_
  | with_reducible refine x_iR2 ?_
  | with_reducible refine x_gcons ?_
  | with_reducible refine x_gnil ?_
  | with_reducible refine x_par ?_
  | with_reducible refine x_lstRg ?_
  | with_reducible refine x_rg1 ?_
  | with_reducible refine x_rg1At ?_
  | with_reducible refine x_par3 ?_
  | with_reducible refine x_bm ?_
  | with_reducible refine x_bm0 ?_
  | with_reducible refine x_gSub ?_
  | with_reducible refine x_lc ?_
  | with_reducible refine x_yes ?_
  | with_reducible refine x_setf ?_
  | with_reducible refine x_next ?_
  | with_reducible refine x_B ?_
  | with_reducible refine x_and ?_
  | with_reducible refine x_or ?_
  | with_reducible refine x_not ?_
  | with_reducible refine x_andV ?_
  | with_reducible refine x_orV ?_
  | with_reducible refine x_notV ?_
  | with_reducible refine x_ifE ?_
  | with_reducible refine x_chain ?_
  | with_reducible refine x_chain3 ?_
  | with_reducible refine x_un ?_
  | with_reducible refine x_isNe ?_
  | with_reducible refine x_notNe ?_
  | with_reducible refine x_starA ?_
  | with_reducible refine x_plusI ?_
  | with_reducible refine x_minus ?_
  | with_reducible refine x_lt ?_
  | with_reducible refine x_le ?_
  | with_reducible refine x_gt ?_
  | with_reducible refine x_ge ?_
  | with_reducible refine x_eqI ?_
  | with_reducible refine x_neI ?_
  | with_reducible refine x_eqS ?_
  | with_reducible refine x_eqB ?_
  | with_reducible refine x_neB ?_
  | with_reducible refine x_int ?_
  | with_reducible refine x_intB ?_
  | with_reducible refine x_max2 ?_
  | with_reducible refine x_min2 ?_
  | with_reducible refine x_max3 ?_
  | with_reducible refine x_abs ?_
  | with_reducible refine x_neg ?_
  | with_reducible refine x_isi_ii ?_
  | with_reducible refine x_isi_ib ?_
  | with_reducible refine x_T ?_
  | with_reducible refine x_nT ?_
  | with_reducible refine x_nF ?_
  | with_reducible refine x_F ?_)
local macro_rules | `(tactic| walk_at "x") => `(tactic| repeat walk_at "x1")

local macro_rules | `(tactic| walk_at "q1") => `(tactic| first
  | walk_at "x1"
  | with_reducible refine x_sl ?_
  | with_reducible refine x_cmeth ?_
  | with_reducible refine x_noPart ?_
  | with_reducible refine x_part ?_
  | with_reducible refine x_partI ?_)
local macro_rules | `(tactic| walk_at "q") => `(tactic| repeat walk_at "q1")

local macro_rules | `(tactic| walk_at "q1") => `(tactic| first
  | with_reducible refine TxX.x_m1 ?_
  | with_reducible refine x_callRS ?_)
/-! ### a text's lines read -/
def rws (t : Str) : List (Option Bk) := (lns t).map fun l => read (wds l)
def okT (t : Str) : Prop := t.length ≤ 550 ∧ PyData.strOk t = true
def firstNo (l : List (Option Bk)) (i : Nat) : Prop := l[i]? = some none ∧ ∀ j, j < i → ∃ b, l[j]? = some (some b)
theorem lns_ok {t : Str} (h : okT t) : (lns t).length ≤ 551 ∧ ∀ l ∈ lns t, l.length ≤ 550 ∧ PyData.strOk l = true := by
  unfold lns
  by_cases e : t = ""
  · rw [if_pos e]; exact ⟨Nat.zero_le _, fun l hl => nomatch hl⟩
  · rw [if_neg e]
    have ht := split_tot nl_tl nl_k t
    have h1 := h.1
    refine ⟨by have := tot_len (Txt.split t "\n"); omega, fun l hl => ⟨by have := tot_mem hl; omega, split_ok nl_tl nl_k h.2 l hl⟩⟩
theorem wds_ok {l : Str} (h : l.length ≤ 550 ∧ PyData.strOk l = true) : (wds l).length ≤ 600 ∧ (∀ a ∈ wds l, okW a) ∧ wds l ≠ [] := by
  have ht := split_tot sp_tl sp_k l
  refine ⟨?_, fun a ha => ⟨?_, split_ok sp_tl sp_k h.2 a ha⟩, split_ne sp_tl sp_k l⟩
  · have : (wds l).length ≤ tot (Txt.split l " ") := tot_len _
    omega
  · have := tot_mem (l := Txt.split l " ") ha
    omega
section
variable {P : Program} [SP : SupP P mfile] {w : World} {K : PySem.W.Frag} {mg : Str → Option Value} {base : Heap}
omit SP in
theorem okh_InvalidText_init (W : Wd K mg) : L2H.FnH P w K mg base CX0 2 (ma K (ga K "InvalidText") "__init__") (fdOf K (ma K (ga K "InvalidText") "__init__")) ["self", "row"] (spXI "row" (ga K "InvalidText")) := by
  refine fnh_ok W.F_InvalidText_init sc_InvalidText_init (fun vs H Q E ⟨a, v, e, _⟩ => by rw [e]; rfl) fun cdv A outer s H vs Q E p hot1 hr ⟨a, v, e, ha, k⟩ => ?_
  subst e
  refine ⟨_, PSs.nox (pss_cons (ps_expr (pe_cinit rfl W.g_ChairError W.r_ChairError W.vi_ChairError (pa_cons (pv 0) (pa_cons pe_str pa_nil)))) (pss_one (ps_ost (pv 0) (pv 1)))), ?_⟩
  walk_at "q"
  refine x_vei ?_
  walk_at "q"
  refine ⟨a, _, _, rfl, (by show 1 ≤ 1000; decide), (W.ox_InvalidText).T, ha, ?_⟩
  with_reducible refine x_ost ?_
  walk_at "q"
  exact ⟨a, _, rfl, (W.ox_InvalidText).T, W.xn_InvalidText, .inl ⟨ha, fun dx h1 h2 => k dx h1 h2⟩⟩
def spPB (K : PySem.W.Frag) : Sp := fun vs H Q E => ∃ t : Str, vs = [.str t] ∧ okT t ∧
  (∀ bs : List Bk, rws t = bs.map some → ∀ L ys H', H L = none → Same H H' → H' L = some (.lst ys) → Paired (fun v b => ∃ o, v = V.ref o ∧ BkAt K H' o b) ys bs → Q (.ref L) H') ∧
  (∀ i, firstNo (rws t) i → ∀ d H', H d = none → Same H H' → H' d = some (.xd [("row", .int i)]) → E (.ref (ga K "InvalidText")) (some d) H')
theorem okx_parse_bookings (W : Wd K mg) : FnR P w K mg base (CX P w) 11 (ga K "parse_bookings") (spPB K) := by
  refine (def_ok W.F_parse_bookings sc_parse_bookings (fun _ _ _ _ _ _ us hl => match us, hl with | [_], _ => rfl) (fun vs H Q E ⟨t, e, _⟩ => by rw [e]; rfl) fun cdv A outer s H vs Q E hr ⟨t, e, ht, k, kB⟩ => ?_).2
  subst e
  refine ⟨_, (pss_cons (ps_set (i := 1) sc_parse_bookings.nd rfl (Or.inl rfl) (pe_lst pa_nil)) (pss_cons (ps_for (passes_of rfl) rfl (pi_enumK K W.f_enumerate (pa_cons (pe_ifExp (pt_cmpR (op_neK K hr.units) (pv 0) pe_str (nomark _)) (StrX.pe_splitK (pv 0) pe_str) (pe_lst pa_nil)) pa_nil)) (pg_tupK (n := 2) K rfl (pgs_cons (pg_name (i := 2) sc_parse_bookings.nd rfl (Or.inl rfl)) (pgs_cons (pg_name (i := 3) sc_parse_bookings.nd rfl (Or.inl rfl)) pgs_nil))) (pss_cons (L2H.ps_try_onlyX (c := .ref (ga K "InvalidBooking")) rfl rfl ⟨rfl, by decide, .inl W.g_InvalidBooking⟩ (L2H.passesAt_of rfl) (takes_of rfl rfl rfl rfl) (fun Wx pn xe tk tk2 po => (pss_one (ps_set (i := 4) sc_parse_bookings.nd rfl (Or.inl rfl) (pe_callRS (okn_booking_of (P := P) (K := K) W) (hr.mono (by decide)) W.g_booking_of W.k_booking_of (fun σ => L2N.passAt tk σ) rfl (pa_cons (StrX.pe_splitK (pv 3) pe_str) pa_nil))))) (fun a oe cls d pn hz hd tk3 hot => (pss_one (L2H.ps_raiseHN hot tk3 (pmk5_kwH (W.ox_InvalidText).T (W.ox_InvalidText).iC (W.ox_InvalidText).tI (okh_InvalidText_init W) (Ch.roomH_mark (hr.mono (by decide))) hot (kb_InvalidText W) pass0 rfl W.g_InvalidText (pk_cons (pv 2) pk_nil)))))) (pss_cons (ps_if (pt_cmp (pc_isN (pv 4))) (pss_one (ps_raise rfl (takes_of rfl rfl rfl rfl) (pmk_kw (W.ox_InvalidText).T (W.ox_InvalidText).iC (W.ox_InvalidText).tI (okx_InvalidText_init W) (hr.mono (by decide)) (kb_InvalidText W) pass0 rfl W.g_InvalidText (pk_cons (pv 2) pk_nil)))) pss_nil) (pss_one (ps_expr (pe_bmK K PySem.F.plainAttrs_list PySem.F.slot_list_append PySem.F.type_list_append mt_append (pv 1) (pa_cons (pv 4) pa_nil))))))) (pss_one (ps_ret (pv 1))))), ?_⟩
  obtain ⟨hll, hlo⟩ := lns_ok ht
  walk_at "q"
  refine ⟨sz rfl, fun f hf => ?_⟩; generalize hN1 : upd _ f _ = H1; obtain ⟨s1, e1⟩ := nws hN1 hf
  walk_at "q"
  refine x_neS ?_
  walk_at "q"
  refine x_ifSet (fun v H' => ∃ l, v = .ref l ∧ H1 l = none ∧ Same H1 H' ∧ H' l = some (.lst ((lns t).map V.str))) (fun c Q' k' => ?_) (fun c Q' k' => ?_) fun v H2 ⟨l, ev, hl0, s2, hl⟩ => ?_
  · have ct : t ≠ "" := fun e => by rw [decide_eq_true e] at c; cases c
    walk_at "q"
    refine ⟨⟨t, rfl⟩, ?_⟩
    walk_at "q"
    refine x_split (by decide +kernel) (by have := ht.1; omega) fun p hp => ?_
    exact k' _ _ ⟨p, rfl, hp, Same.new hp, by rw [upd_same, show lns t = Txt.split t "\n" from if_neg ct]⟩
  · have ct : t = "" := by
      by_cases e : t = ""
      · exact e
      · rw [decide_eq_false e] at c; cases c
    walk_at "q"
    refine ⟨sz rfl, fun p hp => ?_⟩
    exact k' _ _ ⟨p, rfl, hp, Same.new hp, by rw [upd_same, show lns t = [] from if_pos ct]; rfl⟩
  subst ev
  walk_at "q"
  have hlf : l ≠ f := fun z => by
    rw [z, e1] at hl0
    cases hl0
  have lrw : (rws t).length = (lns t).length := by unfold rws; rw [List.length_map]
  refine x_iEAt (SqL.of hl) (x_loop walk_enum (fun i σ H3 => (∃ a b c, σ = [some (.str t), some (.ref f), a, b, c]) ∧ (∀ b u, b ≠ f → H2 b = some u → H3 b = some u) ∧ ∃ ys bs, H3 f = some (.lst ys) ∧ Paired (fun v b => ∃ o, v = V.ref o ∧ BkAt K H3 o b) ys bs ∧ (rws t).take i = bs.map some) ⟨⟨_, _, _, rfl⟩, fun _ _ _ e => e, [], [], s2 _ _ e1, .nil, rfl⟩ (fun i σ H3 _ ⟨_, kp, _⟩ => SqL.of (kp l _ hlf hl)) ?_ ?_)
  · rintro i y σ H3 H4 hi ⟨⟨a, b, c, rfl⟩, kp, ys, bs, hf3, hps, htk⟩ ⟨T, v1, v2, rfl, hT, rfl, e1', e2'⟩
    cases e1'
    rw [List.length_map] at hi
    replace e2' : ((lns t).map V.str)[i]? = some v2 := e2'
    rw [List.getElem?_map] at e2'
    obtain ⟨ln, hln, rfl⟩ := Option.map_eq_some_iff.mp e2'
    have hrow : (rws t)[i]? = some (read (wds ln)) := by unfold rws; rw [List.getElem?_map, hln]; rfl
    obtain ⟨w1, w2, w3⟩ := wds_ok (hlo ln (List.mem_of_getElem? hln))
    have sH3 : Same H H3 := fun b u e => kp b u (ne_of_none e hf) (s2 _ _ (s1 _ _ e))
    have sT : Same H3 (upd H3 T (.tup [.int (i : Nat), .str ln])) := Same.new hT
    have hbl : bs.length = i := by
      have := congrArg List.length htk
      rw [List.length_take, List.length_map, lrw] at this
      omega
    have hyl : ys.length = bs.length := pr_len (R := fun (v : V) (b : Bk) => ∃ o, v = V.ref o ∧ BkAt K H3 o b) hps
    have bad : read (wds ln) = none → firstNo (rws t) i := fun h => ⟨by rw [hrow, h], fun j hj => by
      have e : (rws t)[j]? = (bs.map some)[j]? := by rw [← htk, List.getElem?_take, if_pos hj]
      rw [e, List.getElem?_map, List.getElem?_eq_getElem (by omega)]
      exact ⟨_, rfl⟩⟩
    have raise : read (wds ln) = none → ∀ Hx, Same (upd H3 T (.tup [.int (i : Nat), .str ln])) Hx → ∀ d, Hx d = none → E (.ref (ga K "InvalidText")) (some d) (upd Hx d (.xd [("row", .int (i : Nat))])) := fun h Hx sx d hd =>
      kB i (bad h) d _ ((sH3.trans (sT.trans sx)).free hd) ((sH3.trans (sT.trans sx)).trans (Same.new hd)) upd_same
    refine x_gTup upd_same rfl ?_
    walk_at "q"
    refine ⟨⟨ln, rfl⟩, ?_⟩
    walk_at "q"
    refine x_split (by decide +kernel) (by have := (hlo ln (List.mem_of_getElem? hln)).1; omega) fun p hp => ?_
    walk_at "q"
    refine ⟨p, wds ln, rfl, upd_same, w1, w2, fun bk hbk o H5 ho s5 hb5 => ?_, fun hn H5 s5 => ?_, fun hn H5 s5 => ?_⟩
    · have s35 := sT.trans ((Same.new hp).trans s5)
      walk_at "q"
      refine x_ifd (fun z => nomatch z) fun _ => ?_
      walk_at "q"
      have hf5 := s35 _ _ hf3
      refine ⟨ty_lst hf5, ?_⟩
      walk_at "q"
      refine x_app hf5 (sz5' (by omega)) ?_
      walk_at "q"
      have kb : ∀ c u, c ≠ f → H5 c = some u → (upd H5 f (.lst (ys ++ [.ref o]))) c = some u := fun c u hc e => by rw [upd_ne hc]; exact e
      have mb : ∀ {o' b'}, BkAt K H5 o' b' → BkAt K (upd H5 f (.lst (ys ++ [.ref o]))) o' b' := fun h => h.keep (fun c C dx fs e => kb c _ (fun z => by rw [z, hf5] at e; cases e) e) (fun c xs e => kb c _ (fun z => by rw [z, hf5] at e; cases e) e)
      refine ⟨⟨_, _, _, rfl⟩, fun b u hb e => kb b u hb (s35 _ _ (kp b u hb e)), ys ++ [.ref o], bs ++ [bk], upd_same, ?_, ?_⟩
      · exact pr_snoc (R := fun (v : V) (b : Bk) => ∃ o', v = V.ref o' ∧ BkAt K (upd H5 f (.lst (ys ++ [.ref o]))) o' b) (pr_im (R := fun (v : V) (b : Bk) => ∃ o, v = V.ref o ∧ BkAt K H3 o b) (fun _ _ ⟨o', q1, q2⟩ => ⟨o', q1, mb (q2.mono s35)⟩) hps) ⟨o, rfl, mb hb5⟩
      · rw [List.take_add_one, hrow, htk, hbk, List.map_append]
        rfl
    · walk_at "q"
      refine x_ifd (fun _ => ?_) (fun z => absurd rfl z)
      refine x_rx ?_
      walk_at "q"
      exact ⟨_, rfl, fun d hd => raise hn _ ((Same.new hp).trans s5) d hd⟩
    · refine ⟨true, W.xm_InvalidBooking_InvalidBooking, fun _ a ha => ?_, fun z => nomatch z⟩
      refine x_rx ?_
      walk_at "q"
      exact ⟨_, rfl, fun d hd => raise hn _ ((Same.new hp).trans s5) d hd⟩
  · rintro σ H3 ⟨⟨a, b, c, rfl⟩, kp, ys, bs, hf3, hps, htk⟩
    rw [List.length_map, List.take_of_length_le (by omega)] at htk
    walk_at "q"
    exact k bs htk f ys H3 hf (fun b u e => kp b u (ne_of_none e hf) (s2 _ _ (s1 _ _ e))) hf3 hps
end
end K42

set_option Elab.async false
set_option linter.all false
set_option autoImplicit false
set_option maxRecDepth 100000
set_option pp.maxSteps 500
set_option maxHeartbeats 4000000
namespace K42
open PySem PySem.Spec PyProof.Rows L2 He ChH Ch ChM SuX TxX StrX NumX DpX
local macro_rules | `(tactic| walk_at "x1") => `(tactic| first
  | ((with_reducible apply x_var); exact rfl)
  | with_reducible refine x_c ?_
  | with_reducible refine x_op ?_
  | with_reducible refine x_seq ?_
  | with_reducible refine x_asg ?_
  | with_reducible refine x_gname ?_
  | with_reducible refine x_cons ?_
  | with_reducible refine x_nil ?_
  | with_reducible refine x_fld ?_
  | with_reducible refine x_ret ?_
  | with_reducible refine x_ifS ?_
  | with_reducible refine x_test ?_
  | with_reducible refine x_ex ?_
  | with_reducible refine x_call ?_
  | with_reducible refine x_mk ?_
  | with_reducible refine x_meth ?_
  | with_reducible refine x_prop ?_
  | with_reducible refine x_cb ?_
  | with_reducible refine x_tup ?_
  | with_reducible refine x_lst ?_
  | with_reducible refine x_drop ?_
  | with_reducible refine x_for ?_
  | with_reducible refine x_iL ?_
  | with_reducible refine x_iT ?_
  | with_reducible refine x_iE ?_
  | with_reducible refine x_iU ?_
  | with_reducible refine x_iR1 ?_
  | with_reducible refine x_iR2 ?_
  | with_reducible refine x_gcons ?_
  | with_reducible refine x_gnil ?_
  | with_reducible refine x_par ?_
  | with_reducible refine x_lstRg ?_
  | with_reducible refine x_rg1 ?_
  | with_reducible refine x_rg1At ?_
  | with_reducible refine x_par3 ?_
  | with_reducible refine x_bm ?_
  | with_reducible refine x_bm0 ?_
  | with_reducible refine x_gSub ?_
  | with_reducible refine x_lc ?_
  | with_reducible refine x_yes ?_
  | with_reducible refine x_setf ?_
  | with_reducible refine x_next ?_
  | with_reducible refine x_B ?_
  | with_reducible refine x_and ?_
  | with_reducible refine x_or ?_
  | with_reducible refine x_not ?_
  | with_reducible refine x_andV ?_
  | with_reducible refine x_orV ?_
  | with_reducible refine x_notV ?_
  | with_reducible refine x_ifE ?_
  | with_reducible refine x_chain ?_
  | with_reducible refine x_chain3 ?_
  | with_reducible refine x_un ?_
  | with_reducible refine x_isNe ?_
  | with_reducible refine x_notNe ?_
  | with_reducible refine x_starA ?_
  | with_reducible refine x_plusI ?_
  | with_reducible refine x_minus ?_
  | with_reducible refine x_lt ?_
  | with_reducible refine x_le ?_
  | with_reducible refine x_gt ?_
  | with_reducible refine x_ge ?_
  | with_reducible refine x_eqI ?_
  | with_reducible refine x_neI ?_
  | with_reducible refine x_eqS ?_
  | with_reducible refine x_eqB ?_
  | with_reducible refine x_neB ?_
  | with_reducible refine x_int ?_
  | with_reducible refine x_intB ?_
  | with_reducible refine x_max2 ?_
  | with_reducible refine x_min2 ?_
  | with_reducible refine x_max3 ?_
  | with_reducible refine x_abs ?_
  | with_reducible refine x_neg ?_
  | with_reducible refine x_isi_ii ?_
  | with_reducible refine x_isi_ib ?_
  | with_reducible refine x_T ?_
  | with_reducible refine x_nT ?_
  | with_reducible refine x_nF ?_
  | with_reducible refine x_F ?_)
local macro_rules | `(tactic| walk_at "x") => `(tactic| repeat walk_at "x1")

local macro_rules | `(tactic| walk_at "q1") => `(tactic| first
  | walk_at "x1"
  | with_reducible refine x_sl ?_
  | with_reducible refine x_cmeth ?_
  | with_reducible refine x_noPart ?_
  | with_reducible refine x_part ?_
  | with_reducible refine x_partI ?_)
local macro_rules | `(tactic| walk_at "q") => `(tactic| repeat walk_at "q1")

local macro_rules | `(tactic| walk_at "q1") => `(tactic| first
  | with_reducible refine TxX.x_m1 ?_)
/-! ### bookings told, read again -/
theorem allN_nt : ∀ {ns : List Int}, (∀ n ∈ ns, needOk n) → allN (ns.map nt) = some ns
  | [], _ => rfl
  | n :: r, h => by
    show (match pInt (nt n), allN (r.map nt) with | some n, some ns => some (n :: ns) | _, _ => (none : Option (List Int))) = _
    rw [pInt_nt (h n List.mem_cons_self).1, allN_nt fun m hm => h m (List.mem_cons_of_mem _ hm)]
theorem roomS_ok (r : Bool) : roomOk (roomS r) := by cases r
                                                     · exact .inr rfl
                                                     · exact .inl rfl
theorem roomS_red (r : Bool) : decide (roomS r = "red") = r := by cases r <;> decide
theorem read_words {b : Bk} (hok : b.ok) (hsm : b.sm) : read b.words = some b := by
  cases b with
  | tn => exact read_turn
  | mt r n =>
    rw [show (Bk.mt r n).words = [roomS r, nt n] from rfl, read2 (ne_alt (roomS_ok r)), pInt_nt hok.1]
    refine (if_pos ⟨roomS_ok r, hok⟩).trans ?_
    rw [roomS_red]
  | sr r n m t =>
    obtain ⟨h1, h2, h3, h4⟩ := hok
    have hser : serOk (roomS r) n (t : Int) m := ⟨roomS_ok r, h1, by omega, by omega, by rw [Int.toNat_natCast]; exact h4⟩
    have hfin : rdSr (roomS r) (some n) (some (t : Int)) (some m) = some (Bk.sr r n m t) := by
      refine (if_pos hser).trans ?_
      rw [roomS_red, Int.toNat_natCast]
    by_cases hm : m = 0
    · rw [show (Bk.sr r n m t).words = [roomS r, nt n, ("times" : Str), nt (t : Int)] from by
        show [roomS r, nt n, ("times" : Str), nt (t : Int)] ++ (if m ≠ 0 then [("more" : Str), nt m] else []) = _
        rw [if_neg (fun z => z hm)]; rfl, read4 (ne_alt (roomS_ok r)), pInt_nt h1.1, pInt_nt (by omega), ← hm]
      exact hfin
    · rw [show (Bk.sr r n m t).words = [roomS r, nt n, ("times" : Str), nt (t : Int), ("more" : Str), nt m] from by
        show [roomS r, nt n, ("times" : Str), nt (t : Int)] ++ (if m ≠ 0 then [("more" : Str), nt m] else []) = _
        rw [if_pos hm]; rfl, read6 (ne_alt (roomS_ok r)), pInt_nt h1.1, pInt_nt (n := (t : Int)) (by omega), pInt_small hsm.1 hsm.2]
      exact (if_pos fun z => hm (Option.some.inj z)).trans hfin
  | al ns =>
    rw [show (Bk.al ns).words = ("alternate" : Str) :: ns.map nt from rfl, read_alt, allN_nt hok.2.1]
    exact if_pos hok
/-- a word of a booking -/
def wdOk (a : Str) : Prop := 0 < a.length ∧ a.length ≤ 20 ∧ PyData.strOk a = true ∧ 32 ∉ TL.tl a ∧ 10 ∉ TL.tl a
theorem nt_wd {n : Int} (h0 : -4 ≤ n) (h1 : n < 10 ^ 20) : wdOk (nt n) := by
  have hc := nt_chars h0
  have hp : 0 < (nt n).length := by
    rw [TL.len_tl]
    refine List.length_pos_iff.mpr fun e => ?_
    by_cases hn : 0 ≤ n
    · obtain ⟨m, rfl⟩ := Int.eq_ofNat_of_zero_le hn
      rw [tl_nt] at e
      exact TL.numL_ne m e
    · have : n = -1 ∨ n = -2 ∨ n = -3 ∨ n = -4 := by omega
      rcases this with z | z | z | z <;> subst z <;> exact absurd e (by decide +kernel)
  have hl : (nt n).length ≤ 20 := by
    by_cases hn : 0 ≤ n
    · exact nt_len hn h1
    · exact (nt_small h0 (by omega)).2.1
  exact ⟨hp, hl, ok_of fun c hm => by have := hc c hm; omega, fun hm => by have := hc _ hm; omega, fun hm => by have := hc _ hm; omega⟩
theorem room_wd (r : Bool) : wdOk (roomS r) := by cases r <;> exact ⟨by decide +kernel, by decide +kernel, by decide +kernel, by decide +kernel, by decide +kernel⟩
theorem wd_times : wdOk "times" := ⟨by decide +kernel, by decide +kernel, by decide +kernel, by decide +kernel, by decide +kernel⟩
theorem wd_more : wdOk "more" := ⟨by decide +kernel, by decide +kernel, by decide +kernel, by decide +kernel, by decide +kernel⟩
theorem wd_alt : wdOk "alternate" := ⟨by decide +kernel, by decide +kernel, by decide +kernel, by decide +kernel, by decide +kernel⟩
theorem wd_turn : wdOk "turn" := ⟨by decide +kernel, by decide +kernel, by decide +kernel, by decide +kernel, by decide +kernel⟩
theorem need_wd {n : Int} (h : needOk n) : wdOk (nt n) := nt_wd (by have := h.1; omega) (by have := h.2; omega)
theorem words_ok {b : Bk} (hok : b.ok) (hsm : b.sm) : b.words ≠ [] ∧ b.words.length ≤ 6 ∧ ∀ a ∈ b.words, wdOk a := by
  cases b with
  | tn => exact ⟨fun z => (nomatch z), by decide, fun a ha => by rw [List.mem_singleton.mp ha]; exact wd_turn⟩
  | mt r n =>
    refine ⟨fun z => (nomatch z), by show 2 ≤ 6; decide, fun a ha => ?_⟩
    rcases List.mem_cons.mp ha with z | ha
    · rw [z]; exact room_wd r
    · rw [List.mem_singleton.mp ha]; exact need_wd hok
  | sr r n m t =>
    obtain ⟨h1, h2, h3, h4⟩ := hok
    have e : (Bk.sr r n m t).words = [roomS r, nt n, ("times" : Str), nt (t : Int)] ++ (if m ≠ 0 then [("more" : Str), nt m] else []) := rfl
    have hA : ∀ a ∈ [roomS r, nt n, ("times" : Str), nt (t : Int)], wdOk a := fun a ha => by
      rcases List.mem_cons.mp ha with z | ha
      · rw [z]; exact room_wd r
      rcases List.mem_cons.mp ha with z | ha
      · rw [z]; exact need_wd h1
      rcases List.mem_cons.mp ha with z | ha
      · rw [z]; exact wd_times
      · rw [List.mem_singleton.mp ha]; exact nt_wd (by omega) (by omega)
    rw [e]
    by_cases hm : m ≠ 0
    · rw [if_pos hm]
      refine ⟨fun z => (nomatch z), by show 6 ≤ 6; decide, fun a ha => ?_⟩
      rcases List.mem_append.mp ha with z | ha
      · exact hA a z
      rcases List.mem_cons.mp ha with z | ha
      · rw [z]; exact wd_more
      · rw [List.mem_singleton.mp ha]; exact nt_wd hsm.1 (by have := hsm.2; omega)
    · rw [if_neg hm, List.append_nil]
      exact ⟨fun z => (nomatch z), by show 4 ≤ 6; decide, hA⟩
  | al ns =>
    refine ⟨fun z => (nomatch z), ?_, fun a ha => ?_⟩
    · show (ns.map nt).length + 1 ≤ 6
      rw [List.length_map]
      exact Nat.succ_le_succ hsm
    · rcases List.mem_cons.mp ha with z | ha
      · rw [z]; exact wd_alt
      · obtain ⟨n, hn, rfl⟩ := List.mem_map.mp ha
        exact need_wd (hok.2.1 n hn)
theorem mem_joinL (S : List Nat) {c : Nat} : ∀ {l : List (List Nat)}, c ∈ TL.joinL S l → c ∈ S ∨ ∃ p ∈ l, c ∈ p
  | [], h => nomatch h
  | [p], h => .inr ⟨p, List.mem_singleton.mpr rfl, h⟩
  | p :: q :: r, h => by
    rcases List.mem_append.mp h with z | z
    · exact .inr ⟨p, List.mem_cons_self, z⟩
    rcases List.mem_append.mp z with z | z
    · exact .inl z
    rcases mem_joinL S (l := q :: r) z with y | ⟨x, hx, hc⟩
    · exact .inl y
    · exact .inr ⟨x, List.mem_cons_of_mem _ hx, hc⟩
theorem tot_le {k : Nat} : ∀ {l : List Str}, (∀ a ∈ l, a.length ≤ k) → tot l ≤ l.length * (k + 1)
  | [], _ => Nat.zero_le _
  | a :: l, h => by
    have h1 := h a List.mem_cons_self
    have h2 := tot_le fun b hb => h b (List.mem_cons_of_mem _ hb)
    rw [tot_cons, List.length_cons, Nat.succ_mul]
    omega
theorem line_ok {b : Bk} (hok : b.ok) (hsm : b.sm) : 0 < b.line.length ∧ b.line.length ≤ 125 ∧ PyData.strOk b.line = true ∧ 10 ∉ TL.tl b.line ∧ wds b.line = b.words := by
  obtain ⟨h1, h2, h3⟩ := words_ok hok hsm
  have hl := join_len sp_tl h1
  have ht := tot_le (l := b.words) (k := 20) fun a ha => (h3 a ha).2.1
  obtain ⟨a, r, e⟩ : ∃ a r, b.words = a :: r := by
    cases hw : b.words with
    | nil => exact absurd hw h1
    | cons a r => exact ⟨a, r, rfl⟩
  have ha : 0 < a.length := (h3 a (by rw [e]; exact List.mem_cons_self)).1
  have htl : a.length + 1 ≤ tot b.words := tot_mem (by rw [e]; exact List.mem_cons_self)
  have h6 : b.words.length * 21 ≤ 6 * 21 := Nat.mul_le_mul_right 21 h2
  refine ⟨?_, ?_, join_ok (by decide +kernel) fun x hx => (h3 x hx).2.2.1, fun hm => ?_, TL.split_join sp_tl sp_k h1 fun p hp => (h3 p hp).2.2.2.1⟩
  · show 0 < (Txt.join " " b.words).length
    omega
  · show (Txt.join " " b.words).length ≤ 125
    omega
  · replace hm : 10 ∈ TL.tl (Txt.join " " b.words) := hm
    rw [TL.join_eq, TL.tl_join, sp_tl] at hm
    rcases mem_joinL _ hm with z | ⟨p, hp, hc⟩
    · exact absurd (List.mem_singleton.mp z) (by decide)
    · obtain ⟨x, hx, rfl⟩ := List.mem_map.mp hp
      exact (h3 x hx).2.2.2.2 hc
/-- the text of bookings -/
def txt (bs : List Bk) : Str := Txt.join "\n" (bs.map Bk.line)
def bsOk (bs : List Bk) : Prop := ∀ b ∈ bs, b.ok ∧ b.sm
theorem txt_split {bs : List Bk} (h : bsOk bs) (hne : bs ≠ []) : Txt.split (txt bs) "\n" = bs.map Bk.line := by
  refine TL.split_join nl_tl nl_k (fun e => hne (List.map_eq_nil_iff.mp e)) fun p hp => ?_
  obtain ⟨b, hb, rfl⟩ := List.mem_map.mp hp
  exact (line_ok (h b hb).1 (h b hb).2).2.2.2.1
theorem txt_len {bs : List Bk} (h : bsOk bs) (hne : bs ≠ []) : (txt bs).length + 1 = tot (bs.map Bk.line) := join_len nl_tl fun e => hne (List.map_eq_nil_iff.mp e)
theorem txt_lns {bs : List Bk} (h : bsOk bs) (hne : bs ≠ []) : lns (txt bs) = bs.map Bk.line := by
  unfold lns
  rw [if_neg, txt_split h hne]
  intro e
  have hl := txt_len h hne
  obtain ⟨b, r, rfl⟩ : ∃ b r, bs = b :: r := by
    cases bs with
    | nil => exact absurd rfl hne
    | cons b r => exact ⟨b, r, rfl⟩
  have h1 := (line_ok (h b List.mem_cons_self).1 (h b List.mem_cons_self).2).1
  rw [e, List.map_cons, tot_cons] at hl
  replace hl : 0 + 1 = b.line.length + 1 + tot (r.map Bk.line) := hl
  omega
theorem txt_ok {bs : List Bk} (h : bsOk bs) (hl : bs.length ≤ 4) : (txt bs).length ≤ 504 ∧ PyData.strOk (txt bs) = true := by
  have h1 := join_le nl_tl (bs.map Bk.line)
  have h2 := tot_le (l := bs.map Bk.line) (k := 125) fun a ha => by
    obtain ⟨b, hb, rfl⟩ := List.mem_map.mp ha
    exact (line_ok (h b hb).1 (h b hb).2).2.1
  rw [List.length_map] at h2
  have h3 : bs.length * 126 ≤ 4 * 126 := Nat.mul_le_mul_right 126 hl
  refine ⟨by show (Txt.join "\n" (bs.map Bk.line)).length ≤ 504; omega, join_ok (by decide +kernel) fun x hx => ?_⟩
  obtain ⟨b, hb, rfl⟩ := List.mem_map.mp hx
  exact (line_ok (h b hb).1 (h b hb).2).2.2.1
theorem txt_rws {bs : List Bk} (h : bsOk bs) (hne : bs ≠ []) : rws (txt bs) = bs.map some := by
  unfold rws
  rw [txt_lns h hne, List.map_map]
  refine List.map_congr_left fun b hb => ?_
  show read (wds b.line) = some b
  rw [(line_ok (h b hb).1 (h b hb).2).2.2.2.2, read_words (h b hb).1 (h b hb).2]
/-! ### the line, the steps, whatever the booking's class -/
section
variable {K : PySem.W.Frag} {mg : Str → Option Value} {H : Hp} {Q : VK} {o : Addr} {b : Bk} {te : TE} {σ : L2.St}
theorem x_line (W : Wd K mg) (ht : ∀ Qx : VK, Qx (.ref o) H → te σ H Qx) (h : BkAt K H o b) (hsm : b.sm) (k : ∀ H', Same H H' → Q (.str b.line) H') :
    tAlt (tPropR (ga K "Meeting") (spLn K fun b => ∃ r n, b = .mt r n) E0 te) (tAlt (tPropR (ga K "Series") (spLn K fun b => ∃ r n m t, b = .sr r n m t ∧ -4 ≤ m ∧ m ≤ 4) E0 te) (tAlt (tPropR (ga K "Alternation") (spLn K fun b => ∃ l, b = .al l) E0 te) (tPropR (ga K "Turning") (spLn K fun b => b = .tn) E0 te))) σ H Q := by
  obtain ⟨dx, T, e1, e2⟩ := id h.ex
  cases b with
  | mt r n => exact .inl (ht _ ⟨o, dx, _, rfl, e1, o, _, rfl, h, ⟨_, _, rfl⟩, k⟩)
  | sr r n m t => exact .inr (.inl (ht _ ⟨o, dx, _, rfl, e1, o, _, rfl, h, ⟨_, _, _, _, rfl, hsm.1, hsm.2⟩, k⟩))
  | al l => exact .inr (.inr (.inl (ht _ ⟨o, dx, _, rfl, e1, o, _, rfl, h, ⟨_, rfl⟩, k⟩)))
  | tn => exact .inr (.inr (.inr (ht _ ⟨o, dx, _, rfl, e1, o, _, rfl, h, rfl, k⟩)))
abbrev plE : XK := fun _ _ _ => False
theorem x_planned (ht : ∀ Qx : VK, Qx (.ref o) H → te σ H Qx) (h : BkAt K H o b) (k : ∀ L ps H', H L = none → Same H H' → H' L = some (.lst ps) → StepsAt H' ps b.steps → Q (.ref L) H') :
    tAlt (tListG (G2.tMethG (ga K "Meeting") "planned" (spPl K fun b => (∃ r n, b = .mt r n) ∨ ∃ r n m t, b = .sr r n m t) plE te))
      (tAlt (tListG (G2.tMethG (ga K "Series") "planned" (spPl K fun b => (∃ r n, b = .mt r n) ∨ ∃ r n m t, b = .sr r n m t) plE te))
        (tAlt (tListG (G2.tMethG (ga K "Alternation") "planned" (spPl K fun b => ∃ l, b = .al l) plE te))
          (tListG (G2.tMethG (ga K "Turning") "planned" (spPl K fun b => b = .tn) plE te)))) σ H Q := by
  obtain ⟨dx, T, e1, e2⟩ := id h.ex
  have fin : ∀ (ys : List V) (H1 : Hp), Same H H1 → StepsAt H1 ys b.steps → ∀ p, H1 p = none → Q (.ref p) (upd H1 p (.lst ys)) := fun ys H1 s1 hys p hp => k p ys _ (s1.free hp) (s1.trans (Same.new hp)) upd_same (hys.mono (Same.new hp))
  cases b with
  | mt r n => exact .inl (G2.x_listG (G2.x_methG (ht _ ⟨o, dx, _, rfl, e1, by unfold Bk.fs; kernel_rfl, o, _, rfl, h, .inl ⟨_, _, rfl⟩, fin⟩)))
  | sr r n m t => exact .inr (.inl (G2.x_listG (G2.x_methG (ht _ ⟨o, dx, _, rfl, e1, by unfold Bk.fs; kernel_rfl, o, _, rfl, h, .inr ⟨_, _, _, _, rfl⟩, fin⟩))))
  | al l => exact .inr (.inr (.inl (G2.x_listG (G2.x_methG (ht _ ⟨o, dx, _, rfl, e1, by unfold Bk.fs; kernel_rfl, o, _, rfl, h, ⟨_, rfl⟩, fin⟩)))))
  | tn => exact .inr (.inr (.inr (G2.x_listG (G2.x_methG (ht _ ⟨o, dx, _, rfl, e1, by unfold Bk.fs; kernel_rfl, o, _, rfl, h, rfl, fin⟩)))))
end
section
variable {P : Program} {w : World} {K : PySem.W.Frag} {mg : Str → Option Value} {base : Heap}
abbrev BksAt (K : PySem.W.Frag) (H : Hp) (ys : List V) (bs : List Bk) : Prop := Paired (fun v b => ∃ o, v = V.ref o ∧ BkAt K H o b) ys bs
def spFB (K : PySem.W.Frag) : Sp := fun vs H Q E => ∃ (T : Addr) (ys : List V) (bs : List Bk), vs = [.ref T] ∧ H T = some (.tup ys) ∧ BksAt K H ys bs ∧ bsOk bs ∧ bs.length ≤ 4 ∧ ∀ H', Same H H' → Q (.str (txt bs)) H'
theorem ok_format_bookings (W : Wd K mg) : FnR P w K mg base CX0 3 (ga K "format_bookings") (fun vs H Q E => ∃ ws rest, vs = ws ++ rest ∧ ws.length = ([] : List Str).length ∧ rest.length ≤ sizeLine ∧ ∀ p, H p = none → spFB K (ws ++ [V.ref p]) (upd H p (.tup rest)) Q E) := by
  refine star_ok (ps := []) (pv := "bookings") (sp := spFB K) W.F_format_bookings sc_format_bookings StX.cxUp_none (fun _ _ _ _ _ _ us rest hl => match us, rest, hl with | [], [], _ => rfl | [], _ :: _, _ => rfl) fun cdv A outer s H vs Q E hr ⟨T, ys, bs, e, hT, hbs, hok, hl, k⟩ => ?_
  subst e
  refine ⟨_, PSs.nox (pss_one (ps_ret (TxX.pe_joinK K pe_str (pe_lc (own := [("booking", 1)]) (g := gName 1) (tt := tYes) rfl sc_format_bookings.nd (pi_tupK K (pv 0)) (blkOk_by (own := [("booking", 1)]) (N := N_format_bookings) (sc := defScope s_format_bookings) (by decide +kernel)) (fun _ _ _ _ _ => (pg_name (i := 1) sc_format_bookings.nd rfl (Or.inl rfl))) (fun _ _ _ _ _ => pts_nil) (fun _ _ _ _ _ => (SuX.pe_alt (pe_propR W.c_Meeting W.p_Meeting_line (ok_Meeting_line W) (hr.mono (by decide)) (pv 1)) (SuX.pe_alt (pe_propR W.c_Series W.p_Series_line (ok_Series_line W) (hr.mono (by decide)) (pv 1)) (SuX.pe_alt (pe_propR W.c_Alternation W.p_Alternation_line (ok_Booking_line W) (hr.mono (by decide)) (pv 1)) (pe_propR W.c_Turning W.p_Turning_line (ok_Turning_line W) (hr.mono (by decide)) (pv 1)))))))))), ?_⟩
  have hyl : ys.length = bs.length := pr_len (R := fun (v : V) (b : Bk) => ∃ o, v = V.ref o ∧ BkAt K H o b) hbs
  walk_at "q"
  refine ⟨⟨_, rfl⟩, ?_⟩
  walk_at "q"
  refine x_iTAt (SqT.of hT) ?_
  refine x_lcA walk_tup (fun i acc _ => acc = ((bs.take i).map Bk.line).map V.str) (fun _ _ _ _ _ _ _ h => h) (fun _ _ => rfl) (by omega) (fun H' s' => SqT.of (s' _ _ hT)) ?_ ?_
  · rintro i y acc H3 H4 NT NF hTT hF hi s3 rfl ⟨rfl, ey⟩
    obtain ⟨b, hb, o, rfl, hbo⟩ := pr_at (R := fun (v : V) (b : Bk) => ∃ o, v = V.ref o ∧ BkAt K H o b) hbs ey
    walk_at "q"
    refine ⟨rfl, ?_⟩
    walk_at "q"
    refine x_line W (fun Qx h => x_var rfl h) (hbo.mono s3) (hok b (List.mem_of_getElem? hb)).2 fun H5 s5 => ?_
    refine hTT _ _ s5 ?_
    rw [List.take_add_one, hb, List.map_append, List.map_append]
    rfl
  rintro L acc H6 hL s6 hL2 rfl hdl
  rw [hyl, List.take_length] at hL2
  have ht := tot_le (l := bs.map Bk.line) (k := 125) fun a ha => by
    obtain ⟨b, hb, rfl⟩ := List.mem_map.mp ha
    exact (line_ok (hok b hb).1 (hok b hb).2).2.1
  walk_at "q"
  refine x_joinL (ys := bs.map Bk.line) (SqL.of hL2) ?_ (k _ s6)
  rw [List.length_map] at ht ⊢
  have h2 : ((bs.map Bk.line).map (·.length)).sum ≤ tot (bs.map Bk.line) := by
    generalize bs.map Bk.line = l
    induction l with
    | nil => exact Nat.le_refl _
    | cons a l ih =>
      rw [tot_cons, List.map_cons, List.sum_cons]
      omega
  have h3 : bs.length * 126 ≤ 4 * 126 := Nat.mul_le_mul_right 126 hl
  show _ + bs.length * 1 ≤ 16777216
  omega
end
end K42

set_option Elab.async false
set_option linter.all false
set_option autoImplicit false
set_option maxRecDepth 100000
set_option pp.maxSteps 500
set_option maxHeartbeats 4000000
namespace K42
open PySem PySem.Spec PyProof.Rows L2 He ChH Ch ChM LamX SuX TxX StrX NumX DpX LsX
local macro_rules | `(tactic| walk_at "x1") => `(tactic| first
  | ((with_reducible apply x_var); exact rfl)
  | with_reducible refine x_c ?_
  | with_reducible refine x_op ?_
  | with_reducible refine x_seq ?_
  | with_reducible refine x_asg ?_
  | with_reducible refine x_gname ?_
  | with_reducible refine x_cons ?_
  | with_reducible refine x_nil ?_
  | with_reducible refine x_fld ?_
  | with_reducible refine x_ret ?_
  | with_reducible refine x_ifS ?_
  | with_reducible refine x_test ?_
  | with_reducible refine x_ex ?_
  | with_reducible refine x_call ?_
  | with_reducible refine x_mk ?_
  | with_reducible refine x_meth ?_
  | with_reducible refine x_prop ?_
  | with_reducible refine x_cb ?_
  | with_reducible refine x_tup ?_
  | with_reducible refine x_lst ?_
  | with_reducible refine x_drop ?_
  | with_reducible refine x_for ?_
  | with_reducible refine x_iL ?_
  | with_reducible refine x_iT ?_
  | with_reducible refine x_iE ?_
  | with_reducible refine x_iU ?_
  | with_reducible refine x_iR1 ?_
  | with_reducible refine x_iR2 ?_
  | with_reducible refine x_gcons ?_
  | with_reducible refine x_gnil ?_
  | with_reducible refine x_par ?_
  | with_reducible refine x_lstRg ?_
  | with_reducible refine x_rg1 ?_
  | with_reducible refine x_rg1At ?_
  | with_reducible refine x_par3 ?_
  | with_reducible refine x_bm ?_
  | with_reducible refine x_bm0 ?_
  | with_reducible refine x_gSub ?_
  | with_reducible refine x_lc ?_
  | with_reducible refine x_yes ?_
  | with_reducible refine x_setf ?_
  | with_reducible refine x_next ?_
  | with_reducible refine x_B ?_
  | with_reducible refine x_and ?_
  | with_reducible refine x_or ?_
  | with_reducible refine x_not ?_
  | with_reducible refine x_andV ?_
  | with_reducible refine x_orV ?_
  | with_reducible refine x_notV ?_
  | with_reducible refine x_ifE ?_
  | with_reducible refine x_chain ?_
  | with_reducible refine x_chain3 ?_
  | with_reducible refine x_un ?_
  | with_reducible refine x_isNe ?_
  | with_reducible refine x_notNe ?_
  | with_reducible refine x_starA ?_
  | with_reducible refine x_plusI ?_
  | with_reducible refine x_minus ?_
  | with_reducible refine x_lt ?_
  | with_reducible refine x_le ?_
  | with_reducible refine x_gt ?_
  | with_reducible refine x_ge ?_
  | with_reducible refine x_eqI ?_
  | with_reducible refine x_neI ?_
  | with_reducible refine x_eqS ?_
  | with_reducible refine x_eqB ?_
  | with_reducible refine x_neB ?_
  | with_reducible refine x_int ?_
  | with_reducible refine x_intB ?_
  | with_reducible refine x_max2 ?_
  | with_reducible refine x_min2 ?_
  | with_reducible refine x_max3 ?_
  | with_reducible refine x_abs ?_
  | with_reducible refine x_neg ?_
  | with_reducible refine x_isi_ii ?_
  | with_reducible refine x_isi_ib ?_
  | with_reducible refine x_T ?_
  | with_reducible refine x_nT ?_
  | with_reducible refine x_nF ?_
  | with_reducible refine x_F ?_)
local macro_rules | `(tactic| walk_at "x") => `(tactic| repeat walk_at "x1")

local macro_rules | `(tactic| walk_at "q1") => `(tactic| first
  | walk_at "x1"
  | with_reducible refine x_sl ?_
  | with_reducible refine x_cmeth ?_
  | with_reducible refine x_noPart ?_
  | with_reducible refine x_part ?_
  | with_reducible refine x_partI ?_)
local macro_rules | `(tactic| walk_at "q") => `(tactic| repeat walk_at "q1")

local macro_rules | `(tactic| walk_at "q1") => `(tactic| with_reducible refine TxX.x_m1 ?_)
abbrev lamK : Nat := 12
def lamT (K : PySem.W.Frag) : List (Addr × Str) := [(tbA K (ga K "law"), lamQ)]
section
variable {K : PySem.W.Frag} {mg : Str → Option Value} {H H' : Hp} {Q : VK} {o : Addr} {b : Bk} {σ : L2.St} {te : TE}
theorem oc_Text (W : Wd K mg) : OutC K (ga K "InvalidText") 6 := ⟨W.ec_InvalidText, W.xm_InvalidText_ChairError, W.io_InvalidText_ValueError, W.io_InvalidText_DaybookError, W.io_InvalidText_DecodeError, W.io_InvalidText_InvalidBooking, W.io_InvalidText_InvalidNumber, W.io_InvalidText_InvalidOperation, W.io_InvalidText_InvalidPlan, W.io_InvalidText_InvalidText, W.io_InvalidText_NotEnough, W.io_InvalidText_TooFewChairs⟩
/-- a booking drawn, told by words and steps -/
structure SmAt (N : List Addr) (H : Hp) (v : V) (b : Bk) : Prop where
  ok : b.ok
  sm : b.sm
  ex : ∃ r wl sl ps, v = .ref r ∧ wl ∉ N ∧ sl ∉ N ∧ H r = some (.tup [.ref wl, .ref sl]) ∧ H wl = some (.lst (b.words.map V.str)) ∧ H sl = some (.lst ps) ∧ StepsAt H ps b.steps
theorem SmAt.keep {N : List Addr} {v : V} (h : SmAt N H v b) (k1 : ∀ a xs, a ∉ N → H a = some (.lst xs) → H' a = some (.lst xs)) (k2 : ∀ a xs, H a = some (.tup xs) → H' a = some (.tup xs)) : SmAt N H' v b := by
  obtain ⟨r, wl, sl, ps, e, n1, n2, e1, e2, e3, e4⟩ := h.ex
  exact ⟨h.ok, h.sm, r, wl, sl, ps, e, n1, n2, k2 _ _ e1, k1 _ _ n1 e2, k1 _ _ n2 e3, pr_im (fun _ _ ⟨p, q1, q2⟩ => ⟨p, q1, k2 _ _ q2⟩) e4⟩
/-- a list of a booking's steps -/
def LsAt (D : Addr) (H : Hp) (v : V) (b : Bk) : Prop := ∃ a ps, v = V.ref a ∧ a ≠ D ∧ H a = some (.lst ps) ∧ StepsAt H ps b.steps
def RwAt (D : Addr) (H : Hp) (v : V) (r : Option Bk) : Prop := (r = none ∧ v = .non) ∨ ∃ b, r = some b ∧ LsAt D H v b
theorem LsAt.keep {D : Addr} {v : V} (h : LsAt D H v b) (k1 : ∀ a xs, a ≠ D → H a = some (.lst xs) → H' a = some (.lst xs)) (k2 : ∀ a xs, H a = some (.tup xs) → H' a = some (.tup xs)) : LsAt D H' v b := by
  obtain ⟨a, ps, e, n, e1, e2⟩ := h
  exact ⟨a, ps, e, n, k1 _ _ n e1, pr_im (fun _ _ ⟨p, q1, q2⟩ => ⟨p, q1, k2 _ _ q2⟩) e2⟩
theorem LsAt.mono {D : Addr} {v : V} (h : LsAt D H v b) (s : Same H H') : LsAt D H' v b := h.keep (fun _ _ _ e => s _ _ e) fun _ _ e => s _ _ e
theorem RwAt.keep {D : Addr} {v : V} {r : Option Bk} (h : RwAt D H v r) (k1 : ∀ a xs, a ≠ D → H a = some (.lst xs) → H' a = some (.lst xs)) (k2 : ∀ a xs, H a = some (.tup xs) → H' a = some (.tup xs)) : RwAt D H' v r := by
  rcases h with h | ⟨b, e, h⟩
  · exact .inl h
  · exact .inr ⟨b, e, h.keep k1 k2⟩
theorem RwAt.mono {D : Addr} {v : V} {r : Option Bk} (h : RwAt D H v r) (s : Same H H') : RwAt D H' v r := h.keep (fun _ _ _ e => s _ _ e) fun _ _ e => s _ _ e
/-- two rows of steps are alike -/
theorem alk_steps {p q : Addr} {vs ws : List V} {l : List Stp} (h1 : H p = some (.lst vs)) (h2 : H q = some (.lst ws)) (s1 : StepsAt H vs l) (s2 : StepsAt H ws l) (hl : l.length ≤ 10000) : A2 H (.ref p) (.ref q) := by
  have l1 := steps_len s1
  have l2 := steps_len s2
  refine .inr ⟨p, q, vs, ws, rfl, rfl, .inl ⟨h1, h2⟩, by omega, by omega, fun i x y hx hy => ?_⟩
  obtain ⟨st, hst, a, rfl, ha⟩ := pr_at s1 hx
  obtain ⟨st', hst', c, rfl, hc⟩ := pr_at s2 hy
  rw [hst] at hst'
  cases hst'
  refine .inr ⟨a, c, _, _, rfl, rfl, .inr ⟨ha, hc⟩, rfl, by cases st <;> exact Nat.le_of_ble_eq_true rfl, fun j x y hx hy => ?_⟩
  rw [hx] at hy
  cases hy
  have hp : (stepV st).all plV = true := by
    cases st with
    | turn => decide +kernel
    | mt b n =>
      have h : plV (.str (roomS b)) = true := by cases b <;> decide +kernel
      show (plV (.str (roomS b)) && (plV (.int n) && true)) = true
      rw [h]
      rfl
  exact ⟨rfl, List.all_eq_true.mp hp x (List.mem_of_getElem? hx)⟩
/-! ### rows as data -/
def rowD : Option Bk → PyData
  | none => .none
  | some b => .list (b.steps.map stepD)
theorem dp_ls {D : Addr} {v : V} (h : LsAt D H v b) : Dp K H v (rowD (some b)) := by
  obtain ⟨a, ps, rfl, _, e1, e2⟩ := h
  exact .lst (SqL.of e1) (dp_steps e2)
theorem dp_row {D : Addr} {v : V} {r : Option Bk} (h : RwAt D H v r) : Dp K H v (rowD r) := by
  rcases h with ⟨rfl, rfl⟩ | ⟨b, rfl, h⟩
  · exact .non
  · exact dp_ls h
theorem dp_rows {D : Addr} : ∀ {vs : List V} {rs : List (Option Bk)}, Paired (RwAt D H) vs rs → DpAll K H vs (rs.map rowD)
  | _, _, .nil => .nil
  | _, _, .cons h t => .cons (dp_row h) (dp_rows t)
theorem dp_lss {D : Addr} : ∀ {vs : List V} {bs : List Bk}, Paired (LsAt D H) vs bs → DpAll K H vs ((bs.map some).map rowD)
  | _, _, .nil => .nil
  | _, _, .cons h t => .cons (dp_ls h) (dp_lss t)
theorem lay_row (r : Option Bk) : Lay 2 (rowD r) := by
  cases r with
  | none => exact lay_none 2
  | some b => exact lay_list (lay_map lay_step b.steps)
theorem lay_rows (rs : List (Option Bk)) : Lay 3 (.list (rs.map rowD)) := lay_list (lay_map lay_row rs)
theorem eqv_non (r : Option Bk) : PyData.eqv (rowD r) .none = decide (r = none) := by
  cases r with
  | none => rfl
  | some b => rfl
theorem any_non (rs : List (Option Bk)) : (rs.map rowD).any (fun z => PyData.eqv z .none) = rs.any (·.isNone) := by
  induction rs with
  | nil => rfl
  | cons r rs ih =>
    rw [List.map_cons, List.any_cons, ih, eqv_non, List.any_cons]
    cases r with
    | none => rfl
    | some b => rfl
theorem any_some : ∀ bs : List Bk, (bs.map some).any (·.isNone) = false
  | [] => rfl
  | _ :: bs => any_some bs
theorem any_no {rs : List (Option Bk)} (h : none ∈ rs) : rs.any (·.isNone) = true := List.any_eq_true.mpr ⟨none, h, rfl⟩
/-- ("value", rows) beside the same -/
theorem x_neRows {p q T U : Addr} {vs ws : List V} {rs : List (Option Bk)} (h1 : H p = some (.tup [.str "value", .ref T])) (h2 : H T = some (.lst vs)) (s1 : DpAll K H vs (rs.map rowD)) (h3 : H q = some (.tup [.str "value", .ref U])) (h4 : H U = some (.lst ws)) (s2 : DpAll K H ws (rs.map rowD)) (k : Q (.bl false) H) : rNeU K (.ref p) (.ref q) H Q := by
  have dp : ∀ {p T : Addr} {vs : List V}, H p = some (.tup [.str "value", .ref T]) → H T = some (.lst vs) → DpAll K H vs (rs.map rowD) → Dp K H (.ref p) (.tuple [.str "value", .list (rs.map rowD)]) := fun h1 h2 s1 => .tup (SqT.of h1) (.cons (.str _) (.cons (.lst (SqL.of h2) s1) .nil))
  have ll : Lay 4 (.tuple [.str "value", .list (rs.map rowD)]) := by
    refine lay_tup fun d hd => ?_
    simp only [List.mem_cons, List.not_mem_nil, or_false] at hd
    rcases hd with e | e <;> rw [e]
    · exact lay_str 3 _ (by decide +kernel)
    · exact lay_rows rs
  refine x_neDp (dp h1 h2 s1) (dp h3 h4 s2) ll.shaped ll.shaped ?_
  rw [PySem.SeqAt.eqv_refl _ ll.1]
  exact k
theorem firstNo_none {bs : List Bk} {i : Nat} (h : firstNo (bs.map some) i) : False := by
  have := h.1
  rw [List.getElem?_map] at this
  cases e : bs[i]? <;> rw [e] at this <;> cases this
theorem some_inj : ∀ {as bs : List Bk}, as.map some = bs.map some → as = bs
  | [], [], _ => rfl
  | [], _ :: _, h => nomatch h
  | _ :: _, [], h => nomatch h
  | a :: as, b :: bs, h => by
    have h1 := List.cons.inj h
    rw [Option.some.inj h1.1, some_inj h1.2]
theorem steps_le {b : Bk} (h : b.ok) : b.steps.length ≤ 60 := by
  cases b with
  | mt r n => exact Nat.le_of_ble_eq_true rfl
  | sr r n m t => show ((serL n m t).map _).length ≤ 60; rw [List.length_map, serL_len]; exact h.2.2.1
  | al l => show (altS true l).length ≤ 60; rw [altS_len]; exact h.2.2
  | tn => exact Nat.le_of_ble_eq_true rfl
theorem atI_end {xs : List V} {v : V} (h : xs[xs.length - 1]? = some v) : atI xs (-1) = some v := by
  obtain ⟨hl, e⟩ := List.getElem?_eq_some_iff.mp h
  have h2 : xs = xs.take (xs.length - 1) ++ [v] := by
    conv => lhs; rw [← List.take_append_drop (xs.length - 1) xs]
    rw [List.drop_eq_getElem_cons hl, e, List.drop_eq_nil_of_le (by omega)]
  rw [h2]
  exact atI_last _ v
/-- one more list of steps -/
theorem ls_put {D M : Addr} {H0 Ha Hb : Hp} {zs ps : List V} {bs : List Bk} {j : Nat} {b : Bk} (hD : H0 D = none) (ha : Ha D = some (.lst zs)) (sa : Same H0 Ha) (sb : Same Ha Hb) (hM : Ha M = none) (eb : Hb M = some (.lst ps)) (hst : StepsAt Hb ps b.steps) (hb : bs[j]? = some b) (hj : j < 1000) (hzs : Paired (LsAt D Ha) zs (bs.take j)) :
    ∃ acc, Hb D = some (.lst acc) ∧ acc.length < sizeLine ∧ Same H0 (upd Hb D (.lst (acc ++ [V.ref M]))) ∧ ∃ zs, (upd Hb D (.lst (acc ++ [V.ref M]))) D = some (.lst zs) ∧ Paired (LsAt D (upd Hb D (.lst (acc ++ [V.ref M])))) zs (bs.take (j + 1)) := by
  have hDb := sb _ _ ha
  have nD : M ≠ D := fun z => by rw [z, ha] at hM; cases hM
  have kT : ∀ c xs, Hb c = some (.tup xs) → (upd Hb D (.lst (zs ++ [V.ref M]))) c = some (.tup xs) := fun c xs e => by
    rw [upd_ne (fun z => by rw [z, hDb] at e; cases e)]
    exact e
  have hzl := pr_len hzs
  rw [List.length_take] at hzl
  refine ⟨zs, hDb, sz5' (by omega), Same.mut (sa.trans sb) hD, zs ++ [.ref M], upd_same, ?_⟩
  rw [List.take_add_one, hb]
  exact pr_snoc (pr_im (fun v c hc => (hc.mono sb).keep (fun e zs n ee => by rw [upd_ne n]; exact ee) kT) hzs) ⟨M, ps, rfl, nD, by rw [upd_ne nD]; exact eb, pr_im (fun _ _ ⟨p, q1, q2⟩ => ⟨p, q1, kT _ _ q2⟩) hst⟩
/-- one more row -/
theorem rw_put {D : Addr} {H0 Ha Hb : Hp} {zs : List V} {rs : List (Option Bk)} {j : Nat} {v : V} {r : Option Bk} (hD : H0 D = none) (ha : Ha D = some (.lst zs)) (sa : Same H0 Ha) (sb : Same Ha Hb) (hb : rs[j]? = some r) (hj : j < 1000) (hzs : Paired (RwAt D Ha) zs (rs.take j)) (hv : RwAt D Hb v r) :
    ∃ acc, Hb D = some (.lst acc) ∧ acc.length < sizeLine ∧ Same H0 (upd Hb D (.lst (acc ++ [v]))) ∧ ∃ zs, (upd Hb D (.lst (acc ++ [v]))) D = some (.lst zs) ∧ Paired (RwAt D (upd Hb D (.lst (acc ++ [v])))) zs (rs.take (j + 1)) := by
  have hDb := sb _ _ ha
  have kT : ∀ c xs, Hb c = some (.tup xs) → (upd Hb D (.lst (zs ++ [v]))) c = some (.tup xs) := fun c xs e => by
    rw [upd_ne (fun z => by rw [z, hDb] at e; cases e)]
    exact e
  have hzl := pr_len hzs
  rw [List.length_take] at hzl
  refine ⟨zs, hDb, sz5' (by omega), Same.mut (sa.trans sb) hD, zs ++ [v], upd_same, ?_⟩
  rw [List.take_add_one, hb]
  exact pr_snoc (pr_im (fun v c hc => (hc.mono sb).keep (fun e zs n ee => by rw [upd_ne n]; exact ee) kT) hzs) (hv.keep (fun e zs n ee => by rw [upd_ne n]; exact ee) kT)
theorem Dr.bks {h q : Addr} (d : Dr H h q) (s : Same2 h q H H') (hb : BkAt K H o b) : BkAt K H' o b := by
  obtain ⟨m, ix, ns, e1, e2, _, _⟩ := d.ex
  exact hb.keep (fun c C dx fs e => s _ _ (fun z => by rw [z, e1] at e; cases e) (fun z => by rw [z, e2] at e; cases e) e) fun c xs e => d.tup s e
end
section
variable {P : Program} [SP : SupP P mfile] {w : World} {K : PySem.W.Frag} {mg : Str → Option Value} {base : Heap}
theorem ok_parse_bookings (W : Wd K mg) : FnR P w K mg base CX0 11 (ga K "parse_bookings") (fun vs H Q _ => spPB K vs H Q fun _ _ _ => False) := fn_calm (okx_parse_bookings (P := P) W)
abbrev lawLv : Nat := 20
def spLaw (K : PySem.W.Frag) : Sp := fun vs H Q _ => ∃ (a : Addr) (ns : List Int), vs = [.ref a] ∧ SqL K H a (ns.map V.int) ∧ ns.length ≤ 1000 ∧ Tabs (lamT K) H ∧ ∀ H', Q (.bl true) H'
theorem ok_law (W : Wd K mg) (TB : LamX.TabB base mg (cdA K (ga K "law")) (tbA K (ga K "law"))) : FnOk P w K mg base CX0 lawLv (ga K "law") (fdOf K (ga K "law")) ["_law_script"] (spLaw K) := by
  refine fnok_code W.F_law sc_law (fun vs H Q E ⟨a, ns, ev, _⟩ => by rw [ev]; rfl) fun cdv A outer s H vs Q E hcd hr ⟨a, ns, ev, hs, hn, hT, k⟩ => ?_
  subst ev
  have hcode : cdv = .ref (cdA K (ga K "law")) := hcd.symm.trans W.tb_law.code
  refine ⟨_, PSs.nox (pss_cons (ps_set (i := 1) sc_law.nd rfl (Or.inr rfl) (pe_callR (ok__law_mix W) (hr.mono (by decide)) W.g__law_mix W.k__law_mix pass0 rfl (pa_cons (pv 0) (pa_cons pe_int pa_nil)))) (pss_cons (ps_for PassesOwn.never rfl (pi_range1 (by rfl) W.f_range (pa_cons pe_int pa_nil)) (pg_name (i := 2) sc_law.nd rfl (Or.inl rfl)) (pss_cons (ps_setLc (i := 3) (own := [("_law_k", 11)]) (g := gName 11) (tt := tYes) rfl sc_law.nd rfl rfl (sw_true rfl rfl rfl (by decide +kernel)) (pi_range1 (by rfl) W.f_range (pa_cons (pe_op op_plus pe_int (pe_callR (ok__law_next W) (hr.mono (by decide)) W.g__law_next W.k__law_next pass0 rfl (pa_cons (pv 1) (pa_cons pe_int pa_nil)))) pa_nil)) (blkOk_by (own := [("_law_k", 11)]) (N := N_law) (sc := defScope s_law) (by decide +kernel)) (fun _ _ _ _ _ => (pg_name (i := 11) sc_law.nd rfl (Or.inl rfl))) (fun _ _ _ _ _ => pts_nil) (fun _ _ _ _ _ => (pe_callR (ok__law_booking W) (hr.mono (by decide)) W.g__law_booking W.k__law_booking pass0 rfl (pa_cons (pv 1) pa_nil)))) (pss_cons (ps_set (i := 4) sc_law.nd rfl (Or.inl rfl) (TxX.pe_joinK K pe_str (pe_lc (own := [("_law_words", 12), ("_law_steps", 13)]) (tt := tYes) rfl sc_law.nd (pi_listK K (pv 3)) (blkOk_by (own := [("_law_words", 12), ("_law_steps", 13)]) (N := N_law) (sc := defScope s_law) (by decide +kernel)) (fun _ _ _ _ _ => (pg_tupK (n := 2) K rfl (pgs_cons (pg_name (i := 12) sc_law.nd rfl (Or.inl rfl)) (pgs_cons (pg_name (i := 13) sc_law.nd rfl (Or.inl rfl)) pgs_nil)))) (fun _ _ _ _ _ => pts_nil) (fun _ _ _ _ _ => (TxX.pe_joinK K pe_str (pv 12)))))) (pss_cons (ps_set (i := 5) sc_law.nd rfl (Or.inl rfl) (pe_callR (ok_parse_bookings (P := P) W) (hr.mono (by decide)) W.g_parse_bookings W.k_parse_bookings pass0 rfl (pa_cons (pv 4) pa_nil))) (pss_cons (ps_if (pt_not (pt_val (pe_callR (ok__law_alike W) (hr.mono (by decide)) W.g__law_alike W.k__law_alike pass0 rfl (pa_cons (pe_lc (own := [("_law_booking_here", 14)]) (g := gName 14) (tt := tYes) rfl sc_law.nd (pi_listK K (pv 5)) (blkOk_by (own := [("_law_booking_here", 14)]) (N := N_law) (sc := defScope s_law) (by decide +kernel)) (fun _ _ _ _ _ => (pg_name (i := 14) sc_law.nd rfl (Or.inl rfl))) (fun _ _ _ _ _ => pts_nil) (fun _ _ _ _ _ => (SuX.pe_alt (pe_listG (E := fun _ _ _ => False) (G2.PGen2.pgen (G2.pgen2_meth0 W.c_Meeting W.m_Meeting_planned (okg_Meeting_planned W) (hr.mono (by decide)) (FunD.bindsN (ps := ["self"]) W.F_Meeting_planned (fun _ _ _ _ _ _ us hl => match us, hl with | [_], _ => rfl)) (pv 14))) G2.passF (fun _ _ _ z => z.elim) (hr.mono (by decide)) rfl W.f_list (by decide +kernel)) (SuX.pe_alt (pe_listG (E := fun _ _ _ => False) (G2.PGen2.pgen (G2.pgen2_meth0 W.c_Series W.m_Series_planned (okg_Meeting_planned W) (hr.mono (by decide)) (FunD.bindsN (ps := ["self"]) W.F_Meeting_planned (fun _ _ _ _ _ _ us hl => match us, hl with | [_], _ => rfl)) (pv 14))) G2.passF (fun _ _ _ z => z.elim) (hr.mono (by decide)) rfl W.f_list (by decide +kernel)) (SuX.pe_alt (pe_listG (E := fun _ _ _ => False) (G2.PGen2.pgen (G2.pgen2_meth0 W.c_Alternation W.m_Alternation_planned (okg_Booking_planned W) (hr.mono (by decide)) (FunD.bindsN (ps := ["self"]) W.F_Booking_planned (fun _ _ _ _ _ _ us hl => match us, hl with | [_], _ => rfl)) (pv 14))) G2.passF (fun _ _ _ z => z.elim) (hr.mono (by decide)) rfl W.f_list (by decide +kernel)) (pe_listG (E := fun _ _ _ => False) (G2.PGen2.pgen (G2.pgen2_meth0 W.c_Turning W.m_Turning_planned (okg_Turning_planned W) (hr.mono (by decide)) (FunD.bindsN (ps := ["self"]) W.F_Turning_planned (fun _ _ _ _ _ _ us hl => match us, hl with | [_], _ => rfl)) (pv 14))) G2.passF (fun _ _ _ z => z.elim) (hr.mono (by decide)) rfl W.f_list (by decide +kernel))))))) (pa_cons (pe_lc (own := [("_law_words", 12), ("_law_steps", 13)]) (tt := tYes) rfl sc_law.nd (pi_listK K (pv 3)) (blkOk_by (own := [("_law_words", 12), ("_law_steps", 13)]) (N := N_law) (sc := defScope s_law) (by decide +kernel)) (fun _ _ _ _ _ => (pg_tupK (n := 2) K rfl (pgs_cons (pg_name (i := 12) sc_law.nd rfl (Or.inl rfl)) (pgs_cons (pg_name (i := 13) sc_law.nd rfl (Or.inl rfl)) pgs_nil)))) (fun _ _ _ _ _ => pts_nil) (fun _ _ _ _ _ => (pv 13))) pa_nil))))) (pss_one (ps_ret pe_bl)) pss_nil) (pss_cons (ps_if (pt_cmpR (op_neK K hr.units) (pe_lc (own := [("_law_booking_here", 14)]) (g := gName 14) (tt := tYes) rfl sc_law.nd (pi_listK K (pv 5)) (blkOk_by (own := [("_law_booking_here", 14)]) (N := N_law) (sc := defScope s_law) (by decide +kernel)) (fun _ _ _ _ _ => (pg_name (i := 14) sc_law.nd rfl (Or.inl rfl))) (fun _ _ _ _ _ => pts_nil) (fun _ _ _ _ _ => (SuX.pe_alt (pe_propR W.c_Meeting W.p_Meeting_line (ok_Meeting_line W) (hr.mono (by decide)) (pv 14)) (SuX.pe_alt (pe_propR W.c_Series W.p_Series_line (ok_Series_line W) (hr.mono (by decide)) (pv 14)) (SuX.pe_alt (pe_propR W.c_Alternation W.p_Alternation_line (ok_Booking_line W) (hr.mono (by decide)) (pv 14)) (pe_propR W.c_Turning W.p_Turning_line (ok_Turning_line W) (hr.mono (by decide)) (pv 14))))))) (StrX.pe_splitK (pv 4) pe_str) (nomark _)) (pss_one (ps_ret pe_bl)) pss_nil) (pss_cons (ps_set (i := 6) sc_law.nd rfl (Or.inl rfl) (pe_lst (pa_cons (SuX.pe_alt (pe_propR W.c_Meeting W.p_Meeting_line (ok_Meeting_line W) (hr.mono (by decide)) (pe_ix (ix_K K) (pv 5) pe_int (fun _ _ => rfl))) (SuX.pe_alt (pe_propR W.c_Series W.p_Series_line (ok_Series_line W) (hr.mono (by decide)) (pe_ix (ix_K K) (pv 5) pe_int (fun _ _ => rfl))) (SuX.pe_alt (pe_propR W.c_Alternation W.p_Alternation_line (ok_Booking_line W) (hr.mono (by decide)) (pe_ix (ix_K K) (pv 5) pe_int (fun _ _ => rfl))) (pe_propR W.c_Turning W.p_Turning_line (ok_Turning_line W) (hr.mono (by decide)) (pe_ix (ix_K K) (pv 5) pe_int (fun _ _ => rfl)))))) (pa_cons (SuX.pe_alt (pe_propR W.c_Meeting W.p_Meeting_line (ok_Meeting_line W) (hr.mono (by decide)) (pe_ix (ix_K K) (pv 5) (pe_un un_neg pe_int) (fun _ _ => rfl))) (SuX.pe_alt (pe_propR W.c_Series W.p_Series_line (ok_Series_line W) (hr.mono (by decide)) (pe_ix (ix_K K) (pv 5) (pe_un un_neg pe_int) (fun _ _ => rfl))) (SuX.pe_alt (pe_propR W.c_Alternation W.p_Alternation_line (ok_Booking_line W) (hr.mono (by decide)) (pe_ix (ix_K K) (pv 5) (pe_un un_neg pe_int) (fun _ _ => rfl))) (pe_propR W.c_Turning W.p_Turning_line (ok_Turning_line W) (hr.mono (by decide)) (pe_ix (ix_K K) (pv 5) (pe_un un_neg pe_int) (fun _ _ => rfl)))))) pa_nil)))) (pss_cons (ps_if (pt_cmpR (op_neK K hr.units) (pe_callR (ok_format_bookings W) (hr.mono (by decide)) W.g_format_bookings W.k_format_bookings pass0 rfl (pa_cons (pe_ix (ix_K K) (pv 5) pe_int (fun _ _ => rfl)) (pa_cons (pe_ix (ix_K K) (pv 5) (pe_un un_neg pe_int) (fun _ _ => rfl)) pa_nil))) (TxX.pe_joinK K pe_str (pv 6)) (nomark _)) (pss_one (ps_ret pe_bl)) pss_nil) (pss_one (ps_for PassesOwn.never rfl (pi_range1 (by rfl) W.f_range (pa_cons pe_int pa_nil)) (pg_name (i := 7) sc_law.nd rfl (Or.inl rfl)) (pss_cons (ps_set (i := 10) sc_law.nd rfl (Or.inr rfl) (pe_callR (ok__law_bent W) (hr.mono (by decide)) W.g__law_bent W.k__law_bent pass0 rfl (pa_cons (pv 1) (pa_cons (pv 4) pa_nil)))) (pss_cons (ps_set (i := 8) sc_law.nd rfl (Or.inl rfl) (pe_ifExp (pt_cmpR (op_neK K hr.units) (pv 10) pe_str (nomark _)) (pe_lc (own := [("_law_line", 15)]) (g := gName 15) (tt := tYes) rfl sc_law.nd (pi_listK K (StrX.pe_splitK (pv 10) pe_str)) (blkOk_by (own := [("_law_line", 15)]) (N := N_law) (sc := defScope s_law) (by decide +kernel)) (fun _ _ _ _ _ => (pg_name (i := 15) sc_law.nd rfl (Or.inl rfl))) (fun _ _ _ _ _ => pts_nil) (fun _ _ _ _ _ => (pe_callR (ok__law_read W) (hr.mono (by decide)) W.g__law_read W.k__law_read pass0 rfl (pa_cons (StrX.pe_splitK (pv 15) pe_str) pa_nil)))) (pe_lst pa_nil))) (pss_cons (ps_set (i := 9) sc_law.nd rfl (Or.inl rfl) (pe_lamF (k := lamK) (T := lamT K) (P := tbA K (ga K "law")) W.F__law_outcome W.g__law_outcome (FunD.bindsN (ps := ["_law_call"]) W.F__law_outcome (fun _ _ _ _ _ _ us hl => match us, hl with | [_], _ => rfl)) sc__law_outcome (fun _ => law_outcome_givesK K W (hr.mono (by decide))) TB hcode (List.mem_singleton.mpr rfl) (fun p hp _ => by rw [List.mem_singleton.mp hp]; rfl) (hr.mono (by decide)) (LamX.lamS_by (sc := defScope s_law) (by decide +kernel)) (fun A outer s H E f c' hr => (pe_lc (own := [("_law_booking_here", 14)]) (g := gName 14) (tt := tYes) rfl sc_law.nd (pi_listK K (pe_callR (okx_parse_bookings (P := P) W) (hr.mono (by decide)) W.g_parse_bookings W.k_parse_bookings (passes_call (takes_of rfl rfl rfl rfl) (fun _ _ _ _ h => h)) rfl (pa_cons (pv 10) pa_nil))) (LsX.blkOk_nm (own := [("_law_booking_here", 14)]) (N := N_law) { kind := .function, names := [("_law_bent_here", .free), ("parse_bookings", .globalImplicit)], isGenerator := false, isCoroutine := false } (by decide +kernel) rfl) (fun _ _ _ _ _ => (pg_name (i := 14) sc_law.nd rfl (Or.inl rfl))) (fun _ _ _ _ _ => pts_nil) (fun _ _ _ _ _ => (SuX.pe_alt (pe_listG (E := fun _ _ _ => False) (G2.PGen2.pgen (G2.pgen2_meth0 W.c_Meeting W.m_Meeting_planned (okg_Meeting_planned W) (hr.mono (by decide)) (FunD.bindsN (ps := ["self"]) W.F_Meeting_planned (fun _ _ _ _ _ _ us hl => match us, hl with | [_], _ => rfl)) (pv 14))) G2.passF (fun _ _ _ z => z.elim) (hr.mono (by decide)) rfl W.f_list (by decide +kernel)) (SuX.pe_alt (pe_listG (E := fun _ _ _ => False) (G2.PGen2.pgen (G2.pgen2_meth0 W.c_Series W.m_Series_planned (okg_Meeting_planned W) (hr.mono (by decide)) (FunD.bindsN (ps := ["self"]) W.F_Meeting_planned (fun _ _ _ _ _ _ us hl => match us, hl with | [_], _ => rfl)) (pv 14))) G2.passF (fun _ _ _ z => z.elim) (hr.mono (by decide)) rfl W.f_list (by decide +kernel)) (SuX.pe_alt (pe_listG (E := fun _ _ _ => False) (G2.PGen2.pgen (G2.pgen2_meth0 W.c_Alternation W.m_Alternation_planned (okg_Booking_planned W) (hr.mono (by decide)) (FunD.bindsN (ps := ["self"]) W.F_Booking_planned (fun _ _ _ _ _ _ us hl => match us, hl with | [_], _ => rfl)) (pv 14))) G2.passF (fun _ _ _ z => z.elim) (hr.mono (by decide)) rfl W.f_list (by decide +kernel)) (pe_listG (E := fun _ _ _ => False) (G2.PGen2.pgen (G2.pgen2_meth0 W.c_Turning W.m_Turning_planned (okg_Turning_planned W) (hr.mono (by decide)) (FunD.bindsN (ps := ["self"]) W.F_Turning_planned (fun _ _ _ _ _ _ us hl => match us, hl with | [_], _ => rfl)) (pv 14))) G2.passF (fun _ _ _ z => z.elim) (hr.mono (by decide)) rfl W.f_list (by decide +kernel)))))))) rfl rfl (.inl rfl) rfl (fun _ _ _ _ _ => rfl))) (pss_one (ps_if (pt_cmpR (op_neK K hr.units) (pv 9) (pe_ifExp (pt_cmpR (DpX.op_inDK K (DpX.units65 hr)) pe_non (pv 8) rfl) (pe_tup (pa_cons pe_str (pa_cons (pe_bmK K PySem.F.plainAttrs_list PySem.F.slot_list_index PySem.F.type_list_index (DpX.mt_indexDK K (DpX.units65 hr)) (pv 8) (pa_cons pe_non pa_nil)) pa_nil))) (pe_tup (pa_cons pe_str (pa_cons (pv 8) pa_nil)))) (nomark _)) (pss_one (ps_ret pe_bl)) pss_nil))))))))))))))) (pss_one (ps_ret (pe_and (pe_cmpR (op_eqK K hr.units) (pe_callR (ok_parse_bookings (P := P) W) (hr.mono (by decide)) W.g_parse_bookings W.k_parse_bookings pass0 rfl (pa_cons pe_str pa_nil)) (pe_lst pa_nil) (nomark _)) (pe_one (pe_cmpR (op_eqK K hr.units) (pe_callR0 (ok_format_bookings W) (hr.mono (by decide)) W.g_format_bookings W.k_format_bookings pass0 rfl) pe_str (nomark _)))))))), ?_⟩
  walk_at "q"
  refine ⟨a, ns, 42, rfl, hs, hn, fun h q H0 hh0 hq0 s0 D0 => ?_⟩
  have T0 := tabs_same hT s0
  walk_at "q"
  refine x_iR1At (by decide) (by decide) ?_
  refine x_loop walk_range (fun i σ H1 => Dr H1 h q ∧ Tabs (lamT K) H1 ∧ ∃ v2 v3 v4 v5 v6 v7 v8 v9 v10 v11 v12 v13 v14 v15, σ = [some (.ref a), some (.ref h), v2, v3, v4, v5, v6, v7, v8, v9, v10, v11, v12, v13, v14, v15]) ⟨D0, T0, _, _, _, _, _, _, _, _, _, _, _, _, _, _, rfl⟩ (fun _ _ _ _ _ => trivial) ?_ ?_
  · rintro i y σ H1' H1 hi ⟨D1, T1, v2, v3, v4, v5, v6, v7, v8, v9, v10, v11, v12, v13, v14, v15, rfl⟩ ⟨rfl, rfl⟩
    walk_at "q"
    refine ⟨h, q, 4, rfl, D1, by decide, by decide, fun z2 H2 z20 z21 s2 D2 => ?_⟩
    walk_at "q"
    refine x_iR1At (by omega) (by omega) ?_
    refine x_lcG walk_range (fun L j Hj => Dr Hj h q ∧ Same2 h q H2 Hj ∧ ∃ xs bs, Hj L = some (.lst xs) ∧ bs.length = j ∧ Paired (SmAt [h, q, L] Hj) xs bs) (fun L hL => ⟨D2.mono (Same.new hL), Same2.of (Same.new hL), [], [], upd_same, rfl, .nil⟩) (fun _ _ _ _ _ => trivial) ?_ ?_
    · rintro L j y Ha' Ha hL hj ⟨Da, sa, xs, bs, ha, hbl, hps⟩ ⟨rfl, rfl⟩
      obtain ⟨nL1, nL2⟩ := D2.neN hL
      walk_at "q"
      refine ⟨rfl, ?_⟩
      walk_at "q"
      refine ⟨h, q, rfl, Da, fun r wl sl ps b Hc hr0 hwl hsl sc Dc er ew es hst hok hsm => ?_⟩
      have hLc := sc _ _ nL1 nL2 ha
      have hxl := pr_len hps
      have out : ∀ {c : Addr}, Ha c = none → c ∉ [h, q, L] := fun {c} hc hm => by
        obtain ⟨n1, n2⟩ := Da.neN hc
        rcases List.mem_cons.mp hm with z | hm
        · exact n1 z
        rcases List.mem_cons.mp hm with z | hm
        · exact n2 z
        · rw [List.mem_singleton.mp hm, ha] at hc
          cases hc
      have kT : ∀ c zs, Hc c = some (.tup zs) → (upd Hc L (.lst (xs ++ [.ref r]))) c = some (.tup zs) := fun c zs e => by
        rw [upd_ne (fun z => by rw [z, hLc] at e; cases e)]
        exact e
      have kL : ∀ c zs, c ∉ [h, q, L] → Hc c = some (.lst zs) → (upd Hc L (.lst (xs ++ [.ref r]))) c = some (.lst zs) := fun c zs n e => by
        rw [upd_ne (fun z => n (by rw [z]; simp))]
        exact e
      refine ⟨xs, hLc, sz5' (by omega), Dc.other nL1 nL2, Same2.mut (sa.trans sc) hL, xs ++ [.ref r], bs ++ [b], upd_same, by rw [List.length_append, hbl]; rfl, pr_snoc (pr_im (fun v c hc => hc.keep (fun e zs n ee => kL _ _ n (sc _ _ (fun z => n (by rw [z]; simp)) (fun z => n (by rw [z]; simp)) ee)) fun e zs ee => kT _ _ (Da.tup sc ee)) hps) ⟨hok, hsm, r, wl, sl, ps, rfl, out hwl, out hsl, kT _ _ er, kL _ _ (out hwl) ew, kL _ _ (out hsl) es, pr_im (fun _ _ ⟨p, q1, q2⟩ => ⟨p, q1, kT _ _ q2⟩) hst⟩⟩
    rintro L H3 hL ⟨D3, s3, xs, bs, hL3, hbl, hps⟩
    have hb4 : 1 ≤ bs.length ∧ bs.length ≤ 4 := by omega
    have hbok : bsOk bs := fun b hb => by
      obtain ⟨n, hn, rfl⟩ := List.mem_iff_getElem.mp hb
      obtain ⟨x, _, hx⟩ := pr_atR hps (List.getElem?_eq_getElem hn)
      exact ⟨hx.ok, hx.sm⟩
    have hbne : bs ≠ [] := fun z => by rw [z] at hb4; exact absurd hb4.1 (by decide)
    have hxl := pr_len hps
    have T3 := D2.tabs (D1.tabs T1 s2) s3
    clear T1 T0 hT
    have GL : Gd (bs.map Bk.line) 504 := by
      refine ⟨?_, fun a ha => ?_⟩
      · have h2 := tot_le (l := bs.map Bk.line) (k := 125) fun a ha => by
          obtain ⟨b, hb, rfl⟩ := List.mem_map.mp ha
          exact (line_ok (hbok b hb).1 (hbok b hb).2).2.1
        rw [List.length_map] at h2
        have h3 : bs.length * 126 ≤ 4 * 126 := Nat.mul_le_mul_right 126 hb4.2
        omega
      · obtain ⟨b, hb, rfl⟩ := List.mem_map.mp ha
        exact (line_ok (hbok b hb).1 (hbok b hb).2).2.2.1
    walk_at "q"
    refine ⟨⟨_, rfl⟩, ?_⟩
    walk_at "q"
    refine x_iLAt (SqL.of hL3) ?_
    refine x_lcA walk_list (fun i acc _ => acc = ((bs.take i).map Bk.line).map V.str) (fun _ _ _ _ _ _ _ h => h) (fun _ _ => rfl) (by omega) (fun H' s' => SqL.of (s' _ _ hL3)) ?_ ?_
    · rintro i y acc H4 H5 NT NF hTT hF hi s4 rfl ⟨rfl, ey⟩
      obtain ⟨b, hb, hx⟩ := pr_at hps ey
      obtain ⟨r, wl, sl, ps, rfl, n1, n2, er, ew, es, hst⟩ := id hx.ex
      refine x_gTup (s4 _ _ er) rfl ?_
      walk_at "q"
      refine ⟨rfl, ?_⟩
      walk_at "q"
      refine ⟨⟨_, rfl⟩, ?_⟩
      walk_at "q"
      have gw : Gd b.words 126 := ⟨by
        have h2 := tot_le (l := b.words) (k := 20) fun a ha => ((words_ok hx.ok hx.sm).2.2 a ha).2.1
        have h3 : b.words.length * 21 ≤ 6 * 21 := Nat.mul_le_mul_right 21 (words_ok hx.ok hx.sm).2.1
        omega, fun a ha => ((words_ok hx.ok hx.sm).2.2 a ha).2.2.1⟩
      refine x_joinG sp_tl (SqL.of (s4 _ _ ew)) gw (by decide) ?_
      refine hTT _ _ (Same.refl _) ?_
      rw [List.take_add_one, hb, List.map_append, List.map_append]
      rfl
    rintro LL acc H4 hLL s4 hLL2 rfl hdl
    rw [hxl, List.take_length] at hLL2
    refine x_joinG nl_tl (SqL.of hLL2) GL (by decide) ?_
    rw [show Txt.join "\n" (bs.map Bk.line) = txt bs from rfl]
    have htok := txt_ok hbok hb4.2
    have hrw := txt_rws hbok hbne
    walk_at "q"
    refine ⟨txt bs, rfl, ⟨by have := htok.1; omega, htok.2⟩, fun bs' hbs' F ys H5 hF s5 hF5 hbk => ?_, fun i hf => (firstNo_none (by rw [hrw] at hf; exact hf)).elim⟩
    rw [hrw] at hbs'
    have ebs := some_inj hbs'
    subst ebs
    have hyl : ys.length = bs.length := pr_len (R := fun (v : V) (b : Bk) => ∃ o, v = V.ref o ∧ BkAt K H5 o b) hbk
    walk_at "q"
    refine x_iLAt (SqL.of hF5) ?_
    refine x_lcG walk_list (fun D j Hj => Same H5 Hj ∧ ∃ zs, Hj D = some (.lst zs) ∧ Paired (LsAt D Hj) zs (bs.take j)) (fun D hD => ⟨Same.new hD, [], upd_same, .nil⟩) (fun D j Hj _ z => SqL.of (z.1 _ _ hF5)) ?_ ?_
    · rintro D j y Ha' Ha hD hj ⟨sa, zs, ha, hzs⟩ ⟨rfl, ey⟩
      obtain ⟨b, hb, o, rfl, hbo⟩ := pr_at (R := fun (v : V) (b : Bk) => ∃ o, v = V.ref o ∧ BkAt K H5 o b) hbk ey
      walk_at "q"
      refine ⟨rfl, ?_⟩
      walk_at "q"
      refine x_planned (fun Qx h => x_var rfl h) (hbo.mono sa) fun M ps Hb hM sb eb hst => ?_
      exact ls_put hD ha sa sb hM eb hst hb (by omega) hzs
    rintro D1' H6 hD1 ⟨s6, zs, hz6, hzs⟩
    rw [hyl, List.take_length] at hzs
    have hL6 := (s4.trans (s5.trans s6)) _ _ hL3
    have hps6 : Paired (SmAt [h, q, L] H6) xs bs := pr_im (fun v c hc => hc.keep (fun _ _ _ e => (s4.trans (s5.trans s6)) _ _ e) fun _ _ e => (s4.trans (s5.trans s6)) _ _ e) hps
    walk_at "q"
    refine x_iLAt (SqL.of hL6) ?_
    refine x_lcA walk_list (fun i acc _ => Paired (fun (v : V) (b : Bk) => ∃ sl ps, v = V.ref sl ∧ H6 sl = some (.lst ps) ∧ StepsAt H6 ps b.steps) acc (bs.take i)) (fun _ _ _ _ _ _ _ h => h) (fun _ _ => .nil) (by omega) (fun H' s' => SqL.of (s' _ _ hL6)) ?_ ?_
    · rintro i y acc H7 H8 NT NF hTT hFF hi s7 hac ⟨rfl, ey⟩
      obtain ⟨b, hb, hx⟩ := pr_at hps6 ey
      obtain ⟨r, wl, sl, ps, rfl, n1, n2, er, ew, es, hst⟩ := id hx.ex
      refine x_gTup (s7 _ _ er) rfl ?_
      walk_at "q"
      refine ⟨rfl, ?_⟩
      walk_at "q"
      refine hTT _ _ (Same.refl _) ?_
      rw [List.take_add_one, hb]
      exact pr_snoc hac ⟨sl, ps, rfl, es, hst⟩
    rintro D2' acc H7 hD2 s7 hD27 hac hdl
    rw [hxl, List.take_length] at hac
    walk_at "q"
    have hal : A3 H7 (.ref D1') (.ref D2') := by
      have l1 := pr_len hzs
      have l2 := pr_len hac
      refine .inr ⟨D1', D2', zs, acc, rfl, rfl, .inl ⟨s7 _ _ hz6, hD27⟩, by omega, by omega, fun i x y hx hy => ?_⟩
      obtain ⟨b, hb, c, ps, rfl, _, e1, e2⟩ := pr_at hzs hx
      obtain ⟨b', hb', sl, ps', rfl, e3, e4⟩ := pr_at hac hy
      rw [hb] at hb'
      cases hb'
      exact alk_steps (s7 _ _ e1) (s7 _ _ e3) (e2.mono s7) (e4.mono s7) (by have := steps_le (hbok b (List.mem_of_getElem? hb)).1; omega)
    refine ⟨_, _, rfl, hal, fun H8 s8 => ?_⟩
    refine ⟨true, rfl, ?_⟩
    rw [show (!true) = false from rfl, if_neg Bool.false_ne_true]
    with_reducible refine x_next ?_
    dsimp only
    have s58 : Same H5 H8 := s6.trans (s7.trans s8)
    have hF8 := s58 _ _ hF5
    have hbk8 : BksAt K H8 ys bs := pr_im (R := fun (v : V) (b : Bk) => ∃ o, v = V.ref o ∧ BkAt K H5 o b) (fun _ _ ⟨o, q1, q2⟩ => ⟨o, q1, q2.mono s58⟩) hbk
    have s38 : Same H3 H8 := s4.trans (s5.trans s58)
    clear hal hac hzs hps6 hbk hz6 hD27 s58 s8 s7 s6 s5 s4 hLL2
    walk_at "q"
    refine x_iLAt (SqL.of hF8) ?_
    refine x_lcA walk_list (fun i acc _ => acc = ((bs.take i).map Bk.line).map V.str) (fun _ _ _ _ _ _ _ h => h) (fun _ _ => rfl) (by omega) (fun H' s' => SqL.of (s' _ _ hF8)) ?_ ?_
    · rintro i y acc H4 H5 NT NF hTT hFF hi s4 rfl ⟨rfl, ey⟩
      obtain ⟨b, hb, o, rfl, hbo⟩ := pr_at (R := fun (v : V) (b : Bk) => ∃ o, v = V.ref o ∧ BkAt K H8 o b) hbk8 ey
      walk_at "q"
      refine ⟨rfl, ?_⟩
      walk_at "q"
      refine x_line W (fun Qx h => x_var rfl h) (hbo.mono s4) (hbok b (List.mem_of_getElem? hb)).2 fun H6 s6 => ?_
      refine hTT _ _ s6 ?_
      rw [List.take_add_one, hb, List.map_append, List.map_append]
      rfl
    rintro D3' acc H9 hD3 s9 hD39 rfl hdl3
    rw [hyl, List.take_length] at hD39
    walk_at "q"
    refine ⟨⟨_, rfl⟩, ?_⟩
    walk_at "q"
    refine x_split (by decide +kernel) (by have := htok.1; omega) fun p10 hp10 => ?_
    generalize hN10 : upd _ p10 _ = H10; obtain ⟨s10, e10⟩ := nws hN10 hp10
    rw [txt_split hbok hbne] at e10
    refine x_neStrs (SqL.of (s10 _ _ hD39)) (SqL.of e10) GL.ok GL.ok ?_
    rw [decide_eq_true rfl]
    walk_at "q"
    have hF10 := (s9.trans s10) _ _ hF8
    have hbk10 : BksAt K H10 ys bs := pr_im (R := fun (v : V) (b : Bk) => ∃ o, v = V.ref o ∧ BkAt K H8 o b) (fun _ _ ⟨o, q1, q2⟩ => ⟨o, q1, q2.mono (s9.trans s10)⟩) hbk8
    have s310 : Same H3 H10 := s38.trans (s9.trans s10)
    clear hbk8 hF8 s38 e10 hD39 s9 s10
    obtain ⟨o1, b1, hy1, hb1, hbo1⟩ : ∃ o b, ys[0]? = some (V.ref o) ∧ bs[0]? = some b ∧ BkAt K H10 o b := by
      have h0 : 0 < ys.length := by omega
      obtain ⟨b, hb, o, e, hbo⟩ := pr_at (R := fun (v : V) (b : Bk) => ∃ o, v = V.ref o ∧ BkAt K H10 o b) hbk10 (List.getElem?_eq_getElem h0)
      exact ⟨o, b, by rw [← e]; exact List.getElem?_eq_getElem h0, hb, hbo⟩
    obtain ⟨o2, b2, hy2, hb2, hbo2⟩ : ∃ o b, ys[ys.length - 1]? = some (V.ref o) ∧ bs[ys.length - 1]? = some b ∧ BkAt K H10 o b := by
      have h0 : ys.length - 1 < ys.length := by omega
      obtain ⟨b, hb, o, e, hbo⟩ := pr_at (R := fun (v : V) (b : Bk) => ∃ o, v = V.ref o ∧ BkAt K H10 o b) hbk10 (List.getElem?_eq_getElem h0)
      exact ⟨o, b, by rw [← e]; exact List.getElem?_eq_getElem h0, hb, hbo⟩
    have hok1 := hbok b1 (List.mem_of_getElem? hb1)
    have hok2 := hbok b2 (List.mem_of_getElem? hb2)
    refine x_line W (fun Qx hq => ?_) hbo1 hok1.2 fun H11 s11 => ?_
    · walk_at "q"
      exact x_ixL (SqL.of hF10) (i := ((0 : Nat) : Int)) (atI_nat hy1) hq
    walk_at "q"
    refine x_line W (fun Qx hq => ?_) (hbo2.mono s11) hok2.2 fun H12 s12 => ?_
    · walk_at "q"
      exact x_ixL (SqL.of (s11 _ _ hF10)) (atI_end hy2) hq
    walk_at "q"
    refine ⟨sz rfl, fun u13 hu13 => ?_⟩; generalize hN13 : upd _ u13 _ = H13; obtain ⟨s13, e13⟩ := nws hN13 hu13
    have s1013 := s11.trans (s12.trans s13)
    walk_at "q"
    refine x_ixL (SqL.of (s1013 _ _ hF10)) (i := ((0 : Nat) : Int)) (atI_nat hy1) ?_
    walk_at "q"
    refine x_ixL (SqL.of (s1013 _ _ hF10)) (atI_end hy2) ?_
    walk_at "q"
    refine ⟨[], [.ref o1, .ref o2], rfl, rfl, sz5 (by show 2 ≤ _; decide), fun p14 hp14 => ?_⟩
    have s14 := s1013.trans (Same.new (o := .tup [V.ref o1, V.ref o2]) hp14)
    have hok12 : bsOk [b1, b2] := fun b hb => by
      simp only [List.mem_cons, List.not_mem_nil, or_false] at hb
      rcases hb with z | z <;> rw [z]
      · exact hok1
      · exact hok2
    refine ⟨p14, [.ref o1, .ref o2], [b1, b2], rfl, upd_same, .cons ⟨o1, rfl, hbo1.mono s14⟩ (.cons ⟨o2, rfl, hbo2.mono s14⟩ .nil), hok12, by show 2 ≤ 4; decide, fun H15 s15 => ?_⟩
    walk_at "q"
    refine ⟨⟨_, rfl⟩, ?_⟩
    walk_at "q"
    have s1315 := (Same.new (o := .tup [V.ref o1, V.ref o2]) hp14).trans s15
    refine x_joinG nl_tl (ys := [b1.line, b2.line]) (SqL.of (s1315 _ _ e13)) (n := 252) ((Gd.one (n := 126) (by have := (line_ok hok1.1 hok1.2).2.1; omega) (line_ok hok1.1 hok1.2).2.2.1).app (Gd.one (n := 126) (by have := (line_ok hok2.1 hok2.2).2.1; omega) (line_ok hok2.1 hok2.2).2.2.1)) (by decide) ?_
    refine x_neS ?_
    rw [show txt [b1, b2] = Txt.join "\n" [b1.line, b2.line] from rfl, decide_eq_true rfl]
    walk_at "q"
    have s315 : Same H3 H15 := s310.trans (s14.trans s15)
    have D15 := D3.mono s315
    have T15 := tabs_same T3 s315
    clear s315 s1315 s1013 s15 s14 s310 s13 s12 s11 hbo1 hbo2 hbk10 hF10 e13
    refine x_iR1At (by decide) (by decide) ?_
    refine x_loop walk_range (fun j σ Hj => Dr Hj h q ∧ Tabs (lamT K) Hj ∧ ∃ w7 w8 w9 w10 w11 w12 w13 w14 w15, σ = [some (.ref a), some (.ref h), some (.int (0 + (i : Int))), some (.ref L), some (.str (txt bs)), some (.ref F), some (.ref u13), w7, w8, w9, w10, w11, w12, w13, w14, w15]) ⟨D15, T15, _, _, _, _, _, _, _, _, _, rfl⟩ (fun _ _ _ _ _ => trivial) ?_ ?_
    · rintro j y σ Ha' Ha hj ⟨Da, Ta, w7, w8, w9, w10, w11, w12, w13, w14, w15, rfl⟩ ⟨rfl, rfl⟩
      walk_at "q"
      refine ⟨h, q, txt bs, rfl, Da, by have := htok.1; omega, htok.2, fun t' Hb hl hk sb Db => ?_⟩
      have Tb := Da.tabs Ta sb
      have hto : okT t' := ⟨by have := htok.1; omega, hk⟩
      obtain ⟨hll, hlo⟩ := lns_ok hto
      have lrw : (rws t').length = (lns t').length := by unfold rws; rw [List.length_map]
      walk_at "q"
      refine x_neS ?_
      walk_at "q"
      refine x_ifSet (fun v H' => ∃ l zs, v = .ref l ∧ Same Hb H' ∧ H' l = some (.lst zs) ∧ Paired (RwAt l H') zs (rws t')) (fun c Q' k' => ?_) (fun c Q' k' => ?_) fun v Hc ⟨l, zs, ev, sc, hlz, hzs⟩ => ?_
      · have ct : t' ≠ "" := fun e => by rw [decide_eq_true e] at c; cases c
        have eln : Txt.split t' "\n" = lns t' := (if_neg ct).symm
        walk_at "q"
        refine ⟨⟨_, rfl⟩, ?_⟩
        walk_at "q"
        refine x_split (by decide +kernel) (by omega) fun p1 hp1 => ?_; generalize hM1 : upd _ p1 _ = G1; obtain ⟨t1, f1⟩ := nws hM1 hp1
        rw [eln] at f1
        refine x_iLAt (SqL.of f1) ?_
        refine x_lcG walk_list (fun D m Hm => Same G1 Hm ∧ ∃ zs, Hm D = some (.lst zs) ∧ Paired (RwAt D Hm) zs ((rws t').take m)) (fun D hD => ⟨Same.new hD, [], upd_same, .nil⟩) (fun D m Hm _ z => SqL.of (z.1 _ _ f1)) ?_ ?_
        · rintro D m y Hm' Hm hD hm ⟨sm, zs, hz, hzs⟩ ⟨rfl, ey⟩
          rw [List.getElem?_map] at ey
          obtain ⟨ln, hln, rfl⟩ := Option.map_eq_some_iff.mp ey
          have hrow : (rws t')[m]? = some (read (wds ln)) := by unfold rws; rw [List.getElem?_map, hln]; rfl
          obtain ⟨w1, w2, w3⟩ := wds_ok (hlo ln (List.mem_of_getElem? hln))
          have hml : m < 1000 := by rw [List.length_map] at hm; omega
          walk_at "q"
          refine ⟨rfl, ?_⟩
          walk_at "q"
          refine ⟨⟨_, rfl⟩, ?_⟩
          walk_at "q"
          refine x_split (by decide +kernel) (by have := (hlo ln (List.mem_of_getElem? hln)).1; omega) fun p hp => ?_; generalize hM2 : upd _ p _ = G2; obtain ⟨t2, f2⟩ := nws hM2 hp
          walk_at "q"
          refine ⟨p, wds ln, rfl, f2, w3, w1, w2, fun b hb S ps H' hS s' hS' hst => ?_, fun hno H' s' => ?_⟩
          · rw [hb] at hrow
            have hSm := t2.free hS
            exact rw_put hD hz sm (t2.trans s') hrow (by omega) hzs (.inr ⟨b, rfl, S, ps, rfl, (fun z => by rw [z, hz] at hSm; cases hSm), hS', hst⟩)
          · rw [hno] at hrow
            exact rw_put hD hz sm (t2.trans s') hrow (by omega) hzs (.inl ⟨rfl, rfl⟩)
        rintro D Hm hD ⟨sm, zs, hz, hzs⟩
        rw [List.length_map, ← lrw, List.take_length] at hzs
        exact k' _ _ ⟨D, zs, rfl, t1.trans sm, hz, hzs⟩
      · have ct : t' = "" := by
          by_cases e : t' = ""
          · exact e
          · rw [decide_eq_false e] at c; cases c
        walk_at "q"
        refine ⟨sz rfl, fun p hp => ?_⟩
        exact k' _ _ ⟨p, [], rfl, Same.new hp, upd_same, by rw [ct]; exact .nil⟩
      subst ev
      have Dc := Db.mono sc
      have Tc := tabs_same Tb sc
      walk_at "q"
      refine x_lam Tc fun Hd xd Td => ?_
      refine x_TTo ?_
      have Dd := Dc.ext xd
      have hlz' := ExtN.lst xd hlz
      have hzs' : Paired (RwAt l Hd) zs (rws t') := pr_im (fun _ _ h => h.keep (fun _ _ _ e => ExtN.lst xd e) fun _ _ e => ExtN.tup xd e) hzs
      walk_at "q"
      refine ⟨t', rfl, hto, fun bs' hbs' F2 ys2 He hF2 se hF2e hbk2 => ?_, fun i2 hfi d He hd se hde => .inr ⟨_, 6, d, .int i2, rfl, oc_Text W, .inr (.inr (.inr (.inr (.inl rfl)))), W.xf_InvalidText, W.xn_InvalidText, rfl, hde, fun t Hf ht sf ef => ?_⟩⟩
      · have hyl2 : ys2.length = bs'.length := pr_len (R := fun (v : V) (b : Bk) => ∃ o, v = V.ref o ∧ BkAt K He o b) hbk2
        have hbl2 : bs'.length = (rws t').length := by rw [hbs', List.length_map]
        refine x_iLAt (SqL.of hF2e) ?_
        refine x_lcG walk_list (fun D j Hj => Same He Hj ∧ ∃ zs, Hj D = some (.lst zs) ∧ Paired (LsAt D Hj) zs (bs'.take j)) (fun D hD => ⟨Same.new hD, [], upd_same, .nil⟩) (fun D j Hj _ z => SqL.of (z.1 _ _ hF2e)) ?_ ?_
        · rintro D j y Ha' Ha hD hj ⟨sa, zs, ha, hzs⟩ ⟨rfl, ey⟩
          obtain ⟨b, hb, o, rfl, hbo⟩ := pr_at (R := fun (v : V) (b : Bk) => ∃ o, v = V.ref o ∧ BkAt K He o b) hbk2 ey
          walk_at "q"
          refine ⟨rfl, ?_⟩
          walk_at "q"
          refine x_planned (fun Qx h => x_var rfl h) (hbo.mono sa) fun M ps Hb hM sb eb hst => ?_
          exact ls_put hD ha sa sb hM eb hst hb (by omega) hzs
        rintro D Hf hD ⟨sf, zs2, hz2, hzs2⟩
        rw [hyl2, List.take_length] at hzs2
        refine ⟨sz rfl, fun u hu => ?_⟩; generalize hM3 : upd _ u _ = Hg; obtain ⟨sg, eg⟩ := nws hM3 hu
        have sdg := se.trans (sf.trans sg)
        have hl1 := sdg _ _ hlz'
        have hzg : Paired (RwAt l Hg) zs (rws t') := pr_im (fun _ _ h => h.mono sdg) hzs'
        have hz2g : Paired (LsAt D Hg) zs2 bs' := pr_im (fun _ _ h => h.mono sg) hzs2
        walk_at "q"
        refine ⟨.none, (rws t').map rowD, .non, .lst (SqL.of hl1) (dp_rows hzg), (lay_none 0).shaped, (lay_rows _).shaped, ?_⟩
        rw [any_non, show (rws t').any (·.isNone) = false by rw [hbs']; exact any_some bs']
        walk_at "q"
        refine ⟨sz rfl, fun u2 hu2 => ?_⟩; generalize hM4 : upd _ u2 _ = Hh; obtain ⟨sh, eh⟩ := nws hM4 hu2
        refine x_neRows (rs := rws t') (sh _ _ eg) ((sg.trans sh) _ _ hz2) (by rw [hbs']; exact dp_lss (pr_im (fun _ _ h => h.mono sh) hz2g)) eh (sh _ _ hl1) (dp_rows (pr_im (fun _ _ h => h.mono sh) hzg)) ?_
        walk_at "q"
        exact ⟨Dd.mono (sdg.trans sh), tabs_same Td (sdg.trans sh), _, _, _, _, _, _, _, _, _, rfl⟩
      · have sdf := se.trans sf
        have hl1 := sdf _ _ hlz'
        have hzf : Paired (RwAt l Hf) zs (rws t') := pr_im (fun _ _ h => h.mono sdf) hzs'
        walk_at "q"
        refine ⟨.none, (rws t').map rowD, .non, .lst (SqL.of hl1) (dp_rows hzf), (lay_none 0).shaped, (lay_rows _).shaped, ?_⟩
        rw [any_non, any_no (List.mem_of_getElem? hfi.1)]
        walk_at "q"
        refine ⟨ty_lst hl1, ?_⟩
        walk_at "q"
        refine ⟨l, .non, .none, (rws t').map rowD, i2, rowD none, rfl, rfl, .lst (SqL.of hl1) (dp_rows hzf), .non, (lay_rows _).shaped, (lay_none 0).shaped, by rw [List.getElem?_map, hfi.1]; rfl, rfl, fun m z' hm hz' => ?_, ?_⟩
        · obtain ⟨b, hb⟩ := hfi.2 m hm
          rw [List.getElem?_map, hb] at hz'
          cases hz'
          rfl
        walk_at "q"
        refine ⟨sz rfl, fun u2 hu2 => ?_⟩; generalize hM4 : upd _ u2 _ = Hh; obtain ⟨sh, eh⟩ := nws hM4 hu2
        refine x_neSame (vs := [.str "text", .int i2]) (SqT.of (sh _ _ ef)) (SqT.of eh) (by show (PyData.strOk "text" && (true && true)) = true; decide +kernel) ?_
        walk_at "q"
        exact ⟨Dd.mono (sdf.trans sh), tabs_same Td (sdf.trans sh), _, _, _, _, _, _, _, _, _, rfl⟩
    · rintro σ Ha ⟨Da, Ta, w7, w8, w9, w10, w11, w12, w13, w14, w15, rfl⟩
      exact ⟨Da, Ta, _, _, _, _, _, _, _, _, _, _, _, _, _, _, rfl⟩
  · rintro σ H1 ⟨D1, T1, v2, v3, v4, v5, v6, v7, v8, v9, v10, v11, v12, v13, v14, v15, rfl⟩
    walk_at "q"
    refine ⟨"", rfl, ⟨by decide, by decide +kernel⟩, fun bs' hbs' F ys H2 hF s2 hF2 hbk => ?_, fun i hf => absurd hf.1 (by intro z; cases z)⟩
    have eb : bs' = [] := List.map_eq_nil_iff.mp (hbs'.symm.trans (show rws "" = [] from rfl))
    subst eb
    cases hbk
    walk_at "q"
    refine ⟨sz rfl, fun u hu => ?_⟩; generalize hM3 : upd _ u _ = H3; obtain ⟨s3, e3⟩ := nws hM3 hu
    refine x_eqStrs (as := []) (bs := []) (SqL.of (s3 _ _ hF2)) (SqL.of e3) (fun _ h => nomatch h) (fun _ h => nomatch h) ?_
    rw [decide_eq_true rfl]
    walk_at "q"
    refine ⟨[], [], rfl, rfl, sz5 (by show 0 ≤ _; decide), fun p hp => ?_⟩
    refine ⟨p, [], [], rfl, upd_same, .nil, (fun b hb => nomatch hb), by show 0 ≤ 4; decide, fun H4 s4 => ?_⟩
    walk_at "q"
    rw [show txt [] = "" from by decide +kernel, decide_eq_true rfl]
    exact k _
end
end K42

set_option Elab.async false
set_option linter.all false
set_option autoImplicit false
set_option maxRecDepth 100000
set_option pp.maxSteps 500
namespace K42
open PySem PySem.Spec PyProof.Rows L2 He ChH LamX
theorem facts {P : Program} [SuX.SupP P mfile] {w : World} {K : PySem.W.Frag} {h : Heap} {mg : Str → Option Value} {f : Addr} (X : K.In h) (G : h.Ns mainGlobals mg) (hfa : mg ("law" : Str) = some (.ref f)) (c : SaysU mfile faL xsL dfL suL K) :
    ∃ W : Wd K mg, f = ga K "law" ∧ ∃ fd : FuncData, (∀ (s : Shared) (v : Value), BindsTo s fd ⟨[v], []⟩ [("_law_script", v)]) ∧ ∀ base : Heap, K.In base → base.Ns mainGlobals mg → TabB base mg (cdA K (ga K "law")) (tbA K (ga K "law")) → FnOk P w K mg base CX0 lawLv f fd ["_law_script"] (spLaw K) := by
  have W : Wd K mg := ⟨⟨h, X, G⟩, c.c, c.s⟩
  have e := hfa.symm.trans W.g_law
  cases e
  have b := FunD.bindsA (ps := ["_law_script"]) W.F_law fun _ _ _ _ _ _ us hl => match us, hl with | [_], _ => rfl
  exact ⟨W, rfl, _, fun s v => b s [v] rfl, fun base _ _ TB => ok_law W TB⟩
end K42
open PySem PySem.W PyProof.Rows
set_option maxRecDepth 100000 in
set_option maxHeartbeats 0 in
theorem PySem.Challenge.cw_chaircarry_k42_whole_texts_of_bookings_holds : PySem.Challenge.rw_chaircarry_k42_whole_texts_of_bookings.Holds := by
  w_on; o_law
  refine HandSHeadRun.head_any (r := OpenLaw.row PySem.Challenge.rw_chaircarry_k42_whole_texts_of_bookings) (q := view (OpenLaw.row PySem.Challenge.rw_chaircarry_k42_whole_texts_of_bookings).prog [43]) (H := K42.hk) (ob := K42.ob) (M := 8000) (loose := K42.loose) (d := HandSHeadRun.topDef (OpenLaw.row PySem.Challenge.rw_chaircarry_k42_whole_texts_of_bookings).prog 43) (kwd := []) K42.ob_eq
    (by kernel_rfl) (fun s => by kernel_rfl) K42.run (by kernel_rfl) (by kernel_rfl) (by kernel_rfl) (by rfl) (by first | assumption | decide +kernel) (by decide +kernel) ⟨rfl, rfl, rfl, rfl, rfl, by decide +kernel⟩ ?hw ?hc
  case hw => w_witness2
  case hc =>
    refine Ch.walk_tab (l := PySem.Challenge.rw_chaircarry_k42_whole_texts_of_bookings) (n := 63) (k := K42.lawLv) (x := "_law_script") (CX := L2.CX0) rfl (by decide) (by kernel_rfl) ⟨rfl, by decide, by decide⟩ ?F (fun _ _ _ _ z => z)
    intro w mg fa h Y G hmg0
    obtain ⟨K, KX, c⟩ := Y
    have hmg : mg ("law" : PySem.Str) = some (.ref fa) := by
      have e : (HandSHeadRun.topDef (OpenLaw.row PySem.Challenge.rw_chaircarry_k42_whole_texts_of_bookings).prog 43).name = ("law" : PySem.Str) := by kernel_rfl
      rw [← e]
      exact hmg0
    haveI : SuX.SupP (PySem.Challenge.rw_chaircarry_k42_whole_texts_of_bookings).prog K42.mfile := ⟨beq_self_eq_true _, by kernel_rfl⟩
    obtain ⟨W, ef, fd, hb, hF⟩ := K42.facts (P := (PySem.Challenge.rw_chaircarry_k42_whole_texts_of_bookings).prog) (w := w) KX G hmg c
    refine ⟨K, KX, fun own => ⟨fd, [(ChH.cdA K (He.ga K "law"), ChH.tbA K (He.ga K "law"))], K42.spLaw K, ?_, ?_, ?_, hb, ?_, ?_⟩⟩
    · intro p hp
      rw [List.mem_singleton.mp hp]
      exact ChH.TabOk.empty (x := "law") W.tb_law W.F_law (own "law" _ (by kernel_rfl) W.g_law)
    · intro p hp
      rw [List.mem_singleton.mp hp]
      exact W.tb_law.none_
    · intro p hp
      rw [List.mem_singleton.mp hp]
      exact W.tb_law.hd h KX
    · intro H a ns hl _ hT hS
      exact ⟨a, ns, rfl, hS, Nat.le_trans hl (by decide), fun p hp => by
        rw [List.mem_singleton.mp hp]
        exact LamX.TabS.nil (hT _ (List.mem_singleton.mpr rfl)), fun _ => rfl⟩
    · intro base hk hg hT
      exact hF base hk hg (hT _ (List.mem_singleton.mpr rfl))
#print axioms PySem.Challenge.cw_chaircarry_k42_whole_texts_of_bookings_holds
