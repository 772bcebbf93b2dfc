import PyProof.Rows.All
import Wide.All
import OpenK.AllK
import Wide.FinOn
import KE.KUnpackStar
import HandS.Base
import HandS.Call
import KE.GoesEnum
import HandS.List
import HandS.Iter
import HandS.Walk
import HandS.Flt
import HandS.More
import HandS.Star
import HandS.Property
import HandS.Defaults
import HandS.ClsMeth
import HandS.Words
import HandS.ForMost
import HandS.Exc
import HandS.TryOnly
import HandS.ExcOwn
import HandS.WordsExc
import HandS.IsInst
import HandS.Wide
import HandS.Style
import HandS.Conv
import HandS.Flow
import HandS.Deep
import HandS.Ends
import HandS.HeadHook1
import HandS.HeadHook2
import HandS.HeadHook3
import HandS.HeadNt
import PySem.Challenge.RW_chaircarry_k05_first_difference
import KE.KStateDown
import HandS.Head0
import HandS.Head1
import HandS.Head2
import HandS.HeadEnd
set_option linter.all false
set_option maxRecDepth 100000
set_option maxHeartbeats 4000000
namespace ChM
/-! ### the mirror of plans and effects -/
inductive Stp where
  | turn
  | mt (r : Bool) (n : Int)
  deriving DecidableEq
/-- (side, need) of each step -/
def sides : Int → List Stp → List (Int × Int)
  | _, [] => []
  | s, .turn :: r => (0, 0) :: sides (0 - s) r
  | s, .mt b n :: r => ((if b then s else 0 - s), n) :: sides s r
def fitsS (c : Int) (l : List Stp) : Prop := ∀ b n, Stp.mt b n ∈ l → 0 ≤ n ∧ n ≤ c
def turns : List Stp → Nat
  | [] => 0
  | .turn :: r => turns r + 1
  | .mt _ _ :: r => turns r
def turning (l : List Stp) : Bool := turns l % 2 == 1
structure Eff where
  c : Int
  lo : Int
  hi : Int
  ex : Int
  goal : Option Int
  tu : Bool
def mkE (c lo hi ex : Int) (g : Option Int) (t : Bool) : Eff := ⟨c, lo, hi, ex, if g = none ∧ lo = hi then some lo else g, t⟩
/-- max and min as Python's two-place ones say them -/
def mx (a b : Int) : Int := if b > a then b else a
def mn (a b : Int) : Int := if b < a then b else a
def Eff.atLeast (e : Eff) (n : Int) : Eff := match e.goal with
  | none => if n ≤ e.hi then mkE e.c (mx e.lo n) e.hi 0 none e.tu else mkE e.c e.hi e.hi (n - e.hi) (some n) e.tu
  | some g => if n ≤ g then e else mkE e.c e.lo e.hi (e.ex + n - g) (some n) e.tu
def Eff.mir (e : Eff) : Eff := mkE e.c (e.c - e.hi) (e.c - e.lo) e.ex (e.goal.map fun g => e.c - g) e.tu
def Eff.atMost (e : Eff) (m : Int) : Eff := (e.mir.atLeast (e.c - m)).mir
def Eff.carried (e : Eff) (x : Int) : Int := mx (mx (e.lo - x) (x - e.hi)) 0 + e.ex
def Eff.place (e : Eff) (x : Int) : Int := match e.goal with
  | none => mn (mx x e.lo) e.hi
  | some g => g
def Eff.fin (e : Eff) (x : Int) : Int := if e.tu then e.c - e.place x else e.place x
structure Eff.Ok (e : Eff) : Prop where
  lo0 : 0 ≤ e.lo
  lh : e.lo ≤ e.hi
  hc : e.hi ≤ e.c
  ex0 : 0 ≤ e.ex
  no : e.goal = none → e.ex = 0 ∧ e.lo < e.hi
  yes : ∀ g, e.goal = some g → 0 ≤ g ∧ g ≤ e.c
def nothing (c : Int) : Eff := mkE c 0 c 0 none false
def moved (c x s n : Int) : Int := if s = 1 then mx x n else if s = -1 then mn x (c - n) else x
def effStep (c : Int) (e : Eff) (p : Int × Int) : Eff := if p.1 = 1 then e.atLeast p.2 else if p.1 = -1 then e.atMost (c - p.2) else e
def effFold (c : Int) (l : List (Int × Int)) : Eff := l.foldl (effStep c) (nothing c)
def effOf (c : Int) (l : List Stp) : Eff :=
  let e := effFold c (sides 1 l)
  mkE c e.lo e.hi e.ex e.goal (turning l)
theorem mx_def (a b : Int) : (mx a b = a ∧ b ≤ a) ∨ (mx a b = b ∧ a < b) := by
  unfold mx
  split <;> omega
theorem mn_def (a b : Int) : (mn a b = a ∧ a ≤ b) ∨ (mn a b = b ∧ b < a) := by
  unfold mn
  split <;> omega
theorem mkE_none {c lo hi ex : Int} {t : Bool} (h : lo < hi) : mkE c lo hi ex none t = ⟨c, lo, hi, ex, none, t⟩ := by
  unfold mkE
  rw [if_neg (by omega)]
theorem mkE_eq {c lo ex : Int} {t : Bool} : mkE c lo lo ex none t = ⟨c, lo, lo, ex, some lo, t⟩ := by
  unfold mkE
  rw [if_pos ⟨rfl, rfl⟩]
theorem mkE_some {c lo hi ex g : Int} {t : Bool} : mkE c lo hi ex (some g) t = ⟨c, lo, hi, ex, some g, t⟩ := by
  unfold mkE
  rw [if_neg (by intro h; cases h.1)]
theorem mkE_cases {c lo hi : Int} {t : Bool} (h0 : 0 ≤ lo) (h1 : lo ≤ hi) (h2 : hi ≤ c) :
    (mkE c lo hi 0 none t).Ok ∧ ∀ x, (mkE c lo hi 0 none t).place x = mn (mx x lo) hi := by
  by_cases e : lo = hi
  · subst e
    rw [mkE_eq]
    refine ⟨⟨h0, h1, h2, Int.le_refl 0, (fun z => nomatch z), fun g hg => ?_⟩, fun x => ?_⟩
    · cases hg
      exact ⟨h0, h2⟩
    · show lo = mn (mx x lo) lo
      have := mx_def x lo
      have := mn_def (mx x lo) lo
      omega
  · rw [mkE_none (by omega)]
    exact ⟨⟨h0, h1, h2, Int.le_refl 0, fun _ => ⟨rfl, by show lo < hi; omega⟩, (fun g hg => nomatch hg)⟩, fun x => rfl⟩
theorem Ok_some {c lo hi ex g : Int} {t : Bool} (h0 : 0 ≤ lo) (h1 : lo ≤ hi) (h2 : hi ≤ c) (h3 : 0 ≤ ex) (h4 : 0 ≤ g) (h5 : g ≤ c) : (mkE c lo hi ex (some g) t).Ok := by
  rw [mkE_some]
  exact ⟨h0, h1, h2, h3, (fun z => nomatch z), fun g1 hg => by cases hg; exact ⟨h4, h5⟩⟩
@[simp] theorem mkE_c {c lo hi ex : Int} {g : Option Int} {t : Bool} : (mkE c lo hi ex g t).c = c := rfl
@[simp] theorem mkE_lo {c lo hi ex : Int} {g : Option Int} {t : Bool} : (mkE c lo hi ex g t).lo = lo := rfl
@[simp] theorem mkE_hi {c lo hi ex : Int} {g : Option Int} {t : Bool} : (mkE c lo hi ex g t).hi = hi := rfl
@[simp] theorem mkE_ex {c lo hi ex : Int} {g : Option Int} {t : Bool} : (mkE c lo hi ex g t).ex = ex := rfl
@[simp] theorem mkE_tu {c lo hi ex : Int} {g : Option Int} {t : Bool} : (mkE c lo hi ex g t).tu = t := rfl
theorem place_some {e : Eff} {g x : Int} (h : e.goal = some g) : e.place x = g := by
  unfold Eff.place
  rw [h]
theorem place_none {e : Eff} {x : Int} (h : e.goal = none) : e.place x = mn (mx x e.lo) e.hi := by
  unfold Eff.place
  rw [h]
theorem place_range {e : Eff} (h : e.Ok) {x : Int} (h0 : 0 ≤ x) (h1 : x ≤ e.c) : 0 ≤ e.place x ∧ e.place x ≤ e.c := by
  have a := h.lo0
  have b := h.lh
  have d := h.hc
  cases g : e.goal with
  | none =>
    rw [place_none g]
    have := mx_def x e.lo
    have := mn_def (mx x e.lo) e.hi
    omega
  | some y =>
    rw [place_some g]
    exact h.yes y g
theorem atLeast_ok {e : Eff} (h : e.Ok) {n : Int} (h0 : 0 ≤ n) (h1 : n ≤ e.c) :
    (e.atLeast n).Ok ∧ (e.atLeast n).c = e.c ∧ (e.atLeast n).tu = e.tu ∧ ∀ x, (e.atLeast n).place x = mx (e.place x) n ∧ (e.atLeast n).carried x = e.carried x + (mx (e.place x) n - e.place x) := by
  have a := h.lo0
  have b := h.lh
  have d := h.hc
  cases g : e.goal with
  | none =>
    obtain ⟨z, l⟩ := h.no g
    unfold Eff.atLeast
    rw [g]
    dsimp only
    by_cases q : n ≤ e.hi
    · rw [if_pos q]
      have m := mx_def e.lo n
      obtain ⟨o, p⟩ := mkE_cases (c := e.c) (lo := mx e.lo n) (hi := e.hi) (t := e.tu) (by omega) (by omega) d
      refine ⟨o, rfl, rfl, fun x => ⟨?_, ?_⟩⟩
      · rw [p, place_none g]
        have := mx_def x e.lo
        have := mx_def x (mx e.lo n)
        have := mn_def (mx x (mx e.lo n)) e.hi
        have := mn_def (mx x e.lo) e.hi
        have := mx_def (mn (mx x e.lo) e.hi) n
        omega
      · rw [place_none g]
        unfold Eff.carried
        simp only [mkE_lo, mkE_hi, mkE_ex]
        have := mx_def x e.lo
        have := mn_def (mx x e.lo) e.hi
        have := mx_def (mn (mx x e.lo) e.hi) n
        have := mx_def (mx e.lo n - x) (x - e.hi)
        have := mx_def (mx (mx e.lo n - x) (x - e.hi)) 0
        have := mx_def (e.lo - x) (x - e.hi)
        have := mx_def (mx (e.lo - x) (x - e.hi)) 0
        omega
    · rw [if_neg q]
      refine ⟨Ok_some (by omega) (by omega) d (by omega) h0 h1, rfl, rfl, fun x => ⟨?_, ?_⟩⟩
      · rw [place_none g, mkE_some]
        show n = _
        have := mx_def x e.lo
        have := mn_def (mx x e.lo) e.hi
        have := mx_def (mn (mx x e.lo) e.hi) n
        omega
      · rw [place_none g]
        unfold Eff.carried
        simp only [mkE_lo, mkE_hi, mkE_ex]
        have := mx_def x e.lo
        have := mn_def (mx x e.lo) e.hi
        have := mx_def (mn (mx x e.lo) e.hi) n
        have := mx_def (e.hi - x) (x - e.hi)
        have := mx_def (mx (e.hi - x) (x - e.hi)) 0
        have := mx_def (e.lo - x) (x - e.hi)
        have := mx_def (mx (e.lo - x) (x - e.hi)) 0
        omega
  | some y =>
    obtain ⟨y0, y1⟩ := h.yes y g
    unfold Eff.atLeast
    rw [g]
    dsimp only
    by_cases q : n ≤ y
    · rw [if_pos q]
      refine ⟨h, rfl, rfl, fun x => ?_⟩
      rw [place_some g]
      have := mx_def y n
      omega
    · rw [if_neg q]
      have := h.ex0
      refine ⟨Ok_some a b d (by omega) h0 h1, rfl, rfl, fun x => ⟨?_, ?_⟩⟩
      · rw [place_some g, mkE_some]
        show n = _
        have := mx_def y n
        omega
      · rw [place_some g]
        unfold Eff.carried
        simp only [mkE_lo, mkE_hi, mkE_ex]
        have := mx_def y n
        omega
theorem mir_ok {e : Eff} (h : e.Ok) : e.mir.Ok ∧ e.mir.c = e.c ∧ e.mir.tu = e.tu ∧ ∀ x, e.mir.place x = e.c - e.place (e.c - x) ∧ e.mir.carried x = e.carried (e.c - x) := by
  have a := h.lo0
  have b := h.lh
  have d := h.hc
  have car : ∀ x, e.mir.carried x = e.carried (e.c - x) := fun x => by
    unfold Eff.carried Eff.mir
    simp only [mkE_lo, mkE_hi, mkE_ex]
    have := mx_def (e.c - e.hi - x) (x - (e.c - e.lo))
    have := mx_def (mx (e.c - e.hi - x) (x - (e.c - e.lo))) 0
    have := mx_def (e.lo - (e.c - x)) (e.c - x - e.hi)
    have := mx_def (mx (e.lo - (e.c - x)) (e.c - x - e.hi)) 0
    omega
  cases g : e.goal with
  | none =>
    obtain ⟨z, l⟩ := h.no g
    have em : e.mir = mkE e.c (e.c - e.hi) (e.c - e.lo) 0 none e.tu := by
      unfold Eff.mir
      rw [g, z] <;> rfl
    obtain ⟨o, p⟩ := mkE_cases (c := e.c) (lo := e.c - e.hi) (hi := e.c - e.lo) (t := e.tu) (by omega) (by omega) (by omega)
    refine ⟨by rw [em]; exact o, rfl, rfl, fun x => ⟨?_, car x⟩⟩
    rw [em, p, place_none g]
    have := mx_def x (e.c - e.hi)
    have := mn_def (mx x (e.c - e.hi)) (e.c - e.lo)
    have := mx_def (e.c - x) e.lo
    have := mn_def (mx (e.c - x) e.lo) e.hi
    omega
  | some y =>
    obtain ⟨y0, y1⟩ := h.yes y g
    have em : e.mir = mkE e.c (e.c - e.hi) (e.c - e.lo) e.ex (some (e.c - y)) e.tu := by
      unfold Eff.mir
      rw [g] <;> rfl
    refine ⟨by rw [em]; exact Ok_some (by omega) (by omega) (by omega) h.ex0 (by omega) (by omega), rfl, rfl, fun x => ⟨?_, car x⟩⟩
    rw [em, mkE_some, place_some g] <;> rfl
theorem atMost_ok {e : Eff} (h : e.Ok) {m : Int} (h0 : 0 ≤ m) (h1 : m ≤ e.c) :
    (e.atMost m).Ok ∧ (e.atMost m).c = e.c ∧ (e.atMost m).tu = e.tu ∧ ∀ x, (e.atMost m).place x = mn (e.place x) m ∧ (e.atMost m).carried x = e.carried x + (e.place x - mn (e.place x) m) := by
  obtain ⟨o1, c1, t1, p1⟩ := mir_ok h
  obtain ⟨o2, c2, t2, p2⟩ := atLeast_ok o1 (n := e.c - m) (by omega) (by rw [c1]; omega)
  obtain ⟨o3, c3, t3, p3⟩ := mir_ok o2
  refine ⟨o3, by unfold Eff.atMost; rw [c3, c2, c1], by unfold Eff.atMost; rw [t3, t2, t1], fun x => ?_⟩
  obtain ⟨a3, b3⟩ := p3 x
  rw [c2, c1] at a3 b3
  obtain ⟨a2, b2⟩ := p2 (e.c - x)
  obtain ⟨a1, b1⟩ := p1 (e.c - x)
  have ex : e.c - (e.c - x) = x := by omega
  rw [ex] at a1 b1
  unfold Eff.atMost
  rw [a3, b3, a2, b2, a1, b1]
  have := mx_def (e.c - e.place x) (e.c - m)
  have := mn_def (e.place x) m
  omega
theorem nothing_ok {c : Int} (h : 0 ≤ c) : (nothing c).Ok ∧ ∀ x, 0 ≤ x → x ≤ c → (nothing c).place x = x ∧ (nothing c).carried x = 0 := by
  obtain ⟨o, p⟩ := mkE_cases (c := c) (lo := 0) (hi := c) (t := false) (by omega) h (by omega)
  refine ⟨o, fun x h0 h1 => ⟨?_, ?_⟩⟩
  · show (mkE c 0 c 0 none false).place x = x
    rw [p]
    have := mx_def x 0
    have := mn_def (mx x 0) c
    omega
  · show (mkE c 0 c 0 none false).carried x = 0
    unfold Eff.carried
    simp only [mkE_lo, mkE_hi, mkE_ex]
    have := mx_def (0 - x) (x - c)
    have := mx_def (mx (0 - x) (x - c)) 0
    omega
/-! ### steps one by one -/
def absI (a : Int) : Int := if a < 0 then -a else a
def simP (c : Int) : List (Int × Int) → Int → Int
  | [], x => x
  | p :: r, x => simP c r (moved c x p.1 p.2)
def simC (c : Int) : List (Int × Int) → Int → Int
  | [], _ => 0
  | p :: r, x => absI (moved c x p.1 p.2 - x) + simC c r (moved c x p.1 p.2)
def fits (c : Int) (l : List (Int × Int)) : Prop := ∀ p ∈ l, (p.1 = 1 ∨ p.1 = -1 ∨ p.1 = 0) ∧ 0 ≤ p.2 ∧ p.2 ≤ c
theorem effStep_ok {c : Int} {e : Eff} (h : e.Ok) (hc : e.c = c) {p : Int × Int} (hs : p.1 = 1 ∨ p.1 = -1 ∨ p.1 = 0) (h0 : 0 ≤ p.2) (h1 : p.2 ≤ c) :
    (effStep c e p).Ok ∧ (effStep c e p).c = c ∧ (effStep c e p).tu = e.tu ∧ ∀ x, (effStep c e p).place x = moved c (e.place x) p.1 p.2 ∧
      (effStep c e p).carried x = e.carried x + absI (moved c (e.place x) p.1 p.2 - e.place x) := by
  unfold effStep moved
  rcases hs with s | s | s
  · rw [if_pos s]
    obtain ⟨a, b, d, f⟩ := atLeast_ok h h0 (by omega)
    refine ⟨a, b.trans hc, d, fun x => ?_⟩
    rw [if_pos s, (f x).1, (f x).2]
    refine ⟨rfl, ?_⟩
    unfold absI
    have := mx_def (e.place x) p.2
    split <;> omega
  · rw [if_neg (by omega), if_pos s]
    obtain ⟨a, b, d, f⟩ := atMost_ok h (m := c - p.2) (by omega) (by omega)
    refine ⟨a, b.trans hc, d, fun x => ?_⟩
    rw [if_neg (by omega), if_pos s, (f x).1, (f x).2]
    refine ⟨rfl, ?_⟩
    unfold absI
    have := mn_def (e.place x) (c - p.2)
    split <;> omega
  · rw [if_neg (by omega), if_neg (by omega)]
    refine ⟨h, hc, rfl, fun x => ?_⟩
    rw [if_neg (by omega), if_neg (by omega)]
    refine ⟨rfl, ?_⟩
    unfold absI
    split <;> omega
theorem fold_ok {c : Int} : ∀ (l : List (Int × Int)) (e : Eff), e.Ok → e.c = c → fits c l →
    (l.foldl (effStep c) e).Ok ∧ (l.foldl (effStep c) e).c = c ∧ (l.foldl (effStep c) e).tu = e.tu ∧ ∀ x, (l.foldl (effStep c) e).place x = simP c l (e.place x) ∧ (l.foldl (effStep c) e).carried x = e.carried x + simC c l (e.place x)
  | [], e, h, hc, _ => ⟨h, hc, rfl, fun x => ⟨rfl, by show e.carried x = e.carried x + 0; omega⟩⟩
  | p :: r, e, h, hc, hf => by
    obtain ⟨hs, h0, h1⟩ := hf p List.mem_cons_self
    obtain ⟨a, b, d, f⟩ := effStep_ok h hc hs h0 h1
    obtain ⟨a2, b2, d2, f2⟩ := fold_ok r (effStep c e p) a b fun q hq => hf q (List.mem_cons_of_mem _ hq)
    refine ⟨a2, b2, d2.trans d, fun x => ?_⟩
    rw [List.foldl_cons, (f2 x).1, (f2 x).2, (f x).1, (f x).2]
    refine ⟨rfl, ?_⟩
    show _ = e.carried x + (absI (moved c (e.place x) p.1 p.2 - e.place x) + simC c r (moved c (e.place x) p.1 p.2))
    omega
theorem mkE_self {e : Eff} (h : e.Ok) (t : Bool) : mkE e.c e.lo e.hi e.ex e.goal t = { e with tu := t } := by
  unfold mkE
  cases g : e.goal with
  | none =>
    have := (h.no g).2
    rw [if_neg (by omega)]
  | some y =>
    rw [if_neg (by intro z; cases z.1)]
theorem sides_fits {c : Int} : ∀ (l : List Stp) (s : Int), (s = 1 ∨ s = -1) → 0 ≤ c → fitsS c l → fits c (sides s l)
  | [], _, _, _, _ => fun p hp => nomatch hp
  | .turn :: r, s, hs, h0, h => fun p hp => by
    rcases List.mem_cons.mp hp with e | hp
    · subst e
      exact ⟨.inr (.inr rfl), by show (0 : Int) ≤ 0; omega, h0⟩
    · exact sides_fits r (0 - s) (by omega) h0 (fun b n hm => h b n (List.mem_cons_of_mem _ hm)) p hp
  | .mt b n :: r, s, hs, h0, h => fun p hp => by
    rcases List.mem_cons.mp hp with e | hp
    · subst e
      refine ⟨?_, h b n List.mem_cons_self⟩
      show (if b = true then s else 0 - s) = 1 ∨ (if b = true then s else 0 - s) = -1 ∨ (if b = true then s else 0 - s) = 0
      split <;> omega
    · exact sides_fits r s hs h0 (fun b n hm => h b n (List.mem_cons_of_mem _ hm)) p hp
theorem effOf_ok {c : Int} {l : List Stp} (hc : 0 ≤ c) (hl : fitsS c l) :
    (effOf c l).Ok ∧ (effOf c l).c = c ∧ (effOf c l).tu = turning l ∧ ∀ x, 0 ≤ x → x ≤ c → (effOf c l).place x = simP c (sides 1 l) x ∧ (effOf c l).carried x = simC c (sides 1 l) x := by
  obtain ⟨n0, n1⟩ := nothing_ok hc
  obtain ⟨a, b, d, f⟩ := fold_ok (sides 1 l) (nothing c) n0 rfl (sides_fits l 1 (.inl rfl) hc hl)
  have e : effOf c l = ⟨c, (effFold c (sides 1 l)).lo, (effFold c (sides 1 l)).hi, (effFold c (sides 1 l)).ex, (effFold c (sides 1 l)).goal, turning l⟩ := by
    show mkE c (effFold c (sides 1 l)).lo (effFold c (sides 1 l)).hi (effFold c (sides 1 l)).ex (effFold c (sides 1 l)).goal (turning l) = _
    have h := mkE_self (e := effFold c (sides 1 l)) a (turning l)
    have hb : (effFold c (sides 1 l)).c = c := b
    rw [hb] at h
    exact h
  rw [e]
  have hcc : (effFold c (sides 1 l)).c = c := b
  have hhc : (effFold c (sides 1 l)).hi ≤ c := Int.le_trans a.hc (Int.le_of_eq hcc)
  refine ⟨⟨a.lo0, a.lh, hhc, a.ex0, a.no, fun g hg => ⟨(a.yes g hg).1, Int.le_trans (a.yes g hg).2 (Int.le_of_eq hcc)⟩⟩, rfl, rfl, fun x h0 h1 => ?_⟩
  obtain ⟨p1, p2⟩ := f x
  rw [(n1 x h0 h1).1, (n1 x h0 h1).2] at *
  refine ⟨p1, ?_⟩
  have p2' : (effFold c (sides 1 l)).carried x = 0 + simC c (sides 1 l) x := p2
  show (effFold c (sides 1 l)).carried x = _
  rw [p2']
  omega
end ChM

set_option linter.all false
set_option autoImplicit false
set_option maxRecDepth 100000
set_option maxHeartbeats 4000000
namespace ChM
/-! ### a simulation of the two rooms -/
def play1 (p : Int × Int) : Stp → (Int × Int) × Int
  | .turn => ((p.2, p.1), 0)
  | .mt true n => ((p.1 + mx 0 (n - p.1), p.2 - mx 0 (n - p.1)), mx 0 (n - p.1))
  | .mt false n => ((p.1 - mx 0 (n - p.2), p.2 + mx 0 (n - p.2)), mx 0 (n - p.2))
def playS : Int × Int → List Stp → Int × Int
  | p, [] => p
  | p, s :: r => playS (play1 p s).1 r
def playC : Int × Int → List Stp → List Int
  | _, [] => []
  | p, s :: r => (play1 p s).2 :: playC (play1 p s).1 r
theorem playS_snoc : ∀ (l : List Stp) (p : Int × Int) (s : Stp), playS p (l ++ [s]) = (play1 (playS p l) s).1
  | [], _, _ => rfl
  | x :: r, p, s => playS_snoc r (play1 p x).1 s
theorem playC_snoc : ∀ (l : List Stp) (p : Int × Int) (s : Stp), playC p (l ++ [s]) = playC p l ++ [(play1 (playS p l) s).2]
  | [], _, _ => rfl
  | x :: r, p, s => congrArg (_ :: ·) (playC_snoc r (play1 p x).1 s)
theorem playC_len : ∀ (l : List Stp) (p : Int × Int), (playC p l).length = l.length
  | [], _ => rfl
  | x :: r, p => congrArg (· + 1) (playC_len r (play1 p x).1)
def sideAt : Int → List Stp → Int
  | s, [] => s
  | s, .turn :: r => sideAt (0 - s) r
  | s, .mt _ _ :: r => sideAt s r
theorem sides_len : ∀ (l : List Stp) (s : Int), (sides s l).length = l.length
  | [], _ => rfl
  | .turn :: r, s => congrArg (· + 1) (sides_len r (0 - s))
  | .mt _ _ :: r, s => congrArg (· + 1) (sides_len r s)
theorem sides_snoc : ∀ (l : List Stp) (s : Int) (x : Stp), sides s (l ++ [x]) = sides s l ++ sides (sideAt s l) [x]
  | [], _, _ => rfl
  | .turn :: r, s, x => by show (0, 0) :: sides (0 - s) (r ++ [x]) = (0, 0) :: sides (0 - s) r ++ _; rw [sides_snoc]; rfl
  | .mt b n :: r, s, x => by show (_, n) :: sides s (r ++ [x]) = (_, n) :: sides s r ++ _; rw [sides_snoc]; rfl
theorem sideAt_snoc : ∀ (l : List Stp) (s : Int) (x : Stp), sideAt s (l ++ [x]) = sideAt (sideAt s l) [x]
  | [], _, _ => rfl
  | .turn :: r, s, x => sideAt_snoc r (0 - s) x
  | .mt b n :: r, s, x => sideAt_snoc r s x
theorem turns_app (a b : List Stp) : turns (a ++ b) = turns a + turns b := by
  induction a with
  | nil => show turns b = 0 + turns b; omega
  | cons s r ih =>
    cases s with
    | turn => show turns (r ++ b) + 1 = turns r + 1 + turns b; omega
    | mt c n => exact ih
theorem turns_step {l : List Stp} {i : Nat} {s : Stp} (h : l[i]? = some s) : turns (l.take (i + 1)) = turns (l.take i) + (if s = .turn then 1 else 0) := by
  rw [List.take_add_one, h, turns_app]
  cases s <;> rfl
theorem turns_le : ∀ l : List Stp, turns l ≤ l.length
  | [] => Nat.le_refl _
  | .turn :: r => Nat.succ_le_succ (turns_le r)
  | .mt _ _ :: r => Nat.le_succ_of_le (turns_le r)
theorem sideAt_turns : ∀ (l : List Stp) (s : Int), sideAt s l = if turns l % 2 = 1 then 0 - s else s
  | [], s => rfl
  | .turn :: r, s => by
    show sideAt (0 - s) r = if (turns r + 1) % 2 = 1 then 0 - s else s
    rw [sideAt_turns r (0 - s)]
    by_cases h : turns r % 2 = 1
    · rw [if_pos h, if_neg (by omega)]
      omega
    · rw [if_neg h, if_pos (by omega)]
  | .mt _ _ :: r, s => sideAt_turns r s
theorem sideAt_turning (l : List Stp) : sideAt 1 l = if turning l then -1 else 1 := by
  rw [sideAt_turns]
  unfold turning
  by_cases h : turns l % 2 = 1
  · rw [h]
    rfl
  · rw [if_neg h, beq_false_of_ne h]
    rfl
/-- the place of the room that is red at first -/
def placeOf (s : Int) (p : Int × Int) : Int := if s = 1 then p.1 else p.2
theorem play_sim {c : Int} : ∀ (l : List Stp) (s : Int) (p : Int × Int), (s = 1 ∨ s = -1) → p.1 + p.2 = c →
    (playS p l).1 + (playS p l).2 = c ∧ placeOf (sideAt s l) (playS p l) = simP c (sides s l) (placeOf s p) ∧ (playC p l).sum = simC c (sides s l) (placeOf s p)
  | [], s, p, _, h => ⟨h, rfl, rfl⟩
  | .turn :: r, s, p, hs, h => by
    obtain ⟨a, b, d⟩ := play_sim r (0 - s) (p.2, p.1) (by omega) (by show p.2 + p.1 = c; omega)
    have e : placeOf (0 - s) (p.2, p.1) = placeOf s p := by
      unfold placeOf
      rcases hs with rfl | rfl
      · rw [if_neg (by decide), if_pos rfl]
      · rw [if_pos (by decide), if_neg (by decide)]
    have m : moved c (placeOf s p) 0 0 = placeOf s p := by
      unfold moved
      rw [if_neg (by decide), if_neg (by decide)]
    rw [e] at b d
    refine ⟨a, ?_, ?_⟩
    · show placeOf (sideAt (0 - s) r) (playS (p.2, p.1) r) = simP c (sides (0 - s) r) (moved c (placeOf s p) 0 0)
      rw [m, b]
    · show (0 :: playC (p.2, p.1) r).sum = absI (moved c (placeOf s p) 0 0 - placeOf s p) + simC c (sides (0 - s) r) (moved c (placeOf s p) 0 0)
      rw [m, List.sum_cons, d]
      unfold absI
      rw [if_neg (by omega)]
      omega
  | .mt true n :: r, s, p, hs, h => by
    have hm := mx_def 0 (n - p.1)
    obtain ⟨a, b, d⟩ := play_sim r s (p.1 + mx 0 (n - p.1), p.2 - mx 0 (n - p.1)) hs (by show p.1 + mx 0 (n - p.1) + (p.2 - mx 0 (n - p.1)) = c; omega)
    have m : moved c (placeOf s p) s n = placeOf s (p.1 + mx 0 (n - p.1), p.2 - mx 0 (n - p.1)) ∧ absI (moved c (placeOf s p) s n - placeOf s p) = mx 0 (n - p.1) := by
      unfold moved placeOf absI
      rcases hs with rfl | rfl
      · rw [if_pos rfl, if_pos rfl, if_pos rfl]
        have := mx_def p.1 n
        dsimp only
        split <;> omega
      · rw [if_neg (by decide), if_pos rfl, if_neg (by decide), if_neg (by decide)]
        have := mn_def p.2 (c - n)
        dsimp only
        split <;> omega
    refine ⟨a, ?_, ?_⟩
    · show placeOf (sideAt s r) _ = simP c (sides s r) (moved c (placeOf s p) s n)
      rw [m.1]
      exact b
    · show (mx 0 (n - p.1) :: playC _ r).sum = absI (moved c (placeOf s p) s n - placeOf s p) + simC c (sides s r) (moved c (placeOf s p) s n)
      rw [m.2, m.1, List.sum_cons, ← d]
      rfl
  | .mt false n :: r, s, p, hs, h => by
    have hm := mx_def 0 (n - p.2)
    obtain ⟨a, b, d⟩ := play_sim r s (p.1 - mx 0 (n - p.2), p.2 + mx 0 (n - p.2)) hs (by show p.1 - mx 0 (n - p.2) + (p.2 + mx 0 (n - p.2)) = c; omega)
    have m : moved c (placeOf s p) (0 - s) n = placeOf s (p.1 - mx 0 (n - p.2), p.2 + mx 0 (n - p.2)) ∧ absI (moved c (placeOf s p) (0 - s) n - placeOf s p) = mx 0 (n - p.2) := by
      unfold moved placeOf absI
      rcases hs with rfl | rfl
      · rw [if_neg (by decide), if_pos (by decide), if_pos rfl, if_pos rfl]
        have := mn_def p.1 (c - n)
        dsimp only
        split <;> omega
      · rw [if_pos (by decide), if_neg (by decide), if_neg (by decide)]
        have := mx_def p.2 n
        dsimp only
        split <;> omega
    refine ⟨a, ?_, ?_⟩
    · show placeOf (sideAt s r) _ = simP c (sides s r) (moved c (placeOf s p) (0 - s) n)
      rw [m.1]
      exact b
    · show (mx 0 (n - p.2) :: playC _ r).sum = absI (moved c (placeOf s p) (0 - s) n - placeOf s p) + simC c (sides s r) (moved c (placeOf s p) (0 - s) n)
      rw [m.2, m.1, List.sum_cons, ← d]
      rfl
/-- a summary is right -/
theorem summary_right {c x : Int} {l : List Stp} (hl : fitsS c l) (h0 : 0 ≤ x) (h1 : x ≤ c) :
    (playC (x, c - x) l).sum = (effOf c l).carried x ∧ (playS (x, c - x) l).1 = (effOf c l).fin x := by
  have hc : 0 ≤ c := by omega
  obtain ⟨o, oc, ot, f⟩ := effOf_ok hc hl
  obtain ⟨f1, f2⟩ := f x h0 h1
  obtain ⟨a, b, d⟩ := play_sim (c := c) l 1 (x, c - x) (.inl rfl) (by show x + (c - x) = c; omega)
  have e : placeOf 1 (x, c - x) = x := rfl
  rw [e] at b d
  refine ⟨by rw [d, f2], ?_⟩
  unfold Eff.fin
  rw [f1, ot, ← b, oc, sideAt_turning]
  unfold placeOf
  cases turning l with
  | true =>
    simp
    omega
  | false => simp
end ChM

set_option linter.all false
set_option autoImplicit false
set_option maxRecDepth 100000
set_option maxHeartbeats 4000000
namespace ChM
/-! ### effects one after another, rounds -/
def Eff.later (a b : Eff) : Eff := if a.tu then b.mir else b
def goal2 (x y : Option Int) : Option Int := match y with
  | none => x
  | some g => some g
def Eff.followed (a b : Eff) : Eff := mkE a.c ((a.atLeast (a.later b).lo).atMost (a.later b).hi).lo ((a.atLeast (a.later b).lo).atMost (a.later b).hi).hi (((a.atLeast (a.later b).lo).atMost (a.later b).hi).ex + (a.later b).ex) (goal2 ((a.atLeast (a.later b).lo).atMost (a.later b).hi).goal (a.later b).goal) (!decide (a.tu = b.tu))
theorem after_ok {a l : Eff} (ha : a.Ok) (hl : l.Ok) (hc : l.c = a.c) (t : Bool) :
    ∀ R, R = mkE a.c ((a.atLeast l.lo).atMost l.hi).lo ((a.atLeast l.lo).atMost l.hi).hi (((a.atLeast l.lo).atMost l.hi).ex + l.ex) (goal2 ((a.atLeast l.lo).atMost l.hi).goal l.goal) t →
    R.Ok ∧ ∀ x, R.place x = l.place (a.place x) ∧ R.carried x = a.carried x + l.carried (a.place x) := by
  intro R eR
  have l0 := hl.lo0
  have l1 := hl.lh
  have l2 := hl.hc
  have l3 := hl.ex0
  obtain ⟨o1, c1, t1, f1⟩ := atLeast_ok ha (n := l.lo) l0 (by omega)
  obtain ⟨o2, c2, t2, f2⟩ := atMost_ok o1 (m := l.hi) (by omega) (by omega)
  generalize hF : (a.atLeast l.lo).atMost l.hi = F at *
  have cF : F.c = a.c := c2.trans c1
  have pF : ∀ x, F.place x = mn (mx (a.place x) l.lo) l.hi := fun x => by rw [(f2 x).1, (f1 x).1]
  have kF : ∀ x, F.carried x = a.carried x + (mx (mx (l.lo - a.place x) (a.place x - l.hi)) 0) := fun x => by
    rw [(f2 x).2, (f1 x).1, (f1 x).2]
    have := mx_def (a.place x) l.lo
    have := mn_def (mx (a.place x) l.lo) l.hi
    have := mx_def (l.lo - a.place x) (a.place x - l.hi)
    have := mx_def (mx (l.lo - a.place x) (a.place x - l.hi)) 0
    omega
  have f0 := o2.lo0
  have g1 := o2.lh
  have g2 := o2.hc
  have g3 := o2.ex0
  have lc : ∀ x, l.carried x = mx (mx (l.lo - x) (x - l.hi)) 0 + l.ex := fun x => rfl
  have Fc : ∀ x, F.carried x = mx (mx (F.lo - x) (x - F.hi)) 0 + F.ex := fun x => rfl
  cases gl : l.goal with
  | none =>
    obtain ⟨e0, e1⟩ := hl.no gl
    rw [gl] at eR
    have eR2 : R = mkE a.c F.lo F.hi (F.ex + l.ex) F.goal t := eR
    rw [e0, Int.add_zero] at eR2
    have hR : R = { F with tu := t } := by
      rw [eR2, ← cF]
      exact mkE_self o2 t
    have lp : ∀ x, l.place x = mn (mx x l.lo) l.hi := fun x => place_none gl
    refine ⟨?_, fun x => ?_⟩
    · rw [hR]
      exact ⟨f0, g1, g2, g3, o2.no, o2.yes⟩
    · have q1 : R.place x = F.place x := by rw [hR]; rfl
      have q2 : R.carried x = F.carried x := by rw [hR]; rfl
      rw [q1, q2, pF, kF, lp, lc, e0]
      refine ⟨rfl, by omega⟩
  | some g =>
    obtain ⟨y0, y1⟩ := hl.yes g gl
    rw [gl] at eR
    have eR2 : R = mkE a.c F.lo F.hi (F.ex + l.ex) (some g) t := eR
    refine ⟨?_, fun x => ?_⟩
    · rw [eR2]
      exact Ok_some f0 g1 (by omega) (by omega) y0 (by omega)
    · have q1 : R.place x = g := by rw [eR2, mkE_some]; rfl
      have q2 : R.carried x = F.carried x + l.ex := by
        rw [eR2]
        unfold Eff.carried
        simp only [mkE_lo, mkE_hi, mkE_ex]
        omega
      rw [q1, q2, kF, place_some gl, lc]
      refine ⟨rfl, by omega⟩
theorem later_ok {a b : Eff} (hb : b.Ok) : (a.later b).Ok ∧ (a.later b).c = b.c := by
  obtain ⟨o, c, _, _⟩ := mir_ok hb
  unfold Eff.later
  split
  · exact ⟨o, c⟩
  · exact ⟨hb, rfl⟩
theorem fin_range {e : Eff} (h : e.Ok) {x : Int} (h0 : 0 ≤ x) (h1 : x ≤ e.c) : 0 ≤ e.fin x ∧ e.fin x ≤ e.c := by
  obtain ⟨a, b⟩ := place_range h h0 h1
  unfold Eff.fin
  split <;> omega
theorem carried_nonneg {e : Eff} (h : e.Ok) (x : Int) : 0 ≤ e.carried x := by
  have := h.ex0
  unfold Eff.carried
  have := mx_def (mx (e.lo - x) (x - e.hi)) 0
  omega
theorem followed_ok {a b : Eff} (ha : a.Ok) (hb : b.Ok) (hc : b.c = a.c) :
    (a.followed b).Ok ∧ (a.followed b).c = a.c ∧ (a.followed b).tu = !decide (a.tu = b.tu) ∧ ∀ x, (a.followed b).fin x = b.fin (a.fin x) ∧ (a.followed b).carried x = a.carried x + b.carried (a.fin x) := by
  obtain ⟨lo, lc⟩ := later_ok (a := a) hb
  obtain ⟨o, f⟩ := after_ok ha lo (lc.trans hc) (!decide (a.tu = b.tu)) (a.followed b) rfl
  have cc : (a.followed b).c = a.c := rfl
  have ct : (a.followed b).tu = !decide (a.tu = b.tu) := rfl
  refine ⟨o, cc, ct, fun x => ?_⟩
  obtain ⟨f1, f2⟩ := f x
  unfold Eff.fin
  rw [cc, ct, f1, f2]
  obtain ⟨_, _, _, m⟩ := mir_ok hb
  obtain ⟨m1, m2⟩ := m (a.place x)
  unfold Eff.later
  cases ta : a.tu with
  | true =>
    simp only [if_pos]
    rw [m1, m2, hc]
    refine ⟨?_, rfl⟩
    cases tb : b.tu
    · simp
      omega
    · simp
  | false =>
    simp only [Bool.false_eq_true, if_false, if_neg]
    cases tb : b.tu
    · simp
    · simp [hc]
/-- rounds of an effect -/
def runF (e : Eff) : Nat → Int → Int
  | 0, x => x
  | n + 1, x => runF e n (e.fin x)
def runC (e : Eff) : Nat → Int → Int
  | 0, _ => 0
  | n + 1, x => e.carried x + runC e n (e.fin x)
theorem runF_add (e : Eff) : ∀ (i j : Nat) (x : Int), runF e (i + j) x = runF e j (runF e i x)
  | 0, j, x => by rw [Nat.zero_add]; rfl
  | i + 1, j, x => by
    rw [show i + 1 + j = (i + j) + 1 by omega]
    exact runF_add e i j (e.fin x)
theorem runC_add (e : Eff) : ∀ (i j : Nat) (x : Int), runC e (i + j) x = runC e i x + runC e j (runF e i x)
  | 0, j, x => by
    rw [Nat.zero_add]
    show runC e j x = 0 + runC e j x
    omega
  | i + 1, j, x => by
    rw [show i + 1 + j = (i + j) + 1 by omega]
    show e.carried x + runC e (i + j) (e.fin x) = (e.carried x + runC e i (e.fin x)) + runC e j (runF e i (e.fin x))
    rw [runC_add e i j (e.fin x)]
    omega
theorem run_range {e : Eff} (h : e.Ok) : ∀ (n : Nat) {x : Int}, 0 ≤ x → x ≤ e.c → 0 ≤ runF e n x ∧ runF e n x ≤ e.c
  | 0, x, h0, h1 => ⟨h0, h1⟩
  | n + 1, x, h0, h1 => run_range h n (fin_range h h0 h1).1 (fin_range h h0 h1).2
structure IsPow (e : Eff) (n : Nat) (f : Eff) : Prop where
  ok : f.Ok
  c : f.c = e.c
  tu : f.tu = (e.tu && n % 2 == 1)
  fin : ∀ x, 0 ≤ x → x ≤ e.c → f.fin x = runF e n x
  car : ∀ x, 0 ≤ x → x ≤ e.c → f.carried x = runC e n x
theorem isPow_zero {e : Eff} (h : e.Ok) : IsPow e 0 (nothing e.c) := by
  have hc : 0 ≤ e.c := Int.le_trans h.lo0 (Int.le_trans h.lh h.hc)
  obtain ⟨o, f⟩ := nothing_ok hc
  refine ⟨o, rfl, by cases e.tu <;> rfl, fun x h0 h1 => ?_, fun x h0 h1 => (f x h0 h1).2⟩
  show (if false = true then _ else (nothing e.c).place x) = x
  rw [if_neg (by decide)]
  exact (f x h0 h1).1
theorem isPow_one {e : Eff} (h : e.Ok) : IsPow e 1 e := ⟨h, rfl, by cases e.tu <;> rfl, fun _ _ _ => rfl, fun x _ _ => by show _ = e.carried x + 0; omega⟩
theorem isPow_add {e a b : Eff} (h : e.Ok) {i j : Nat} (ha : IsPow e i a) (hb : IsPow e j b) : IsPow e (i + j) (a.followed b) := by
  obtain ⟨o, c, t, f⟩ := followed_ok ha.ok hb.ok (hb.c.trans ha.c.symm)
  refine ⟨o, c.trans ha.c, ?_, fun x h0 h1 => ?_, fun x h0 h1 => ?_⟩
  · rw [t, ha.tu, hb.tu]
    cases e.tu with
    | false => rfl
    | true =>
      have hi : i % 2 = 0 ∨ i % 2 = 1 := by omega
      have hj : j % 2 = 0 ∨ j % 2 = 1 := by omega
      have hij : (i + j) % 2 = (i % 2 + j % 2) % 2 := Nat.add_mod i j 2
      rw [hij]
      rcases hi with hi | hi <;> rcases hj with hj | hj <;> rw [hi, hj] <;> decide
  · obtain ⟨r0, r1⟩ := run_range h i h0 h1
    rw [(f x).1, ha.fin x h0 h1, hb.fin _ r0 r1, runF_add]
  · obtain ⟨r0, r1⟩ := run_range h i h0 h1
    rw [(f x).2, ha.fin x h0 h1, ha.car x h0 h1, hb.car _ r0 r1, runC_add]
/-! ### rounds of a plan are a longer plan -/
def times (l : List Stp) : Nat → List Stp
  | 0 => []
  | n + 1 => l ++ times l n
theorem playS_app : ∀ (a b : List Stp) (p : Int × Int), playS p (a ++ b) = playS (playS p a) b
  | [], _, _ => rfl
  | x :: r, b, p => playS_app r b (play1 p x).1
theorem playC_app : ∀ (a b : List Stp) (p : Int × Int), playC p (a ++ b) = playC p a ++ playC (playS p a) b
  | [], _, _ => rfl
  | x :: r, b, p => congrArg (_ :: ·) (playC_app r b (play1 p x).1)
theorem play_keep (l : List Stp) : ∀ (p : Int × Int), (playS p l).1 + (playS p l).2 = p.1 + p.2 := by
  induction l with
  | nil => exact fun p => rfl
  | cons s r ih =>
    intro p
    show (playS (play1 p s).1 r).1 + (playS (play1 p s).1 r).2 = _
    rw [ih]
    cases s with
    | turn => show p.2 + p.1 = _; omega
    | mt b n =>
      cases b
      · show p.1 - mx 0 (n - p.2) + (p.2 + mx 0 (n - p.2)) = _; omega
      · show p.1 + mx 0 (n - p.1) + (p.2 - mx 0 (n - p.1)) = _; omega
theorem play_pair {l : List Stp} {c x : Int} : playS (x, c - x) l = ((playS (x, c - x) l).1, c - (playS (x, c - x) l).1) := by
  have := play_keep l (x, c - x)
  have e : (x, c - x).1 + (x, c - x).2 = c := by show x + (c - x) = c; omega
  rw [e] at this
  generalize playS (x, c - x) l = p at this
  cases p with
  | mk u v =>
    show (u, v) = (u, c - u)
    rw [show v = c - u by show v = _; have : u + v = c := this; omega]
theorem rounds_right {c : Int} {l : List Stp} (hl : fitsS c l) : ∀ (n : Nat) {x : Int}, 0 ≤ x → x ≤ c →
    (playC (x, c - x) (times l n)).sum = runC (effOf c l) n x ∧ (playS (x, c - x) (times l n)).1 = runF (effOf c l) n x
  | 0, x, _, _ => ⟨rfl, rfl⟩
  | n + 1, x, h0, h1 => by
    obtain ⟨s1, s2⟩ := summary_right hl h0 h1
    obtain ⟨o, oc, _, _⟩ := effOf_ok (by omega : 0 ≤ c) hl
    have r := fin_range o h0 (by omega)
    obtain ⟨q1, q2⟩ := rounds_right hl n r.1 (by omega)
    show (playC (x, c - x) (l ++ times l n)).sum = _ ∧ (playS (x, c - x) (l ++ times l n)).1 = _
    rw [playS_app, playC_app, play_pair, s2, List.sum_append, q1, q2, s1]
    exact ⟨rfl, rfl⟩
end ChM

set_option Elab.async false
set_option linter.all false
set_option autoImplicit false
set_option maxRecDepth 100000
set_option maxHeartbeats 4000000
namespace Ch
open PySem PySem.Spec PyProof.Rows L2
/-! ### a star among the targets: a, *b = a tuple -/
section
variable {prog : Program} {w : World} {A : Around} {E : Value → Shared → Prop} {s : Shared}
theorem star_tup {t : Addr} {its : Array Value} {n i : Nat} {Q : List Value → Shared → Prop} (ht : IsTup s.heap t its) (hand : A.handled = none) (hin : i < n) (hle : n ≤ its.size + 1) (hsz : its.size ≤ 16384)
    (k : ∀ (g : Heap) (tk : Nat), (∀ b o, s.heap.get? b = some o → g.get? b = some o) → Q (its.toList.take i ++ [.ref g.objs.size] ++ (its.toList.drop i).drop (its.size + 1 - n)) { s with heap := g.push { cls := .type "list", data := .seq ((its.toList.drop i).take (its.size + 1 - n)).toArray }, toks := tk }) :
    wpAny (model prog w) A (unpackItems (.ref t) n (some i)) Q E s := by
  have tlt : t < s.heap.objs.size := by
    obtain ⟨o, ho, _⟩ := ht
    exact Heap.lt_size ho
  have tne : t ≠ s.heap.objs.size := Nat.ne_of_lt tlt
  unfold unpackItems
  refine wpAny_bind ?_
  unfold notIterableAtAll
  refine wpAny_bind (wpAny_specialOf ht.typeIs slot_tuple_iter.lookup (wpAny_pure ?_))
  simp only [Bool.false_eq_true, if_false]
  refine wpAny_bind (wpAny_holding (iter_tuple ht (?_)))
  refine wpAny_bind (wpAny_holding (draw_tuple tne i 0 _ _ ⟨_, Heap.get?_push_size _ rfl, rfl, rfl⟩ (ht.push _) (by omega) fun g1 it1 sb1 => ?_))
  have ht1 : IsTup g1 t its := (ht.push _).extBut sb1.extBut tne
  rw [Nat.zero_add] at it1
  obtain ⟨oi, hoi, hoi2⟩ := id it1
  obtain ⟨ot, hot, _⟩ := id ht1
  rw [List.drop_zero]
  have lf : (its.toList.take i).length = i := by
    rw [List.length_take, Array.length_toList]
    omega
  have lr : (its.toList.drop i).length = its.size - i := by
    rw [List.length_drop, Array.length_toList]
  rw [if_neg (show ¬ ((its.toList.take i).length < i) by omega)]
  refine wpAny_bind (wpAny_holding (PySem.W.kun_collect (s := { s with heap := g1 }) (T := "tuple_iterator") (Or.inr (Or.inr (Or.inr rfl))) (Walks.tuple (A := A.in1) hand s.heap.objs.size t tne its) (fun _ _ st => st.1.typeIs) (k := i) (by omega) ⟨it1, ht1⟩ (Heap.lt_size hoi) (Heap.lt_size hot) (fun g2 tk kp => ?_) (by rw [sizeLine_eq]; omega)))
  have lm : (its.toList.drop i).length - (n - 1 - i) = its.size + 1 - n := by omega
  show wpAny _ _ (if (its.toList.drop i).length < n - 1 - i then _ else _) _ _ _
  rw [if_neg (by omega)]
  show wpAny _ _ (newList ((its.toList.drop i).take ((its.toList.drop i).length - (n - 1 - i))) >>= fun d => pure (its.toList.take i ++ [d] ++ (its.toList.drop i).drop ((its.toList.drop i).length - (n - 1 - i)))) _ _ _
  rw [lm]
  have keep : ∀ b o, s.heap.get? b = some o → g2.get? b = some o := fun b o e => by
    have hb : b ≠ s.heap.objs.size := Nat.ne_of_lt (Heap.lt_size e)
    exact kp b o hb (sb1.extBut b o hb (Heap.get?_push_of_some _ e))
  refine wpAny_bind (wpAny_newList (s := { s with heap := g2, toks := tk }) (wpAny_pure (k g2 tk keep)) ?_)
  rw [List.length_take, lr, sizeLine_eq]
  omega
end
section
variable {X : Cx} {pos : Pos}
theorem pgs_star {e : Expr} {p : Pos} {es : List Expr} {t : TG} {u : TGs} (h1 : PG X e t) (h2 : PGs X es u)
    (hs : (assignEach (.Starred e p :: es) X.env).map (·.2) = assign e X.env :: (assignEach es X.env).map (·.2) := by rfl) : PGs X (.Starred e p :: es) (gCons t u) := by
  refine ⟨fun pins s σ H vs us Q I r ⟨v, vr, ev, h⟩ => ?_⟩
  subst ev
  cases r with
  | cons ra rb =>
    rw [hs]
    exact assignInOrder_cons (thn (h1.run pins s σ H _ _ _ I ra h) fun _ s1 ⟨σ1, H1, I1, q1⟩ => h2.run pins s1 σ1 H1 _ _ Q I1 rb q1)
/-- n targets, the i-th with a star, a tuple of fewer or more items -/
def gStar (K : PySem.W.Frag) (n i : Nat) (t : TGs) : TG := fun v σ H Q => ∃ a xs, v = .ref a ∧ SqT K H a xs ∧ i < n ∧ n ≤ xs.length + 1 ∧ xs.length ≤ 16384 ∧
  ∀ d, H d = none → t (xs.take i ++ [.ref d] ++ (xs.drop i).drop (xs.length + 1 - n)) σ (upd H d (.lst ((xs.drop i).take (xs.length + 1 - n)))) Q
theorem pg_star {es : List Expr} {k : Nat} {t : TGs} {n i : Nat} (hc : X.calm = true) (h : PGs X es t)
    (hn : (assignEach es X.env).length = n := by rfl) (hst : (assignEach es X.env).findIdx? (·.1) = some i := by rfl) : PG X (.Tuple es k pos) (gStar X.K n i t) := by
  refine ⟨fun pins s σ H v u Q I r ⟨a, xs, ev, hq, hin, hle, hsz, q⟩ => ?_⟩
  subst ev
  cases r
  obtain ⟨its, rv, ht, _⟩ := I.tuple hq
  have el : its.length = xs.length := rv.length.symm
  rw [assign_Tuple]
  refine wpAny_bind (wpAny_standAt ?_)
  unfold unpack
  rw [hn, hst]
  refine wpAny_bind (wpAny_holding (star_tup ht (I.ok.hd hc) hin (by simp [el]; omega) (by simp [el]; omega) fun g tk keep => ?_))
  have esz : its.toArray.size + 1 - n = xs.length + 1 - n := by simp [el]
  rw [esz]
  have I1 : Inv X pins σ H { s with heap := g, toks := tk } := I.kept (t' := tk) keep
  have hf : H g.objs.size = none := I1.hok.fresh (Nat.le_refl _)
  have I2 : Inv X pins σ (upd H g.objs.size (.lst ((xs.drop i).take (xs.length + 1 - n)))) { s with heap := g.push { cls := .type "list", data := .seq ((its.toArray.toList.drop i).take (xs.length + 1 - n)).toArray }, toks := tk } := by
    refine I1.laid (t' := tk) (fun b u e => Heap.get?_push_of_some _ e) (Nat.le_refl _) ⟨?_, (its.drop i).take (xs.length + 1 - n), 0, (rv.drop i).take _, Heap.get?_push_size _ rfl⟩
    rw [List.length_take, List.length_drop, sizeLine_eq]
    omega
  refine h.run pins _ σ _ _ _ Q I2 ?_ (q _ hf)
  exact Vals.append (Vals.append (rv.take i) (.cons rfl .nil)) ((rv.drop i).drop _)
end
end Ch

set_option Elab.async false
set_option linter.all false
set_option autoImplicit false
set_option maxRecDepth 100000
set_option maxHeartbeats 4000000
namespace Ch
open PySem PySem.Spec PyProof.Rows L2
/-! ### a < b < c < d as a test -/
def tChain3 (r1 r2 r3 : R2) (ta tb tc td : TE) : TE := fun σ H Q => ta σ H fun x H1 => tb σ H1 fun y H2 => r1 x y H2 fun z H3 => ∃ k, z = .bl k ∧
  (if k = true then tc σ H3 fun x2 H4 => r2 y x2 H4 fun z2 H5 => ∃ k2, z2 = .bl k2 ∧ (if k2 = true then td σ H5 fun x3 H6 => r3 x2 x3 H6 Q else Q (.bl false) H5) else Q (.bl false) H3)
section
variable {X : Cx} {a b c d : Expr} {ta tb tc td : TE} {pos : Pos}
theorem pt_chain3 {o1 o2 o3 : CmpOp} {r1 r2 r3 : R2} (h1 : OpR X (compareOp o1) r1) (h2 : OpR X (compareOp o2) r2) (h3 : OpR X (compareOp o3) r3) (ha : PE X a ta) (hb : PE X b tb) (hc : PE X c tc) (hd : PE X d td)
    (hm : lastMarks [o1, o2, o3] [b, c, d] = false := by with_unfolding_all rfl) : PT X (.Compare a [o1, o2, o3] [b, c, d] pos) (tTest (tChain3 r1 r2 r3 ta tb tc td)) := by
  refine ⟨fun pins s σ H Q I h => isTrue_chain (thn (ha.run pins s σ H _ I h) fun v s1 ⟨x, H1, I1, e1, q1⟩ => test_link (thn (hb.run pins s1 σ H1 _ I1 q1) fun u s2 ⟨y, H2, I2, e2, q2⟩ =>
    thn (h1 pins s2 σ H2 x y v u _ I2 e1 e2 q2) fun w1 s3 ⟨z, H3, I3, e3, k, ek, q3⟩ => ?_)) hm⟩
  subst ek
  cases e3
  refine wpAny_truthy_bool ?_
  cases k with
  | false =>
    obtain ⟨k', ek', q'⟩ := q3
    cases ek'
    exact ite_ff ⟨H3, I3, q'⟩
  | true =>
    refine ite_tt (test_link (thn (hc.run pins s3 σ H3 _ I3 q3) fun w2 s4 ⟨x2, H4, I4, e4, q4⟩ => thn (h2 pins s4 σ H4 y x2 u w2 _ I4 e2 e4 q4) fun w3 s5 ⟨z2, H5, I5, e5, k2, ek2, q5⟩ => ?_))
    subst ek2
    cases e5
    refine wpAny_truthy_bool ?_
    cases k2 with
    | false =>
      obtain ⟨k', ek', q'⟩ := q5
      cases ek'
      exact ite_ff ⟨H5, I5, q'⟩
    | true =>
      refine ite_tt (test_last (thn (hd.run pins s5 σ H5 _ I5 q5) fun w4 s6 ⟨x3, H6, I6, e6, q6⟩ => thn (h3 pins s6 σ H6 x2 x3 w2 w4 _ I6 e4 e6 q6) fun w5 s7 ⟨z3, H7, I7, e7, k3, ek3, q7⟩ => ?_))
      subst ek3
      cases e7
      exact wpAny_truthy_bool ⟨H7, I7, q7⟩
end
end Ch

set_option Elab.async false
set_option linter.all false
set_option autoImplicit false
set_option maxRecDepth 100000
set_option maxHeartbeats 4000000
namespace Ch
open PySem PySem.Spec PyProof.Rows L2
open Sem (wp)
/-! ### enumerate of a tuple -/
theorem en_new1 {v : Value} {ob : Obj} {G : Heap → Prop} (B : Begins v ob G) :
    Meets (Builtin.«enumerate.__new__» ⟨[.type "enumerate", v], []⟩) (fun _ R s => G s.heap ∧
      R (.ok (.ret (.ref (s.heap.push ob).objs.size))) { s with heap := (s.heap.push ob).push { cls := .type "enumerate", data := .fields #[.none, .bool false, .ref s.heap.objs.size, rawInt 0, .none, .none] } }) :=
  .of_wp fun prog w A R st ⟨hG, hR⟩ => by
    obtain ⟨hp, ge, dr, tk, os⟩ := st
    have hsub := sub_enumerate
    have itq : ∀ {A1 : Around} {E : Value → Shared → Prop} {Q : Value → Shared → Prop}, Q (.ref hp.objs.size) ⟨hp.push ob, ge, dr, tk, os⟩ → wpAny (model prog w) A1 (pyIter v) Q E ⟨hp, ge, dr, tk, os⟩ :=
      fun q => B.iter prog w _ _ ⟨hp, ge, dr, tk, os⟩ _ hG q
    wp_walk using itq
    refine wpAny_stack_any fun sk => wpAny_pure (?_)
    split
    · rename_i c _ _ _ _ _
      cases (c == Value.type "enumerate")
      all_goals
        wp_walk using itq
        exact ⟨_, rfl, hR⟩
    · wp_walk using itq
      exact ⟨_, rfl, hR⟩
section
variable {prog : Program} {w : World} {A : Around} {E : Value → Shared → Prop} {s : Shared}
theorem en_call1 {v : Value} {ob : Obj} {G : Heap → Prop} {Q : Value → Shared → Prop} (B : Begins v ob G) (hG : G s.heap)
    (k : ∀ g : Heap, IsEnum g (s.heap.objs.size + 1) s.heap.objs.size 0 .none → g.get? s.heap.objs.size = some ob → (∀ b o, s.heap.get? b = some o → g.get? b = some o) → Q (.ref (s.heap.objs.size + 1)) { s with heap := g }) :
    wpAny (model prog w) A (call (.type "enumerate") [v]) Q E s := by
  refine callType_new F.called_enumerate (by decide) (F.typeCall_enumerate_1 _) (F.newCall_enumerate_1 _) (fun obj => F.args_object_init_2 obj _) F.entry_enumerate_new (en_new1 B) ⟨hG, ?_⟩
  have sz : (s.heap.push ob).objs.size = s.heap.objs.size + 1 := Heap.size_push ..
  show _ ∧ _
  rw [sz]
  have ie : IsEnum ((s.heap.push ob).push { cls := .type "enumerate", data := .fields #[.none, .bool false, .ref s.heap.objs.size, rawInt 0, .none, .none] }) (s.heap.objs.size + 1) s.heap.objs.size 0 .none := by
    have q := Heap.get?_push_size (s.heap.push ob) (o := { cls := .type "enumerate", data := .fields #[.none, .bool false, .ref s.heap.objs.size, rawInt 0, .none, .none] }) rfl
    rw [sz] at q
    exact q
  exact ⟨⟨_, ie, rfl⟩, k _ ie (Heap.get?_push_of_some _ (Heap.get?_push_size _ B.free)) fun b o x => Heap.get?_push_of_some _ (Heap.get?_push_of_some _ x)⟩
end
/-- the tuple at a, each item in a new pair -/
def IteT (K : PySem.W.Frag) (a : Addr) : It :=
  ⟨fun i H => ∃ (xs : List V) (x : V), SqT K H a xs ∧ xs[i]? = some x, fun i H v H' => ∃ T x, v = .ref T ∧ H T = none ∧ H' = upd H T (.tup [.int (i : Nat), x]) ∧ ∀ xs, SqT K H a xs → xs[i]? = some x, fun i H => ∃ xs : List V, SqT K H a xs ∧ xs.length ≤ i⟩
theorem turn_enumT {P : Program} {w : World} {K : PySem.W.Frag} {elts : List Expr} {kk : Nat} {tpos : Pos} (a e it : Addr) :
    Turn P w K (.Tuple elts kk tpos) (IteT K a) [e, it] e (fun i h => (∃ old, IsEnum h e it ((i : Nat) : Int) old) ∧ h.IsTupleIter it a i ∧ e ≠ it ∧ e ≠ a ∧ a ≠ it) where
  mem := List.mem_cons_self
  obj := fun i h st b hb => by
    obtain ⟨⟨old, he⟩, ⟨o, ho, hc, hd⟩, _⟩ := st
    rcases List.mem_cons.mp hb with z | z
    · rw [z]
      exact ⟨_, he, fun v q => nomatch q⟩
    · rw [List.mem_singleton.mp z]
      exact ⟨o, ho, fun v q => by rw [hd] at q; cases q⟩
  keep := fun i h h' ⟨⟨old, he⟩, hi, hn⟩ k => ⟨⟨old, k e (by simp) _ he⟩, hi.at fun o q => k it (by simp) o q, hn⟩
  item := by
    intro X hP hw hK hc i pins s σ H E I hf ⟨⟨old, he⟩, hit, hne, hea, hai⟩ ⟨xs, x, hq, hx⟩
    subst hP hw hK
    obtain ⟨its, rv, p, hz⟩ := I.tuple hq
    obtain ⟨u, hu, ru⟩ := rv.get hx
    have pt : s.heap.IsTuple a its.toArray := p
    have hel : e < s.heap.objs.size := Heap.lt_size he
    have hil : it < s.heap.objs.size := by
      obtain ⟨_, q, _⟩ := hit
      exact Heap.lt_size q
    have hlt : i < its.toArray.size := by
      have := (List.getElem?_eq_some_iff.mp hu).1
      simpa using this
    refine wpAny_pyNext_enum_itemD (Draws.tuple (A := X.A.in1) (I.ok.hd hc) it a hai its.toArray) he ⟨hit, pt⟩ hlt hne (by simp [hne, hea]) fun u' g tk hPu ho st' hT hsz hk => ?_
    have eu : u' = u := by
      have h1 : its.toArray[i]? = some u' := hPu
      rw [List.getElem?_toArray, hu] at h1
      exact (Option.some.inj h1).symm
    subst eu
    refine ⟨_, rfl, wpAny_letOwnedTupleGo_enum (s := { s with heap := g, toks := tk + 1 }) ho fun g2 he' sb => ?_⟩
    have hT2 : g2.get? s.heap.objs.size = some { cls := .type "tuple", data := .seq #[.int i tk, u'] } := (sb.2 _ (Nat.ne_of_gt hel)).trans hT
    have new : ObjOk X.prog X.w (upd H s.heap.objs.size (.tup [.int (i : Nat), x])) g2 s.heap.objs.size (.tup [.int (i : Nat), x]) :=
      ⟨by show 2 ≤ sizeLine; decide, [.int i tk, u'], .cons ⟨_, rfl⟩ (.cons ru .nil), ⟨_, hT2, rfl, _, rfl⟩⟩
    have I1 : Inv X pins σ (upd H s.heap.objs.size (.tup [.int (i : Nat), x])) { s with heap := g2, toks := tk + 1 } :=
      I.turnedNew (ch := [e, it]) (fun b ob hb q => by
        have n1 : b ≠ e := fun z => hb (by simp [z])
        have n2 : b ≠ it := fun z => hb (by simp [z])
        exact (sb.2 b n1).trans (hk b ob n1 n2 q)) hf (Nat.le_refl _) new
    refine ⟨.ref s.heap.objs.size, _, I1, rfl, ⟨_, x, rfl, I.hok.fresh (Nat.le_refl _), rfl, fun ys hy => by rw [I.tuple_inj hy hq]; exact hx⟩, ⟨⟨u', ?_⟩, st'.1.at fun o q => (sb.2 it (Ne.symm hne)).trans q, hne, hea, hai⟩, fun b hb => ?_⟩
    · rw [show ((i + 1 : Nat) : Int) = (i : Int) + 1 by omega]
      exact he'
    · have lb : b < s.heap.objs.size := by
        rcases List.mem_cons.mp hb with z | z
        · rw [z]
          exact hel
        · rw [List.mem_singleton.mp z]
          exact hil
      rw [upd_ne (Nat.ne_of_lt lb)]
      exact (hf b hb).1
  done := by
    intro X hP hw hK hc i pins s σ H E I hf ⟨⟨old, he⟩, hit, hne, hea, hai⟩ ⟨xs, hq, hx⟩
    subst hP hw hK
    obtain ⟨its, rv, p, hz⟩ := I.tuple hq
    have pt : s.heap.IsTuple a its.toArray := p
    obtain ⟨f0, f1, f2, f3, f4, f5⟩ := hf it (by simp)
    have hl := rv.length
    have hd : s.heap.IsTupleIter it a i := hit
    refine wpAny_pyNext_enum_endD (fp := [it, a]) (n := i) (P := fun _ _ => False) (St := fun j g => j = i ∧ g.IsTupleIter it a i ∧ g.IsTuple a its.toArray) ?_ he ⟨rfl, hit, pt⟩ fun g eb => ⟨rfl, I.turned (t' := s.toks) (fun b o hb q => eb b o hb q) f0 f1 f3 f4 f5⟩
    exact {
      live := fun _ _ st => let ⟨o, ho, _⟩ := st.2.1; ⟨o, ho⟩
      frame := fun _ _ _ st hk => ⟨st.1, st.2.1.at fun o q => hk it (by simp) o q, st.2.2.at fun o q => hk a (by simp) o q⟩
      item := fun j s2 Q2 E2 hj st _ => absurd st.1 (Nat.ne_of_lt hj)
      done := fun s2 Q2 E2 st hE => wpAny_nextOf_tuple_end (I.ok.hd hc) st.2.1 st.2.2 (by simp; omega) hE }
  self := fun A i s Q E st h => let ⟨⟨_, he⟩, _⟩ := st; wpAny_pyIter_enum he h
def iEnumT (K : PySem.W.Frag) (ta : TA) : TI := fun σ H R => ta σ H fun vs H1 => ∃ a xs, vs = [.ref a] ∧ SqT K H1 a xs ∧ R (IteT K a) H1
theorem pi_enumT {X : Cx} {e : Expr} {ta : TA} {p pos tpos : Pos} {elts : List Expr} {kk : Nat} (hg : Gl X "enumerate") (hm : X.mg "enumerate" = none) (ha : PA X [e] ta) (hs : starEach [e] X.env = [(false, eval e X.env)] := by rfl) :
    PI X (.Tuple elts kk tpos) (.Call (.Name "enumerate" p) [e] [] pos) (iEnumT X.K ta) := by
  refine ⟨fun pins s σ H R I h => ?_⟩
  refine Call_ (ld_blt I hg hm boot_enumerate (PyProof.Rows.callWith_type1 (thn (ha.run pos pins s σ H _ I h) fun us s1 ⟨vs, H1, I1, r1, a, xs, ex, hq, q⟩ => ?_) hs rfl))
  subst ex
  obtain ⟨u, rfl, ru⟩ := vals1 r1
  obtain rfl : u = Value.ref a := ru
  obtain ⟨its, rv, p', hz⟩ := I1.tuple hq
  have pt : s1.heap.IsTuple a its.toArray := p'
  have al : a < s1.heap.objs.size := by
    obtain ⟨o, ho, _⟩ := pt
    exact Heap.lt_size ho
  refine en_call1 (begins_tuple a its.toArray) pt fun g he hit hk => wpAny_pyIter_enum he ?_
  have I2 : Inv X pins σ H1 { s1 with heap := g } := I1.kept (t' := s1.toks) hk
  refine ⟨s1.heap.objs.size + 1, [s1.heap.objs.size + 1, s1.heap.objs.size], _, _, H1, rfl, I2, turn_enumT a (s1.heap.objs.size + 1) s1.heap.objs.size, ⟨⟨.none, he⟩, ⟨_, hit, rfl, rfl⟩, Nat.succ_ne_self _, Nat.ne_of_gt (Nat.lt_succ_of_lt al), Nat.ne_of_lt al⟩, fun b hb => ?_, q⟩
  have lb : s1.heap.objs.size ≤ b := by
    rcases List.mem_cons.mp hb with z | z
    · rw [z]
      exact Nat.le_add_right _ _
    · rw [List.mem_singleton.mp z]
      exact Nat.le_refl _
  exact I1.fpOk lb (I1.hok.fresh lb)
theorem walk_enumT {K : PySem.W.Frag} {a : Addr} {xs : List V} : Walk (IteT K a) xs.length (fun H => SqT K H a xs) (YPair (fun i => some (.int (i : Nat))) (fun i => xs[i]?)) where
  goes := fun i H hi hG => ⟨xs, xs[i], hG, List.getElem?_eq_getElem hi⟩
  stops := fun H hG => ⟨xs, hG, Nat.le_refl _⟩
  yields := fun i H v H' hi hG ⟨T, x, ev, hT, eH, hx⟩ => ⟨T, _, x, ev, hT, eH, rfl, hx xs hG⟩
/-! ### max of three ints -/
theorem call_max3 {X : Cx} (hc : X.calm = true) : CallR X (.builtin "max") (fun xs H Q => ∃ i j k : Int, xs = [.int i, .int j, .int k] ∧ Q (.int (if k > (if j > i then j else i) then k else (if j > i then j else i))) H) := by
  intro pins s σ H xs us Q I r ⟨i, j, k, e, q⟩
  refine call_max3Nu hc pins s σ H xs us Q I r ⟨.int i, .int j, .int k, _, e, ?_, q⟩
  have two : ∀ a b : Int, nuMax2 (.int a) (.int b) = some (.int (if b > a then b else a)) := fun a b => by
    show some (if decide (a < b) = true then V.int b else V.int a) = _
    by_cases h : a < b
    · rw [decide_eq_true h, if_pos rfl, if_pos h]
    · rw [decide_eq_false h, if_neg Bool.false_ne_true, if_neg h]
  unfold nuMax3
  rw [two, Option.bind_some, two]
end Ch

set_option Elab.async false
set_option linter.all false
set_option autoImplicit false
set_option maxRecDepth 100000
set_option maxHeartbeats 4000000
namespace Ch
open PySem PySem.Spec PyProof.Rows L2
/-! ### calls by positional promises -/
def tCallR (sp : Sp) (E : XK) (t : TA) : TE := fun σ H Q => t σ H fun vs H1 => sp vs H1 Q E
def tMethR (C : Addr) (m : Str) (sp : Sp) (E : XK) (ta : TE) (t : TA) : TE := fun σ H Q => ta σ H fun x H1 => ∃ a dx fs, x = .ref a ∧ H1 a = some (.ins C dx fs) ∧ fs.lookup m = none ∧ t σ H1 fun vs H2 => sp (.ref a :: vs) H2 Q E
def tPropR (C : Addr) (sp : Sp) (E : XK) (ta : TE) : TE := fun σ H Q => ta σ H fun x H1 => ∃ a dx fs, x = .ref a ∧ H1 a = some (.ins C dx fs) ∧ sp [.ref a] H1 Q E
def tMk (C : Addr) (sp : Sp) (E : XK) (t : TA) : TE := fun σ H Q => t σ H fun vs H1 => ∀ x dx, H1 x = none → H1 dx = none → dx ≠ x → sp (.ref x :: vs) (upd (upd H1 dx (.own x)) x (.ins C dx [])) (fun v H2 => v = .non ∧ Q (.ref x) H2) E
section
variable {X : Cx} {CX : CXT} {k : Nat} {f C g p : Addr} {sp : Sp} {E : XK} {x m : Str} {np pos apos : Pos} {e o : Expr} {es : List Expr} {ta : TE} {t : TA}
theorem pe_callR (F : FnR X.prog X.w X.K X.mg X.base CX k f sp) (hr : Room k X.A) (hm : X.mg x = some (.ref f)) (hk : PySem.W.keepIn X.K (.ref f) = true) (hx : Passes CX X E) (hg : Gl X x) (ha : PA X (e :: es) t)
    (hd : (x == ("__debug__" : Str)) = false := by decide) (he : starEach (e :: es) X.env = (false, eval e X.env) :: starEach es X.env := by rfl) (hpl : (backTo pos (starEach es X.env)).any (·.1) = false := by rfl) :
    PE X (.Call (.Name x np) (e :: es) [] pos) (tCallR sp E t) :=
  ⟨fun pins s σ H Q I h => wpAny_Call_Name_kw (ld_glob I hg hm (PySem.W.callWith_K (h₀ := X.base) I.ok.mod.kin hk (thn (ha.run pos pins s σ H _ I h) fun us s1 ⟨vs, H1, I1, r, q⟩ => ⟨I1.kIn, wpAny_call (run_fnR F hr hx I1 r q)⟩) he hpl) hd)⟩
theorem pe_callR0 (F : FnR X.prog X.w X.K X.mg X.base CX k f sp) (hr : Room k X.A) (hm : X.mg x = some (.ref f)) (hk : PySem.W.keepIn X.K (.ref f) = true) (hx : Passes CX X E) (hg : Gl X x)
    (hd : (x == ("__debug__" : Str)) = false := by decide) : PE X (.Call (.Name x np) [] [] pos) (tCallR sp E tNil) :=
  ⟨fun pins s σ H Q I h => wpAny_Call_Name_kw (ld_glob I hg hm (PySem.W.callWith_K0 I.kIn hk (wpAny_call (run_fnR (us := []) F hr hx I .nil h))) hd)⟩
theorem pe_methR {pl : Sem Bool} (c : Cls X.K C) (hm : Meth X.K C m f) (F : FnR X.prog X.w X.K X.mg X.base CX k f sp) (hr : Room k X.A) (hx : Passes CX X E) (ho : PE X o ta) (ha : PA X (e :: es) t)
    (hst : starEach (e :: es) X.env = (false, eval e X.env) :: starEach es X.env := by rfl) (hpl : (backTo pos (starEach es X.env)).any (·.1) = false := by rfl)
    (ht : eval (.Call (.Attribute o m apos) (e :: es) [] pos) X.env = (do
      let rv ← eval o X.env
      standAt apos.atName
      let (fn, first) ← holding [rv] (getMethod rv m pl)
      callWith pos fn first (backTo pos (starEach (e :: es) X.env)) (backToKw pos (keywordEach [] X.env))) := by rfl) :
    PE X (.Call (.Attribute o m apos) (e :: es) [] pos) (tMethR C m sp E ta t) := by
  refine ⟨fun pins s σ H Q I h => PySem.W.methodCall_KW (pl := pl) (thn (ho.run pins s σ H _ I h) fun u s1 ⟨y, H1, I1, ry, a, dx, fs, ey, ea, l, q⟩ => ?_) ht⟩
  subst ey
  obtain rfl : u = Value.ref a := ry
  refine getmeth_ok I1 ea c hm l (PySem.W.callWith_K (first := [.ref a]) (h₀ := X.base) I.ok.mod.kin hm.kp (thn (ha.run pos pins s1 σ H1 _ I1 q) fun us s2 ⟨vs, H2, I2, r, q2⟩ => ⟨I2.kIn, ?_⟩) hst hpl)
  exact wpAny_call (run_fnR (us := .ref a :: us) (vs := .ref a :: vs) F hr hx I2 (.cons rfl r) q2)
theorem pe_methR0 {pl : Sem Bool} (c : Cls X.K C) (hm : Meth X.K C m f) (F : FnR X.prog X.w X.K X.mg X.base CX k f sp) (hr : Room k X.A) (hx : Passes CX X E) (ho : PE X o ta)
    (ht : eval (.Call (.Attribute o m apos) [] [] pos) X.env = (do
      let rv ← eval o X.env
      standAt apos.atName
      let (fn, first) ← holding [rv] (getMethod rv m pl)
      callWith pos fn first (backTo pos (starEach [] X.env)) (backToKw pos (keywordEach [] X.env))) := by rfl) :
    PE X (.Call (.Attribute o m apos) [] [] pos) (tMethR C m sp E ta tNil) := by
  refine ⟨fun pins s σ H Q I h => PySem.W.methodCall_KW (pl := pl) (thn (ho.run pins s σ H _ I h) fun u s1 ⟨y, H1, I1, ry, a, dx, fs, ey, ea, l, q⟩ => ?_) ht⟩
  subst ey
  obtain rfl : u = Value.ref a := ry
  exact getmeth_ok I1 ea c hm l (PySem.W.callWith_K0 (first := [.ref a]) I1.kIn hm.kp (wpAny_call (run_fnR (us := [.ref a]) (vs := [.ref a]) F hr hx I1 (.cons rfl .nil) q)))
/-- C(e, ..), C(), C(*e) -/
theorem pe_mk (M : Mk X.K C f) (F : FnR X.prog X.w X.K X.mg X.base CX k f sp) (hr : Room (k + 1) X.A) (hm : X.mg x = some (.ref C)) (hx : Passes CX X E) (hg : Gl X x) (ha : PA X (e :: es) t) (hd : (x == ("__debug__" : Str)) = false := by decide)
    (he : starEach (e :: es) X.env = (false, eval e X.env) :: starEach es X.env := by rfl) (hpl : (backTo pos (starEach es X.env)).any (·.1) = false := by rfl) : PE X (.Call (.Name x np) (e :: es) [] pos) (tMk C sp E t) :=
  StX.pe_makeR M F hr hg hm hx ha hd he hpl
theorem pe_mk0 (M : Mk X.K C f) (F : FnR X.prog X.w X.K X.mg X.base CX k f sp) (hr : Room (k + 1) X.A) (hm : X.mg x = some (.ref C)) (hx : Passes CX X E) (hg : Gl X x) (hd : (x == ("__debug__" : Str)) = false := by decide) :
    PE X (.Call (.Name x np) [] [] pos) (tMk C sp E tNil) :=
  ⟨fun pins s σ H Q I h => wpAny_Call_Name_kw (ld_glob I hg hm (PySem.W.callWith_K0 I.kIn M.kp (StX.run_makeR (us := []) M F hr hx I .nil h)) hd)⟩
def tStarA (K : PySem.W.Frag) (te : TE) : TA := fun σ H Q => te σ H fun y H1 => ∃ a xs, y = .ref a ∧ (SqT K H1 a xs ∨ SqL K H1 a xs) ∧ Q xs H1
theorem pe_mkS {sp_ : Pos} (M : Mk X.K C f) (F : FnR X.prog X.w X.K X.mg X.base CX k f sp) (hr : Room (k + 1) X.A) (hm : X.mg x = some (.ref C)) (hx : Passes CX X E) (hg : Gl X x) (he : PE X e ta) (hd : (x == ("__debug__" : Str)) = false := by decide)
    (hst : starEach [.Starred e sp_] X.env = [(true, eval e X.env)] := by rfl) : PE X (.Call (.Name x np) [.Starred e sp_] [] pos) (tMk C sp E (tStarA X.K ta)) := by
  refine ⟨fun pins s σ H Q I h => wpAny_Call_Name_kw (ld_glob I hg hm (PySem.W.callWith_S (h₀ := X.base) I.ok.mod.kin M.kp (thn (he.run pins s σ H _ I h) fun v s1 ⟨y, H1, I1, ry, a, xs, ey, hxs, q⟩ => ?_) hst) hd)⟩
  subst ey
  obtain rfl : v = Value.ref a := ry
  exact StX.star_any I1 hxs fun us s2 I2 rv => ⟨I2.kIn, StX.run_makeR M F hr hx I2 rv q⟩
/-- a property whose getter raises nothing -/
theorem pe_propR (c : Cls X.K C) (hp : PropOf X.K C m p g) (F : FnR X.prog X.w X.K X.mg X.base CX0 k g sp) (hr : Room (k + 1) X.A) (ho : PE X o ta) (hab : attributeBase o m X.env (eval o X.env) = eval o X.env := by rfl) : PE X (.Attribute o m pos) (tPropR C sp E0 ta) := by
  refine ⟨fun pins s σ H Q I h => attr_of hab (thn (ho.run pins s σ H _ I h) fun u s1 ⟨y, H1, I1, ry, a, dx, fs, ey, ea, q⟩ => ?_)⟩
  subst ey
  obtain rfl : u = Value.ref a := ry
  obtain ⟨mA, J, hl, wi, _⟩ := ins_get I1.hok ea
  obtain ⟨rest, hrec⟩ := hp.rec_
  have hc : (PySem.W.clsIn X.K C).isSome = true := by
    obtain ⟨cd, hcd, _⟩ := PySem.W.any_some c.hd
    rw [hcd]
    rfl
  obtain ⟨od, Ja, _⟩ := J.look
  refine PySem.W.get_bind I1.kIn Ja (PySem.W.plainGet_of (c.get m)).1 (PySem.W.findObj_data hc hp.at_ hp.get hp.tak) (PySem.W.plainGet_of (c.get m)).2 (wpAny_call (PySem.W.prop_get (s := { s1 with toks := s1.toks + 1 }) I1.kIn hrec ?_))
  have I2 : Inv X pins σ H1 { s1 with toks := s1.toks + 1 } := I1.tok _
  refine codeAny_mono (F X.A.in1 X.stack { s1 with toks := s1.toks + 1 } H1 [.ref a] [.ref a] Q E0 hr.in1 I2.env0.in1 (.cons rfl .nil) q) fun r s' hq => ?_
  cases r with
  | error er =>
    have hz : CX0 X.stack H1 { s1 with toks := s1.toks + 1 } E0 er s' := hq
    exact False.elim hz
  | ok fl =>
    cases fl with
    | ret u1 =>
      obtain ⟨v, H', I3, rv, q3⟩ := I2.after hq
      show wpAny _ _ (handedOut u1) _ _ _
      rw [PySem.W.handedOut_of (handed_of rv)]
      exact wpAny_pure ⟨v, H', I3, rv, q3⟩
    | next => exact False.elim hq
    | brk => exact False.elim hq
    | cont => exact False.elim hq
end
/-! ### defs to such promises -/
section
variable {P : Program} {w : World} {K : PySem.W.Frag} {mg : Str → Option Value} {base : Heap} {x qual : Str} {params : Arguments} {body : List Stmt} {scope : Scope} {kws : List (Str × V)} {f : Addr} {fd : FuncData}
/-- a def without defaults and stars -/
theorem def_ok {CX : CXT} {N ps : List Str} {k : Nat} {sp : Sp} (F : FunD K x qual params body scope [] kws f fd) (S : FnScope N ps scope)
    (hb : ∀ (kV doc pm : Value) (an : Option Addr) (cdv ct : Value) (us : List Value), us.length = ps.length → bindArgs (PySem.W.fnOf x qual params body scope .none kV doc pm an cdv ct) ⟨us, []⟩ = pure (ps.zip us))
    (len : ∀ vs H Q E, sp vs H Q E → vs.length = ps.length)
    (body_ok : ∀ (cdv : Value) (A : Around) (outer : List Env) (s : Shared) (H : Hp) (vs : List V) (Q : VK) (E : XK), Room k (A.deeper (envOfC qual scope s.heap.objs.size f cdv)) → sp vs H Q E →
      ∃ t, PSs (cxOf CX P w K mg base N qual scope f cdv A outer s H E) body t ∧ t { nx := fun _ H' => Q .non H', rt := Q } (start N vs) H) : FnOk P w K mg base CX (k + 1) f fd ps sp ∧ FnR P w K mg base CX (k + 1) f sp := by
  have G : FnOk P w K mg base CX (k + 1) f fd ps sp := F.ok S len body_ok
  refine ⟨G, (G.raw (F.bindsN hb) .nil).imp fun vs H Q E h => ?_⟩
  rw [List.append_nil]
  exact h
/-- def f(a, .., *v) -/
theorem star_ok {CX : CXT} {N ps : List Str} {k : Nat} {sp : Sp} {pv : Str} (F : FunD K x qual params body scope [] kws f fd) (S : FnScope N (ps ++ [pv]) scope) (hCX : StX.CXUp CX)
    (hb : ∀ (kV doc pm : Value) (an : Option Addr) (cdv ct : Value) (us rest : List Value), us.length = ps.length → bindArgs (PySem.W.fnOf x qual params body scope .none kV doc pm an cdv ct) ⟨us ++ rest, []⟩ = (newTuple rest >>= fun t => pure (ps.zip us ++ [(pv, t)])))
    (body_ok : ∀ (cdv : Value) (A : Around) (outer : List Env) (s : Shared) (H : Hp) (vs : List V) (Q : VK) (E : XK), Room k (A.deeper (envOfC qual scope s.heap.objs.size f cdv)) → sp vs H Q E →
      ∃ t, PSs (cxOf CX P w K mg base N qual scope f cdv A outer s H E) body t ∧ t { nx := fun _ H' => Q .non H', rt := Q } (start N vs) H) :
    FnR P w K mg base CX (k + 1) f (fun vs H Q E => ∃ ws rest, vs = ws ++ rest ∧ ws.length = ps.length ∧ rest.length ≤ sizeLine ∧ ∀ p, H p = none → sp (ws ++ [V.ref p]) (upd H p (.tup rest)) Q E) := by
  obtain ⟨oc, od, dV, kV, doc, pm, an, cdv, ct, osl, e1, lk, hcd, hD, hK⟩ := F.ex
  rcases hD with ⟨_, e2⟩ | ⟨ne, _⟩
  · subst e1 e2
    exact StX.fn_star lk hcd S hCX (hb kV doc pm an cdv ct) fun A outer s H vs Q E hr hsp => body_ok cdv A outer s H vs Q E hr hsp
  · exact absurd rfl ne
end
end Ch

set_option Elab.async false
set_option linter.all false
set_option autoImplicit false
set_option maxRecDepth 100000
set_option maxHeartbeats 4000000
namespace Ch
open PySem PySem.Spec PyProof.Rows L2
/-! ### heaps -/
theorem Same.new {H : Hp} {p : Addr} {o : HO} (h : H p = none) : Same H (upd H p o) := fun b u e => by
  rw [upd_ne (ne_of_none e h)]
  exact e
theorem Same.seqT {K : PySem.W.Frag} {H H' : Hp} {a : Addr} {xs : List V} (e : Same H H') (h : SqT K H a xs) : SqT K H' a xs := by
  rcases h with (h | ⟨o, h⟩) | h
  · exact .inl (.inl (e _ _ h))
  · exact .inl (.inr ⟨o, e _ _ h⟩)
  · exact .inr h
theorem Same.mut {H H' : Hp} {p : Addr} {o : HO} (e : Same H H') (h : H p = none) : Same H (upd H' p o) := fun b u q => by
  rw [upd_ne (ne_of_none q h)]
  exact e b u q
theorem tr {H H1 H2 : Hp} {a : Addr} {o : HO} (e : Same H H1) (h : H a = some o) : H1 a = some o := e a o h
theorem up {H : Hp} {a p : Addr} {o u : HO} (h : H a = some o) (n : H p = none) : (upd H p u) a = some o := by
  rw [upd_ne (ne_of_none h n)]
  exact h
theorem fr {H H1 : Hp} {a p : Addr} {o : HO} (e : Same H H1) (n : H1 p = none) (h : H a = some o) : a ≠ p := ne_of_none (e a o h) n
/-! ### operators of several kinds of values -/
variable {X : Cx}
def rPlus : R2 := fun x y H Q => (∃ i j, x = .int i ∧ y = .int j ∧ Q (.int (i + j)) H) ∨ rCat x y H Q ∨ (∃ i j, x = .str i ∧ y = .str j ∧ i.length + j.length ≤ sizeLine ∧ Q (.str (i ++ j)) H)
theorem op_plus : OpR X (binaryOp .Add) rPlus := op_add.or (op_cat.or op_add_str)
def rTimes : R2 := fun x y H Q => (∃ i j, x = .int i ∧ y = .int j ∧ CMul i j ∧ Q (.int (i * j)) H) ∨ rI CMulW (fun i j => .int (i * j)) x y H Q ∨ rRep x y H Q
theorem op_times : OpR X (binaryOp .Mult) rTimes := op_mul.or (op_mulW.or op_rep)
def rMinus : R2 := rI0 fun i j => .int (i - j)
theorem op_minus : OpR X (binaryOp .Sub) rMinus := op_sub
def rModP : R2 := rI (fun _ j => 0 < j) fun i j => .int (i % j)
theorem op_modP : OpR X (binaryOp .Mod) rModP := op_mod
def rDivP : R2 := rI CDivW fun i j => .int (i / j)
theorem op_divP : OpR X (binaryOp .FloorDiv) rDivP := op_fdivW
def rPowP : R2 := rI CPow fun i j => .int (i ^ j.toNat)
theorem op_powP : OpR X (binaryOp .Pow) rPowP := op_pow
def rEqU (K : PySem.W.Frag) : R2 := fun x y H Q => rEq x y H Q ∨ rEqD K x y H Q
theorem op_eqU (hu : X.A.units + 64 < cLine) : OpR X (compareOp .Eq) (rEqU X.K) := op_eq.or (op_eqD hu)
def rNeU (K : PySem.W.Frag) : R2 := fun x y H Q => rNe x y H Q ∨ rNeD K x y H Q
theorem op_neU (hu : X.A.units + 64 < cLine) : OpR X (compareOp .NotEq) (rNeU X.K) := op_ne.or (op_neD hu)
def rLtI : R2 := rI0 fun i j => .bl (decide (i < j))
def rLeI : R2 := rI0 fun i j => .bl (decide (i ≤ j))
def rGtI : R2 := rI0 fun i j => .bl (decide (j < i))
def rGeI : R2 := rI0 fun i j => .bl (decide (j ≤ i))
theorem op_ltI : OpR X (compareOp .Lt) rLtI := op_lt
theorem op_leI : OpR X (compareOp .LtE) rLeI := op_le
theorem op_gtI : OpR X (compareOp .Gt) rGtI := op_gt
theorem op_geI : OpR X (compareOp .GtE) rGeI := op_ge
def rInU (K : PySem.W.Frag) : R2 := fun x y H Q => rIn K false x y H Q ∨ (∃ i j, x = .str i ∧ y = .str j ∧ Q (.bl (!(Builtin.Str.occurrences j i 0 j.length 1).isEmpty)) H)
theorem op_inU : OpR X (compareOp .In) (rInU X.K) := op_in_seq.or op_in_str
def rNotInU (K : PySem.W.Frag) : R2 := fun x y H Q => rIn K true x y H Q ∨ (∃ i j, x = .str i ∧ y = .str j ∧ Q (.bl (!(!(Builtin.Str.occurrences j i 0 j.length 1).isEmpty))) H)
theorem op_notInU : OpR X (compareOp .NotIn) (rNotInU X.K) := op_notIn_seq.or op_notIn_str
/-! ### built-ins by named readings -/
def rLn (K : PySem.W.Frag) : List V → Hp → VK → Prop := fun xs H Q => ∃ x n, xs = [x] ∧ LenV K x H n ∧ Q (.int n) H
theorem c_len : CallR X (.builtin "len") (rLn X.K) := call_len
def rI1 : List V → Hp → VK → Prop := fun xs H Q => (∃ i, xs = [.int i] ∧ Q (.int i) H) ∨ ∃ k, xs = [.bl k] ∧ Q (.int (if k then 1 else 0)) H
theorem c_int : CallR X (.type "int") rI1 := call_int1
def rMx2 : List V → Hp → VK → Prop := fun xs H Q => ∃ i j : Int, xs = [.int i, .int j] ∧ Q (.int (if j > i then j else i)) H
theorem c_max2 (hc : X.calm = true) : CallR X (.builtin "max") rMx2 := call_max2 hc
def rMn2 : List V → Hp → VK → Prop := fun xs H Q => ∃ i j : Int, xs = [.int i, .int j] ∧ Q (.int (if j < i then j else i)) H
theorem c_min2 (hc : X.calm = true) : CallR X (.builtin "min") rMn2 := call_min2 hc
def rMx3 : List V → Hp → VK → Prop := fun xs H Q => ∃ i j k : Int, xs = [.int i, .int j, .int k] ∧ Q (.int (if k > (if j > i then j else i) then k else (if j > i then j else i))) H
theorem c_max3 (hc : X.calm = true) : CallR X (.builtin "max") rMx3 := call_max3 hc
def rAb : List V → Hp → VK → Prop := fun xs H Q => ∃ i : Int, xs = [.int i] ∧ Q (.int (if i < 0 then -i else i)) H
theorem c_abs : CallR X (.builtin "abs") rAb := call_abs
def rLs (K : PySem.W.Frag) : List V → Hp → VK → Prop := fun xs H Q => ∃ p ys, xs = [.ref p] ∧ (SqL K H p ys ∨ SqT K H p ys) ∧ ∀ l, H l = none → Q (.ref l) (upd H l (.lst ys))
theorem c_list : CallR X (.type "list") (rLs X.K) := call_list_of
def rTu (K : PySem.W.Frag) : List V → Hp → VK → Prop := fun xs H Q => ∃ p ys, xs = [.ref p] ∧ ((SqL K H p ys ∧ ∀ l, H l = none → Q (.ref l) (upd H l (.tup ys))) ∨ (SqT K H p ys ∧ Q (.ref p) H))
theorem c_tuple : CallR X (.type "tuple") (rTu X.K) := call_tuple_of
/-- a module's text -/
theorem pe_gs {x z : Str} {pos : Pos} (h : ∃ t, X.mg x = some (.str z t)) (hg : Gl X x) (hd : (x == ("__debug__" : Str)) = false := by decide) : PE X (.Name x pos) (tC (.str z)) := by
  obtain ⟨t, e⟩ := h
  exact pe_glob hg e ⟨t, rfl⟩ hd
theorem pe_gi {x : Str} {z : Int} {pos : Pos} (h : ∃ t, X.mg x = some (.int z t)) (hg : Gl X x) (hd : (x == ("__debug__" : Str)) = false := by decide) : PE X (.Name x pos) (tC (.int z)) := by
  obtain ⟨t, e⟩ := h
  exact pe_glob hg e ⟨t, rfl⟩ hd
theorem pe_gr {x : Str} {a : Addr} {pos : Pos} (h : X.mg x = some (.ref a)) (hg : Gl X x) (hd : (x == ("__debug__" : Str)) = false := by decide) : PE X (.Name x pos) (tC (.ref a)) := pe_glob hg h rfl hd
/-- e.NAME, e a class -/
def tCV (v : V) : TE := tC v
theorem pe_cv {x f : Str} {C : Addr} {v : V} {np pos : Pos} (h : X.mg x = some (.ref C)) (r : ClX.CRead X.K C (.type "type")) (k : ∃ u, ClX.CVal X.K C (.type "type") f v u) (hg : Gl X x) (hd : (x == ("__debug__" : Str)) = false := by decide)
    (hb : attributeBase (.Name x np) f X.env (eval (.Name x np) X.env) = eval (.Name x np) X.env := by rfl) : PE X (.Attribute (.Name x np) f pos) (tC v) := by
  obtain ⟨u, k⟩ := k
  exact ⟨fun pins s σ H Q I q => (ClX.pe_cval (pe_gr h hg hd) hb).run pins s σ H Q I ⟨C, .type "type", v, u, rfl, r, k, q⟩⟩
/-! ### steps -/
section
variable {σ : L2.St} {H : Hp} {Q : VK} {QT : Bool → Hp → Prop} {QA : List V → Hp → Prop} {QS : L2.St → Hp → Prop} {D : Ends} {ta tb tc td te : TE} {t u tx ty : TT} {t1 t2 : TS} {r r' r'' : R2} {a : TA} {v x y z : V} {i j k : Int} {p q l : Addr} {b c : Bool} {xs ys : List V} {K : PySem.W.Frag} {sp : Sp} {E : XK} {C dx : Addr} {f m : Str} {fs : List (Str × V)} {n : Nat} {g : TG}
theorem x_var {n : Nat} (h : σ[n]? = some (some v)) (k : Q v H) : tVar n σ H Q := ⟨v, h, k⟩
theorem x_c (k : Q v H) : tC v σ H Q := k
theorem x_op (k : ta σ H fun x H1 => tb σ H1 fun y H2 => r x y H2 Q) : tOp r ta tb σ H Q := k
theorem x_un {r : V → Hp → VK → Prop} (k : ta σ H fun x H1 => r x H1 Q) : tUn r ta σ H Q := k
theorem x_test (k : te σ H fun x H' => ∃ k, x = .bl k ∧ QT k H') : tTest te σ H QT := k
theorem x_B (k : te σ H fun x H' => ∃ k, x = .bl k ∧ QT k H') : tB te σ H QT := k
theorem x_bl (k : QT b H) : ∃ k, V.bl b = .bl k ∧ QT k H := ⟨b, rfl, k⟩
theorem x_ex {R : Bool → Prop} (k : R b) : ∃ c, V.bl b = .bl c ∧ R c := ⟨b, rfl, k⟩
theorem x_nT {A B : Prop} (k : B) : if (!true) = true then A else B := k
theorem x_nF {A B : Prop} (k : A) : if (!false) = true then A else B := k
theorem x_and (k : t σ H fun c H1 => if c = true then u σ H1 QT else QT false H1) : tAnd t u σ H QT := k
theorem x_or (k : t σ H fun c H1 => if c = true then QT true H1 else u σ H1 QT) : tOr t u σ H QT := k
theorem x_not (k : t σ H fun c H1 => QT (!c) H1) : tNot t σ H QT := k
theorem x_andV (k : ta σ H fun x H1 => ∃ c, x = .bl c ∧ if c = true then tb σ H1 Q else Q (.bl false) H1) : tAndV ta tb σ H Q := k
theorem x_orV (k : ta σ H fun x H1 => ∃ c, x = .bl c ∧ if c = true then Q (.bl true) H1 else tb σ H1 Q) : tOrV ta tb σ H Q := k
theorem x_notV (k : ta σ H fun x H1 => ∃ c, x = .bl c ∧ Q (.bl (!c)) H1) : tNotV ta σ H Q := k
theorem x_ifE (k : t σ H fun c H1 => if c = true then ta σ H1 Q else tb σ H1 Q) : tIf t ta tb σ H Q := k
theorem x_chain (k : ta σ H fun x H1 => tb σ H1 fun y H2 => r x y H2 fun z H3 => ∃ k, z = .bl k ∧ (if k = true then tc σ H3 fun w' H4 => r' y w' H4 Q else Q (.bl false) H3)) : tChain r r' ta tb tc σ H Q := k
theorem x_chain3 (k : ta σ H fun x H1 => tb σ H1 fun y H2 => r x y H2 fun z H3 => ∃ k, z = .bl k ∧ (if k = true then tc σ H3 fun x2 H4 => r' y x2 H4 fun z2 H5 => ∃ k2, z2 = .bl k2 ∧ (if k2 = true then td σ H5 fun x3 H6 => r'' x2 x3 H6 Q else Q (.bl false) H5) else Q (.bl false) H3)) : tChain3 r r' r'' ta tb tc td σ H Q := k
theorem x_next (k : D.nx σ H) : tNext D σ H := k
theorem x_seq (k : t1 { D with nx := t2 D } σ H) : tSeq t1 t2 D σ H := k
theorem x_drop (k : te σ H fun _ H1 => D.nx σ H1) : tDrop te D σ H := k
theorem x_ret (k : te σ H D.rt) : tRet te D σ H := k
theorem x_ifS (k : t σ H fun b H1 => if b = true then t1 D σ H1 else t2 D σ H1) : tIfS t t1 t2 D σ H := k
theorem x_asg (k : te σ H fun x H1 => g x σ H1 D.nx) : tAsg te g D σ H := k
theorem x_gname {n : Nat} (k : QS (σ.set n (some v)) H) : gName n v σ H QS := k
theorem x_cons (k : te σ H fun x H1 => a σ H1 fun xs H2 => QA (x :: xs) H2) : tCons te a σ H QA := k
theorem x_nil (k : QA [] H) : tNil σ H QA := k
theorem x_tup (k : a σ H fun xs H1 => xs.length ≤ sizeLine ∧ ∀ p, H1 p = none → Q (.ref p) (upd H1 p (.tup xs))) : tTup a σ H Q := k
theorem x_lst (k : a σ H fun xs H1 => xs.length ≤ sizeLine ∧ ∀ p, H1 p = none → Q (.ref p) (upd H1 p (.lst xs))) : tLst a σ H Q := k
theorem x_cb {r : List V → Hp → VK → Prop} (k : a σ H fun vs H1 => r vs H1 Q) : tCB r a σ H Q := k
theorem x_call (k : a σ H fun vs H1 => sp vs H1 Q E) : tCallR sp E a σ H Q := k
theorem x_mk (k : a σ H fun vs H1 => ∀ x dx, H1 x = none → H1 dx = none → dx ≠ x → sp (.ref x :: vs) (upd (upd H1 dx (.own x)) x (.ins C dx [])) (fun v H2 => v = .non ∧ Q (.ref x) H2) E) : tMk C sp E a σ H Q := k
def rMeth (C : Addr) (m : Str) (k : Addr → Hp → Prop) (x : V) (H : Hp) : Prop := ∃ a dx fs, x = .ref a ∧ H a = some (.ins C dx fs) ∧ fs.lookup m = none ∧ k a H
theorem x_meth (k : ta σ H (rMeth C m fun p H1 => a σ H1 fun vs H2 => sp (.ref p :: vs) H2 Q E)) : tMethR C m sp E ta a σ H Q := k
theorem x_methAt {kk : Addr → Hp → Prop} (h : H p = some (.ins C dx fs)) (l : fs.lookup m = none) (k : kk p H) : rMeth C m kk (.ref p) H := ⟨p, dx, fs, rfl, h, l, k⟩
def rProp (C : Addr) (sp : Sp) (E : XK) (x : V) (H : Hp) (Q : VK) : Prop := ∃ a dx fs, x = .ref a ∧ H a = some (.ins C dx fs) ∧ sp [.ref a] H Q E
theorem x_prop (k : ta σ H fun x H1 => rProp C sp E x H1 Q) : tPropR C sp E ta σ H Q := k
theorem x_propAt (h : H p = some (.ins C dx fs)) (k : sp [.ref p] H Q E) : rProp C sp E (.ref p) H Q := ⟨p, dx, fs, rfl, h, k⟩
def rFld (K : PySem.W.Frag) (f : Str) (x : V) (H : Hp) (Q : VK) : Prop := ∃ a C dx fs v, x = .ref a ∧ H a = some (.ins C dx fs) ∧ Cls K C ∧ NoAttr K C f ∧ fs.lookup f = some v ∧ Q v H
theorem x_fld (k : ta σ H fun x H1 => rFld K f x H1 Q) : tFld K ta f σ H Q := k
theorem x_fldAt (h : H p = some (.ins C dx fs)) (c : Cls K C) (na : NoAttr K C f) (l : fs.lookup f = some v) (k : Q v H) : rFld K f (.ref p) H Q := ⟨p, C, dx, fs, v, rfl, h, c, na, l, k⟩
def rSet (K : PySem.W.Frag) (f : Str) (y x : V) (H : Hp) (k : Hp → Prop) : Prop := ∃ a C dx fs, x = .ref a ∧ H a = some (.ins C dx fs) ∧ Cls K C ∧ NoAttr K C f ∧ fs.length < 1000 ∧ k (upd H a (.ins C dx (putF f y fs)))
theorem x_setf (k : te σ H fun y H1 => ta σ H1 fun x H2 => rSet K f y x H2 fun H3 => D.nx σ H3) : sFld K ta te f D σ H := k
theorem x_setAt {kk : Hp → Prop} (h : H p = some (.ins C dx fs)) (c : Cls K C) (na : NoAttr K C f) (l : fs.length < 1000) (k : kk (upd H p (.ins C dx (putF f v fs)))) : rSet K f v (.ref p) H kk := ⟨p, C, dx, fs, rfl, h, c, na, l, k⟩
theorem x_starA (k : te σ H fun y H1 => ∃ a xs, y = .ref a ∧ (SqT K H1 a xs ∨ SqL K H1 a xs) ∧ QA xs H1) : tStarA K te σ H QA := k
/-! values -/
theorem x_plusI (k : Q (.int (i + j)) H) : rPlus (.int i) (.int j) H Q := .inl ⟨i, j, rfl, rfl, k⟩
theorem x_plusL (h1 : H p = some (.lst xs)) (h2 : H q = some (.lst ys)) (h3 : xs.length + ys.length ≤ sizeLine) (k : ∀ r, H r = none → Q (.ref r) (upd H r (.lst (xs ++ ys)))) : rPlus (.ref p) (.ref q) H Q := .inr (.inl ⟨p, q, xs, ys, rfl, rfl, h1, h2, h3, k⟩)
theorem x_minus (k : Q (.int (i - j)) H) : rMinus (.int i) (.int j) H Q := ⟨i, j, rfl, rfl, k⟩
theorem x_timesI (h : CMul i j) (k : Q (.int (i * j)) H) : rTimes (.int i) (.int j) H Q := .inl ⟨i, j, rfl, rfl, h, k⟩
theorem x_timesW (h : CMulW i j) (k : Q (.int (i * j)) H) : rTimes (.int i) (.int j) H Q := .inr (.inl ⟨i, j, rfl, rfl, h, k⟩)
theorem x_mod (h : 0 < j) (k : Q (.int (i % j)) H) : rModP (.int i) (.int j) H Q := ⟨i, j, rfl, rfl, h, k⟩
theorem x_div (h : CDivW i j) (k : Q (.int (i / j)) H) : rDivP (.int i) (.int j) H Q := ⟨i, j, rfl, rfl, h, k⟩
theorem x_pow (h : CPow i j) (k : Q (.int (i ^ j.toNat)) H) : rPowP (.int i) (.int j) H Q := ⟨i, j, rfl, rfl, h, k⟩
theorem x_lt (k : Q (.bl (decide (i < j))) H) : rLtI (.int i) (.int j) H Q := ⟨i, j, rfl, rfl, k⟩
theorem x_le (k : Q (.bl (decide (i ≤ j))) H) : rLeI (.int i) (.int j) H Q := ⟨i, j, rfl, rfl, k⟩
theorem x_gt (k : Q (.bl (decide (j < i))) H) : rGtI (.int i) (.int j) H Q := ⟨i, j, rfl, rfl, k⟩
theorem x_ge (k : Q (.bl (decide (j ≤ i))) H) : rGeI (.int i) (.int j) H Q := ⟨i, j, rfl, rfl, k⟩
theorem x_eqI (k : Q (.bl (decide (i = j))) H) : rEqU K (.int i) (.int j) H Q := .inl ⟨rfl, by rw [show decide (V.int i = V.int j) = decide (i = j) by simp]; exact k⟩
theorem x_neI (k : Q (.bl (!decide (i = j))) H) : rNeU K (.int i) (.int j) H Q := .inl ⟨rfl, by rw [show decide (V.int i = V.int j) = decide (i = j) by simp]; exact k⟩
theorem x_eqS {i j : Str} (k : Q (.bl (decide (i = j))) H) : rEqU K (.str i) (.str j) H Q := .inl ⟨rfl, by rw [show decide (V.str i = V.str j) = decide (i = j) by simp]; exact k⟩
theorem x_eqB {i j : Bool} (k : Q (.bl (decide (i = j))) H) : rEqU K (.bl i) (.bl j) H Q := .inl ⟨rfl, by rw [show decide (V.bl i = V.bl j) = decide (i = j) by simp]; exact k⟩
theorem x_neB {i j : Bool} (k : Q (.bl (!decide (i = j))) H) : rNeU K (.bl i) (.bl j) H Q := .inl ⟨rfl, by rw [show decide (V.bl i = V.bl j) = decide (i = j) by simp]; exact k⟩
theorem x_eqDp {d e : PyData} (h1 : Dp K H x d) (h2 : Dp K H y e) (h3 : SeqAt.shaped d = true) (h4 : SeqAt.shaped e = true) (k : Q (.bl (PyData.eqv d e)) H) : rEqU K x y H Q := .inr ⟨d, e, h1, h2, h3, h4, k⟩
theorem x_neDp {d e : PyData} (h1 : Dp K H x d) (h2 : Dp K H y e) (h3 : SeqAt.shaped d = true) (h4 : SeqAt.shaped e = true) (k : Q (.bl (!PyData.eqv d e)) H) : rNeU K x y H Q := .inr ⟨d, e, h1, h2, h3, h4, k⟩
theorem x_isN {x : V} (k : Q (.bl (decide (x = .non))) H) (e : te σ H fun y H1 => Q (.bl (decide (y = .non))) H1) : tIsN te σ H Q := e
theorem x_isNe (e : te σ H fun y H1 => Q (.bl (decide (y = .non))) H1) : tIsN te σ H Q := e
theorem x_notNe (e : te σ H fun y H1 => Q (.bl (!decide (y = .non))) H1) : tNotN te σ H Q := e
theorem x_ixL (h : SqL K H p xs) (a : atI xs i = some v) (k : Q v H) : rIx K (.ref p) (.int i) H Q := .inl ⟨p, xs, i, v, rfl, rfl, h, a, k⟩
theorem x_ixT (h : SqT K H p xs) (a : atI xs i = some v) (k : Q v H) : rIx K (.ref p) (.int i) H Q := .inr (.inl ⟨p, xs, i, v, rfl, rfl, h, a, k⟩)
theorem x_inT (h : SqT K H p xs) (h1 : flatV x = true) (h2 : xs.all flatV = true) (k : Q (.bl (inV x xs)) H) : rInU K x (.ref p) H Q := .inl ⟨p, xs, rfl, .inr h, h1, h2, k⟩
theorem x_inL (h : SqL K H p xs) (h1 : flatV x = true) (h2 : xs.all flatV = true) (k : Q (.bl (inV x xs)) H) : rInU K x (.ref p) H Q := .inl ⟨p, xs, rfl, .inl h, h1, h2, k⟩
theorem x_lenL (h : SqL K H p xs) (k : Q (.int xs.length) H) : rLn K [.ref p] H Q := ⟨.ref p, xs.length, rfl, .inl ⟨xs, h, rfl⟩, k⟩
theorem x_lenT (h : SqT K H p xs) (k : Q (.int xs.length) H) : rLn K [.ref p] H Q := ⟨.ref p, xs.length, rfl, .inr ⟨xs, h, rfl⟩, k⟩
theorem x_int (k : Q (.int i) H) : rI1 [.int i] H Q := .inl ⟨i, rfl, k⟩
theorem x_intB (k : Q (.int (if b then 1 else 0)) H) : rI1 [.bl b] H Q := .inr ⟨b, rfl, k⟩
theorem x_max2 (k : Q (.int (if j > i then j else i)) H) : rMx2 [.int i, .int j] H Q := ⟨i, j, rfl, k⟩
theorem x_min2 (k : Q (.int (if j < i then j else i)) H) : rMn2 [.int i, .int j] H Q := ⟨i, j, rfl, k⟩
theorem x_max3 {w : Int} (k : Q (.int (if w > (if j > i then j else i) then w else (if j > i then j else i))) H) : rMx3 [.int i, .int j, .int w] H Q := ⟨i, j, w, rfl, k⟩
theorem x_abs (k : Q (.int (if i < 0 then -i else i)) H) : rAb [.int i] H Q := ⟨i, rfl, k⟩
theorem x_listL (h : SqL K H p xs) (k : ∀ l, H l = none → Q (.ref l) (upd H l (.lst xs))) : rLs K [.ref p] H Q := ⟨p, xs, rfl, .inl h, k⟩
theorem x_listT (h : SqT K H p xs) (k : ∀ l, H l = none → Q (.ref l) (upd H l (.lst xs))) : rLs K [.ref p] H Q := ⟨p, xs, rfl, .inr h, k⟩
theorem x_neg (k : Q (.int (-i)) H) : rU (fun i => .int (-i)) (.int i) H Q := ⟨i, rfl, k⟩
/-! ways -/
theorem x_if {A B : Prop} (hT : b = true → A) (hF : b = false → B) : if b = true then A else B := by
  cases b with
  | true => exact hT rfl
  | false => exact hF rfl
theorem x_ifd {c A B : Prop} [Decidable c] (hT : c → A) (hF : ¬ c → B) : if decide c = true then A else B := by
  by_cases h : c
  · rw [decide_eq_true h]
    exact hT h
  · rw [decide_eq_false h]
    exact hF h
theorem x_ifnd {c A B : Prop} [Decidable c] (hT : ¬ c → A) (hF : c → B) : if (!decide c) = true then A else B := by
  by_cases h : c
  · rw [decide_eq_true h]
    exact hF h
  · rw [decide_eq_false h]
    exact hT h
theorem x_T {A B : Prop} (h : A) : if true = true then A else B := h
theorem x_F {A B : Prop} (h : B) : if false = true then A else B := h
end
end Ch
namespace Ch
open PySem PySem.Spec PyProof.Rows L2
section
variable {H : Hp} {Q : VK} {K : PySem.W.Frag} {p : Addr} {xs : List V} {i : Int} {b : Bool} {z : Str}
theorem x_isiB {x : V} {a n : String} {r : Bool} (t : TyX K H x (.type a)) (h : kitB a n = some r) (k : Q (.bl r) H) : rIsi K [x, .ty n] H Q := ⟨x, .ty n, .type a, .type n, r, rfl, .ty n, t, kit_ty h, k⟩
theorem x_isi_ii (k : Q (.bl true) H) : rIsi K [.int i, .ty "int"] H Q := x_isiB (.base (.int i)) (by decide +kernel) k
theorem x_isi_ib (k : Q (.bl false) H) : rIsi K [.int i, .ty "bool"] H Q := x_isiB (.base (.int i)) (by decide +kernel) k
theorem x_isi_bi (k : Q (.bl true) H) : rIsi K [.bl b, .ty "int"] H Q := x_isiB (.base (.bl b)) (by decide +kernel) k
theorem x_isi_bb (k : Q (.bl true) H) : rIsi K [.bl b, .ty "bool"] H Q := x_isiB (.base (.bl b)) (by decide +kernel) k
theorem x_isi_tt (h : H p = some (.tup xs)) (k : Q (.bl true) H) : rIsi K [.ref p, .ty "tuple"] H Q := x_isiB (.base (.tup h)) (by decide +kernel) k
theorem x_isi_lt (h : H p = some (.lst xs)) (k : Q (.bl false) H) : rIsi K [.ref p, .ty "tuple"] H Q := x_isiB (.base (.lst h)) (by decide +kernel) k
theorem x_isi_tl (h : H p = some (.tup xs)) (k : Q (.bl false) H) : rIsi K [.ref p, .ty "list"] H Q := x_isiB (.base (.tup h)) (by decide +kernel) k
theorem x_isi_ll (h : H p = some (.lst xs)) (k : Q (.bl true) H) : rIsi K [.ref p, .ty "list"] H Q := x_isiB (.base (.lst h)) (by decide +kernel) k
theorem sz {xs : List V} (h : Nat.ble xs.length sizeLine = true) : xs.length ≤ sizeLine := Nat.le_of_ble_eq_true h
theorem sz5 {n : Nat} (h : n ≤ 100000) : n ≤ sizeLine := Nat.le_trans h (by decide)
theorem sz5' {n : Nat} (h : n < 100000) : n < sizeLine := Nat.lt_of_lt_of_le h (by decide)
end
end Ch
/-! ### loops -/
namespace Ch
open PySem PySem.Spec PyProof.Rows L2
def ForB (J : It) (g : TG) (tb : TS) (D : Ends) (σ : L2.St) (H1 : Hp) : Prop := ∃ W : Nat → Nat → L2.St → Hp → Prop, (∃ m, W 0 m σ H1) ∧ ∀ i m σ H, W i m σ H →
  (J.stop i H ∧ D.nx σ H) ∨ (J.go i H ∧ ∃ N : L2.St → Hp → Prop, (∀ σ' H', N σ' H' → ∃ m', m' < m ∧ W (i + 1) m' σ' H') ∧ ∀ x H', J.yld i H x H' → g x σ H' fun σ2 H2 => tb { D with nx := N, ct := N, bk := D.nx } σ2 H2)
def rIL (K : PySem.W.Frag) (x : V) (H : Hp) (R : It → Hp → Prop) : Prop := ∃ a, x = .ref a ∧ (∃ xs, SqL K H a xs) ∧ R (Itl K a) H
def rIT (K : PySem.W.Frag) (x : V) (H : Hp) (R : It → Hp → Prop) : Prop := ∃ a, x = .ref a ∧ (∃ xs, SqT K H a xs) ∧ R (Itt K a) H
def rIE (K : PySem.W.Frag) (vs : List V) (H : Hp) (R : It → Hp → Prop) : Prop := ∃ a xs, vs = [.ref a] ∧ SqL K H a xs ∧ R (Ite K a) H
def rIU (K : PySem.W.Frag) (vs : List V) (H : Hp) (R : It → Hp → Prop) : Prop := ∃ a xs, vs = [.ref a] ∧ SqT K H a xs ∧ R (IteT K a) H
def rIR1 (vs : List V) (H : Hp) (R : It → Hp → Prop) : Prop := ∃ j : Int, vs = [.int j] ∧ -(2 ^ 62) ≤ j ∧ j < 2 ^ 62 ∧ R (Itr 0 j.toNat) H
def rIR2 (vs : List V) (H : Hp) (R : It → Hp → Prop) : Prop := ∃ i j : Int, vs = [.int i, .int j] ∧ (-(2 ^ 62) ≤ i ∧ i < 2 ^ 62 ∧ -(2 ^ 62) ≤ j ∧ j < 2 ^ 62) ∧ R (Itr i (j - i).toNat) H
section
variable {σ : L2.St} {H : Hp} {R : It → Hp → Prop} {D : Ends} {wi : TI} {g : TG} {tb : TS} {tl : TE} {ta : TA} {K : PySem.W.Frag} {p : Addr} {xs : List V} {i j : Int}
theorem x_for (k : wi σ H fun J H1 => ForB J g tb D σ H1) : tFor wi g tb D σ H := k
theorem x_iL (k : tl σ H fun x H1 => rIL K x H1 R) : iList K tl σ H R := k
theorem x_iT (k : tl σ H fun x H1 => rIT K x H1 R) : iTup K tl σ H R := k
theorem x_iE (k : ta σ H fun x H1 => rIE K x H1 R) : iEnum K ta σ H R := k
theorem x_iU (k : ta σ H fun x H1 => rIU K x H1 R) : iEnumT K ta σ H R := k
theorem x_iR1 (k : ta σ H fun x H1 => rIR1 x H1 R) : iRng1 ta σ H R := k
theorem x_iR2 (k : ta σ H fun x H1 => rIR2 x H1 R) : iRng2 ta σ H R := k
theorem x_iLAt (h : SqL K H p xs) (k : R (Itl K p) H) : rIL K (.ref p) H R := ⟨p, rfl, ⟨xs, h⟩, k⟩
theorem x_iTAt (h : SqT K H p xs) (k : R (Itt K p) H) : rIT K (.ref p) H R := ⟨p, rfl, ⟨xs, h⟩, k⟩
theorem x_iEAt (h : SqL K H p xs) (k : R (Ite K p) H) : rIE K [.ref p] H R := ⟨p, xs, rfl, h, k⟩
theorem x_iUAt (h : SqT K H p xs) (k : R (IteT K p) H) : rIU K [.ref p] H R := ⟨p, xs, rfl, h, k⟩
theorem x_iR1At (h0 : -(2 ^ 62) ≤ j) (h1 : j < 2 ^ 62) (k : R (Itr 0 j.toNat) H) : rIR1 [.int j] H R := ⟨j, rfl, h0, h1, k⟩
theorem x_iR2At (h : -(2 ^ 62) ≤ i ∧ i < 2 ^ 62 ∧ -(2 ^ 62) ≤ j ∧ j < 2 ^ 62) (k : R (Itr i (j - i).toNat) H) : rIR2 [.int i, .int j] H R := ⟨i, j, rfl, h, k⟩
theorem x_loop {J : It} {n : Nat} {G : Hp → Prop} {Y : Nat → Hp → V → Hp → Prop} (w : Walk J n G Y) (Pv : Nat → L2.St → Hp → Prop) (h0 : Pv 0 σ H) (hG : ∀ i σ H, i ≤ n → Pv i σ H → G H)
    (hs : ∀ i x σ H H', i < n → Pv i σ H → Y i H x H' → g x σ H' fun σ2 H2 => tb { D with nx := Pv (i + 1), ct := Pv (i + 1), bk := D.nx } σ2 H2) (hd : ∀ σ H, Pv n σ H → D.nx σ H) : ForB J g tb D σ H := for_it w Pv h0 hG hs hd
/-! targets -/
theorem x_gTup {n : Nat} {t : TGs} {QS : L2.St → Hp → Prop} (h : H p = some (.tup xs)) (e : xs.length = n) (k : t xs σ H QS) : gTup K n t (.ref p) σ H QS := ⟨p, xs, rfl, SqT.of h, e, k⟩
theorem x_gTupT {n : Nat} {t : TGs} {QS : L2.St → Hp → Prop} (h : SqT K H p xs) (e : xs.length = n) (k : t xs σ H QS) : gTup K n t (.ref p) σ H QS := ⟨p, xs, rfl, h, e, k⟩
theorem x_gStar {n i : Nat} {t : TGs} {QS : L2.St → Hp → Prop} (h : H p = some (.tup xs)) (h1 : i < n) (h2 : n ≤ xs.length + 1) (h3 : xs.length ≤ 16384) (k : ∀ d, H d = none → t (xs.take i ++ [.ref d] ++ (xs.drop i).drop (xs.length + 1 - n)) σ (upd H d (.lst ((xs.drop i).take (xs.length + 1 - n)))) QS) : gStar K n i t (.ref p) σ H QS :=
  ⟨p, xs, rfl, SqT.of h, h1, h2, h3, k⟩
theorem x_star1 {t : TGs} {a : V} {QS : L2.St → Hp → Prop} (h : H p = some (.tup [a])) (k : ∀ d, H d = none → t [a, .ref d] σ (upd H d (.lst [])) QS) : gStar K 2 1 t (.ref p) σ H QS := ⟨p, [a], rfl, SqT.of h, by decide, Nat.le_refl 2, Nat.le_of_ble_eq_true rfl, k⟩
theorem x_star2 {t : TGs} {a b : V} {QS : L2.St → Hp → Prop} (h : H p = some (.tup [a, b])) (k : ∀ d, H d = none → t [a, .ref d] σ (upd H d (.lst [b])) QS) : gStar K 2 1 t (.ref p) σ H QS := ⟨p, [a, b], rfl, SqT.of h, by decide, Nat.le_of_ble_eq_true rfl, Nat.le_of_ble_eq_true rfl, k⟩
theorem x_gcons {t : TG} {u : TGs} {v : V} {vs : List V} {QS : L2.St → Hp → Prop} (k : t v σ H fun σ' H' => u vs σ' H' QS) : gCons t u (v :: vs) σ H QS := ⟨v, vs, rfl, k⟩
theorem x_gnil {QS : L2.St → Hp → Prop} (k : QS σ H) : gNil [] σ H QS := ⟨rfl, k⟩
theorem x_par {i j : Nat} (k : ta σ H fun vs H1 => ∃ u v, vs = [u, v] ∧ D.nx ((σ.set i (some u)).set j (some v)) H1) : tPar i j ta D σ H := k
theorem x_app {l : Addr} {v : V} {Q : VK} (h : H l = some (.lst xs)) (h1 : xs.length < sizeLine) (k : Q .non (upd H l (.lst (xs ++ [v])))) : rAppend (.ref l) [v] H Q := ⟨l, xs, v, rfl, rfl, h, h1, k⟩
def rBM (K : PySem.W.Frag) (T : String) (r : V → List V → Hp → VK → Prop) (x : V) (H : Hp) (t : (List V → Hp → Prop) → Prop) (Q : VK) : Prop := tyV K T x H ∧ t fun xs H2 => r x xs H2 Q
theorem x_bm {T : String} {r : V → List V → Hp → VK → Prop} {to : TE} {Q : VK} (k : to σ H fun x H1 => tyV K T x H1 ∧ ta σ H1 fun xs H2 => r x xs H2 Q) : tBM K T r to ta σ H Q := k
theorem x_bm0 {T : String} {r : V → List V → Hp → VK → Prop} {to : TE} {Q : VK} (k : to σ H fun x H1 => tyV K T x H1 ∧ r x [] H1 Q) : tBM0 K T r to σ H Q := k
theorem ty_lst {l : Addr} (h : H l = some (.lst xs)) : tyV K "list" (.ref l) H := .inl ⟨rfl, _, SqL.of h⟩
end
end Ch
/-! ### comprehensions -/
namespace Ch
open PySem PySem.Spec PyProof.Rows L2
def LcB (J : It) (g : TG) (tt : TT) (te : TE) (vs : List Nat) (σ : L2.St) (H1 : Hp) (Q : VK) : Prop := ∀ D, H1 D = none → ∃ W : Nat → Nat → Hp → Prop, (∃ m, W 0 m (upd H1 D (.lst []))) ∧ ∀ i m H, W i m H →
  (J.stop i H ∧ Q (.ref D) H) ∨ (J.go i H ∧ ∃ Nx : Hp → Prop, (∀ H', Nx H' → ∃ m', m' < m ∧ W (i + 1) m' H') ∧ ∀ x H', J.yld i H x H' → g x (wipe σ vs) H' fun σ2 H2 => wipe σ2 vs = wipe σ vs ∧ tt σ2 H2 fun b H3 =>
    if b = true then te σ2 H3 fun y H4 => ∃ acc, H4 D = some (.lst acc) ∧ acc.length < sizeLine ∧ Nx (upd H4 D (.lst (acc ++ [y]))) else Nx H3)
section
variable {σ : L2.St} {H : Hp} {Q : VK} {wi : TI} {g : TG} {tt : TT} {te : TE} {vs : List Nat} {J : It} {n : Nat} {G : Hp → Prop} {Y : Nat → Hp → V → Hp → Prop} {QT : Bool → Hp → Prop}
theorem x_lc (k : wi σ H fun J H1 => LcB J g tt te vs σ H1 Q) : tLc wi g tt te vs σ H Q := k
theorem x_yes (k : QT true H) : tYes σ H QT := k
/-- a comprehension that only makes new things: A tells of the items so far -/
theorem x_lcA (w : Walk J n G Y) (A : Nat → List V → Hp → Prop) (stab : ∀ i acc H D xs ys, H D = some (.lst xs) → A i acc H → A i acc (upd H D (.lst ys))) (h0 : ∀ D, H D = none → A 0 [] (upd H D (.lst []))) (hn : n ≤ 100000) (hG : ∀ H', Same H H' → G H')
    (hs : ∀ i x acc H1 H' (NT : V → Hp → Prop) (NF : Hp → Prop), (∀ y H4, Same H1 H4 → A (i + 1) (acc ++ [y]) H4 → NT y H4) → (∀ H3, Same H1 H3 → A (i + 1) acc H3 → NF H3) → i < n → Same H H1 → A i acc H1 → Y i H1 x H' →
      g x (wipe σ vs) H' fun σ2 H2 => wipe σ2 vs = wipe σ vs ∧ tt σ2 H2 fun b H3 => if b = true then te σ2 H3 NT else NF H3)
    (k : ∀ D acc H', H D = none → Same H H' → H' D = some (.lst acc) → A n acc H' → acc.length ≤ n → Q (.ref D) H') : LcB J g tt te vs σ H Q := by
  intro D hD
  refine lc_it w (fun i H1 => ∃ acc, H1 D = some (.lst acc) ∧ Same H H1 ∧ A i acc H1 ∧ acc.length ≤ i) ⟨[], upd_same, Same.new hD, h0 D hD, Nat.le_refl _⟩ (fun i H1 _ ⟨_, _, s1, _⟩ => hG H1 s1) ?_ ?_
  · rintro i x H1 H' hi ⟨acc, e1, s1, a1, l1⟩ y
    refine hs i x acc H1 H' _ _ ?_ ?_ hi s1 a1 y
    · intro y H4 s4 a4
      refine ⟨acc, s4 _ _ e1, by show acc.length < 2 ^ 24; omega, acc ++ [y], upd_same, Same.mut (s1.trans s4) hD, stab _ _ _ _ _ _ (s4 _ _ e1) a4, ?_⟩
      rw [List.length_append]
      exact Nat.succ_le_succ l1
    · intro H3 s3 a3
      exact ⟨acc, s3 _ _ e1, s1.trans s3, a3, Nat.le_succ_of_le l1⟩
  · rintro H1 ⟨acc, e1, s1, a1, l1⟩
    exact k D acc H1 hD s1 e1 a1 l1
end
end Ch
/-! ### the rules with the written part named -/
namespace Ch
open PySem PySem.Spec PyProof.Rows L2
section
variable {X : Cx} {e o a b tg iter value : Expr} {es : List Expr} {ta tb te tv : TE} {t : TA} {tgs : TGs} {f x : Str} {pos pos' p tpos : Pos} {n i kk : Nat} {elts : List Expr}
theorem op_eqK (K : PySem.W.Frag) (hu : X.A.units + 64 < cLine) (hK : X.K = K := by rfl) : OpR X (compareOp .Eq) (rEqU K) := by subst hK; exact op_eqU hu
theorem op_neK (K : PySem.W.Frag) (hu : X.A.units + 64 < cLine) (hK : X.K = K := by rfl) : OpR X (compareOp .NotEq) (rNeU K) := by subst hK; exact op_neU hu
theorem op_inK (K : PySem.W.Frag) (hK : X.K = K := by rfl) : OpR X (compareOp .In) (rInU K) := by subst hK; exact op_inU
theorem op_notInK (K : PySem.W.Frag) (hK : X.K = K := by rfl) : OpR X (compareOp .NotIn) (rNotInU K) := by subst hK; exact op_notInU
theorem ix_K (K : PySem.W.Frag) (hK : X.K = K := by rfl) : IxR X (rIx K) := by subst hK; exact ix_seq
theorem c_lenK (K : PySem.W.Frag) (hK : X.K = K := by rfl) : CallR X (.builtin "len") (rLn K) := by subst hK; exact c_len
theorem c_listK (K : PySem.W.Frag) (hK : X.K = K := by rfl) : CallR X (.type "list") (rLs K) := by subst hK; exact c_list
theorem c_tupleK (K : PySem.W.Frag) (hK : X.K = K := by rfl) : CallR X (.type "tuple") (rTu K) := by subst hK; exact c_tuple
theorem c_isiK (K : PySem.W.Frag) (hK : X.K = K := by rfl) : CallR X (.builtin "isinstance") (rIsi K) := by subst hK; exact call_isi
theorem c_isiTK (K : PySem.W.Frag) (hK : X.K = K := by rfl) : CallR X (.builtin "isinstance") (rIsiT K) := by subst hK; exact call_isiT
theorem c_sumK (K : PySem.W.Frag) (hc : X.calm = true) (hK : X.K = K := by rfl) : CallR X (.builtin "sum") (rSum K) := by subst hK; exact cr_sum hc
theorem pe_fldK (K : PySem.W.Frag) (he : PE X e ta) (hb : attributeBase e f X.env (eval e X.env) = eval e X.env := by rfl) (hK : X.K = K := by rfl) : PE X (.Attribute e f pos) (tFld K ta f) := by subst hK; exact pe_fld he hb
theorem ps_fldK (K : PySem.W.Frag) (ha : PE X o ta) (hv : PE X value tv) (hs : swapsWith value (some (.Attribute o f pos')) pos.line X.env = pure false := by rfl) (hK : X.K = K := by rfl) : PS X (.Assign [.Attribute o f pos'] value pos) (sFld K ta tv f) := by subst hK; exact ps_fld ha hv hs
theorem pi_listK (K : PySem.W.Frag) (hl : PE X e te) (hK : X.K = K := by rfl) : PI X tg e (iList K te) := by subst hK; exact pi_list hl
theorem pi_tupK (K : PySem.W.Frag) (hl : PE X e te) (hK : X.K = K := by rfl) : PI X tg e (iTup K te) := by subst hK; exact pi_tup hl
theorem pi_enumK (K : PySem.W.Frag) (hm : X.mg "enumerate" = none) (ha : PA X [e] t) (hK : X.K = K := by rfl) (hg : Gl X "enumerate" := by rfl) (hs : starEach [e] X.env = [(false, eval e X.env)] := by rfl) : PI X (.Tuple elts kk tpos) (.Call (.Name "enumerate" p) [e] [] pos) (iEnum K t) := by subst hK; exact pi_enum hg hm ha hs
theorem pi_enumTK (K : PySem.W.Frag) (hm : X.mg "enumerate" = none) (ha : PA X [e] t) (hK : X.K = K := by rfl) (hg : Gl X "enumerate" := by rfl) (hs : starEach [e] X.env = [(false, eval e X.env)] := by rfl) : PI X (.Tuple elts kk tpos) (.Call (.Name "enumerate" p) [e] [] pos) (iEnumT K t) := by subst hK; exact pi_enumT hg hm ha hs
theorem pg_tupK (K : PySem.W.Frag) (hc : X.calm = true) (h : PGs X es tgs) (hn : (assignEach es X.env).length = n := by rfl) (hst : (assignEach es X.env).findIdx? (·.1) = none := by rfl) (hK : X.K = K := by rfl) : PG X (.Tuple es kk pos) (gTup K n tgs) := by subst hK; exact pg_tup hc h hn hst
theorem pg_starK (K : PySem.W.Frag) (hc : X.calm = true) (h : PGs X es tgs) (hn : (assignEach es X.env).length = n := by rfl) (hst : (assignEach es X.env).findIdx? (·.1) = some i := by rfl) (hK : X.K = K := by rfl) : PG X (.Tuple es kk pos) (gStar K n i tgs) := by subst hK; exact pg_star hc h hn hst
theorem sl_listK (K : PySem.W.Frag) (hK : X.K = K := by rfl) : SlR X (rSlL K) := by subst hK; exact sl_list
theorem sl_tupK (K : PySem.W.Frag) (hK : X.K = K := by rfl) : SlR X (rSlT K) := by subst hK; exact sl_tup
theorem pe_bmK {T : String} {id : String} {r : V → List V → Hp → VK → Prop} {apos : Pos} {ea : Expr} (K : PySem.W.Frag) (pa : PlainAttrs T) (slot : Slot T f id) (hty : typeOf (.builtin id) = pure (.type "method_descriptor")) (hm : MtR X id r) (ho : PE X o ta) (ha : PA X (ea :: es) t) (hK : X.K = K := by rfl)
    (h3 : attributeBase o f X.env (eval o X.env) = eval o X.env := by rfl)
    (h4 : ((backTo pos (starEach (ea :: es) X.env)).all (fun x => !x.1) && (backToKw pos (keywordEach [] X.env)).all (fun x => x.1.isSome) && decide ((ea :: es).length + ([] : List Keyword).length + (if ([] : List Keyword).isEmpty then 0 else 1) < 30)) = true := by rfl)
    (h5 : (apos.endLine == pos.line) = true := by rfl) (h1 : starEach (ea :: es) X.env = (false, eval ea X.env) :: starEach es X.env := by rfl) (h2 : (backTo pos (starEach es X.env)).any (·.1) = false := by rfl) : PE X (.Call (.Attribute o f apos) (ea :: es) [] pos) (tBM K T r ta t) := by
  subst hK
  exact pe_bm pa slot hty hm ho ha h3 h4 h5 h1 h2
theorem pe_bm0K {T : String} {id : String} {r : V → List V → Hp → VK → Prop} {apos : Pos} (K : PySem.W.Frag) (pa : PlainAttrs T) (slot : Slot T f id) (hty : typeOf (.builtin id) = pure (.type "method_descriptor")) (hm : MtR X id r) (ho : PE X o ta) (hK : X.K = K := by rfl)
    (h3 : attributeBase o f X.env (eval o X.env) = eval o X.env := by rfl) (h5 : (apos.endLine == pos.line) = true := by rfl) : PE X (.Call (.Attribute o f apos) [] [] pos) (tBM0 K T r ta) := by
  subst hK
  exact pe_bm0 pa slot hty hm ho h3 h5
end
end Ch
namespace Ch
open PySem PySem.Spec PyProof.Rows L2
section
variable {σ : L2.St} {H : Hp} {v : V} {to ti : TE} {t : V → V → V → Hp → (Hp → Prop) → Prop} {QS : L2.St → Hp → Prop} {QH : Hp → Prop} {p : Addr} {xs : List V} {i : Int} {j : Nat}
theorem x_gSub (k : to σ H fun o H1 => ti σ H1 fun i H2 => t o i v H2 fun H3 => QS σ H3) : gSub to ti t v σ H QS := k
theorem x_setL (h : H p = some (.lst xs)) (e : ixN xs.length i = some j) (k : QH (upd H p (.lst (xs.set j v)))) : rSetL (.ref p) (.int i) v H QH := ⟨p, xs, i, j, rfl, rfl, h, e, k⟩
end
end Ch
namespace Ch
open L2
/-- two ways meet: what holds of every heap like that -/
theorem x_meet {G : Prop} {T : Hp → Prop} (R : Hp → Prop) (h1 : ∀ H, R H → T H) (h2 : (∀ H, R H → T H) → G) : G := h2 h1
end Ch
namespace Ch
open PySem PySem.Spec PyProof.Rows L2
theorem x_par3 {i j l : Nat} {ta : TA} {D : Ends} {σ : L2.St} {H : Hp} (k : ta σ H fun vs H1 => ∃ u v w, vs = [u, v, w] ∧ D.nx (((σ.set i (some u)).set j (some v)).set l (some w)) H1) : tPar3 i j l ta D σ H := k
theorem x_sum {K : PySem.W.Frag} {H : Hp} {Q : VK} {p : Addr} {ns : List Int} (h : SqL K H p (ns.map V.int)) (k : Q (.int ns.sum) H) : rSum K [.ref p] H Q := ⟨p, ns, rfl, h, k⟩
end Ch
namespace Ch
open PySem PySem.Spec PyProof.Rows L2
section
variable {σ : L2.St} {H : Hp} {Q : VK} {g : TG} {tt : TT} {te : TE} {vs : List Nat} {J : It} {n : Nat} {G : Hp → Prop} {Y : Nat → Hp → V → Hp → Prop}
/-- a comprehension by a word about the whole heap -/
theorem x_lcG (w : Walk J n G Y) (Pv : Addr → Nat → Hp → Prop) (h0 : ∀ D, H D = none → Pv D 0 (upd H D (.lst []))) (hG : ∀ D i H1, i ≤ n → Pv D i H1 → G H1)
    (hs : ∀ D i x H1 H', H D = none → i < n → Pv D i H1 → Y i H1 x H' → g x (wipe σ vs) H' fun σ2 H2 => wipe σ2 vs = wipe σ vs ∧ tt σ2 H2 fun b H3 =>
      if b = true then te σ2 H3 fun y H4 => ∃ acc, H4 D = some (.lst acc) ∧ acc.length < sizeLine ∧ Pv D (i + 1) (upd H4 D (.lst (acc ++ [y]))) else Pv D (i + 1) H3)
    (hd : ∀ D H1, H D = none → Pv D n H1 → Q (.ref D) H1) : LcB J g tt te vs σ H Q := fun D hD =>
  lc_it w (Pv D) (h0 D hD) (hG D) (fun i x H1 H' hi p y => hs D i x H1 H' hD hi p y) fun H1 p => hd D H1 hD p
theorem x_meet2 {G : Prop} {T : Addr → Hp → Prop} (R : Addr → Hp → Prop) (h1 : ∀ q H, R q H → T q H) (h2 : (∀ q H, R q H → T q H) → G) : G := h2 h1
theorem x_lstRg {te : L2.St → Hp → (Int → Int → Hp → Prop) → Prop} (k : te σ H fun a b H1 => RgOk a b ∧ ∀ q, H1 q = none → Q (.ref q) (upd H1 q (.lst (rgV a b)))) : tLstRg te σ H Q := k
def rRg1 (x : V) (H : Hp) (R : Int → Int → Hp → Prop) : Prop := ∃ n, x = .int n ∧ R 0 n H
theorem x_rg1 {ta : TE} {R : Int → Int → Hp → Prop} (k : ta σ H fun x H1 => rRg1 x H1 R) : tRg1 ta σ H R := k
theorem x_rg1At {R : Int → Int → Hp → Prop} {n : Int} (k : R 0 n H) : rRg1 (.int n) H R := ⟨n, rfl, k⟩
end
end Ch
namespace Ch
open PySem PySem.Spec PyProof.Rows L2
/-- if c: x = e, what is known of x behind it -/
theorem x_whenSet {c : Prop} [Decidable c] {D : Ends} {σ : L2.St} {H : Hp} {i : Nat} {te : TE} (R : V → Hp → Prop) (v0 : V) (h0 : σ.set i (some v0) = σ) (hF : ¬ c → R v0 H) (hT : c → te σ H R) (mono : ∀ Q : VK, (∀ v H', R v H' → Q v H') → te σ H R → te σ H Q) (h1 : ∀ v H', R v H' → D.nx (σ.set i (some v)) H') :
    if decide c = true then tAsg te (gName i) D σ H else tNext D σ H := by
  by_cases h : c
  · rw [decide_eq_true h]
    exact mono _ h1 (hT h)
  · rw [decide_eq_false h]
    show D.nx σ H
    have g := h1 v0 H (hF h)
    rw [h0] at g
    exact g
/-- the same, e told for any end -/
theorem x_whenSet' {c : Prop} [Decidable c] {D : Ends} {σ : L2.St} {H : Hp} {i : Nat} {te : TE} (R : V → Hp → Prop) (v0 : V) (h0 : σ.set i (some v0) = σ) (hF : ¬ c → R v0 H) (hT : c → ∀ Q : VK, (∀ v H', R v H' → Q v H') → te σ H Q) (h1 : ∀ v H', R v H' → D.nx (σ.set i (some v)) H') :
    if decide c = true then tAsg te (gName i) D σ H else tNext D σ H := by
  by_cases h : c
  · rw [decide_eq_true h]
    exact hT h _ h1
  · rw [decide_eq_false h]
    show D.nx σ H
    have g := h1 v0 H (hF h)
    rw [h0] at g
    exact g
end Ch
namespace Ch
open PySem PySem.Spec PyProof.Rows L2
section
variable {c : TT} {tb : TS} {D : Ends} {σ : L2.St} {H : Hp}
/-- while, a word with a measure -/
theorem x_while (W : Nat → L2.St → Hp → Prop) (m : Nat) (h0 : W m σ H) (hs : ∀ m σ H, W m σ H → c σ H fun b H1 => if b = true then ∃ N : L2.St → Hp → Prop, (∀ σ' H', N σ' H' → ∃ m', m' < m ∧ W m' σ' H') ∧ tb { D with nx := N, ct := N, bk := D.nx } σ H1 else D.nx σ H1) : tWhile c tb D σ H := ⟨W, ⟨m, h0⟩, hs⟩
theorem x_turn {W : Nat → L2.St → Hp → Prop} {m : Nat} (k : tb { D with nx := fun σ' H' => ∃ m', m' < m ∧ W m' σ' H', ct := fun σ' H' => ∃ m', m' < m ∧ W m' σ' H', bk := D.nx } σ H) : ∃ N : L2.St → Hp → Prop, (∀ σ' H', N σ' H' → ∃ m', m' < m ∧ W m' σ' H') ∧ tb { D with nx := N, ct := N, bk := D.nx } σ H := ⟨_, fun _ _ h => h, k⟩
end
end Ch
namespace Ch
open PySem PySem.Spec PyProof.Rows L2
/-- x = e1 if c else e2, what is known of x behind it -/
theorem x_ifSet {b : Bool} {σ : L2.St} {H : Hp} {ta tb : TE} {k : VK} (R : V → Hp → Prop) (hT : b = true → ∀ Q : VK, (∀ v H', R v H' → Q v H') → ta σ H Q) (hF : b = false → ∀ Q : VK, (∀ v H', R v H' → Q v H') → tb σ H Q) (h1 : ∀ v H', R v H' → k v H') :
    if b = true then ta σ H k else tb σ H k := by
  cases b with
  | true => exact hT rfl _ h1
  | false => exact hF rfl _ h1
theorem x_ifSetd {c : Prop} [Decidable c] {σ : L2.St} {H : Hp} {ta tb : TE} {k : VK} (R : V → Hp → Prop) (hT : c → ∀ Q : VK, (∀ v H', R v H' → Q v H') → ta σ H Q) (hF : ¬ c → ∀ Q : VK, (∀ v H', R v H' → Q v H') → tb σ H Q) (h1 : ∀ v H', R v H' → k v H') :
    if decide c = true then ta σ H k else tb σ H k := x_ifSet R (fun e => hT (of_decide_eq_true e)) (fun e => hF (of_decide_eq_false e)) h1
end Ch
namespace Ch
open PySem PySem.Spec PyProof.Rows L2
section
variable {X : Cx} {H : Hp} {Q : VK} {K : PySem.W.Frag} {p : Addr} {ns : List Int}
theorem c_minLK (K : PySem.W.Frag) (hc : X.calm = true) (hK : X.K = K := by rfl) : CallR X (.builtin "min") (rMin K) := by subst hK; exact cr_min hc
theorem c_maxLK (K : PySem.W.Frag) (hc : X.calm = true) (hK : X.K = K := by rfl) : CallR X (.builtin "max") (rMax K) := by subst hK; exact cr_max hc
theorem c_sortedK (K : PySem.W.Frag) (hK : X.K = K := by rfl) : CallR X (.builtin "sorted") (rSorted K) := by subst hK; exact cr_sorted
theorem x_minL (h : SqL K H p (ns.map V.int)) (h0 : 0 < ns.length) (k : ∀ m, m ∈ ns → (∀ y ∈ ns, m ≤ y) → Q (.int m) H) : rMin K [.ref p] H Q := ⟨p, ns, rfl, h, h0, k⟩
theorem x_maxL (h : SqL K H p (ns.map V.int)) (h0 : 0 < ns.length) (k : ∀ m, m ∈ ns → (∀ y ∈ ns, y ≤ m) → Q (.int m) H) : rMax K [.ref p] H Q := ⟨p, ns, rfl, h, h0, k⟩
theorem x_sorted (h : SqL K H p (ns.map V.int)) (h0 : ns.length < 64) (k : ∀ (ms : List Int) (q : Addr), ms.Perm ns → ms.Pairwise (· ≤ ·) → H q = none → Q (.ref q) (upd H q (.lst (ms.map V.int)))) : rSorted K [.ref p] H Q := ⟨p, ns, rfl, h, h0, k⟩
/-- a list of ints made by a range -/
def rgI (f : Int → Int) (n : Nat) : List Int := (List.range n).map fun j => f (j : Nat)
theorem rgI_len {f : Int → Int} {n : Nat} : (rgI f n).length = n := by unfold rgI; rw [List.length_map, List.length_range]
theorem rgI_snoc {f : Int → Int} {n : Nat} : rgI f (n + 1) = rgI f n ++ [f (n : Nat)] := by unfold rgI; rw [List.range_succ, List.map_append]; rfl
theorem rgI_at {f : Int → Int} {n : Nat} {y : Int} (h0 : 0 ≤ y) (h1 : y < n) : atI ((rgI f n).map V.int) y = some (.int (f y)) := by
  have e : y = ((y.toNat : Nat) : Int) := (Int.toNat_of_nonneg h0).symm
  rw [e]
  refine atI_nat ?_
  unfold rgI
  rw [List.getElem?_map, List.getElem?_map, List.getElem?_range (by omega)]
  rfl
theorem rgI_mem {f : Int → Int} {n : Nat} {z : Int} : z ∈ rgI f n ↔ ∃ y : Int, 0 ≤ y ∧ y < n ∧ f y = z := by
  unfold rgI
  constructor
  · intro h
    obtain ⟨j, hj, e⟩ := List.mem_map.mp h
    exact ⟨(j : Nat), by omega, by have := List.mem_range.mp hj; omega, e⟩
  · rintro ⟨y, h0, h1, e⟩
    refine List.mem_map.mpr ⟨y.toNat, List.mem_range.mpr (by omega), ?_⟩
    rw [Int.toNat_of_nonneg h0]
    exact e
end
end Ch

set_option Elab.async false
set_option linter.all false
set_option autoImplicit false
set_option maxRecDepth 100000
set_option maxHeartbeats 4000000
namespace Ch
open PySem PySem.Spec PyProof.Rows L2 ChM
/-! ### steps, plans -/
def roomS (b : Bool) : Str := if b then "red" else "blue"
def stepV : Stp → List V
  | .turn => [.str "turn"]
  | .mt b n => [.str (roomS b), .int n]
def StepsAt (H : Hp) : List V → List Stp → Prop := Paired fun v s => ∃ p, v = .ref p ∧ H p = some (.tup (stepV s))
theorem pr_len {α β : Type} {R : α → β → Prop} : ∀ {xs : List α} {ys : List β}, Paired R xs ys → xs.length = ys.length
  | _, _, .nil => rfl
  | _, _, .cons _ t => congrArg (· + 1) (pr_len t)
theorem pr_at {α β : Type} {R : α → β → Prop} : ∀ {xs : List α} {ys : List β} {i : Nat} {x : α}, Paired R xs ys → xs[i]? = some x → ∃ y, ys[i]? = some y ∧ R x y
  | _, _, _, _, .nil, e => nomatch e
  | _, _, 0, x, .cons r _, e => ⟨_, rfl, by cases e; exact r⟩
  | _, _, i + 1, x, .cons _ t, e => pr_at (i := i) t e
theorem pr_atR {α β : Type} {R : α → β → Prop} : ∀ {xs : List α} {ys : List β} {i : Nat} {y : β}, Paired R xs ys → ys[i]? = some y → ∃ x, xs[i]? = some x ∧ R x y
  | _, _, _, _, .nil, e => nomatch e
  | _, _, 0, x, .cons r _, e => ⟨_, rfl, by cases e; exact r⟩
  | _, _, i + 1, x, .cons _ t, e => pr_atR (i := i) t e
theorem pr_app {α β : Type} {R : α → β → Prop} : ∀ {xs xs' : List α} {ys ys' : List β}, Paired R xs ys → Paired R xs' ys' → Paired R (xs ++ xs') (ys ++ ys')
  | _, _, _, _, .nil, t => t
  | _, _, _, _, .cons r t, u => .cons r (pr_app t u)
theorem pr_im {α β : Type} {R R' : α → β → Prop} (f : ∀ a b, R a b → R' a b) : ∀ {xs : List α} {ys : List β}, Paired R xs ys → Paired R' xs ys
  | _, _, .nil => .nil
  | _, _, .cons r t => .cons (f _ _ r) (pr_im f t)
theorem pr_take {α β : Type} {R : α → β → Prop} : ∀ (n : Nat) {xs : List α} {ys : List β}, Paired R xs ys → Paired R (xs.take n) (ys.take n)
  | 0, _, _, _ => by rw [List.take_zero, List.take_zero]; exact .nil
  | n + 1, _, _, .nil => .nil
  | n + 1, _, _, .cons r t => .cons r (pr_take n t)
theorem pr_drop {α β : Type} {R : α → β → Prop} : ∀ (n : Nat) {xs : List α} {ys : List β}, Paired R xs ys → Paired R (xs.drop n) (ys.drop n)
  | 0, _, _, t => t
  | n + 1, _, _, .nil => .nil
  | n + 1, _, _, .cons r t => pr_drop n t
theorem pr_snoc {α β : Type} {R : α → β → Prop} {xs : List α} {ys : List β} {x : α} {y : β} (t : Paired R xs ys) (r : R x y) : Paired R (xs ++ [x]) (ys ++ [y]) := pr_app t (.cons r .nil)
theorem StepsAt.mono {H H' : Hp} {vs : List V} {l : List Stp} (e : Same H H') (h : StepsAt H vs l) : StepsAt H' vs l := pr_im (fun _ _ ⟨p, e1, e2⟩ => ⟨p, e1, e p _ e2⟩) h
structure PlanAt (C : Addr) (H : Hp) (p : Addr) (l : List Stp) : Prop where
  ex : ∃ dx t vs, H p = some (.ins C dx [("parts", .ref t)]) ∧ H t = some (.tup vs) ∧ StepsAt H vs l
theorem PlanAt.mono {C : Addr} {H H' : Hp} {p : Addr} {l : List Stp} (e : Same H H') (h : PlanAt C H p l) : PlanAt C H' p l := by
  obtain ⟨dx, t, vs, h1, h2, h3⟩ := h.ex
  exact ⟨dx, t, vs, e _ _ h1, e _ _ h2, h3.mono e⟩
/-- a step that a plan may have -/
def goodS (s : Stp) : Prop := ∀ b n, s = .mt b n → 0 ≤ n ∧ n ≤ 1000000000000000000
def goodP (l : List Stp) : Prop := (∀ s ∈ l, goodS s) ∧ l.length ≤ 60
theorem roomS_cases (b : Bool) : (b = true ∧ roomS b = "red") ∨ (b = false ∧ roomS b = "blue") := by
  cases b
  · exact .inr ⟨rfl, rfl⟩
  · exact .inl ⟨rfl, rfl⟩
/-- (side, need) -/
def pairV (p : Int × Int) : List V := [.int p.1, .int p.2]
def PairsAt (H : Hp) : List V → List (Int × Int) → Prop := Paired fun v s => ∃ p, v = .ref p ∧ H p = some (.tup (pairV s))
theorem PairsAt.mono {H H' : Hp} {vs : List V} {l : List (Int × Int)} (e : Same H H') (h : PairsAt H vs l) : PairsAt H' vs l := pr_im (fun _ _ ⟨p, e1, e2⟩ => ⟨p, e1, e p _ e2⟩) h
/-- a list at r, that is written -/
theorem PairsAt.mono2 {H H' : Hp} {vs : List V} {l : List (Int × Int)} {r : Addr} {xs : List V} {o : HO} (h : PairsAt H vs l) (e : Same H H') (hr : H' r = some (.lst xs)) : PairsAt (upd H' r o) vs l :=
  pr_im (fun _ _ ⟨p, e1, e2⟩ => ⟨p, e1, by rw [upd_ne (ne_of (e p _ e2) hr (by intro z; cases z))]; exact e p _ e2⟩) h
theorem StepsAt.mono2 {H H' : Hp} {vs : List V} {l : List Stp} {r : Addr} {xs : List V} {o : HO} (h : StepsAt H vs l) (e : Same H H') (hr : H' r = some (.lst xs)) : StepsAt (upd H' r o) vs l :=
  pr_im (fun _ _ ⟨p, e1, e2⟩ => ⟨p, e1, by rw [upd_ne (ne_of (e p _ e2) hr (by intro z; cases z))]; exact e p _ e2⟩) h
theorem PlanAt.mono2 {C : Addr} {H H' : Hp} {p r : Addr} {l : List Stp} {xs : List V} {o : HO} (h : PlanAt C H p l) (e : Same H H') (hr : H' r = some (.lst xs)) : PlanAt C (upd H' r o) p l := by
  obtain ⟨dx, t, vs, h1, h2, h3⟩ := h.ex
  exact ⟨dx, t, vs, by rw [upd_ne (ne_of (e p _ h1) hr (by intro z; cases z))]; exact e p _ h1, by rw [upd_ne (ne_of (e t _ h2) hr (by intro z; cases z))]; exact e t _ h2, h3.mono2 e hr⟩
/-! ### effects -/
def goalV : Option Int → V
  | none => .non
  | some g => .int g
def effF (e : Eff) : List (Str × V) := [("chairs", .int e.c), ("low", .int e.lo), ("high", .int e.hi), ("extra", .int e.ex), ("goal", goalV e.goal), ("turned", .bl e.tu)]
def EffAt (C : Addr) (H : Hp) (p : Addr) (e : Eff) : Prop := ∃ dx, H p = some (.ins C dx (effF e))
theorem EffAt.mono {C : Addr} {H H' : Hp} {p : Addr} {e : Eff} (s : Same H H') (h : EffAt C H p e) : EffAt C H' p e := let ⟨dx, q⟩ := h; ⟨dx, s _ _ q⟩
section
variable {H : Hp} {Q : VK} {K : PySem.W.Frag} {C p q : Addr} {e : Eff} {f : Str} {v : V}
theorem x_eff (h : EffAt C H p e) (c : Cls K C) (na : NoAttr K C f) (l : (effF e).lookup f = some v) (k : Q v H) : rFld K f (.ref p) H Q := let ⟨_, q⟩ := h; x_fldAt q c na l k
theorem eff_chairs : (effF e).lookup ("chairs" : Str) = some (.int e.c) := by unfold effF; kernel_rfl
theorem eff_low : (effF e).lookup ("low" : Str) = some (.int e.lo) := by unfold effF; kernel_rfl
theorem eff_high : (effF e).lookup ("high" : Str) = some (.int e.hi) := by unfold effF; kernel_rfl
theorem eff_extra : (effF e).lookup ("extra" : Str) = some (.int e.ex) := by unfold effF; kernel_rfl
theorem eff_goal : (effF e).lookup ("goal" : Str) = some (goalV e.goal) := by unfold effF; kernel_rfl
theorem eff_turned : (effF e).lookup ("turned" : Str) = some (.bl e.tu) := by unfold effF; kernel_rfl
/-- step == ("turn",) -/
def stepD : Stp → PyData
  | .turn => .tuple [.str "turn"]
  | .mt b n => .tuple [.str (roomS b), .int n]
theorem step_dp {s : Stp} (h : H p = some (.tup (stepV s))) : Dp K H (.ref p) (stepD s) := by
  cases s with
  | turn => exact .tup (SqT.of h) (.cons (.str _) .nil)
  | mt b n => exact .tup (SqT.of h) (.cons (.str _) (.cons (.int _) .nil))
theorem eq_turn {s : Stp} (h1 : H p = some (.tup (stepV s))) (h2 : H q = some (.tup [.str "turn"])) (k : Q (.bl (decide (s = .turn))) H) : rEqU K (.ref p) (.ref q) H Q := by
  refine x_eqDp (step_dp h1) (step_dp (s := .turn) h2) ?_ (by decide +kernel) ?_
  · cases s with
    | turn => decide +kernel
    | mt b n => cases b <;> kernel_rfl
  · cases s with
    | turn => exact k
    | mt b n =>
      have ez : PyData.eqv (stepD (.mt b n)) (stepD .turn) = false := by
        show (PyData.eqv (.str (roomS b)) (.str "turn") && false) = false
        rw [Bool.and_false]
      rw [ez]
      exact k
theorem step_len {s : Stp} : (stepV s).length = if s = .turn then 1 else 2 := by
  cases s <;> rfl
end
end Ch
/-! ### the draws' state: a list at st, written in place -/
namespace Ch
open PySem PySem.Spec PyProof.Rows L2 ChM
def SameB (st : Addr) (H H' : Hp) : Prop := ∀ b o, b ≠ st → H b = some o → H' b = some o
theorem SameB.refl (st : Addr) (H : Hp) : SameB st H H := fun _ _ _ h => h
theorem SameB.trans {st : Addr} {H H1 H2 : Hp} (a : SameB st H H1) (b : SameB st H1 H2) : SameB st H H2 := fun c o n h => b c o n (a c o n h)
theorem SameB.of {st : Addr} {H H' : Hp} (s : Same H H') : SameB st H H' := fun c o _ h => s c o h
theorem SameB.upd {st : Addr} {H : Hp} {o : HO} : SameB st H (upd H st o) := fun b u n h => by
  rw [upd_ne n]
  exact h
structure StAt (K : PySem.W.Frag) (H : Hp) (st a : Addr) (ns : List Int) : Prop where
  lst : ∃ pos m r : Int, H st = some (.lst [.ref a, .int pos, .int m, .int r]) ∧ 0 ≤ pos
  scr : ∀ H', SameB st H H' → SqL K H' a (ns.map V.int)
theorem StAt.mono {K : PySem.W.Frag} {H H' : Hp} {st a : Addr} {ns : List Int} (h : StAt K H st a ns) (s : Same H H') : StAt K H' st a ns := by
  obtain ⟨pos, m, r, h1, h2⟩ := h.lst
  exact ⟨⟨pos, m, r, s _ _ h1, h2⟩, fun H2 s2 => h.scr H2 ((SameB.of s).trans s2)⟩
theorem StAt.scr0 {K : PySem.W.Frag} {H : Hp} {st a : Addr} {ns : List Int} (h : StAt K H st a ns) : SqL K H a (ns.map V.int) := h.scr H (SameB.refl _ _)
theorem StAt.put {K : PySem.W.Frag} {H : Hp} {st a : Addr} {ns : List Int} {pos m r : Int} (h : StAt K H st a ns) (h0 : 0 ≤ pos) : StAt K (upd H st (.lst [.ref a, .int pos, .int m, .int r])) st a ns :=
  ⟨⟨pos, m, r, upd_same, h0⟩, fun H' s => h.scr H' (SameB.upd.trans s)⟩
theorem StAt.new {K : PySem.W.Frag} {H : Hp} {st a : Addr} {ns : List Int} {pos m r : Int} (hs : SqL K H a (ns.map V.int)) (hn : H st = none) (h0 : 0 ≤ pos) : StAt K (upd H st (.lst [.ref a, .int pos, .int m, .int r])) st a ns := by
  refine ⟨⟨pos, m, r, upd_same, h0⟩, fun H' s => ?_⟩
  have key : ∀ b o, H b = some o → H' b = some o := fun b o e => by
    have hb : b ≠ st := ne_of_none e hn
    refine s b o hb ?_
    rw [upd_ne hb]
    exact e
  rcases hs with (h | ⟨o, h⟩) | h
  · exact .inl (.inl (key _ _ h))
  · exact .inl (.inr ⟨o, key _ _ h⟩)
  · exact .inr h
/-- not the state: another kind of object, or one that came later -/
theorem StAt.ne {K : PySem.W.Frag} {H : Hp} {st a p : Addr} {ns : List Int} {o : HO} (h : StAt K H st a ns) (hp : H p = some o) (hd : ∀ xs, o ≠ .lst xs) : p ≠ st := by
  obtain ⟨_, _, _, h1, _⟩ := h.lst
  exact ne_of hp h1 (hd _)
theorem StAt.neN {K : PySem.W.Frag} {H : Hp} {st a p : Addr} {ns : List Int} (h : StAt K H st a ns) (hp : H p = none) : p ≠ st := by
  obtain ⟨_, _, _, h1, _⟩ := h.lst
  exact (ne_of_none h1 hp).symm
theorem StepsAt.monoB {K : PySem.W.Frag} {H H' : Hp} {st a : Addr} {ns : List Int} {vs : List V} {l : List Stp} (h : StAt K H st a ns) (s : SameB st H H') (hs : StepsAt H vs l) : StepsAt H' vs l :=
  pr_im (fun _ _ ⟨p, e1, e2⟩ => ⟨p, e1, s p _ (h.ne e2 fun xs z => nomatch z) e2⟩) hs
theorem PlanAt.monoB {K : PySem.W.Frag} {H H' : Hp} {st a C p : Addr} {ns : List Int} {l : List Stp} (h : StAt K H st a ns) (s : SameB st H H') (hp : PlanAt C H p l) : PlanAt C H' p l := by
  obtain ⟨dx, t, vs, h1, h2, h3⟩ := hp.ex
  exact ⟨dx, t, vs, s _ _ (h.ne h1 fun xs z => nomatch z) h1, s _ _ (h.ne h2 fun xs z => nomatch z) h2, StepsAt.monoB h s h3⟩
theorem SameB.free {K : PySem.W.Frag} {H H' : Hp} {st a p : Addr} {ns : List Int} (h : StAt K H' st a ns) (s : SameB st H H') (hp : H' p = none) : H p = none := by
  cases e : H p with
  | none => rfl
  | some o =>
    have := s p o (h.neN hp) e
    rw [hp] at this
    cases this
end Ch
namespace Ch
open PySem PySem.Spec PyProof.Rows L2 ChM
theorem StAt.putD {K : PySem.W.Frag} {H H1 : Hp} {st a D : Addr} {ns : List Int} {o : HO} (S0 : StAt K H st a ns) (S : StAt K H1 st a ns) (hD : H D = none) (sB : SameB st H H1) : StAt K (upd H1 D o) st a ns ∧ SameB st H (upd H1 D o) := by
  have sN : SameB st H (upd H1 D o) := fun b u hb e => by
    rw [upd_ne (ne_of_none e hD)]
    exact sB b u hb e
  obtain ⟨p1, p2, p3, p4, p5⟩ := S.lst
  exact ⟨⟨⟨p1, p2, p3, by rw [upd_ne (S0.neN hD).symm]; exact p4, p5⟩, fun H' s' => S0.scr H' (sN.trans s')⟩, sN⟩
end Ch

set_option Elab.async false
set_option linter.all false
set_option autoImplicit false
set_option maxRecDepth 100000
set_option maxHeartbeats 4000000
/-! ### == of lists and tuples of numbers -/
namespace Ch
open PySem PySem.Spec PyProof.Rows L2 ChM
def Lay (n : Nat) (d : PyData) : Prop := d.canLay0 = true ∧ d.depth ≤ n
theorem lay_all {n : Nat} : ∀ {ds : List PyData}, (∀ d ∈ ds, Lay n d) → PyData.canLayAll0 ds = true ∧ PyData.depthAll ds ≤ n
  | [], _ => by simp [PyData.canLayAll0, PyData.depthAll]
  | d :: ds, h => by
    obtain ⟨a, b⟩ := lay_all (ds := ds) fun e he => h e (List.mem_cons_of_mem _ he)
    obtain ⟨c, e⟩ := h d List.mem_cons_self
    refine ⟨by simp [PyData.canLayAll0, a, c], ?_⟩
    simp only [PyData.depthAll]
    omega
theorem lay_list {n : Nat} {ds : List PyData} (h : ∀ d ∈ ds, Lay n d) : Lay (n + 1) (.list ds) := by
  obtain ⟨a, b⟩ := lay_all h
  refine ⟨by simp only [PyData.canLay0]; exact a, ?_⟩
  simp only [PyData.depth]
  omega
theorem lay_tup {n : Nat} {ds : List PyData} (h : ∀ d ∈ ds, Lay n d) : Lay (n + 1) (.tuple ds) := by
  obtain ⟨a, b⟩ := lay_all h
  refine ⟨by simp only [PyData.canLay0]; exact a, ?_⟩
  simp only [PyData.depth]
  omega
theorem lay_int (n : Nat) (i : Int) : Lay n (.int i) := ⟨by simp [PyData.canLay0], by simp [PyData.depth]⟩
theorem lay_str (n : Nat) (i : Str) (h : PyData.strOk i = true) : Lay n (.str i) := ⟨by simp only [PyData.canLay0]; exact h, by simp [PyData.depth]⟩
theorem lay_bool (n : Nat) (i : Bool) : Lay n (.bool i) := ⟨by simp [PyData.canLay0], by simp [PyData.depth]⟩
theorem lay_none (n : Nat) : Lay n .none := ⟨by simp [PyData.canLay0], by simp [PyData.depth]⟩
theorem Lay.shaped {n : Nat} {d : PyData} (h : Lay n d) (hn : n ≤ 64 := by decide) : SeqAt.shaped d = true := by
  show (d.canLay0 && decide (d.depth ≤ 64)) = true
  rw [Bool.and_eq_true]
  exact ⟨h.1, decide_eq_true (Nat.le_trans h.2 hn)⟩
theorem lay_map {α : Type} {n : Nat} {f : α → PyData} (h : ∀ a, Lay n (f a)) (xs : List α) : ∀ d ∈ xs.map f, Lay n d := fun d hd => by
  obtain ⟨a, _, rfl⟩ := List.mem_map.mp hd
  exact h a
theorem eqvAll_map {α : Type} [DecidableEq α] {f : α → PyData} (h : ∀ a b, PyData.eqv (f a) (f b) = decide (a = b)) : ∀ xs ys : List α, PyData.eqvAll (xs.map f) (ys.map f) = decide (xs = ys)
  | [], [] => by simp [PyData.eqvAll]
  | [], _ :: _ => by simp [PyData.eqvAll]
  | _ :: _, [] => by simp [PyData.eqvAll]
  | x :: xs, y :: ys => by
    simp only [List.map_cons, PyData.eqvAll]
    rw [h, eqvAll_map h xs ys]
    by_cases e : x = y <;> by_cases e2 : xs = ys <;> simp [e, e2]
theorem eqv_int (a b : Int) : PyData.eqv (.int a) (.int b) = decide (a = b) := by
  simp only [PyData.eqv]
  by_cases e : a = b <;> simp [e]
theorem eqv_str (a b : Str) : PyData.eqv (.str a) (.str b) = decide (a = b) := by
  simp only [PyData.eqv]
  by_cases e : a = b
  · simp [e]
  · rw [decide_eq_false e]
    exact beq_false_of_ne e
theorem dpAll_ints {K : PySem.W.Frag} {H : Hp} : ∀ ns : List Int, DpAll K H (ns.map V.int) (ns.map PyData.int)
  | [] => .nil
  | n :: ns => .cons (.int n) (dpAll_ints ns)
section
variable {H : Hp} {Q : VK} {K : PySem.W.Frag} {p q : Addr} {ns ms : List Int} {a b c d : Int}
theorem x_neL (h1 : SqL K H p (ns.map V.int)) (h2 : SqL K H q (ms.map V.int)) (k : Q (.bl (!decide (ns = ms))) H) : rNeU K (.ref p) (.ref q) H Q := by
  refine x_neDp (.lst h1 (dpAll_ints ns)) (.lst h2 (dpAll_ints ms)) (lay_list (lay_map (lay_int 0) ns)).shaped (lay_list (lay_map (lay_int 0) ms)).shaped ?_
  have e : PyData.eqv (.list (ns.map PyData.int)) (.list (ms.map PyData.int)) = decide (ns = ms) := by
    simp only [PyData.eqv]
    exact eqvAll_map eqv_int ns ms
  rw [e]
  exact k
theorem x_eqL (h1 : SqL K H p (ns.map V.int)) (h2 : SqL K H q (ms.map V.int)) (k : Q (.bl (decide (ns = ms))) H) : rEqU K (.ref p) (.ref q) H Q := by
  refine x_eqDp (.lst h1 (dpAll_ints ns)) (.lst h2 (dpAll_ints ms)) (lay_list (lay_map (lay_int 0) ns)).shaped (lay_list (lay_map (lay_int 0) ms)).shaped ?_
  have e : PyData.eqv (.list (ns.map PyData.int)) (.list (ms.map PyData.int)) = decide (ns = ms) := by
    simp only [PyData.eqv]
    exact eqvAll_map eqv_int ns ms
  rw [e]
  exact k
theorem x_neTu (h1 : SqT K H p (ns.map V.int)) (h2 : SqT K H q (ms.map V.int)) (k : Q (.bl (!decide (ns = ms))) H) : rNeU K (.ref p) (.ref q) H Q := by
  refine x_neDp (.tup h1 (dpAll_ints ns)) (.tup h2 (dpAll_ints ms)) (lay_tup (lay_map (lay_int 0) ns)).shaped (lay_tup (lay_map (lay_int 0) ms)).shaped ?_
  have e : PyData.eqv (.tuple (ns.map PyData.int)) (.tuple (ms.map PyData.int)) = decide (ns = ms) := by
    simp only [PyData.eqv]
    exact eqvAll_map eqv_int ns ms
  rw [e]
  exact k
theorem x_eqTu (h1 : SqT K H p (ns.map V.int)) (h2 : SqT K H q (ms.map V.int)) (k : Q (.bl (decide (ns = ms))) H) : rEqU K (.ref p) (.ref q) H Q := by
  refine x_eqDp (.tup h1 (dpAll_ints ns)) (.tup h2 (dpAll_ints ms)) (lay_tup (lay_map (lay_int 0) ns)).shaped (lay_tup (lay_map (lay_int 0) ms)).shaped ?_
  have e : PyData.eqv (.tuple (ns.map PyData.int)) (.tuple (ms.map PyData.int)) = decide (ns = ms) := by
    simp only [PyData.eqv]
    exact eqvAll_map eqv_int ns ms
  rw [e]
  exact k
/-- (a, b) != (c, d) -/
theorem x_neP (h1 : H p = some (.tup [.int a, .int b])) (h2 : H q = some (.tup [.int c, .int d])) (k : Q (.bl (!decide (a = c ∧ b = d))) H) : rNeU K (.ref p) (.ref q) H Q := by
  refine x_neTu (ns := [a, b]) (ms := [c, d]) (SqT.of h1) (SqT.of h2) ?_
  rw [show decide ([a, b] = [c, d]) = decide (a = c ∧ b = d) by simp]
  exact k
theorem x_eqP (h1 : H p = some (.tup [.int a, .int b])) (h2 : H q = some (.tup [.int c, .int d])) (k : Q (.bl (decide (a = c ∧ b = d))) H) : rEqU K (.ref p) (.ref q) H Q := by
  refine x_eqTu (ns := [a, b]) (ms := [c, d]) (SqT.of h1) (SqT.of h2) ?_
  rw [show decide ([a, b] = [c, d]) = decide (a = c ∧ b = d) by simp]
  exact k
/-- numbers or None -/
theorem x_neG {x y : Option Int} (k : Q (.bl (!decide (x = y))) H) : rNeU K (goalV x) (goalV y) H Q := by
  refine .inl ⟨by cases x <;> cases y <;> rfl, ?_⟩
  rw [show decide (goalV x = goalV y) = decide (x = y) by cases x <;> cases y <;> simp [goalV]]
  exact k
theorem x_eqG {x y : Option Int} (k : Q (.bl (decide (x = y))) H) : rEqU K (goalV x) (goalV y) H Q := by
  refine .inl ⟨by cases x <;> cases y <;> rfl, ?_⟩
  rw [show decide (goalV x = goalV y) = decide (x = y) by cases x <;> cases y <;> simp [goalV]]
  exact k
/-- slices -/
theorem x_sl {r : V → Option Int → Option Int → Hp → VK → Prop} {te : TE} {tl th : TO} {σ : L2.St} (k : te σ H fun x H1 => tl σ H1 fun l H2 => th σ H2 fun u H3 => r x l u H3 Q) : L2.tSl r te tl th σ H Q := k
theorem x_slL {xs : List V} {lo hi : Option Int} (h : SqL K H p xs) (k : ∀ q, H q = none → Q (.ref q) (upd H q (.lst (cutV xs lo hi)))) : rSlL K (.ref p) lo hi H Q := ⟨p, xs, rfl, h, k⟩
theorem x_noPart {σ : L2.St} {QO : Option Int → Hp → Prop} (k : QO none H) : tNoPart σ H QO := k
theorem x_part {σ : L2.St} {te : TE} {QO : Option Int → Hp → Prop} (k : te σ H fun x H1 => ∃ i, x = .int i ∧ QO (some i) H1) : tPart te σ H QO := k
theorem x_partI {i : Int} {R : Int → Prop} (k : R i) : ∃ j, V.int i = .int j ∧ R j := ⟨i, rfl, k⟩
theorem x_rep {xs : List V} {n : Int} (h : H p = some (.lst xs)) (h0 : -(2 ^ 63) ≤ n) (h1 : n < 2 ^ 63) (h2 : xs.length * n.toNat ≤ sizeLine) (k : ∀ q, H q = none → Q (.ref q) (upd H q (.lst (List.replicate n.toNat xs).flatten))) : rTimes (.ref p) (.int n) H Q := .inr (.inr ⟨p, n, xs, rfl, rfl, h, h0, h1, h2, k⟩)
end
/-- a slice of paired lists -/
theorem pr_cut {β : Type} {R : V → β → Prop} {xs : List V} {ys : List β} (lo hi : Option Int) (h : Paired R xs ys) : Paired R (cutV xs lo hi) ((ys.drop (HT.sIx xs.length 0 lo)).take (HT.sIx xs.length xs.length hi - HT.sIx xs.length 0 lo)) := pr_take _ (pr_drop _ h)
end Ch
/-! ### new objects, the heap behind them named -/
namespace Ch
open PySem PySem.Spec PyProof.Rows L2 ChM
section
variable {H : Hp} {Q : VK} {K : PySem.W.Frag} {p q : Addr} {xs ys : List V} {o : HO} {n : Nat} {R : Addr → Hp → Prop}
theorem n_new (h : n ≤ sizeLine) (k : ∀ p H', H p = none → Same H H' → H' p = some o → R p H') : n ≤ sizeLine ∧ ∀ p, H p = none → R p (upd H p o) := ⟨h, fun p hp => k p _ hp (Same.new hp) upd_same⟩
theorem n_new0 (k : ∀ p H', H p = none → Same H H' → H' p = some o → R p H') : ∀ p, H p = none → R p (upd H p o) := fun p hp => k p _ hp (Same.new hp) upd_same
theorem n_slL {lo hi : Option Int} (h : SqL K H p xs) (k : ∀ q H', H q = none → Same H H' → H' q = some (.lst (cutV xs lo hi)) → Q (.ref q) H') : rSlL K (.ref p) lo hi H Q := x_slL h fun q hq => k q _ hq (Same.new hq) upd_same
theorem n_plusL (h1 : H p = some (.lst xs)) (h2 : H q = some (.lst ys)) (h3 : xs.length + ys.length ≤ sizeLine) (k : ∀ r H', H r = none → Same H H' → H' r = some (.lst (xs ++ ys)) → Q (.ref r) H') : rPlus (.ref p) (.ref q) H Q := x_plusL h1 h2 h3 fun q hq => k q _ hq (Same.new hq) upd_same
theorem n_rep {i : Int} (h : H p = some (.lst xs)) (h0 : -(2 ^ 63) ≤ i) (h1 : i < 2 ^ 63) (h2 : xs.length * i.toNat ≤ sizeLine) (k : ∀ q H', H q = none → Same H H' → H' q = some (.lst (List.replicate i.toNat xs).flatten) → Q (.ref q) H') : rTimes (.ref p) (.int i) H Q := x_rep h h0 h1 h2 fun q hq => k q _ hq (Same.new hq) upd_same
theorem fits_sub {h : Int} {l l' : List Stp} (hl : fitsS h l) (hs : ∀ s ∈ l', s ∈ l) : fitsS h l' := fun b n hm => hl b n (hs _ hm)
theorem mem_cut {α : Type} {l : List α} {a b : Nat} {s : α} (h : s ∈ (l.drop a).take b) : s ∈ l := List.mem_of_mem_drop (List.mem_of_mem_take h)
theorem fits_app {h : Int} {l m : List Stp} (hl : fitsS h l) (hm : fitsS h m) : fitsS h (l ++ m) := fun b n hx => by
  rcases List.mem_append.mp hx with z | z
  · exact hl b n z
  · exact hm b n z
end
end Ch
namespace Ch
open PySem PySem.Spec PyProof.Rows L2
theorem nws {H H' : Hp} {p : Addr} {o : HO} (h : upd H p o = H') (hp : H p = none) : Same H H' ∧ H' p = some o := by
  subst h
  exact ⟨Same.new hp, upd_same⟩
end Ch
namespace Ch
open PySem PySem.Spec PyProof.Rows L2 ChM
theorem StepsAt.put {H : Hp} {p : Addr} {vs : List V} {l : List Stp} (s : Stp) (h : H p = some (.tup (stepV s))) (t : StepsAt H vs l) : StepsAt H (.ref p :: vs) (s :: l) := .cons ⟨p, rfl, h⟩ t
end Ch
/-! ### ways that meet -/
namespace Ch
open PySem PySem.Spec PyProof.Rows L2
section
variable {σ : L2.St} {H : Hp} {D : Ends} {t : TT} {t1 t2 : TS} {b : Bool}
/-- if: what is known of everything behind it -/
theorem x_ifM (R : L2.St → Hp → Prop) (hT : b = true → ∀ N : L2.St → Hp → Prop, (∀ σ' H', R σ' H' → N σ' H') → t1 { D with nx := N } σ H) (hF : b = false → ∀ N : L2.St → Hp → Prop, (∀ σ' H', R σ' H' → N σ' H') → t2 { D with nx := N } σ H) (h1 : ∀ σ' H', R σ' H' → D.nx σ' H') :
    if b = true then t1 D σ H else t2 D σ H := by
  cases b with
  | true => exact hT rfl _ h1
  | false => exact hF rfl _ h1
theorem x_ifMd {c : Prop} [Decidable c] (R : L2.St → Hp → Prop) (hT : c → ∀ N : L2.St → Hp → Prop, (∀ σ' H', R σ' H' → N σ' H') → t1 { D with nx := N } σ H) (hF : ¬ c → ∀ N : L2.St → Hp → Prop, (∀ σ' H', R σ' H' → N σ' H') → t2 { D with nx := N } σ H) (h1 : ∀ σ' H', R σ' H' → D.nx σ' H') :
    if decide c = true then t1 D σ H else t2 D σ H := x_ifM R (fun e => hT (of_decide_eq_true e)) (fun e => hF (of_decide_eq_false e)) h1
/-- an if that is passed by -/
theorem x_skip (R : Hp → Prop) (hf : ∀ QT : Bool → Hp → Prop, (∀ H', R H' → QT false H') → t σ H QT) (h1 : ∀ H', R H' → t2 D σ H') : tIfS t t1 t2 D σ H := hf _ fun H' r => h1 H' r
end
end Ch

set_option Elab.async false
set_option linter.all false
set_option autoImplicit false
set_option maxRecDepth 100000
set_option maxHeartbeats 4000000
namespace ChH
open PySem PySem.Spec PyProof.Rows L2 He
/-! ### the facts of a head: Fa's, further Bools, defs at any address -/
abbrev Fx : Type := PySem.W.Frag → Bool
def obsC (fa : List Fa) (xs : List Fx) (fn : List He5.DefA) (K : PySem.W.Frag) : AlD := ((fa.all fun f => f.ok K) && (xs.all fun x => x K) && fn.all fun d => d.ok K, fn.map fun d => He5.fnA K (d.at_ K))
def SaysC (fa : List Fa) (xs : List Fx) (fn : List He5.DefA) (K : PySem.W.Frag) : Prop := obsC fa xs fn K = He5.valA fn
def obsCG (n : Nat) (fa : List Fa) (xs : List Fx) (fn : List He5.DefA) (g : Addr → Option Obj) : AlD := obsC fa xs fn (frG g (He5.asA g n))
def hookC (n : Nat) (fa : List Fa) (xs : List Fx) (fn : List He5.DefA) : PySem.W.Hook where
  α := AlD
  obs := fun s => obsCG n fa xs fn s.heap.get?
  val := fun _ => He5.valA fn
  says := fun _ h => ∃ K : PySem.W.Frag, K.In h ∧ SaysC fa xs fn K
  of := fun _ _ e => ⟨_, frG_in, e⟩
  keeps := fun _ _ _ ⟨K, hK, c⟩ k => ⟨K, hK.keeps k, c⟩
theorem obsCG_eq {n : Nat} {fa : List Fa} {xs : List Fx} {fn : List He5.DefA} {g : Addr → Option Obj} {s : Shared} (h : ∀ a, g a = s.heap.get? a) : obsCG n fa xs fn g = (hookC n fa xs fn).obs s := by
  rw [show g = s.heap.get? from funext h]
  rfl
def fdOf (K : PySem.W.Frag) (a : Addr) : FuncData := match K.lookup a with
  | some ⟨_, _, .func fd, _⟩ => fd
  | _ => default
section
variable {fa : List Fa} {xs : List Fx} {fn : List He5.DefA} {K : PySem.W.Frag}
theorem says_1 (c : SaysC fa xs fn K) : ((fa.all fun f => f.ok K) && (xs.all fun x => x K) && fn.all fun d => d.ok K) = true := congrArg (fun z : AlD => z.1) c
theorem SaysC.fact (c : SaysC fa xs fn K) (i : Nat) {f : Fa} (h : fa[i]? = some f := by rfl) : f.ok K = true :=
  List.all_eq_true.mp (ba (ba (says_1 c)).1).1 f (List.mem_of_getElem? h)
theorem SaysC.ex (c : SaysC fa xs fn K) (i : Nat) {x : Fx} (h : xs[i]? = some x := by rfl) : x K = true :=
  List.all_eq_true.mp (ba (ba (says_1 c)).1).2 x (List.mem_of_getElem? h)
theorem SaysC.df (c : SaysC fa xs fn K) (i : Nat) {d : He5.DefA} (h : fn[i]? = some d := by rfl) : FunD K d.name d.qual d.params d.body d.scope (d.dvs K) (d.kws K) (d.at_ K) (fdOf K (d.at_ K)) := by
  have e : fn.map (fun d => He5.fnA K (d.at_ K)) = fn.map He5.DefA.val := congrArg (fun z : AlD => z.2) c
  have e2 : (fn.map fun d => He5.fnA K (d.at_ K))[i]? = (fn.map He5.DefA.val)[i]? := by rw [e]
  rw [List.getElem?_map, List.getElem?_map, h] at e2
  obtain ⟨fd, F⟩ := He5.DefA.funD (Option.some.inj e2) (List.all_eq_true.mp (ba (says_1 c)).2 d (List.mem_of_getElem? h))
  have ed : fdOf K (d.at_ K) = fd := by
    obtain ⟨oc, od, dV, kV, doc, pm, an, cdv, ct, osl, e, l, _⟩ := F.ex
    unfold fdOf
    rw [l]
  rw [ed]
  exact F
end
/-! ### a property, a class's constant, a class read -/
def prB (C m : Str) (K : PySem.W.Frag) : Bool := eqO (PySem.W.findIn K (.ref (ga K C)) m) (some (some (.ref (ma K (ga K C) m)))) && (eqO (PySem.W.specialIn K (.ref (ma K (ga K C) m)) "__get__") (some (some (.builtin "property.__get__"))) &&
  (decide (PySem.W.takesIn K (.ref (ma K (ga K C) m)) = some true) && (match PySem.W.recIn K (ma K (ga K C) m) "property" with
    | some (.ref _ :: _) => true
    | _ => false)))
abbrev gp (C m : Str) (K : PySem.W.Frag) : Addr := He5.wf K (ga K C) "property" m
theorem pr_ok {K : PySem.W.Frag} {C m : Str} (h : prB C m K = true) : PropOf K (ga K C) m (ma K (ga K C) m) (gp C m K) := by
  obtain ⟨h1, h⟩ := ba h
  obtain ⟨h2, h⟩ := ba h
  obtain ⟨h3, h4⟩ := ba h
  refine ⟨eqO_ok h1, eqO_ok h2, of_decide_eq_true h3, ?_⟩
  unfold gp He5.wf
  split at h4
  · rename_i f r e
    exact ⟨r, by rw [e]⟩
  · cases h4
def rdB (C : Str) (K : PySem.W.Frag) : Bool := PySem.W.readsIn K (ga K C) (.type "type") && eqO (PySem.W.specialIn K (.ref (ga K C)) "__getattribute__") (some (some (.builtin "type.__getattribute__")))
theorem rd_ok {K : PySem.W.Frag} {C : Str} (h : rdB C K = true) : ClX.CRead K (ga K C) (.type "type") := by
  obtain ⟨h1, h2⟩ := ba h
  exact ⟨h1, eqO_ok h2⟩
def cvB (C f : Str) (v : Dv) (K : PySem.W.Frag) : Bool := match PySem.W.findCls K (.ref (ga K C)) (.type "type") f with
  | some (.val u) => relB (v.v K) u
  | _ => false
theorem cv_ok {K : PySem.W.Frag} {C f : Str} {v : Dv} (h : cvB C f v K = true) : ∃ u, ClX.CVal K (ga K C) (.type "type") f (v.v K) u := by
  unfold cvB at h
  split at h
  · rename_i u e
    exact ⟨u, e, relB_ok h⟩
  · cases h
/-- a def's function object is that of its def (a class's method, by name) -/
def keB (C : Str) (K : PySem.W.Frag) : Bool := PySem.W.keepIn K (.ref (ga K C))
end ChH

set_option Elab.async false
set_option linter.all false
set_option autoImplicit false
set_option maxRecDepth 100000
set_option maxHeartbeats 4000000
namespace K05
open PySem PySem.Spec PyProof.Rows L2 He ChH
/-! ### the text by places -/
def top (i : Nat) : Stmt := PySem.Challenge.pw_chaircarry_k05_first_difference.main.body.getD i (.Pass ⟨0, 0, 0, 0⟩)
abbrev s_is_number : Stmt := top 10
abbrev s_is_step : Stmt := top 11
abbrev s_Plan_init : Stmt := inClass (top 12) 2
abbrev s_Plan_steps : Stmt := inClass (top 12) 4
abbrev s_Plan_is_turning : Stmt := inClass (top 12) 5
abbrev s_Plan_joined : Stmt := inClass (top 12) 6
abbrev s_sides_of : Stmt := top 13
abbrev s_validate_house : Stmt := top 14
abbrev s_Effect_init : Stmt := inClass (top 16) 0
abbrev s_Effect_at_least : Stmt := inClass (top 16) 1
abbrev s_Effect_at_most : Stmt := inClass (top 16) 2
abbrev s_Effect_mirrored : Stmt := inClass (top 16) 3
abbrev s_Effect_carried : Stmt := inClass (top 16) 5
abbrev s_Effect_place : Stmt := inClass (top 16) 6
abbrev s_Effect_end : Stmt := inClass (top 16) 7
abbrev s_nothing : Stmt := top 17
abbrev s_effect_of : Stmt := top 18
abbrev s_first_difference : Stmt := top 19
abbrev s__law_start : Stmt := top 21
abbrev s__law_drawn : Stmt := top 22
abbrev s__law_random_steps : Stmt := top 24
abbrev s__law_plan : Stmt := top 25
abbrev s__law_played : Stmt := top 26
abbrev s__law_other : Stmt := top 27
abbrev s__law_differ : Stmt := top 28
abbrev s_law : Stmt := top 29
/-! ### what the head tells -/
def faL : List Fa := [.glo "InvalidPlan", .glo "TooFewChairs", .glo "InvalidNumber", .str "RED" "red", .str "BLUE" "blue", .str "TURN" "turn", .glo "is_number", .glo "is_step", .glo "Plan", .glo "sides_of", .glo "validate_house", .glo "Effect", .glo "nothing", .glo "effect_of", .glo "first_difference", .glo "_law_start", .glo "_law_drawn", .glo "_law_random_steps", .glo "_law_plan", .glo "_law_played", .glo "_law_other", .glo "_law_differ", .glo "law", .free "bool", .free "enumerate", .free "int", .free "isinstance", .free "len", .free "list", .free "max", .free "min", .free "property", .free "range", .free "sorted", .free "sum", .cls "Plan", .noat "Plan" "parts", .mkr "Plan", .meth "Plan" "joined", .cls "Effect", .noat "Effect" "chairs", .noat "Effect" "low", .noat "Effect" "high", .noat "Effect" "extra", .noat "Effect" "goal", .noat "Effect" "turned", .mkr "Effect", .meth "Effect" "at_least", .meth "Effect" "at_most", .meth "Effect" "mirrored", .meth "Effect" "carried", .meth "Effect" "place", .meth "Effect" "end"]
def xsL : List ChH.Fx := [prB "Plan" "steps", prB "Plan" "is_turning", rdB "Plan", cvB "Plan" "MAX_STEPS" (.int 60), cvB "Plan" "MAX_CHAIRS" (.int 1000000000000000000)]
def d_is_number : He5.DefA := ⟨fun K => ga K "is_number", "is_number", "is_number", defArgs s_is_number, defBody s_is_number, defScope s_is_number, [], []⟩
def d_is_step : He5.DefA := ⟨fun K => ga K "is_step", "is_step", "is_step", defArgs s_is_step, defBody s_is_step, defScope s_is_step, [], []⟩
def d_Plan_init : He5.DefA := ⟨fun K => ma K (ga K "Plan") "__init__", "__init__", "Plan.__init__", defArgs s_Plan_init, defBody s_Plan_init, defScope s_Plan_init, [], []⟩
def d_Plan_steps : He5.DefA := ⟨fun K => gp "Plan" "steps" K, "steps", "Plan.steps", defArgs s_Plan_steps, defBody s_Plan_steps, defScope s_Plan_steps, [], []⟩
def d_Plan_is_turning : He5.DefA := ⟨fun K => gp "Plan" "is_turning" K, "is_turning", "Plan.is_turning", defArgs s_Plan_is_turning, defBody s_Plan_is_turning, defScope s_Plan_is_turning, [], []⟩
def d_Plan_joined : He5.DefA := ⟨fun K => ma K (ga K "Plan") "joined", "joined", "Plan.joined", defArgs s_Plan_joined, defBody s_Plan_joined, defScope s_Plan_joined, [], []⟩
def d_sides_of : He5.DefA := ⟨fun K => ga K "sides_of", "sides_of", "sides_of", defArgs s_sides_of, defBody s_sides_of, defScope s_sides_of, [], []⟩
def d_validate_house : He5.DefA := ⟨fun K => ga K "validate_house", "validate_house", "validate_house", defArgs s_validate_house, defBody s_validate_house, defScope s_validate_house, [], []⟩
def d_Effect_init : He5.DefA := ⟨fun K => ma K (ga K "Effect") "__init__", "__init__", "Effect.__init__", defArgs s_Effect_init, defBody s_Effect_init, defScope s_Effect_init, [], []⟩
def d_Effect_at_least : He5.DefA := ⟨fun K => ma K (ga K "Effect") "at_least", "at_least", "Effect.at_least", defArgs s_Effect_at_least, defBody s_Effect_at_least, defScope s_Effect_at_least, [], []⟩
def d_Effect_at_most : He5.DefA := ⟨fun K => ma K (ga K "Effect") "at_most", "at_most", "Effect.at_most", defArgs s_Effect_at_most, defBody s_Effect_at_most, defScope s_Effect_at_most, [], []⟩
def d_Effect_mirrored : He5.DefA := ⟨fun K => ma K (ga K "Effect") "mirrored", "mirrored", "Effect.mirrored", defArgs s_Effect_mirrored, defBody s_Effect_mirrored, defScope s_Effect_mirrored, [], []⟩
def d_Effect_carried : He5.DefA := ⟨fun K => ma K (ga K "Effect") "carried", "carried", "Effect.carried", defArgs s_Effect_carried, defBody s_Effect_carried, defScope s_Effect_carried, [], []⟩
def d_Effect_place : He5.DefA := ⟨fun K => ma K (ga K "Effect") "place", "place", "Effect.place", defArgs s_Effect_place, defBody s_Effect_place, defScope s_Effect_place, [], []⟩
def d_Effect_end : He5.DefA := ⟨fun K => ma K (ga K "Effect") "end", "end", "Effect.end", defArgs s_Effect_end, defBody s_Effect_end, defScope s_Effect_end, [], []⟩
def d_nothing : He5.DefA := ⟨fun K => ga K "nothing", "nothing", "nothing", defArgs s_nothing, defBody s_nothing, defScope s_nothing, [], []⟩
def d_effect_of : He5.DefA := ⟨fun K => ga K "effect_of", "effect_of", "effect_of", defArgs s_effect_of, defBody s_effect_of, defScope s_effect_of, [], []⟩
def d_first_difference : He5.DefA := ⟨fun K => ga K "first_difference", "first_difference", "first_difference", defArgs s_first_difference, defBody s_first_difference, defScope s_first_difference, [], []⟩
def d__law_start : He5.DefA := ⟨fun K => ga K "_law_start", "_law_start", "_law_start", defArgs s__law_start, defBody s__law_start, defScope s__law_start, [], []⟩
def d__law_drawn : He5.DefA := ⟨fun K => ga K "_law_drawn", "_law_drawn", "_law_drawn", defArgs s__law_drawn, defBody s__law_drawn, defScope s__law_drawn, [], []⟩
def d__law_random_steps : He5.DefA := ⟨fun K => ga K "_law_random_steps", "_law_random_steps", "_law_random_steps", defArgs s__law_random_steps, defBody s__law_random_steps, defScope s__law_random_steps, [], []⟩
def d__law_plan : He5.DefA := ⟨fun K => ga K "_law_plan", "_law_plan", "_law_plan", defArgs s__law_plan, defBody s__law_plan, defScope s__law_plan, [], []⟩
def d__law_played : He5.DefA := ⟨fun K => ga K "_law_played", "_law_played", "_law_played", defArgs s__law_played, defBody s__law_played, defScope s__law_played, [], []⟩
def d__law_other : He5.DefA := ⟨fun K => ga K "_law_other", "_law_other", "_law_other", defArgs s__law_other, defBody s__law_other, defScope s__law_other, [], []⟩
def d__law_differ : He5.DefA := ⟨fun K => ga K "_law_differ", "_law_differ", "_law_differ", defArgs s__law_differ, defBody s__law_differ, defScope s__law_differ, [], []⟩
def d_law : He5.DefA := ⟨fun K => ga K "law", "law", "law", defArgs s_law, defBody s_law, defScope s_law, [], []⟩
def dfL : List He5.DefA := [d_is_number, d_is_step, d_Plan_init, d_Plan_steps, d_Plan_is_turning, d_Plan_joined, d_sides_of, d_validate_house, d_Effect_init, d_Effect_at_least, d_Effect_at_most, d_Effect_mirrored, d_Effect_carried, d_Effect_place, d_Effect_end, d_nothing, d_effect_of, d_first_difference, d__law_start, d__law_drawn, d__law_random_steps, d__law_plan, d__law_played, d__law_other, d__law_differ, d_law]
structure Wd (K : PySem.W.Frag) (mg : Str → Option Value) : Prop where
  kin : ∃ h : Heap, K.In h ∧ h.Ns mainGlobals mg
  s : ChH.SaysC faL xsL dfL K
section
variable {K : PySem.W.Frag} {mg : Str → Option Value}
theorem Wd.glo (W : Wd K mg) {x : Str} (c : (Fa.glo x).ok K = true) : mg x = some (.ref (ga K x)) := let ⟨_, X, G⟩ := W.kin; He.glo_ok X G c
theorem Wd.free (W : Wd K mg) {x : Str} (c : (Fa.free x).ok K = true) : mg x = none := let ⟨_, X, G⟩ := W.kin; He.free_ok X G c
theorem Wd.str (W : Wd K mg) {x z : Str} (c : (Fa.str x z).ok K = true) : ∃ t, mg x = some (.str z t) := let ⟨_, X, G⟩ := W.kin; He.str_ok X G c
theorem Wd.int (W : Wd K mg) {x : Str} {z : Int} (c : (Fa.int x z).ok K = true) : ∃ t, mg x = some (.int z t) := let ⟨_, X, G⟩ := W.kin; He.int_ok X G c
theorem Wd.g_InvalidPlan (W : Wd K mg) : mg "InvalidPlan" = some (.ref (ga K "InvalidPlan")) := W.glo (W.s.fact 0)
theorem Wd.g_TooFewChairs (W : Wd K mg) : mg "TooFewChairs" = some (.ref (ga K "TooFewChairs")) := W.glo (W.s.fact 1)
theorem Wd.g_InvalidNumber (W : Wd K mg) : mg "InvalidNumber" = some (.ref (ga K "InvalidNumber")) := W.glo (W.s.fact 2)
theorem Wd.t_RED (W : Wd K mg) : ∃ t, mg "RED" = some (.str "red" t) := W.str (W.s.fact 3)
theorem Wd.t_BLUE (W : Wd K mg) : ∃ t, mg "BLUE" = some (.str "blue" t) := W.str (W.s.fact 4)
theorem Wd.t_TURN (W : Wd K mg) : ∃ t, mg "TURN" = some (.str "turn" t) := W.str (W.s.fact 5)
theorem Wd.g_is_number (W : Wd K mg) : mg "is_number" = some (.ref (ga K "is_number")) := W.glo (W.s.fact 6)
theorem Wd.g_is_step (W : Wd K mg) : mg "is_step" = some (.ref (ga K "is_step")) := W.glo (W.s.fact 7)
theorem Wd.g_Plan (W : Wd K mg) : mg "Plan" = some (.ref (ga K "Plan")) := W.glo (W.s.fact 8)
theorem Wd.g_sides_of (W : Wd K mg) : mg "sides_of" = some (.ref (ga K "sides_of")) := W.glo (W.s.fact 9)
theorem Wd.g_validate_house (W : Wd K mg) : mg "validate_house" = some (.ref (ga K "validate_house")) := W.glo (W.s.fact 10)
theorem Wd.g_Effect (W : Wd K mg) : mg "Effect" = some (.ref (ga K "Effect")) := W.glo (W.s.fact 11)
theorem Wd.g_nothing (W : Wd K mg) : mg "nothing" = some (.ref (ga K "nothing")) := W.glo (W.s.fact 12)
theorem Wd.g_effect_of (W : Wd K mg) : mg "effect_of" = some (.ref (ga K "effect_of")) := W.glo (W.s.fact 13)
theorem Wd.g_first_difference (W : Wd K mg) : mg "first_difference" = some (.ref (ga K "first_difference")) := W.glo (W.s.fact 14)
theorem Wd.g__law_start (W : Wd K mg) : mg "_law_start" = some (.ref (ga K "_law_start")) := W.glo (W.s.fact 15)
theorem Wd.g__law_drawn (W : Wd K mg) : mg "_law_drawn" = some (.ref (ga K "_law_drawn")) := W.glo (W.s.fact 16)
theorem Wd.g__law_random_steps (W : Wd K mg) : mg "_law_random_steps" = some (.ref (ga K "_law_random_steps")) := W.glo (W.s.fact 17)
theorem Wd.g__law_plan (W : Wd K mg) : mg "_law_plan" = some (.ref (ga K "_law_plan")) := W.glo (W.s.fact 18)
theorem Wd.g__law_played (W : Wd K mg) : mg "_law_played" = some (.ref (ga K "_law_played")) := W.glo (W.s.fact 19)
theorem Wd.g__law_other (W : Wd K mg) : mg "_law_other" = some (.ref (ga K "_law_other")) := W.glo (W.s.fact 20)
theorem Wd.g__law_differ (W : Wd K mg) : mg "_law_differ" = some (.ref (ga K "_law_differ")) := W.glo (W.s.fact 21)
theorem Wd.g_law (W : Wd K mg) : mg "law" = some (.ref (ga K "law")) := W.glo (W.s.fact 22)
theorem Wd.f_bool (W : Wd K mg) : mg "bool" = none := W.free (W.s.fact 23)
theorem Wd.f_enumerate (W : Wd K mg) : mg "enumerate" = none := W.free (W.s.fact 24)
theorem Wd.f_int (W : Wd K mg) : mg "int" = none := W.free (W.s.fact 25)
theorem Wd.f_isinstance (W : Wd K mg) : mg "isinstance" = none := W.free (W.s.fact 26)
theorem Wd.f_len (W : Wd K mg) : mg "len" = none := W.free (W.s.fact 27)
theorem Wd.f_list (W : Wd K mg) : mg "list" = none := W.free (W.s.fact 28)
theorem Wd.f_max (W : Wd K mg) : mg "max" = none := W.free (W.s.fact 29)
theorem Wd.f_min (W : Wd K mg) : mg "min" = none := W.free (W.s.fact 30)
theorem Wd.f_property (W : Wd K mg) : mg "property" = none := W.free (W.s.fact 31)
theorem Wd.f_range (W : Wd K mg) : mg "range" = none := W.free (W.s.fact 32)
theorem Wd.f_sorted (W : Wd K mg) : mg "sorted" = none := W.free (W.s.fact 33)
theorem Wd.f_sum (W : Wd K mg) : mg "sum" = none := W.free (W.s.fact 34)
theorem Wd.c_Plan (W : Wd K mg) : Cls K (ga K "Plan") := He.cls_ok (W.s.fact 35)
theorem Wd.n_Plan_parts (W : Wd K mg) : NoAttr K (ga K "Plan") "parts" := He.noat_ok (W.s.fact 36)
theorem Wd.mk_Plan (W : Wd K mg) : Mk K (ga K "Plan") (ma K (ga K "Plan") "__init__") := He.mkr_ok (W.s.fact 37)
theorem Wd.m_Plan_joined (W : Wd K mg) : Meth K (ga K "Plan") "joined" (ma K (ga K "Plan") "joined") := He.meth_ok (W.s.fact 38)
theorem Wd.p_Plan_steps (W : Wd K mg) : PropOf K (ga K "Plan") "steps" (ma K (ga K "Plan") "steps") (gp "Plan" "steps" K) := pr_ok (W.s.ex 0)
theorem Wd.p_Plan_is_turning (W : Wd K mg) : PropOf K (ga K "Plan") "is_turning" (ma K (ga K "Plan") "is_turning") (gp "Plan" "is_turning" K) := pr_ok (W.s.ex 1)
theorem Wd.r_Plan (W : Wd K mg) : ClX.CRead K (ga K "Plan") (.type "type") := rd_ok (W.s.ex 2)
theorem Wd.v_Plan_MAX_STEPS (W : Wd K mg) : ∃ u, ClX.CVal K (ga K "Plan") (.type "type") "MAX_STEPS" (.int 60) u := cv_ok (W.s.ex 3)
theorem Wd.v_Plan_MAX_CHAIRS (W : Wd K mg) : ∃ u, ClX.CVal K (ga K "Plan") (.type "type") "MAX_CHAIRS" (.int 1000000000000000000) u := cv_ok (W.s.ex 4)
theorem Wd.c_Effect (W : Wd K mg) : Cls K (ga K "Effect") := He.cls_ok (W.s.fact 39)
theorem Wd.n_Effect_chairs (W : Wd K mg) : NoAttr K (ga K "Effect") "chairs" := He.noat_ok (W.s.fact 40)
theorem Wd.n_Effect_low (W : Wd K mg) : NoAttr K (ga K "Effect") "low" := He.noat_ok (W.s.fact 41)
theorem Wd.n_Effect_high (W : Wd K mg) : NoAttr K (ga K "Effect") "high" := He.noat_ok (W.s.fact 42)
theorem Wd.n_Effect_extra (W : Wd K mg) : NoAttr K (ga K "Effect") "extra" := He.noat_ok (W.s.fact 43)
theorem Wd.n_Effect_goal (W : Wd K mg) : NoAttr K (ga K "Effect") "goal" := He.noat_ok (W.s.fact 44)
theorem Wd.n_Effect_turned (W : Wd K mg) : NoAttr K (ga K "Effect") "turned" := He.noat_ok (W.s.fact 45)
theorem Wd.mk_Effect (W : Wd K mg) : Mk K (ga K "Effect") (ma K (ga K "Effect") "__init__") := He.mkr_ok (W.s.fact 46)
theorem Wd.m_Effect_at_least (W : Wd K mg) : Meth K (ga K "Effect") "at_least" (ma K (ga K "Effect") "at_least") := He.meth_ok (W.s.fact 47)
theorem Wd.m_Effect_at_most (W : Wd K mg) : Meth K (ga K "Effect") "at_most" (ma K (ga K "Effect") "at_most") := He.meth_ok (W.s.fact 48)
theorem Wd.m_Effect_mirrored (W : Wd K mg) : Meth K (ga K "Effect") "mirrored" (ma K (ga K "Effect") "mirrored") := He.meth_ok (W.s.fact 49)
theorem Wd.m_Effect_carried (W : Wd K mg) : Meth K (ga K "Effect") "carried" (ma K (ga K "Effect") "carried") := He.meth_ok (W.s.fact 50)
theorem Wd.m_Effect_place (W : Wd K mg) : Meth K (ga K "Effect") "place" (ma K (ga K "Effect") "place") := He.meth_ok (W.s.fact 51)
theorem Wd.m_Effect_end (W : Wd K mg) : Meth K (ga K "Effect") "end" (ma K (ga K "Effect") "end") := He.meth_ok (W.s.fact 52)
theorem Wd.F_is_number (W : Wd K mg) : FunD K "is_number" "is_number" (defArgs s_is_number) (defBody s_is_number) (defScope s_is_number) [] [] (ga K "is_number") (ChH.fdOf K (ga K "is_number")) := W.s.df 0 (d := d_is_number)
theorem Wd.k_is_number (W : Wd K mg) : PySem.W.keepIn K (.ref (ga K "is_number")) = true := W.F_is_number.kp
theorem Wd.F_is_step (W : Wd K mg) : FunD K "is_step" "is_step" (defArgs s_is_step) (defBody s_is_step) (defScope s_is_step) [] [] (ga K "is_step") (ChH.fdOf K (ga K "is_step")) := W.s.df 1 (d := d_is_step)
theorem Wd.k_is_step (W : Wd K mg) : PySem.W.keepIn K (.ref (ga K "is_step")) = true := W.F_is_step.kp
theorem Wd.F_Plan_init (W : Wd K mg) : FunD K "__init__" "Plan.__init__" (defArgs s_Plan_init) (defBody s_Plan_init) (defScope s_Plan_init) [] [] (ma K (ga K "Plan") "__init__") (ChH.fdOf K (ma K (ga K "Plan") "__init__")) := W.s.df 2 (d := d_Plan_init)
theorem Wd.F_Plan_steps (W : Wd K mg) : FunD K "steps" "Plan.steps" (defArgs s_Plan_steps) (defBody s_Plan_steps) (defScope s_Plan_steps) [] [] (gp "Plan" "steps" K) (ChH.fdOf K (gp "Plan" "steps" K)) := W.s.df 3 (d := d_Plan_steps)
theorem Wd.F_Plan_is_turning (W : Wd K mg) : FunD K "is_turning" "Plan.is_turning" (defArgs s_Plan_is_turning) (defBody s_Plan_is_turning) (defScope s_Plan_is_turning) [] [] (gp "Plan" "is_turning" K) (ChH.fdOf K (gp "Plan" "is_turning" K)) := W.s.df 4 (d := d_Plan_is_turning)
theorem Wd.F_Plan_joined (W : Wd K mg) : FunD K "joined" "Plan.joined" (defArgs s_Plan_joined) (defBody s_Plan_joined) (defScope s_Plan_joined) [] [] (ma K (ga K "Plan") "joined") (ChH.fdOf K (ma K (ga K "Plan") "joined")) := W.s.df 5 (d := d_Plan_joined)
theorem Wd.F_sides_of (W : Wd K mg) : FunD K "sides_of" "sides_of" (defArgs s_sides_of) (defBody s_sides_of) (defScope s_sides_of) [] [] (ga K "sides_of") (ChH.fdOf K (ga K "sides_of")) := W.s.df 6 (d := d_sides_of)
theorem Wd.k_sides_of (W : Wd K mg) : PySem.W.keepIn K (.ref (ga K "sides_of")) = true := W.F_sides_of.kp
theorem Wd.F_validate_house (W : Wd K mg) : FunD K "validate_house" "validate_house" (defArgs s_validate_house) (defBody s_validate_house) (defScope s_validate_house) [] [] (ga K "validate_house") (ChH.fdOf K (ga K "validate_house")) := W.s.df 7 (d := d_validate_house)
theorem Wd.k_validate_house (W : Wd K mg) : PySem.W.keepIn K (.ref (ga K "validate_house")) = true := W.F_validate_house.kp
theorem Wd.F_Effect_init (W : Wd K mg) : FunD K "__init__" "Effect.__init__" (defArgs s_Effect_init) (defBody s_Effect_init) (defScope s_Effect_init) [] [] (ma K (ga K "Effect") "__init__") (ChH.fdOf K (ma K (ga K "Effect") "__init__")) := W.s.df 8 (d := d_Effect_init)
theorem Wd.F_Effect_at_least (W : Wd K mg) : FunD K "at_least" "Effect.at_least" (defArgs s_Effect_at_least) (defBody s_Effect_at_least) (defScope s_Effect_at_least) [] [] (ma K (ga K "Effect") "at_least") (ChH.fdOf K (ma K (ga K "Effect") "at_least")) := W.s.df 9 (d := d_Effect_at_least)
theorem Wd.F_Effect_at_most (W : Wd K mg) : FunD K "at_most" "Effect.at_most" (defArgs s_Effect_at_most) (defBody s_Effect_at_most) (defScope s_Effect_at_most) [] [] (ma K (ga K "Effect") "at_most") (ChH.fdOf K (ma K (ga K "Effect") "at_most")) := W.s.df 10 (d := d_Effect_at_most)
theorem Wd.F_Effect_mirrored (W : Wd K mg) : FunD K "mirrored" "Effect.mirrored" (defArgs s_Effect_mirrored) (defBody s_Effect_mirrored) (defScope s_Effect_mirrored) [] [] (ma K (ga K "Effect") "mirrored") (ChH.fdOf K (ma K (ga K "Effect") "mirrored")) := W.s.df 11 (d := d_Effect_mirrored)
theorem Wd.F_Effect_carried (W : Wd K mg) : FunD K "carried" "Effect.carried" (defArgs s_Effect_carried) (defBody s_Effect_carried) (defScope s_Effect_carried) [] [] (ma K (ga K "Effect") "carried") (ChH.fdOf K (ma K (ga K "Effect") "carried")) := W.s.df 12 (d := d_Effect_carried)
theorem Wd.F_Effect_place (W : Wd K mg) : FunD K "place" "Effect.place" (defArgs s_Effect_place) (defBody s_Effect_place) (defScope s_Effect_place) [] [] (ma K (ga K "Effect") "place") (ChH.fdOf K (ma K (ga K "Effect") "place")) := W.s.df 13 (d := d_Effect_place)
theorem Wd.F_Effect_end (W : Wd K mg) : FunD K "end" "Effect.end" (defArgs s_Effect_end) (defBody s_Effect_end) (defScope s_Effect_end) [] [] (ma K (ga K "Effect") "end") (ChH.fdOf K (ma K (ga K "Effect") "end")) := W.s.df 14 (d := d_Effect_end)
theorem Wd.F_nothing (W : Wd K mg) : FunD K "nothing" "nothing" (defArgs s_nothing) (defBody s_nothing) (defScope s_nothing) [] [] (ga K "nothing") (ChH.fdOf K (ga K "nothing")) := W.s.df 15 (d := d_nothing)
theorem Wd.k_nothing (W : Wd K mg) : PySem.W.keepIn K (.ref (ga K "nothing")) = true := W.F_nothing.kp
theorem Wd.F_effect_of (W : Wd K mg) : FunD K "effect_of" "effect_of" (defArgs s_effect_of) (defBody s_effect_of) (defScope s_effect_of) [] [] (ga K "effect_of") (ChH.fdOf K (ga K "effect_of")) := W.s.df 16 (d := d_effect_of)
theorem Wd.k_effect_of (W : Wd K mg) : PySem.W.keepIn K (.ref (ga K "effect_of")) = true := W.F_effect_of.kp
theorem Wd.F_first_difference (W : Wd K mg) : FunD K "first_difference" "first_difference" (defArgs s_first_difference) (defBody s_first_difference) (defScope s_first_difference) [] [] (ga K "first_difference") (ChH.fdOf K (ga K "first_difference")) := W.s.df 17 (d := d_first_difference)
theorem Wd.k_first_difference (W : Wd K mg) : PySem.W.keepIn K (.ref (ga K "first_difference")) = true := W.F_first_difference.kp
theorem Wd.F__law_start (W : Wd K mg) : FunD K "_law_start" "_law_start" (defArgs s__law_start) (defBody s__law_start) (defScope s__law_start) [] [] (ga K "_law_start") (ChH.fdOf K (ga K "_law_start")) := W.s.df 18 (d := d__law_start)
theorem Wd.k__law_start (W : Wd K mg) : PySem.W.keepIn K (.ref (ga K "_law_start")) = true := W.F__law_start.kp
theorem Wd.F__law_drawn (W : Wd K mg) : FunD K "_law_drawn" "_law_drawn" (defArgs s__law_drawn) (defBody s__law_drawn) (defScope s__law_drawn) [] [] (ga K "_law_drawn") (ChH.fdOf K (ga K "_law_drawn")) := W.s.df 19 (d := d__law_drawn)
theorem Wd.k__law_drawn (W : Wd K mg) : PySem.W.keepIn K (.ref (ga K "_law_drawn")) = true := W.F__law_drawn.kp
theorem Wd.F__law_random_steps (W : Wd K mg) : FunD K "_law_random_steps" "_law_random_steps" (defArgs s__law_random_steps) (defBody s__law_random_steps) (defScope s__law_random_steps) [] [] (ga K "_law_random_steps") (ChH.fdOf K (ga K "_law_random_steps")) := W.s.df 20 (d := d__law_random_steps)
theorem Wd.k__law_random_steps (W : Wd K mg) : PySem.W.keepIn K (.ref (ga K "_law_random_steps")) = true := W.F__law_random_steps.kp
theorem Wd.F__law_plan (W : Wd K mg) : FunD K "_law_plan" "_law_plan" (defArgs s__law_plan) (defBody s__law_plan) (defScope s__law_plan) [] [] (ga K "_law_plan") (ChH.fdOf K (ga K "_law_plan")) := W.s.df 21 (d := d__law_plan)
theorem Wd.k__law_plan (W : Wd K mg) : PySem.W.keepIn K (.ref (ga K "_law_plan")) = true := W.F__law_plan.kp
theorem Wd.F__law_played (W : Wd K mg) : FunD K "_law_played" "_law_played" (defArgs s__law_played) (defBody s__law_played) (defScope s__law_played) [] [] (ga K "_law_played") (ChH.fdOf K (ga K "_law_played")) := W.s.df 22 (d := d__law_played)
theorem Wd.k__law_played (W : Wd K mg) : PySem.W.keepIn K (.ref (ga K "_law_played")) = true := W.F__law_played.kp
theorem Wd.F__law_other (W : Wd K mg) : FunD K "_law_other" "_law_other" (defArgs s__law_other) (defBody s__law_other) (defScope s__law_other) [] [] (ga K "_law_other") (ChH.fdOf K (ga K "_law_other")) := W.s.df 23 (d := d__law_other)
theorem Wd.k__law_other (W : Wd K mg) : PySem.W.keepIn K (.ref (ga K "_law_other")) = true := W.F__law_other.kp
theorem Wd.F__law_differ (W : Wd K mg) : FunD K "_law_differ" "_law_differ" (defArgs s__law_differ) (defBody s__law_differ) (defScope s__law_differ) [] [] (ga K "_law_differ") (ChH.fdOf K (ga K "_law_differ")) := W.s.df 24 (d := d__law_differ)
theorem Wd.k__law_differ (W : Wd K mg) : PySem.W.keepIn K (.ref (ga K "_law_differ")) = true := W.F__law_differ.kp
theorem Wd.F_law (W : Wd K mg) : FunD K "law" "law" (defArgs s_law) (defBody s_law) (defScope s_law) [] [] (ga K "law") (ChH.fdOf K (ga K "law")) := W.s.df 25 (d := d_law)
theorem Wd.k_law (W : Wd K mg) : PySem.W.keepIn K (.ref (ga K "law")) = true := W.F_law.kp
end
/-! ### names -/
abbrev N_is_number : List Str := ["value"]
theorem sc_is_number : FnScope N_is_number ["value"] (defScope s_is_number) := ⟨rfl, rfl, rfl, by decide +kernel, rfl, by decide +kernel, by decide +kernel⟩
abbrev N_is_step : List Str := ["step"]
theorem sc_is_step : FnScope N_is_step ["step"] (defScope s_is_step) := ⟨rfl, rfl, rfl, by decide +kernel, rfl, by decide +kernel, by decide +kernel⟩
abbrev N_Plan_init : List Str := ["self", "steps", "index", "step"]
theorem sc_Plan_init : FnScope N_Plan_init ["self", "steps"] (defScope s_Plan_init) := ⟨rfl, rfl, rfl, by decide +kernel, rfl, by decide +kernel, by decide +kernel⟩
abbrev N_Plan_steps : List Str := ["self"]
theorem sc_Plan_steps : FnScope N_Plan_steps ["self"] (defScope s_Plan_steps) := ⟨rfl, rfl, rfl, by decide +kernel, rfl, by decide +kernel, by decide +kernel⟩
abbrev N_Plan_is_turning : List Str := ["self", "step"]
theorem sc_Plan_is_turning : FnScope N_Plan_is_turning ["self"] (defScope s_Plan_is_turning) := ⟨rfl, rfl, rfl, by decide +kernel, rfl, by decide +kernel, by decide +kernel⟩
abbrev N_Plan_joined : List Str := ["self", "others", "steps", "other"]
theorem sc_Plan_joined : FnScope N_Plan_joined ["self", "others"] (defScope s_Plan_joined) := ⟨rfl, rfl, rfl, by decide +kernel, rfl, by decide +kernel, by decide +kernel⟩
abbrev N_sides_of : List Str := ["plan", "found", "side", "word", "needs"]
theorem sc_sides_of : FnScope N_sides_of ["plan"] (defScope s_sides_of) := ⟨rfl, rfl, rfl, by decide +kernel, rfl, by decide +kernel, by decide +kernel⟩
abbrev N_validate_house : List Str := ["plan", "chairs", "index", "side", "need"]
theorem sc_validate_house : FnScope N_validate_house ["plan", "chairs"] (defScope s_validate_house) := ⟨rfl, rfl, rfl, by decide +kernel, rfl, by decide +kernel, by decide +kernel⟩
abbrev N_Effect_init : List Str := ["self", "chairs", "low", "high", "extra", "goal", "turned"]
theorem sc_Effect_init : FnScope N_Effect_init ["self", "chairs", "low", "high", "extra", "goal", "turned"] (defScope s_Effect_init) := ⟨rfl, rfl, rfl, by decide +kernel, rfl, by decide +kernel, by decide +kernel⟩
abbrev N_Effect_at_least : List Str := ["self", "need"]
theorem sc_Effect_at_least : FnScope N_Effect_at_least ["self", "need"] (defScope s_Effect_at_least) := ⟨rfl, rfl, rfl, by decide +kernel, rfl, by decide +kernel, by decide +kernel⟩
abbrev N_Effect_at_most : List Str := ["self", "most"]
theorem sc_Effect_at_most : FnScope N_Effect_at_most ["self", "most"] (defScope s_Effect_at_most) := ⟨rfl, rfl, rfl, by decide +kernel, rfl, by decide +kernel, by decide +kernel⟩
abbrev N_Effect_mirrored : List Str := ["self", "goal"]
theorem sc_Effect_mirrored : FnScope N_Effect_mirrored ["self"] (defScope s_Effect_mirrored) := ⟨rfl, rfl, rfl, by decide +kernel, rfl, by decide +kernel, by decide +kernel⟩
abbrev N_Effect_carried : List Str := ["self", "start"]
theorem sc_Effect_carried : FnScope N_Effect_carried ["self", "start"] (defScope s_Effect_carried) := ⟨rfl, rfl, rfl, by decide +kernel, rfl, by decide +kernel, by decide +kernel⟩
abbrev N_Effect_place : List Str := ["self", "start"]
theorem sc_Effect_place : FnScope N_Effect_place ["self", "start"] (defScope s_Effect_place) := ⟨rfl, rfl, rfl, by decide +kernel, rfl, by decide +kernel, by decide +kernel⟩
abbrev N_Effect_end : List Str := ["self", "start", "place"]
theorem sc_Effect_end : FnScope N_Effect_end ["self", "start"] (defScope s_Effect_end) := ⟨rfl, rfl, rfl, by decide +kernel, rfl, by decide +kernel, by decide +kernel⟩
abbrev N_nothing : List Str := ["chairs"]
theorem sc_nothing : FnScope N_nothing ["chairs"] (defScope s_nothing) := ⟨rfl, rfl, rfl, by decide +kernel, rfl, by decide +kernel, by decide +kernel⟩
abbrev N_effect_of : List Str := ["plan", "chairs", "found", "side", "need"]
theorem sc_effect_of : FnScope N_effect_of ["plan", "chairs"] (defScope s_effect_of) := ⟨rfl, rfl, rfl, by decide +kernel, rfl, by decide +kernel, by decide +kernel⟩
abbrev N_first_difference : List Str := ["plan", "other", "chairs", "one", "two", "places", "bend", "start"]
theorem sc_first_difference : FnScope N_first_difference ["plan", "other", "chairs"] (defScope s_first_difference) := ⟨rfl, rfl, rfl, by decide +kernel, rfl, by decide +kernel, by decide +kernel⟩
abbrev N__law_start : List Str := ["_law_script", "_law_mixed", "_law_cell"]
theorem sc__law_start : FnScope N__law_start ["_law_script"] (defScope s__law_start) := ⟨rfl, rfl, rfl, by decide +kernel, rfl, by decide +kernel, by decide +kernel⟩
abbrev N__law_drawn : List Str := ["_law_state", "_law_count", "_law_result", "_law_cell"]
theorem sc__law_drawn : FnScope N__law_drawn ["_law_state", "_law_count"] (defScope s__law_drawn) := ⟨rfl, rfl, rfl, by decide +kernel, rfl, by decide +kernel, by decide +kernel⟩
abbrev N__law_random_steps : List Str := ["_law_state", "_law_most", "_law_high", "_law_result", "_law_turns", "_law_k", "_law_need"]
theorem sc__law_random_steps : FnScope N__law_random_steps ["_law_state", "_law_most", "_law_high"] (defScope s__law_random_steps) := ⟨rfl, rfl, rfl, by decide +kernel, rfl, by decide +kernel, by decide +kernel⟩
abbrev N__law_plan : List Str := ["_law_steps", "_law_result", "_law_step"]
theorem sc__law_plan : FnScope N__law_plan ["_law_steps"] (defScope s__law_plan) := ⟨rfl, rfl, rfl, by decide +kernel, rfl, by decide +kernel, by decide +kernel⟩
abbrev N__law_played : List Str := ["_law_steps", "_law_chairs", "_law_start_here", "_law_red", "_law_blue", "_law_carried", "_law_step", "_law_shifted"]
theorem sc__law_played : FnScope N__law_played ["_law_steps", "_law_chairs", "_law_start_here"] (defScope s__law_played) := ⟨rfl, rfl, rfl, by decide +kernel, rfl, by decide +kernel, by decide +kernel⟩
abbrev N__law_other : List Str := ["_law_state", "_law_steps", "_law_high", "_law_branch", "_law_at"]
theorem sc__law_other : FnScope N__law_other ["_law_state", "_law_steps", "_law_high"] (defScope s__law_other) := ⟨rfl, rfl, rfl, by decide +kernel, rfl, by decide +kernel, by decide +kernel⟩
abbrev N__law_differ : List Str := ["_law_one", "_law_other_here", "_law_chairs", "_law_start_here", "_law_first", "_law_second"]
theorem sc__law_differ : FnScope N__law_differ ["_law_one", "_law_other_here", "_law_chairs", "_law_start_here"] (defScope s__law_differ) := ⟨rfl, rfl, rfl, by decide +kernel, rfl, by decide +kernel, by decide +kernel⟩
abbrev N_law : List Str := ["_law_script", "_law_state", "_law_turn", "_law_high", "_law_one", "_law_other_here", "_law_found", "_law_differing", "_law_limit", "_law_starts", "_law_start_here", "_law_k"]
theorem sc_law : FnScope N_law ["_law_script"] (defScope s_law) := ⟨rfl, rfl, rfl, by decide +kernel, rfl, by decide +kernel, by decide +kernel⟩

end K05

set_option Elab.async false
set_option linter.all false
set_option autoImplicit false
set_option maxRecDepth 100000
set_option maxHeartbeats 0
namespace K05
open PySem PySem.Spec PyProof.Rows L2 He ChH
abbrev R : PySem.W.OpenRow := PySem.W.OpenLaw.row PySem.Challenge.rw_chaircarry_k05_first_difference
abbrev hk : PySem.W.Hook := hookC 5 faL xsL dfL
def ob (s : PySem.W.SharedT) : He.AlD := obsCG 5 faL xsL dfL (HandSHeadRun.getT s)
theorem ob_eq (s : PySem.W.SharedT) : ob s = hk.obs s.abs := obsCG_eq (HandSHeadRun.getT_eq s)
def loose : List Str := ["_wall", "__name__", "_wall", "ChairError", "InvalidPlan", "TooFewChairs", "InvalidNumber", "RED", "BLUE", "TURN", "is_number", "is_step", "Plan", "sides_of", "validate_house", "Effect", "nothing", "effect_of", "first_difference", "_law_start", "_law_drawn", "_law_same", "_law_random_steps", "_law_plan", "_law_played", "_law_other", "_law_differ"]
theorem run (w : World) : HandSHeadRun.RunEq R (PySem.W.view R.prog [29]) hk ob 8000 loose w := by
  intro os
  kernel_rfl
end K05

set_option Elab.async false
set_option linter.all false
set_option autoImplicit false
set_option maxRecDepth 100000
set_option maxHeartbeats 4000000


namespace K05
open PySem PySem.Spec PyProof.Rows L2 He ChH Ch ChM
local macro_rules | `(tactic| walk_at "x1") => `(tactic| first
  | ((with_reducible apply x_var); exact rfl)
  | with_reducible refine x_c ?_
  | with_reducible refine x_op ?_
  | with_reducible refine x_seq ?_
  | with_reducible refine x_asg ?_
  | with_reducible refine x_gname ?_
  | with_reducible refine x_cons ?_
  | with_reducible refine x_nil ?_
  | with_reducible refine x_fld ?_
  | with_reducible refine x_ret ?_
  | with_reducible refine x_ifS ?_
  | with_reducible refine x_test ?_
  | with_reducible refine x_ex ?_
  | with_reducible refine x_call ?_
  | with_reducible refine x_mk ?_
  | with_reducible refine x_meth ?_
  | with_reducible refine x_prop ?_
  | with_reducible refine x_cb ?_
  | with_reducible refine x_tup ?_
  | with_reducible refine x_lst ?_
  | with_reducible refine x_drop ?_
  | with_reducible refine x_for ?_
  | with_reducible refine x_iL ?_
  | with_reducible refine x_iT ?_
  | with_reducible refine x_iE ?_
  | with_reducible refine x_iU ?_
  | with_reducible refine x_iR1 ?_
  | with_reducible refine x_iR2 ?_
  | with_reducible refine x_gcons ?_
  | with_reducible refine x_gnil ?_
  | with_reducible refine x_par ?_
  | with_reducible refine x_lstRg ?_
  | with_reducible refine x_rg1 ?_
  | with_reducible refine x_rg1At ?_
  | with_reducible refine x_par3 ?_
  | with_reducible refine x_bm ?_
  | with_reducible refine x_bm0 ?_
  | with_reducible refine x_gSub ?_
  | with_reducible refine x_lc ?_
  | with_reducible refine x_yes ?_
  | with_reducible refine x_setf ?_
  | with_reducible refine x_next ?_
  | with_reducible refine x_B ?_
  | with_reducible refine x_and ?_
  | with_reducible refine x_or ?_
  | with_reducible refine x_not ?_
  | with_reducible refine x_andV ?_
  | with_reducible refine x_orV ?_
  | with_reducible refine x_notV ?_
  | with_reducible refine x_ifE ?_
  | with_reducible refine x_chain ?_
  | with_reducible refine x_chain3 ?_
  | with_reducible refine x_un ?_
  | with_reducible refine x_isNe ?_
  | with_reducible refine x_notNe ?_
  | with_reducible refine x_starA ?_
  | with_reducible refine x_plusI ?_
  | with_reducible refine x_minus ?_
  | with_reducible refine x_lt ?_
  | with_reducible refine x_le ?_
  | with_reducible refine x_gt ?_
  | with_reducible refine x_ge ?_
  | with_reducible refine x_eqI ?_
  | with_reducible refine x_neI ?_
  | with_reducible refine x_eqS ?_
  | with_reducible refine x_eqB ?_
  | with_reducible refine x_neB ?_
  | with_reducible refine x_int ?_
  | with_reducible refine x_intB ?_
  | with_reducible refine x_max2 ?_
  | with_reducible refine x_min2 ?_
  | with_reducible refine x_max3 ?_
  | with_reducible refine x_abs ?_
  | with_reducible refine x_neg ?_
  | with_reducible refine x_isi_ii ?_
  | with_reducible refine x_isi_ib ?_
  | with_reducible refine x_T ?_
  | with_reducible refine x_nT ?_
  | with_reducible refine x_nF ?_
  | with_reducible refine x_F ?_)
local macro_rules | `(tactic| walk_at "x") => `(tactic| repeat walk_at "x1")

section
variable {P : Program} {w : World} {K : PySem.W.Frag} {mg : Str → Option Value} {base : Heap}
def spNum : Sp := fun vs H Q _ => ∃ n : Int, vs = [.int n] ∧ Q (.bl (decide (0 ≤ n ∧ n ≤ 1000000000000000000))) H
theorem ok_is_number (W : Wd K mg) : FnR P w K mg base CX0 1 (ga K "is_number") spNum := by
  refine (def_ok W.F_is_number sc_is_number (fun _ _ _ _ _ _ us hl => match us, hl with | [_], _ => rfl) (fun vs H Q E ⟨n, e, _⟩ => by rw [e]; rfl) fun cdv A outer s H vs Q E hr ⟨n, e, k⟩ => ?_).2
  subst e
  refine ⟨_, PSs.nox (pss_one (ps_ret (pe_and (pe_callB (c_isiK K) (by rfl) W.f_isinstance (by decide +kernel) (pa_cons (pv 0) (pa_cons (pe_bltn (v := .ty "int") (by rfl) W.f_int (by decide +kernel) rfl) pa_nil))) (pe_and (pe_not (pe_callB (c_isiK K) (by rfl) W.f_isinstance (by decide +kernel) (pa_cons (pv 0) (pa_cons (pe_bltn (v := .ty "bool") (by rfl) W.f_bool (by decide +kernel) rfl) pa_nil)))) (pe_one (pe_chain op_leI op_leI pe_int (pv 0) (pe_cv W.g_Plan W.r_Plan W.v_Plan_MAX_CHAIRS rfl))))))), ?_⟩
  walk_at "x"
  refine x_ifd (fun h => ?_) fun h => ?_
  · walk_at "x"
    rw [show decide (n ≤ 1000000000000000000) = decide (0 ≤ n ∧ n ≤ 1000000000000000000) by simp [h]]
    exact k
  · rw [show decide (0 ≤ n ∧ n ≤ 1000000000000000000) = false by simp [h]] at k
    exact k
def spStep : Sp := fun vs H Q _ => ∃ (p : Addr) (s : Stp), vs = [.ref p] ∧ H p = some (.tup (stepV s)) ∧ goodS s ∧ ∀ H', Same H H' → Q (.bl true) H'
theorem ok_is_step (W : Wd K mg) : FnR P w K mg base CX0 2 (ga K "is_step") spStep := by
  refine (def_ok W.F_is_step sc_is_step (fun _ _ _ _ _ _ us hl => match us, hl with | [_], _ => rfl) (fun vs H Q E ⟨p, s, e, _⟩ => by rw [e]; rfl) fun cdv A outer s H vs Q E hr ⟨p, st, e, hp, hg, k⟩ => ?_).2
  subst e
  refine ⟨_, PSs.nox (pss_cons (ps_if (pt_cmpR (op_eqK K hr.units) (pv 0) (pe_tup (pa_cons (pe_gs W.t_TURN rfl) pa_nil)) (nomark _)) (pss_one (ps_ret pe_bl)) pss_nil) (pss_one (ps_ret (pe_and (pe_cmpR (op_eqK K hr.units) (pe_callB (c_lenK K) (by rfl) W.f_len (by decide +kernel) (pa_cons (pv 0) pa_nil)) pe_int (nomark _)) (pe_and (pe_cmpR (op_inK K) (pe_ix (ix_K K) (pv 0) pe_int (fun _ _ => rfl)) (pe_tup (pa_cons (pe_gs W.t_RED rfl) (pa_cons (pe_gs W.t_BLUE rfl) pa_nil))) rfl) (pe_one (pe_callR (ok_is_number W) (hr.mono (by decide)) W.g_is_number W.k_is_number pass0 rfl (pa_cons (pe_ix (ix_K K) (pv 0) pe_int (fun _ _ => rfl)) pa_nil)))))))), ?_⟩
  walk_at "x"
  refine ⟨sz rfl, fun t ht => eq_turn (up hp ht) upd_same ?_⟩
  walk_at "x"
  refine x_ifd (fun e => ?_) fun e => ?_
  · walk_at "x"
    exact k _ (Same.new ht)
  · walk_at "x"
    cases st with
    | turn => exact absurd rfl e
    | mt b n =>
      obtain ⟨n0, n1⟩ := hg b n rfl
      refine x_lenT (SqT.of (up hp ht)) ?_
      walk_at "x"
      refine x_T ?_
      walk_at "x"
      refine x_ixT (SqT.of (up hp ht)) (i := 0) rfl ?_
      walk_at "x"
      refine ⟨sz rfl, fun u hu => x_inT (SqT.of upd_same) rfl rfl ?_⟩
      rw [show inV (V.str (roomS b)) [V.str "red", V.str "blue"] = true by cases b <;> decide +kernel]
      walk_at "x"
      refine x_ixT (SqT.of (up (up hp ht) hu)) (i := 1) rfl ?_
      walk_at "x"
      refine ⟨n, rfl, ?_⟩
      rw [decide_eq_true ⟨n0, n1⟩]
      exact k _ ((Same.new ht).trans (Same.new hu))
/-! ### Plan -/
abbrev CP (K : PySem.W.Frag) : Addr := ga K "Plan"
theorem ok_Plan_steps (W : Wd K mg) : FnR P w K mg base CX0 1 (gp "Plan" "steps" K) (fun vs H Q _ => ∃ p dx fs v, vs = [.ref p] ∧ H p = some (.ins (CP K) dx fs) ∧ fs.lookup ("parts" : Str) = some v ∧ Q v H) := by
  refine (def_ok W.F_Plan_steps sc_Plan_steps (fun _ _ _ _ _ _ us hl => match us, hl with | [_], _ => rfl) (fun vs H Q E ⟨p, dx, fs, v, e, _⟩ => by rw [e]; rfl) fun cdv A outer s H vs Q E hr ⟨p, dx, fs, v, e, hp, l, k⟩ => ?_).2
  subst e
  refine ⟨_, PSs.nox (pss_one (ps_ret (pe_fldK K (pv 0)))), ?_⟩
  walk_at "x"
  exact x_fldAt hp W.c_Plan W.n_Plan_parts l k
/-- __init__ on the tuple of the steps -/
def spPI (K : PySem.W.Frag) : Sp := fun vs H Q _ => ∃ (x t dx : Addr) (ps : List V) (l : List Stp), vs = [.ref x, .ref t] ∧ H x = some (.ins (CP K) dx []) ∧ H t = some (.tup ps) ∧ StepsAt H ps l ∧ goodP l ∧
  ∀ H', (∀ b o, b ≠ x → H b = some o → H' b = some o) → H' x = some (.ins (CP K) dx [("parts", .ref t)]) → Q .non H'
theorem ok_Plan_init (W : Wd K mg) : FnR P w K mg base CX0 3 (ma K (ga K "Plan") "__init__") (fun vs H Q E => ∃ ws rest, vs = ws ++ rest ∧ ws.length = ["self"].length ∧ rest.length ≤ sizeLine ∧ ∀ p, H p = none → spPI K (ws ++ [V.ref p]) (upd H p (.tup rest)) Q E) := by
  refine star_ok (ps := ["self"]) (pv := "steps") (sp := spPI K) W.F_Plan_init sc_Plan_init StX.cxUp_none (fun _ _ _ _ _ _ us rest hl => match us, rest, hl with | [_], [], _ => rfl | [_], _ :: _, _ => rfl) fun cdv A outer s H vs Q E hr ⟨x, t, dx, ps, l, e, hx, ht, hs, hg, k⟩ => ?_
  subst e
  have hl : ps.length = l.length := pr_len hs
  have h60 := hg.2
  refine ⟨_, PSs.nox (pss_cons (ps_for PassesOwn.never rfl (pi_enumTK K W.f_enumerate (pa_cons (pv 1) pa_nil)) (pg_tupK (n := 2) K rfl (pgs_cons (pg_name (i := 2) sc_Plan_init.nd rfl (Or.inl rfl)) (pgs_cons (pg_name (i := 3) sc_Plan_init.nd rfl (Or.inl rfl)) pgs_nil))) (pss_one (ps_if (PW.pt (pw_or (pt_cmpR (op_eqK K hr.units) (pv 2) (pe_cv W.g_Plan W.r_Plan W.v_Plan_MAX_STEPS rfl) (nomark _)) (pw_or1 (pt_not (pt_val (pe_callR (ok_is_step W) (hr.mono (by decide)) W.g_is_step W.k_is_step pass0 rfl (pa_cons (pv 3) pa_nil))))))) (pss_one ps_never) pss_nil))) (pss_one (ps_fldK K (pv 0) (pv 1)))), ?_⟩
  walk_at "x"
  refine x_iUAt (SqT.of ht) (x_loop walk_enumT (fun i σ H2 => (∃ a b, σ = [some (.ref x), some (.ref t), a, b]) ∧ Same H H2) ⟨⟨_, _, rfl⟩, Same.refl H⟩ (fun i σ H2 _ ⟨_, s2⟩ => SqT.of (s2 _ _ ht)) ?_ ?_)
  · rintro i y σ H2 H3 hi ⟨⟨a, b, rfl⟩, s2⟩ ⟨T, v1, v2, rfl, hT, rfl, e1, e2⟩
    cases e1
    have hi' : i < 60 := by omega
    obtain ⟨st, hst, p, rfl, hp⟩ := pr_at hs e2
    refine x_gTup upd_same rfl ?_
    walk_at "x"
    refine x_ifd (fun e => ?_) fun e => ?_
    · omega
    walk_at "x"
    have hp2 := up (u := .tup [.int (i : Nat), .ref p]) (s2 _ _ hp) hT
    refine ⟨p, st, rfl, hp2, hg.1 st (List.mem_of_getElem? hst), fun H4 s4 => ?_⟩
    walk_at "x"
    exact ⟨⟨_, _, rfl⟩, (s2.trans (Same.new hT)).trans s4⟩
  · rintro σ H2 ⟨⟨a, b, rfl⟩, s2⟩
    walk_at "x"
    refine x_setAt (s2 _ _ hx) W.c_Plan W.n_Plan_parts (by decide) ?_
    refine k _ (fun b o hb e => by rw [upd_ne hb]; exact s2 _ _ e) ?_
    rw [upd_same]
    rfl
/-- Plan(..) made -/
theorem mk_plan {vs : List V} {l : List Stp} {H : Hp} {kk : Addr → Hp → Prop} {E : XK} (hs : StepsAt H vs l) (hg : goodP l) (k : ∀ x H', H x = none → Same H H' → PlanAt (CP K) H' x l → kk x H') :
    ∀ x dx, H x = none → H dx = none → dx ≠ x → ∃ ws rest, V.ref x :: vs = ws ++ rest ∧ ws.length = ["self"].length ∧ rest.length ≤ sizeLine ∧
      ∀ p, (upd (upd H dx (.own x)) x (.ins (CP K) dx [])) p = none → spPI K (ws ++ [V.ref p]) (upd (upd (upd H dx (.own x)) x (.ins (CP K) dx [])) p (.tup rest)) (fun v H2 => v = .non ∧ kk x H2) E := by
  intro x dx hx hdx hne
  have hl : vs.length = l.length := pr_len hs
  have h60 := hg.2
  refine ⟨[.ref x], vs, rfl, rfl, sz5 (by omega), fun p hp => ?_⟩
  have s1 : Same H (upd (upd H dx (.own x)) x (.ins (CP K) dx [])) := Same.mut (Same.new hdx) hx
  have s2 := s1.trans (Same.new (o := .tup vs) hp)
  refine ⟨x, p, dx, vs, l, rfl, up upd_same hp, upd_same, hs.mono s2, hg, fun H' kp hx' => ⟨rfl, ?_⟩⟩
  have hpx : p ≠ x := by
    intro e
    rw [e, upd_same] at hp
    cases hp
  refine k x H' hx (fun b o e => kp b o (ne_of_none e hx) (s2 b o e)) ⟨dx, p, vs, hx', kp p _ hpx upd_same, ?_⟩
  refine pr_im ?_ (hs.mono s2)
  rintro v st ⟨q, e1, e2⟩
  refine ⟨q, e1, kp q _ ?_ e2⟩
  rintro rfl
  rw [upd_ne hpx.symm, upd_same] at e2
  cases e2
theorem ok_Plan_is_turning (W : Wd K mg) : FnR P w K mg base CX0 2 (gp "Plan" "is_turning" K) (fun vs H Q _ => ∃ p l, vs = [.ref p] ∧ PlanAt (CP K) H p l ∧ l.length ≤ 60 ∧ ∀ H', Same H H' → Q (.bl (turning l)) H') := by
  refine (def_ok W.F_Plan_is_turning sc_Plan_is_turning (fun _ _ _ _ _ _ us hl => match us, hl with | [_], _ => rfl) (fun vs H Q E ⟨p, l, e, _⟩ => by rw [e]; rfl) fun cdv A outer s H vs Q E hr ⟨p, l, e, hp, h60, k⟩ => ?_).2
  subst e
  obtain ⟨dx, t, vs, h1, h2, h3⟩ := hp.ex
  have hl : vs.length = l.length := pr_len h3
  refine ⟨_, PSs.nox (pss_one (ps_ret (pe_cmpR (op_eqK K hr.units) (pe_op op_modP (pe_callTy c_int (by rfl) W.f_int (by decide +kernel) (pa_cons (pe_callB (c_lenK K) (by rfl) W.f_len (by decide +kernel) (pa_cons (pe_lc (own := [("step", 1)]) (g := gName 1) rfl sc_Plan_is_turning.nd (pi_tupK K (pe_fldK K (pv 0))) (blkOk_by (own := [("step", 1)]) (N := N_Plan_is_turning) (sc := defScope s_Plan_is_turning) (by decide +kernel)) (fun _ _ _ _ _ => (pg_name (i := 1) sc_Plan_is_turning.nd rfl (Or.inl rfl))) (fun _ _ _ _ _ => (pts_one (pt_cmpR (op_eqK K hr.units) (pv 1) (pe_tup (pa_cons (pe_gs W.t_TURN rfl) pa_nil)) (nomark _)))) (fun _ _ _ _ _ => (pv 1))) pa_nil)) pa_nil)) pe_int) pe_int (nomark _)))), ?_⟩
  walk_at "x"
  refine x_fldAt h1 W.c_Plan W.n_Plan_parts rfl (x_iTAt (SqT.of h2) ?_)
  refine x_lcA walk_tup (fun i acc _ => acc.length = turns (l.take i)) (fun _ _ _ _ _ _ _ h => h) (fun _ _ => rfl) (by omega) (fun H' s1 => SqT.of (s1 _ _ h2)) ?_ ?_
  · rintro i x acc H1 H' NT NF hT hF hi s1 a1 ⟨rfl, e⟩
    obtain ⟨st, hst, q, rfl, hq⟩ := pr_at h3 e
    walk_at "x"
    refine ⟨rfl, ?_⟩
    walk_at "x"
    refine ⟨sz rfl, fun u hu => eq_turn (up (s1 _ _ hq) hu) upd_same ?_⟩
    walk_at "x"
    refine x_ifd (fun e => ?_) fun e => ?_
    · walk_at "x"
      refine hT _ _ (Same.new hu) ?_
      rw [turns_step hst, if_pos e, List.length_append, a1]
      rfl
    · refine hF _ (Same.new hu) ?_
      rw [turns_step hst, if_neg e, a1]
      rfl
  · rintro D acc H' hD s1 hD' a1 _
    walk_at "x"
    refine x_lenL (SqL.of hD') ?_
    walk_at "x"
    refine x_mod (by decide) ?_
    walk_at "x"
    rw [hl, List.take_length] at a1
    have e : decide ((acc.length : Int) % 2 = 1) = turning l := by
      rw [a1]
      unfold turning
      by_cases z : turns l % 2 = 1
      · rw [z, decide_eq_true (by omega)]
        rfl
      · rw [decide_eq_false (by omega)]
        symm
        exact beq_false_of_ne z
    rw [e]
    exact k _ s1
def spSides (K : PySem.W.Frag) : Sp := fun vs H Q _ => ∃ p l, vs = [.ref p] ∧ PlanAt (CP K) H p l ∧ l.length ≤ 60 ∧ ∀ r ps H', H r = none → Same H H' → H' r = some (.lst ps) → PairsAt H' ps (sides 1 l) → Q (.ref r) H'
theorem ok_sides_of (W : Wd K mg) : FnR P w K mg base CX0 3 (ga K "sides_of") (spSides K) := by
  refine (def_ok W.F_sides_of sc_sides_of (fun _ _ _ _ _ _ us hl => match us, hl with | [_], _ => rfl) (fun vs H Q E ⟨p, l, e, _⟩ => by rw [e]; rfl) fun cdv A outer s H vs Q E hr ⟨p, l, e, hp, h60, k⟩ => ?_).2
  subst e
  obtain ⟨dx, t, vs, h1, h2, h3⟩ := hp.ex
  have hl : vs.length = l.length := pr_len h3
  refine ⟨_, PSs.nox (pss_cons (ps_par (i := 1) (j := 2) (by rfl) sc_sides_of.nd rfl rfl (by decide) rfl rfl (pa_cons (pe_lst pa_nil) (pa_cons pe_int pa_nil)) (by rfl)) (pss_cons (ps_for PassesOwn.never rfl (pi_tupK K (pe_propR W.c_Plan W.p_Plan_steps (ok_Plan_steps W) (hr.mono (by decide)) (pv 0))) (pg_starK (n := 2) (i := 1) K rfl (pgs_cons (pg_name (i := 3) sc_sides_of.nd rfl (Or.inl rfl)) (pgs_star (pg_name (i := 4) sc_sides_of.nd rfl (Or.inl rfl)) pgs_nil))) (pss_one (ps_if (pt_cmpR (op_eqK K hr.units) (pv 3) (pe_gs W.t_TURN rfl) (nomark _)) (pss_cons (ps_set (i := 2) sc_sides_of.nd rfl (Or.inl rfl) (pe_op op_minus pe_int (pv 2))) (pss_one (ps_expr (pe_bmK K PySem.F.plainAttrs_list PySem.F.slot_list_append PySem.F.type_list_append mt_append (pv 1) (pa_cons (pe_tup (pa_cons pe_int (pa_cons pe_int pa_nil))) pa_nil))))) (pss_one (ps_expr (pe_bmK K PySem.F.plainAttrs_list PySem.F.slot_list_append PySem.F.type_list_append mt_append (pv 1) (pa_cons (pe_tup (pa_cons (pe_ifExp (pt_cmpR (op_eqK K hr.units) (pv 3) (pe_gs W.t_RED rfl) (nomark _)) (pv 2) (pe_op op_minus pe_int (pv 2))) (pa_cons (pe_ix (ix_K K) (pv 4) pe_int (fun _ _ => rfl)) pa_nil))) pa_nil))))))) (pss_one (ps_ret (pv 1))))), ?_⟩
  walk_at "x"
  refine ⟨sz rfl, fun r hr0 => ?_⟩
  walk_at "x"
  refine ⟨_, _, rfl, ?_⟩
  walk_at "x"
  refine x_propAt (up h1 hr0) ⟨p, dx, _, _, rfl, up h1 hr0, rfl, ?_⟩
  refine x_iTAt (SqT.of (up h2 hr0)) (x_loop walk_tup (fun i σ H2 => (∃ a b, σ = [some (.ref p), some (.ref r), some (.int (sideAt 1 (l.take i))), a, b]) ∧ Same H H2 ∧ ∃ ps, H2 r = some (.lst ps) ∧ PairsAt H2 ps (sides 1 (l.take i))) ⟨⟨_, _, rfl⟩, Same.new hr0, [], upd_same, .nil⟩ (fun i σ H2 _ ⟨_, s2, _⟩ => SqT.of (s2 _ _ h2)) ?_ ?_)
  · rintro i y σ H2 H3 hi ⟨⟨a, b, rfl⟩, s2, ps, hps, hpp⟩ ⟨rfl, ey⟩
    obtain ⟨st, hst, q, rfl, hq⟩ := pr_at h3 ey
    have hq2 := s2 _ _ hq
    have tk : l.take (i + 1) = l.take i ++ [st] := by rw [List.take_add_one, hst]; rfl
    have lps : ps.length = (sides 1 (l.take i)).length := pr_len hpp
    rw [sides_len, List.length_take] at lps
    cases st with
    | turn =>
      refine x_star1 hq2 fun d hd => ?_
      walk_at "x"
      refine x_T ?_
      walk_at "x"
      refine ⟨ty_lst (up hps hd), ?_⟩
      walk_at "x"
      refine ⟨sz rfl, fun u hu => ?_⟩
      walk_at "x"
      refine x_app (up (up hps hd) hu) (sz5' (by omega)) ?_
      have s3 : Same H3 (upd (upd H3 d (.lst [])) u (.tup (pairV (0, 0)))) := (Same.new hd).trans (Same.new hu)
      walk_at "x"
      refine ⟨?_, ?_, _, upd_same, ?_⟩
      · rw [tk, sideAt_snoc]
        exact ⟨_, _, rfl⟩
      · exact Same.mut (s2.trans s3) hr0
      · rw [tk, sides_snoc]
        refine pr_snoc ?_ ⟨u, rfl, ?_⟩
        · exact hpp.mono2 s3 (s3 _ _ hps)
        · rw [upd_ne (ne_of upd_same (s3 _ _ hps) (by intro z; cases z))]
          exact upd_same
    | mt c n =>
      refine x_star2 hq2 fun d hd => ?_
      walk_at "x"
      rw [show decide (roomS c = ("turn" : Str)) = false by cases c <;> decide +kernel]
      walk_at "x"
      refine ⟨ty_lst (up hps hd), ?_⟩
      walk_at "x"
      rw [show decide (roomS c = ("red" : Str)) = c by cases c <;> decide +kernel]
      have fin : ∀ (z : Int), z = (if c then sideAt 1 (l.take i) else 0 - sideAt 1 (l.take i)) → ∀ u, (upd H3 d (.lst [.int n])) u = none →
          (∃ a b, [some (V.ref p), some (.ref r), some (.int (sideAt 1 (l.take i))), some (.str (roomS c)), some (.ref d)] = [some (.ref p), some (.ref r), some (.int (sideAt 1 (l.take (i + 1)))), a, b]) ∧
          Same H (upd (upd (upd H3 d (.lst [.int n])) u (.tup [.int z, .int n])) r (.lst (ps ++ [.ref u]))) ∧
          ∃ qs, upd (upd (upd H3 d (.lst [.int n])) u (.tup [.int z, .int n])) r (.lst (ps ++ [.ref u])) r = some (.lst qs) ∧
            PairsAt (upd (upd (upd H3 d (.lst [.int n])) u (.tup [.int z, .int n])) r (.lst (ps ++ [.ref u]))) qs (sides 1 (l.take (i + 1))) := by
        intro z ez u hu
        have s3 : Same H3 (upd (upd H3 d (.lst [.int n])) u (.tup [.int z, .int n])) := (Same.new hd).trans (Same.new hu)
        refine ⟨?_, Same.mut (s2.trans s3) hr0, _, upd_same, ?_⟩
        · rw [tk, sideAt_snoc]
          exact ⟨_, _, rfl⟩
        · rw [tk, sides_snoc]
          refine pr_snoc (hpp.mono2 s3 (s3 _ _ hps)) ⟨u, rfl, ?_⟩
          rw [upd_ne (ne_of upd_same (s3 _ _ hps) (by intro z; cases z)), ez]
          exact upd_same
      have ix : ∀ (H4 : Hp), Same (upd H3 d (.lst [.int n])) H4 → SqL K H4 d [.int n] := fun H4 e => SqL.of (e _ _ upd_same)
      cases c with
      | true =>
        walk_at "x"
        refine x_ixL (ix _ (Same.refl _)) (i := 0) rfl ?_
        walk_at "x"
        refine ⟨sz rfl, fun u hu => ?_⟩
        walk_at "x"
        refine x_app (up (up hps hd) hu) (sz5' (by omega)) ?_
        walk_at "x"
        exact fin _ rfl u hu
      | false =>
        walk_at "x"
        refine x_ixL (ix _ (Same.refl _)) (i := 0) rfl ?_
        walk_at "x"
        refine ⟨sz rfl, fun u hu => ?_⟩
        walk_at "x"
        refine x_app (up (up hps hd) hu) (sz5' (by omega)) ?_
        walk_at "x"
        exact fin _ rfl u hu
  · rintro σ H2 ⟨⟨a, b, rfl⟩, s2, ps, hps, hpp⟩
    walk_at "x"
    rw [hl, List.take_length] at hpp
    exact k r ps _ hr0 s2 hps hpp
def spVH (K : PySem.W.Frag) : Sp := fun vs H Q _ => ∃ (p : Addr) (c : Int) (l : List Stp), vs = [.ref p, .int c] ∧ PlanAt (CP K) H p l ∧ l.length ≤ 60 ∧ 0 ≤ c ∧ c ≤ 1000000000000000000 ∧ fitsS c l ∧ ∀ H', Same H H' → Q .non H'
theorem ok_validate_house (W : Wd K mg) : FnR P w K mg base CX0 4 (ga K "validate_house") (spVH K) := by
  refine (def_ok W.F_validate_house sc_validate_house (fun _ _ _ _ _ _ us hl => match us, hl with | [_, _], _ => rfl) (fun vs H Q E ⟨p, c, l, e, _⟩ => by rw [e]; rfl) fun cdv A outer s H vs Q E hr ⟨p, c, l, e, hp, h60, c0, c1, hf, k⟩ => ?_).2
  subst e
  refine ⟨_, PSs.nox (pss_cons (ps_if (pt_not (pt_chain op_leI op_leI pe_int (pv 1) (pe_cv W.g_Plan W.r_Plan W.v_Plan_MAX_CHAIRS rfl))) (pss_one ps_never) pss_nil) (pss_one (ps_for PassesOwn.never rfl (pi_enumK K W.f_enumerate (pa_cons (pe_callR (ok_sides_of W) (hr.mono (by decide)) W.g_sides_of W.k_sides_of pass0 rfl (pa_cons (pv 0) pa_nil)) pa_nil)) (pg_tupK (n := 2) K rfl (pgs_cons (pg_name (i := 2) sc_validate_house.nd rfl (Or.inl rfl)) (pgs_cons (pg_tupK (n := 2) K rfl (pgs_cons (pg_name (i := 3) sc_validate_house.nd rfl (Or.inl rfl)) (pgs_cons (pg_name (i := 4) sc_validate_house.nd rfl (Or.inl rfl)) pgs_nil))) pgs_nil))) (pss_one (ps_if (pt_cmpR op_gtI (pv 4) (pv 1) (nomark _)) (pss_one ps_never) pss_nil))))), ?_⟩
  walk_at "x"
  rw [decide_eq_true c0]
  walk_at "x"
  rw [decide_eq_true c1]
  walk_at "x"
  refine ⟨p, l, rfl, hp, h60, fun r ps H1 hr0 s1 hps hpp => ?_⟩
  walk_at "x"
  have fp : fits c (sides 1 l) := sides_fits l 1 (.inl rfl) c0 hf
  refine x_iEAt (SqL.of hps) (x_loop walk_enum (fun i σ H2 => (∃ a b d, σ = [some (.ref p), some (.int c), a, b, d]) ∧ Same H1 H2) ⟨⟨_, _, _, rfl⟩, Same.refl _⟩ (fun i σ H2 _ ⟨_, s2⟩ => SqL.of (s2 _ _ hps)) ?_ ?_)
  · rintro i y σ H2 H3 hi ⟨⟨a, b, d, rfl⟩, s2⟩ ⟨T, v1, v2, rfl, hT, rfl, e1, e2⟩
    cases e1
    obtain ⟨⟨sd, n⟩, hst, q, rfl, hq⟩ := pr_at hpp e2
    have hf2 := (fp _ (List.mem_of_getElem? hst)).2.2
    refine x_gTup upd_same rfl ?_
    walk_at "x"
    refine x_gTup (up (s2 _ _ hq) hT) rfl ?_
    unfold pairV
    walk_at "x"
    refine x_ifd (fun e => ?_) fun e => ?_
    · exact absurd hf2 (by show ¬ n ≤ c; omega)
    walk_at "x"
    exact ⟨⟨_, _, _, rfl⟩, s2.trans (Same.new hT)⟩
  · rintro σ H2 ⟨⟨a, b, d, rfl⟩, s2⟩
    exact k _ (s1.trans s2)
/-- joined with one other plan -/
def spJ (K : PySem.W.Frag) : Sp := fun vs H Q _ => ∃ (p q t : Addr) (l m : List Stp), vs = [.ref p, .ref t] ∧ PlanAt (CP K) H p l ∧ PlanAt (CP K) H q m ∧ H t = some (.tup [.ref q]) ∧ goodP (l ++ m) ∧ ∀ x H', H x = none → Same H H' → PlanAt (CP K) H' x (l ++ m) → Q (.ref x) H'
theorem ok_Plan_joined (W : Wd K mg) : FnR P w K mg base CX0 5 (ma K (ga K "Plan") "joined") (fun vs H Q E => ∃ ws rest, vs = ws ++ rest ∧ ws.length = ["self"].length ∧ rest.length ≤ sizeLine ∧ ∀ p, H p = none → spJ K (ws ++ [V.ref p]) (upd H p (.tup rest)) Q E) := by
  refine star_ok (ps := ["self"]) (pv := "others") (sp := spJ K) W.F_Plan_joined sc_Plan_joined StX.cxUp_none (fun _ _ _ _ _ _ us rest hl => match us, rest, hl with | [_], [], _ => rfl | [_], _ :: _, _ => rfl) fun cdv A outer s H vs Q E hr ⟨p, q, t, l, m, e, hp, hq, ht, hg, k⟩ => ?_
  subst e
  obtain ⟨dx, tp, ps, h1, h2, h3⟩ := hp.ex
  obtain ⟨dy, tq, qs, g1, g2, g3⟩ := hq.ex
  have l1 : ps.length = l.length := pr_len h3
  have l2 : qs.length = m.length := pr_len g3
  have h60 := hg.2
  rw [List.length_append] at h60
  refine ⟨_, PSs.nox (pss_cons (ps_set (i := 2) sc_Plan_joined.nd rfl (Or.inl rfl) (pe_callTy (c_listK K) (by rfl) W.f_list (by decide +kernel) (pa_cons (pe_fldK K (pv 0)) pa_nil))) (pss_cons (ps_for PassesOwn.never rfl (pi_tupK K (pv 1)) (pg_name (i := 3) sc_Plan_joined.nd rfl (Or.inl rfl)) (pss_one (ps_expr (pe_bmK K PySem.F.plainAttrs_list PySem.F.slot_list_extend PySem.F.type_list_extend mt_extend (pv 2) (pa_cons (pe_callTy (c_listK K) (by rfl) W.f_list (by decide +kernel) (pa_cons (pe_propR W.c_Plan W.p_Plan_steps (ok_Plan_steps W) (hr.mono (by decide)) (pv 3)) pa_nil)) pa_nil))))) (pss_one (ps_ret (pe_mkS W.mk_Plan (ok_Plan_init W) (hr.mono (by decide)) W.g_Plan pass0 rfl (pv 2)))))), ?_⟩
  walk_at "x"
  refine x_fldAt h1 W.c_Plan W.n_Plan_parts rfl ?_
  walk_at "x"
  refine x_listT (SqT.of h2) fun r hr0 => ?_
  walk_at "x"
  refine x_iTAt (SqT.of (up ht hr0)) (x_loop walk_tup (fun i σ H2 => (∃ a, σ = [some (.ref p), some (.ref t), some (.ref r), a]) ∧ Same H H2 ∧ H2 r = some (.lst (if i = 0 then ps else ps ++ qs))) ⟨⟨_, rfl⟩, Same.new hr0, upd_same⟩ (fun i σ H2 _ ⟨_, s2, _⟩ => SqT.of (s2 _ _ ht)) ?_ ?_)
  · rintro i y σ H2 H3 hi ⟨⟨a, rfl⟩, s2, hrr⟩ ⟨rfl, ey⟩
    have i0 : i = 0 := by
      have : i < 1 := hi
      omega
    subst i0
    cases ey
    rw [if_pos rfl] at hrr
    walk_at "x"
    refine ⟨ty_lst hrr, ?_⟩
    walk_at "x"
    refine x_propAt (s2 _ _ g1) ⟨q, dy, _, _, rfl, s2 _ _ g1, rfl, ?_⟩
    walk_at "x"
    refine x_listT (SqT.of (s2 _ _ g2)) fun u hu => ?_
    walk_at "x"
    refine ⟨r, u, ps, qs, rfl, rfl, up hrr hu, upd_same, sz5 (by omega), ?_⟩
    walk_at "x"
    exact ⟨⟨_, rfl⟩, Same.mut (s2.trans (Same.new hu)) hr0, upd_same⟩
  · rintro σ H2 ⟨⟨a, rfl⟩, s2, hrr⟩
    walk_at "x"
    refine ⟨r, _, rfl, .inr (SqL.of hrr), ?_⟩
    refine mk_plan (l := l ++ m) (pr_app (h3.mono s2) (g3.mono s2)) hg fun x H' hx s3 hP => ?_
    exact k x H' (s2.free hx) (s2.trans s3) hP
end
end K05

set_option Elab.async false
set_option linter.all false
set_option autoImplicit false
set_option maxRecDepth 100000
set_option maxHeartbeats 4000000
namespace K05
open PySem PySem.Spec PyProof.Rows L2 He ChH Ch ChM
local macro_rules | `(tactic| walk_at "x1") => `(tactic| first
  | ((with_reducible apply x_var); exact rfl)
  | with_reducible refine x_c ?_
  | with_reducible refine x_op ?_
  | with_reducible refine x_seq ?_
  | with_reducible refine x_asg ?_
  | with_reducible refine x_gname ?_
  | with_reducible refine x_cons ?_
  | with_reducible refine x_nil ?_
  | with_reducible refine x_fld ?_
  | with_reducible refine x_ret ?_
  | with_reducible refine x_ifS ?_
  | with_reducible refine x_test ?_
  | with_reducible refine x_ex ?_
  | with_reducible refine x_call ?_
  | with_reducible refine x_mk ?_
  | with_reducible refine x_meth ?_
  | with_reducible refine x_prop ?_
  | with_reducible refine x_cb ?_
  | with_reducible refine x_tup ?_
  | with_reducible refine x_lst ?_
  | with_reducible refine x_drop ?_
  | with_reducible refine x_for ?_
  | with_reducible refine x_iL ?_
  | with_reducible refine x_iT ?_
  | with_reducible refine x_iE ?_
  | with_reducible refine x_iU ?_
  | with_reducible refine x_iR1 ?_
  | with_reducible refine x_iR2 ?_
  | with_reducible refine x_gcons ?_
  | with_reducible refine x_gnil ?_
  | with_reducible refine x_par ?_
  | with_reducible refine x_lstRg ?_
  | with_reducible refine x_rg1 ?_
  | with_reducible refine x_rg1At ?_
  | with_reducible refine x_par3 ?_
  | with_reducible refine x_bm ?_
  | with_reducible refine x_bm0 ?_
  | with_reducible refine x_gSub ?_
  | with_reducible refine x_lc ?_
  | with_reducible refine x_yes ?_
  | with_reducible refine x_setf ?_
  | with_reducible refine x_next ?_
  | with_reducible refine x_B ?_
  | with_reducible refine x_and ?_
  | with_reducible refine x_or ?_
  | with_reducible refine x_not ?_
  | with_reducible refine x_andV ?_
  | with_reducible refine x_orV ?_
  | with_reducible refine x_notV ?_
  | with_reducible refine x_ifE ?_
  | with_reducible refine x_chain ?_
  | with_reducible refine x_chain3 ?_
  | with_reducible refine x_un ?_
  | with_reducible refine x_isNe ?_
  | with_reducible refine x_notNe ?_
  | with_reducible refine x_starA ?_
  | with_reducible refine x_plusI ?_
  | with_reducible refine x_minus ?_
  | with_reducible refine x_lt ?_
  | with_reducible refine x_le ?_
  | with_reducible refine x_gt ?_
  | with_reducible refine x_ge ?_
  | with_reducible refine x_eqI ?_
  | with_reducible refine x_neI ?_
  | with_reducible refine x_eqS ?_
  | with_reducible refine x_eqB ?_
  | with_reducible refine x_neB ?_
  | with_reducible refine x_int ?_
  | with_reducible refine x_intB ?_
  | with_reducible refine x_max2 ?_
  | with_reducible refine x_min2 ?_
  | with_reducible refine x_max3 ?_
  | with_reducible refine x_abs ?_
  | with_reducible refine x_neg ?_
  | with_reducible refine x_isi_ii ?_
  | with_reducible refine x_isi_ib ?_
  | with_reducible refine x_T ?_
  | with_reducible refine x_nT ?_
  | with_reducible refine x_nF ?_
  | with_reducible refine x_F ?_)
local macro_rules | `(tactic| walk_at "x") => `(tactic| repeat walk_at "x1")

local macro_rules | `(tactic| walk_at "eff") => `(tactic| first
  | refine x_eff (by assumption) (Wd.c_Effect (by assumption)) (Wd.n_Effect_chairs (by assumption)) eff_chairs ?_
  | refine x_eff (by assumption) (Wd.c_Effect (by assumption)) (Wd.n_Effect_low (by assumption)) eff_low ?_
  | refine x_eff (by assumption) (Wd.c_Effect (by assumption)) (Wd.n_Effect_high (by assumption)) eff_high ?_
  | refine x_eff (by assumption) (Wd.c_Effect (by assumption)) (Wd.n_Effect_extra (by assumption)) eff_extra ?_
  | refine x_eff (by assumption) (Wd.c_Effect (by assumption)) (Wd.n_Effect_goal (by assumption)) eff_goal ?_
  | refine x_eff (by assumption) (Wd.c_Effect (by assumption)) (Wd.n_Effect_turned (by assumption)) eff_turned ?_)
local macro_rules | `(tactic| walk_at "y") => `(tactic| repeat (first | walk_at "x1" | walk_at "eff"))

section
variable {P : Program} {w : World} {K : PySem.W.Frag} {mg : Str → Option Value} {base : Heap}
abbrev CE (K : PySem.W.Frag) : Addr := ga K "Effect"
theorem x_effM {C : Addr} {H : Hp} {p : Addr} {e : Eff} {m : Str} {kk : Addr → Hp → Prop} (h : EffAt C H p e) (l : (effF e).lookup m = none) (k : kk p H) : rMeth C m kk (.ref p) H := let ⟨_, q⟩ := h; x_methAt q l k
def spEI (K : PySem.W.Frag) : Sp := fun vs H Q _ => ∃ (x dx : Addr) (c lo hi ex : Int) (g : Option Int) (t : Bool), vs = [.ref x, .int c, .int lo, .int hi, .int ex, goalV g, .bl t] ∧ H x = some (.ins (CE K) dx []) ∧
  Q .non (upd H x (.ins (CE K) dx (effF (mkE c lo hi ex g t))))
theorem goal_non {g : Option Int} : decide (goalV g = V.non) = decide (g = none) := by
  cases g <;> rfl
theorem ok_Effect_init (W : Wd K mg) : FnR P w K mg base CX0 1 (ma K (ga K "Effect") "__init__") (spEI K) := by
  refine (def_ok W.F_Effect_init sc_Effect_init (fun _ _ _ _ _ _ us hl => match us, hl with | [_, _, _, _, _, _, _], _ => rfl) (fun vs H Q E ⟨x, dx, c, lo, hi, ex, g, t, e, _⟩ => by rw [e]; rfl) fun cdv A outer s H vs Q E hr ⟨x, dx, c, lo, hi, ex, g, t, e, hx, k⟩ => ?_).2
  subst e
  refine ⟨_, PSs.nox (pss_cons (ps_fldK K (pv 0) (pv 1)) (pss_cons (ps_fldK K (pv 0) (pv 2)) (pss_cons (ps_fldK K (pv 0) (pv 3)) (pss_cons (ps_fldK K (pv 0) (pv 4)) (pss_cons (ps_fldK K (pv 0) (pe_ifExp (PW.pt (pw_and (pt_cmp (pc_isN (pv 5))) (pw_and1 (pt_cmpR (op_eqK K hr.units) (pv 2) (pv 3) (nomark _))))) (pv 2) (pv 5))) (pss_one (ps_fldK K (pv 0) (pv 6)))))))), ?_⟩
  walk_at "x"
  refine x_setAt hx W.c_Effect W.n_Effect_chairs (by decide) ?_
  walk_at "x"
  refine x_setAt upd_same W.c_Effect W.n_Effect_low (of_decide_eq_true (by kernel_rfl)) ?_
  rw [upd_upd]
  walk_at "x"
  refine x_setAt upd_same W.c_Effect W.n_Effect_high (of_decide_eq_true (by kernel_rfl)) ?_
  rw [upd_upd]
  walk_at "x"
  refine x_setAt upd_same W.c_Effect W.n_Effect_extra (of_decide_eq_true (by kernel_rfl)) ?_
  rw [upd_upd]
  walk_at "x"
  rw [goal_non]
  have fin : ∀ g2 : Option Int, g2 = (if g = none ∧ lo = hi then some lo else g) → sFld K (tVar 0) (tVar 6) "turned" { nx := fun _ H' => Q .non H', rt := Q } [some (.ref x), some (.int c), some (.int lo), some (.int hi), some (.int ex), some (goalV g), some (.bl t)]
      (upd H x (.ins (CE K) dx (putF "goal" (goalV g2) (putF "extra" (.int ex) (putF "high" (.int hi) (putF "low" (.int lo) (putF "chairs" (.int c) []))))))) := by
    intro g2 e
    walk_at "x"
    refine x_setAt upd_same W.c_Effect W.n_Effect_turned (of_decide_eq_true (by kernel_rfl)) ?_
    rw [upd_upd]
    have ee : putF "turned" (.bl t) (putF "goal" (goalV g2) (putF "extra" (.int ex) (putF "high" (.int hi) (putF "low" (.int lo) (putF "chairs" (.int c) []))))) = effF (mkE c lo hi ex g t) := by
      unfold mkE
      rw [← e]
      kernel_rfl
    rw [ee]
    exact k
  refine x_ifd (fun e1 => ?_) fun e1 => ?_
  · walk_at "x"
    refine x_ifd (fun e2 => ?_) fun e2 => ?_
    · walk_at "x"
      refine x_setAt upd_same W.c_Effect W.n_Effect_goal (of_decide_eq_true (by kernel_rfl)) ?_
      rw [upd_upd]
      exact fin (some lo) (by rw [if_pos ⟨e1, e2⟩])
    · walk_at "x"
      refine x_setAt upd_same W.c_Effect W.n_Effect_goal (of_decide_eq_true (by kernel_rfl)) ?_
      rw [upd_upd]
      exact fin g (by rw [if_neg (fun z => e2 z.2)])
  · walk_at "x"
    refine x_setAt upd_same W.c_Effect W.n_Effect_goal (of_decide_eq_true (by kernel_rfl)) ?_
    rw [upd_upd]
    exact fin g (by rw [if_neg (fun z => e1 z.1)])
theorem mk_eff {c lo hi ex : Int} {g : Option Int} {gv : V} {t : Bool} {H : Hp} {kk : Addr → Hp → Prop} {E : XK} (eg : gv = goalV g) (k : ∀ x H', H x = none → Same H H' → EffAt (CE K) H' x (mkE c lo hi ex g t) → kk x H') :
    ∀ x dx, H x = none → H dx = none → dx ≠ x → spEI K [.ref x, .int c, .int lo, .int hi, .int ex, gv, .bl t] (upd (upd H dx (.own x)) x (.ins (CE K) dx [])) (fun v H2 => v = .non ∧ kk x H2) E := by
  intro x dx hx hdx hne
  refine ⟨x, dx, c, lo, hi, ex, g, t, by rw [eg], upd_same, rfl, ?_⟩
  rw [upd_upd]
  exact k x _ hx (Same.mut (Same.new hdx) hx) ⟨dx, upd_same⟩
def spE1 (K : PySem.W.Frag) (f : Eff → Int → Eff) : Sp := fun vs H Q _ => ∃ (p : Addr) (e : Eff) (n : Int), vs = [.ref p, .int n] ∧ EffAt (CE K) H p e ∧ ∀ x H', Same H H' → EffAt (CE K) H' x (f e n) → Q (.ref x) H'
theorem ok_Effect_at_least (W : Wd K mg) : FnR P w K mg base CX0 3 (ma K (ga K "Effect") "at_least") (spE1 K Eff.atLeast) := by
  refine (def_ok W.F_Effect_at_least sc_Effect_at_least (fun _ _ _ _ _ _ us hl => match us, hl with | [_, _], _ => rfl) (fun vs H Q E ⟨p, e, n, ev, _⟩ => by rw [ev]; rfl) fun cdv A outer s H vs Q E hr ⟨p, e, n, ev, hp, k⟩ => ?_).2
  subst ev
  refine ⟨_, PSs.nox (pss_cons (ps_if (pt_cmp (pc_isN (pe_fldK K (pv 0)))) (pss_cons (ps_if (pt_cmpR op_leI (pv 1) (pe_fldK K (pv 0)) (nomark _)) (pss_one (ps_ret (pe_mk W.mk_Effect (ok_Effect_init W) (hr.mono (by decide)) W.g_Effect pass0 rfl (pa_cons (pe_fldK K (pv 0)) (pa_cons (pe_callB (c_max2 rfl) (by rfl) W.f_max (by decide +kernel) (pa_cons (pe_fldK K (pv 0)) (pa_cons (pv 1) pa_nil))) (pa_cons (pe_fldK K (pv 0)) (pa_cons pe_int (pa_cons pe_non (pa_cons (pe_fldK K (pv 0)) pa_nil))))))))) pss_nil) (pss_one (ps_ret (pe_mk W.mk_Effect (ok_Effect_init W) (hr.mono (by decide)) W.g_Effect pass0 rfl (pa_cons (pe_fldK K (pv 0)) (pa_cons (pe_fldK K (pv 0)) (pa_cons (pe_fldK K (pv 0)) (pa_cons (pe_op op_minus (pv 1) (pe_fldK K (pv 0))) (pa_cons (pv 1) (pa_cons (pe_fldK K (pv 0)) pa_nil)))))))))) pss_nil) (pss_cons (ps_if (pt_cmpR op_leI (pv 1) (pe_fldK K (pv 0)) (nomark _)) (pss_one (ps_ret (pv 0))) pss_nil) (pss_one (ps_ret (pe_mk W.mk_Effect (ok_Effect_init W) (hr.mono (by decide)) W.g_Effect pass0 rfl (pa_cons (pe_fldK K (pv 0)) (pa_cons (pe_fldK K (pv 0)) (pa_cons (pe_fldK K (pv 0)) (pa_cons (pe_op op_minus (pe_op op_plus (pe_fldK K (pv 0)) (pv 1)) (pe_fldK K (pv 0))) (pa_cons (pv 1) (pa_cons (pe_fldK K (pv 0)) pa_nil))))))))))), ?_⟩
  unfold Eff.atLeast at k
  walk_at "y"
  rw [goal_non]
  cases g : e.goal with
  | none =>
    rw [g] at k
    dsimp only at k
    refine x_T ?_
    walk_at "y"
    refine x_ifd (fun h => ?_) fun h => ?_
    · rw [if_pos h] at k
      walk_at "y"
      exact mk_eff (g := none) rfl fun x H' _ s1 he => k x H' s1 he
    · rw [if_neg h] at k
      walk_at "y"
      exact mk_eff (g := some n) rfl fun x H' _ s1 he => k x H' s1 he
  | some y =>
    rw [g] at k
    dsimp only at k
    refine x_F ?_
    walk_at "y"
    rw [g]
    refine x_le ?_
    walk_at "y"
    refine x_ifd (fun h => ?_) fun h => ?_
    · rw [if_pos h] at k
      walk_at "y"
      exact k p H (Same.refl H) hp
    · rw [if_neg h] at k
      walk_at "y"
      rw [g]
      refine x_minus ?_
      walk_at "y"
      exact mk_eff (g := some n) rfl fun x H' _ s1 he => k x H' s1 he
theorem ok_Effect_mirrored (W : Wd K mg) : FnR P w K mg base CX0 3 (ma K (ga K "Effect") "mirrored") (fun vs H Q _ => ∃ (p : Addr) (e : Eff), vs = [.ref p] ∧ EffAt (CE K) H p e ∧ ∀ x H', Same H H' → EffAt (CE K) H' x e.mir → Q (.ref x) H') := by
  refine (def_ok W.F_Effect_mirrored sc_Effect_mirrored (fun _ _ _ _ _ _ us hl => match us, hl with | [_], _ => rfl) (fun vs H Q E ⟨p, e, ev, _⟩ => by rw [ev]; rfl) fun cdv A outer s H vs Q E hr ⟨p, e, ev, hp, k⟩ => ?_).2
  subst ev
  refine ⟨_, PSs.nox (pss_cons (ps_set (i := 1) sc_Effect_mirrored.nd rfl (Or.inl rfl) (pe_ifExp (pt_cmp (pc_isN (pe_fldK K (pv 0)))) pe_non (pe_op op_minus (pe_fldK K (pv 0)) (pe_fldK K (pv 0))))) (pss_one (ps_ret (pe_mk W.mk_Effect (ok_Effect_init W) (hr.mono (by decide)) W.g_Effect pass0 rfl (pa_cons (pe_fldK K (pv 0)) (pa_cons (pe_op op_minus (pe_fldK K (pv 0)) (pe_fldK K (pv 0))) (pa_cons (pe_op op_minus (pe_fldK K (pv 0)) (pe_fldK K (pv 0))) (pa_cons (pe_fldK K (pv 0)) (pa_cons (pv 1) (pa_cons (pe_fldK K (pv 0)) pa_nil)))))))))), ?_⟩
  unfold Eff.mir at k
  walk_at "y"
  rw [goal_non]
  cases g : e.goal with
  | none =>
    rw [g] at k
    refine x_T ?_
    walk_at "y"
    exact mk_eff (g := none) rfl fun x H' _ s1 he => k x H' s1 he
  | some y =>
    rw [g] at k
    refine x_F ?_
    walk_at "y"
    rw [g]
    refine x_minus ?_
    walk_at "y"
    exact mk_eff (g := some (e.c - y)) rfl fun x H' _ s1 he => k x H' s1 he
theorem ok_Effect_at_most (W : Wd K mg) : FnR P w K mg base CX0 4 (ma K (ga K "Effect") "at_most") (spE1 K Eff.atMost) := by
  refine (def_ok W.F_Effect_at_most sc_Effect_at_most (fun _ _ _ _ _ _ us hl => match us, hl with | [_, _], _ => rfl) (fun vs H Q E ⟨p, e, n, ev, _⟩ => by rw [ev]; rfl) fun cdv A outer s H vs Q E hr ⟨p, e, n, ev, hp, k⟩ => ?_).2
  subst ev
  refine ⟨_, PSs.nox (pss_one (ps_ret (pe_methR0 W.c_Effect W.m_Effect_mirrored (ok_Effect_mirrored W) (hr.mono (by decide)) pass0 (pe_methR W.c_Effect W.m_Effect_at_least (ok_Effect_at_least W) (hr.mono (by decide)) pass0 (pe_methR0 W.c_Effect W.m_Effect_mirrored (ok_Effect_mirrored W) (hr.mono (by decide)) pass0 (pv 0)) (pa_cons (pe_op op_minus (pe_fldK K (pv 0)) (pv 1)) pa_nil))))), ?_⟩
  walk_at "y"
  refine x_effM hp (by kernel_rfl) ?_
  walk_at "y"
  refine ⟨p, e, rfl, hp, fun x1 H1 s1 h1 => ?_⟩
  refine x_effM h1 (by kernel_rfl) ?_
  have hp1 := hp.mono s1
  walk_at "y"
  refine ⟨x1, e.mir, e.c - n, rfl, h1, fun x2 H2 s2 h2 => ?_⟩
  refine x_effM h2 (by kernel_rfl) ?_
  walk_at "y"
  exact ⟨x2, _, rfl, h2, fun x3 H3 s3 h3 => k x3 H3 ((s1.trans s2).trans s3) h3⟩
theorem ok_nothing (W : Wd K mg) : FnR P w K mg base CX0 3 (ga K "nothing") (fun vs H Q _ => ∃ c : Int, vs = [.int c] ∧ ∀ x H', Same H H' → EffAt (CE K) H' x (nothing c) → Q (.ref x) H') := by
  refine (def_ok W.F_nothing sc_nothing (fun _ _ _ _ _ _ us hl => match us, hl with | [_], _ => rfl) (fun vs H Q E ⟨c, ev, _⟩ => by rw [ev]; rfl) fun cdv A outer s H vs Q E hr ⟨c, ev, k⟩ => ?_).2
  subst ev
  refine ⟨_, PSs.nox (pss_one (ps_ret (pe_mk W.mk_Effect (ok_Effect_init W) (hr.mono (by decide)) W.g_Effect pass0 rfl (pa_cons (pv 0) (pa_cons pe_int (pa_cons (pv 0) (pa_cons pe_int (pa_cons pe_non (pa_cons pe_bl pa_nil))))))))), ?_⟩
  walk_at "y"
  exact mk_eff (g := none) rfl fun x H' _ s1 he => k x H' s1 he
def spEO (K : PySem.W.Frag) : Sp := fun vs H Q _ => ∃ (p : Addr) (c : Int) (l : List Stp), vs = [.ref p, .int c] ∧ PlanAt (CP K) H p l ∧ l.length ≤ 60 ∧ ∀ x H', Same H H' → EffAt (CE K) H' x (effOf c l) → Q (.ref x) H'
theorem ok_effect_of (W : Wd K mg) : FnR P w K mg base CX0 5 (ga K "effect_of") (spEO K) := by
  refine (def_ok W.F_effect_of sc_effect_of (fun _ _ _ _ _ _ us hl => match us, hl with | [_, _], _ => rfl) (fun vs H Q E ⟨p, c, l, ev, _⟩ => by rw [ev]; rfl) fun cdv A outer s H vs Q E hr ⟨p, c, l, ev, hp, h60, k⟩ => ?_).2
  subst ev
  refine ⟨_, PSs.nox (pss_cons (ps_set (i := 2) sc_effect_of.nd rfl (Or.inl rfl) (pe_callR (ok_nothing W) (hr.mono (by decide)) W.g_nothing W.k_nothing pass0 rfl (pa_cons (pv 1) pa_nil))) (pss_cons (ps_for PassesOwn.never rfl (pi_listK K (pe_callR (ok_sides_of W) (hr.mono (by decide)) W.g_sides_of W.k_sides_of pass0 rfl (pa_cons (pv 0) pa_nil))) (pg_tupK (n := 2) K rfl (pgs_cons (pg_name (i := 3) sc_effect_of.nd rfl (Or.inl rfl)) (pgs_cons (pg_name (i := 4) sc_effect_of.nd rfl (Or.inl rfl)) pgs_nil))) (pss_one (ps_if (pt_cmpR (op_eqK K hr.units) (pv 3) pe_int (nomark _)) (pss_one (ps_set (i := 2) sc_effect_of.nd rfl (Or.inl rfl) (pe_methR W.c_Effect W.m_Effect_at_least (ok_Effect_at_least W) (hr.mono (by decide)) pass0 (pv 2) (pa_cons (pv 4) pa_nil)))) (pss_one (ps_if (pt_cmpR (op_eqK K hr.units) (pv 3) (pe_un un_neg pe_int) (nomark _)) (pss_one (ps_set (i := 2) sc_effect_of.nd rfl (Or.inl rfl) (pe_methR W.c_Effect W.m_Effect_at_most (ok_Effect_at_most W) (hr.mono (by decide)) pass0 (pv 2) (pa_cons (pe_op op_minus (pv 1) (pv 4)) pa_nil)))) pss_nil))))) (pss_one (ps_ret (pe_mk W.mk_Effect (ok_Effect_init W) (hr.mono (by decide)) W.g_Effect pass0 rfl (pa_cons (pv 1) (pa_cons (pe_fldK K (pv 2)) (pa_cons (pe_fldK K (pv 2)) (pa_cons (pe_fldK K (pv 2)) (pa_cons (pe_fldK K (pv 2)) (pa_cons (pe_propR W.c_Plan W.p_Plan_is_turning (ok_Plan_is_turning W) (hr.mono (by decide)) (pv 0)) pa_nil))))))))))), ?_⟩
  walk_at "y"
  refine ⟨c, rfl, fun x0 H0 s0 h0 => ?_⟩
  walk_at "y"
  refine ⟨p, l, rfl, hp.mono s0, h60, fun r ps H1 hr0 s1 hps hpp => ?_⟩
  refine x_iLAt (SqL.of hps) (x_loop walk_list (fun i σ H2 => Same H1 H2 ∧ ∃ x a b, σ = [some (.ref p), some (.int c), some (.ref x), a, b] ∧ EffAt (CE K) H2 x (((sides 1 l).take i).foldl (effStep c) (nothing c))) ⟨Same.refl _, x0, _, _, rfl, h0.mono s1⟩ (fun i σ H2 _ ⟨s2, _⟩ => SqL.of (s2 _ _ hps)) ?_ ?_)
  · rintro i y σ H2 H3 hi ⟨s2, x, a, b, rfl, hx⟩ ⟨rfl, ey⟩
    obtain ⟨⟨sd, n⟩, hst, q, rfl, hq⟩ := pr_at hpp ey
    have tk : ((sides 1 l).take (i + 1)).foldl (effStep c) (nothing c) = effStep c (((sides 1 l).take i).foldl (effStep c) (nothing c)) (sd, n) := by
      rw [List.take_add_one, hst, List.foldl_append]
      rfl
    rw [tk]
    unfold effStep
    refine x_gTup (s2 _ _ hq) rfl ?_
    unfold pairV
    walk_at "y"
    refine x_ifd (fun e => ?_) fun e => ?_
    · rw [if_pos e]
      walk_at "y"
      refine x_effM hx (by kernel_rfl) ?_
      walk_at "y"
      refine ⟨x, _, n, rfl, hx, fun x2 H4 s4 h4 => ?_⟩
      walk_at "y"
      exact ⟨s2.trans s4, x2, _, _, rfl, h4⟩
    · rw [if_neg e]
      walk_at "y"
      refine x_ifd (fun e2 => ?_) fun e2 => ?_
      · rw [if_pos e2]
        walk_at "y"
        refine x_effM hx (by kernel_rfl) ?_
        walk_at "y"
        refine ⟨x, _, c - n, rfl, hx, fun x2 H4 s4 h4 => ?_⟩
        walk_at "y"
        exact ⟨s2.trans s4, x2, _, _, rfl, h4⟩
      · rw [if_neg e2]
        walk_at "y"
        exact ⟨s2, x, _, _, rfl, hx⟩
  · rintro σ H2 ⟨s2, x, a, b, rfl, hx⟩
    have hl : ps.length = (sides 1 l).length := pr_len hpp
    rw [hl, List.take_length] at hx
    have hp2 := ((hp.mono s0).mono s1).mono s2
    walk_at "y"
    obtain ⟨dx, t, vs, g1, g2, g3⟩ := hp2.ex
    refine x_propAt g1 ⟨p, l, rfl, hp2, h60, fun H3 s3 => ?_⟩
    walk_at "y"
    exact mk_eff rfl fun x3 H4 _ s4 he => k x3 H4 ((s0.trans s1).trans ((s2.trans s3).trans s4)) he
end
end K05

set_option Elab.async false
set_option linter.all false
set_option autoImplicit false
set_option maxRecDepth 100000
set_option maxHeartbeats 4000000
namespace K05
open PySem PySem.Spec PyProof.Rows L2 He ChH Ch ChM
local macro_rules | `(tactic| walk_at "x1") => `(tactic| first
  | ((with_reducible apply x_var); exact rfl)
  | with_reducible refine x_c ?_
  | with_reducible refine x_op ?_
  | with_reducible refine x_seq ?_
  | with_reducible refine x_asg ?_
  | with_reducible refine x_gname ?_
  | with_reducible refine x_cons ?_
  | with_reducible refine x_nil ?_
  | with_reducible refine x_fld ?_
  | with_reducible refine x_ret ?_
  | with_reducible refine x_ifS ?_
  | with_reducible refine x_test ?_
  | with_reducible refine x_ex ?_
  | with_reducible refine x_call ?_
  | with_reducible refine x_mk ?_
  | with_reducible refine x_meth ?_
  | with_reducible refine x_prop ?_
  | with_reducible refine x_cb ?_
  | with_reducible refine x_tup ?_
  | with_reducible refine x_lst ?_
  | with_reducible refine x_drop ?_
  | with_reducible refine x_for ?_
  | with_reducible refine x_iL ?_
  | with_reducible refine x_iT ?_
  | with_reducible refine x_iE ?_
  | with_reducible refine x_iU ?_
  | with_reducible refine x_iR1 ?_
  | with_reducible refine x_iR2 ?_
  | with_reducible refine x_gcons ?_
  | with_reducible refine x_gnil ?_
  | with_reducible refine x_par ?_
  | with_reducible refine x_lstRg ?_
  | with_reducible refine x_rg1 ?_
  | with_reducible refine x_rg1At ?_
  | with_reducible refine x_par3 ?_
  | with_reducible refine x_bm ?_
  | with_reducible refine x_bm0 ?_
  | with_reducible refine x_gSub ?_
  | with_reducible refine x_lc ?_
  | with_reducible refine x_yes ?_
  | with_reducible refine x_setf ?_
  | with_reducible refine x_next ?_
  | with_reducible refine x_B ?_
  | with_reducible refine x_and ?_
  | with_reducible refine x_or ?_
  | with_reducible refine x_not ?_
  | with_reducible refine x_andV ?_
  | with_reducible refine x_orV ?_
  | with_reducible refine x_notV ?_
  | with_reducible refine x_ifE ?_
  | with_reducible refine x_chain ?_
  | with_reducible refine x_chain3 ?_
  | with_reducible refine x_un ?_
  | with_reducible refine x_isNe ?_
  | with_reducible refine x_notNe ?_
  | with_reducible refine x_starA ?_
  | with_reducible refine x_plusI ?_
  | with_reducible refine x_minus ?_
  | with_reducible refine x_lt ?_
  | with_reducible refine x_le ?_
  | with_reducible refine x_gt ?_
  | with_reducible refine x_ge ?_
  | with_reducible refine x_eqI ?_
  | with_reducible refine x_neI ?_
  | with_reducible refine x_eqS ?_
  | with_reducible refine x_eqB ?_
  | with_reducible refine x_neB ?_
  | with_reducible refine x_int ?_
  | with_reducible refine x_intB ?_
  | with_reducible refine x_max2 ?_
  | with_reducible refine x_min2 ?_
  | with_reducible refine x_max3 ?_
  | with_reducible refine x_abs ?_
  | with_reducible refine x_neg ?_
  | with_reducible refine x_isi_ii ?_
  | with_reducible refine x_isi_ib ?_
  | with_reducible refine x_T ?_
  | with_reducible refine x_nT ?_
  | with_reducible refine x_nF ?_
  | with_reducible refine x_F ?_)
local macro_rules | `(tactic| walk_at "x") => `(tactic| repeat walk_at "x1")

local macro_rules | `(tactic| walk_at "eff") => `(tactic| first
  | refine x_eff (by assumption) (Wd.c_Effect (by assumption)) (Wd.n_Effect_chairs (by assumption)) eff_chairs ?_
  | refine x_eff (by assumption) (Wd.c_Effect (by assumption)) (Wd.n_Effect_low (by assumption)) eff_low ?_
  | refine x_eff (by assumption) (Wd.c_Effect (by assumption)) (Wd.n_Effect_high (by assumption)) eff_high ?_
  | refine x_eff (by assumption) (Wd.c_Effect (by assumption)) (Wd.n_Effect_extra (by assumption)) eff_extra ?_
  | refine x_eff (by assumption) (Wd.c_Effect (by assumption)) (Wd.n_Effect_goal (by assumption)) eff_goal ?_
  | refine x_eff (by assumption) (Wd.c_Effect (by assumption)) (Wd.n_Effect_turned (by assumption)) eff_turned ?_)
local macro_rules | `(tactic| walk_at "y") => `(tactic| repeat (first | walk_at "x1" | walk_at "eff"))

section
variable {P : Program} {w : World} {K : PySem.W.Frag} {mg : Str → Option Value} {base : Heap}
theorem divF {i j : Int} (h : 0 < j) (h2 : j ≤ 2000000000000000000) : CDivW i j := wide_div (b := 62) h (by omega) (by decide) (by decide)
theorem ok_Effect_carried (W : Wd K mg) : FnR P w K mg base CX0 1 (ma K (ga K "Effect") "carried") (fun vs H Q _ => ∃ (p : Addr) (e : Eff) (x : Int), vs = [.ref p, .int x] ∧ EffAt (CE K) H p e ∧ Q (.int (e.carried x)) H) := by
  refine (def_ok W.F_Effect_carried sc_Effect_carried (fun _ _ _ _ _ _ us hl => match us, hl with | [_, _], _ => rfl) (fun vs H Q E ⟨p, e, x, ev, _⟩ => by rw [ev]; rfl) fun cdv A outer s H vs Q E hr ⟨p, e, x, ev, hp, k⟩ => ?_).2
  subst ev
  refine ⟨_, PSs.nox (pss_one (ps_ret (pe_op op_plus (pe_callB (c_max3 rfl) (by rfl) W.f_max (by decide +kernel) (pa_cons (pe_op op_minus (pe_fldK K (pv 0)) (pv 1)) (pa_cons (pe_op op_minus (pv 1) (pe_fldK K (pv 0))) (pa_cons pe_int pa_nil)))) (pe_fldK K (pv 0))))), ?_⟩
  walk_at "y"
  exact k
theorem ok_Effect_place (W : Wd K mg) : FnR P w K mg base CX0 1 (ma K (ga K "Effect") "place") (fun vs H Q _ => ∃ (p : Addr) (e : Eff) (x : Int), vs = [.ref p, .int x] ∧ EffAt (CE K) H p e ∧ Q (.int (e.place x)) H) := by
  refine (def_ok W.F_Effect_place sc_Effect_place (fun _ _ _ _ _ _ us hl => match us, hl with | [_, _], _ => rfl) (fun vs H Q E ⟨p, e, x, ev, _⟩ => by rw [ev]; rfl) fun cdv A outer s H vs Q E hr ⟨p, e, x, ev, hp, k⟩ => ?_).2
  subst ev
  refine ⟨_, PSs.nox (pss_one (ps_ret (pe_ifExp (pt_cmp (pc_isN (pe_fldK K (pv 0)))) (pe_callB (c_min2 rfl) (by rfl) W.f_min (by decide +kernel) (pa_cons (pe_callB (c_max2 rfl) (by rfl) W.f_max (by decide +kernel) (pa_cons (pv 1) (pa_cons (pe_fldK K (pv 0)) pa_nil))) (pa_cons (pe_fldK K (pv 0)) pa_nil))) (pe_fldK K (pv 0))))), ?_⟩
  unfold Eff.place at k
  walk_at "y"
  rw [goal_non]
  cases g : e.goal with
  | none =>
    rw [g] at k
    refine x_T ?_
    walk_at "y"
    exact k
  | some y =>
    rw [g] at k
    refine x_F ?_
    walk_at "y"
    rw [g]
    exact k
theorem ok_Effect_end (W : Wd K mg) : FnR P w K mg base CX0 2 (ma K (ga K "Effect") "end") (fun vs H Q _ => ∃ (p : Addr) (e : Eff) (x : Int), vs = [.ref p, .int x] ∧ EffAt (CE K) H p e ∧ Q (.int (e.fin x)) H) := by
  refine (def_ok W.F_Effect_end sc_Effect_end (fun _ _ _ _ _ _ us hl => match us, hl with | [_, _], _ => rfl) (fun vs H Q E ⟨p, e, x, ev, _⟩ => by rw [ev]; rfl) fun cdv A outer s H vs Q E hr ⟨p, e, x, ev, hp, k⟩ => ?_).2
  subst ev
  refine ⟨_, PSs.nox (pss_cons (ps_set (i := 2) sc_Effect_end.nd rfl (Or.inl rfl) (pe_methR W.c_Effect W.m_Effect_place (ok_Effect_place W) (hr.mono (by decide)) pass0 (pv 0) (pa_cons (pv 1) pa_nil))) (pss_one (ps_ret (pe_ifExp (pt_val (pe_fldK K (pv 0))) (pe_op op_minus (pe_fldK K (pv 0)) (pv 2)) (pv 2))))), ?_⟩
  walk_at "y"
  refine x_effM hp (by kernel_rfl) ?_
  walk_at "y"
  refine ⟨p, e, x, rfl, hp, ?_⟩
  walk_at "y"
  unfold Eff.fin at k
  refine x_if (fun ht => ?_) fun ht => ?_
  · rw [if_pos ht] at k
    walk_at "y"
    exact k
  · rw [if_neg (by rw [ht]; decide)] at k
    walk_at "y"
    exact k
end
end K05

set_option Elab.async false
set_option linter.all false
set_option autoImplicit false
set_option maxRecDepth 100000
set_option maxHeartbeats 4000000
namespace K05
open PySem PySem.Spec PyProof.Rows L2 He ChH Ch ChM
local macro_rules | `(tactic| walk_at "x1") => `(tactic| first
  | ((with_reducible apply x_var); exact rfl)
  | with_reducible refine x_c ?_
  | with_reducible refine x_op ?_
  | with_reducible refine x_seq ?_
  | with_reducible refine x_asg ?_
  | with_reducible refine x_gname ?_
  | with_reducible refine x_cons ?_
  | with_reducible refine x_nil ?_
  | with_reducible refine x_fld ?_
  | with_reducible refine x_ret ?_
  | with_reducible refine x_ifS ?_
  | with_reducible refine x_test ?_
  | with_reducible refine x_ex ?_
  | with_reducible refine x_call ?_
  | with_reducible refine x_mk ?_
  | with_reducible refine x_meth ?_
  | with_reducible refine x_prop ?_
  | with_reducible refine x_cb ?_
  | with_reducible refine x_tup ?_
  | with_reducible refine x_lst ?_
  | with_reducible refine x_drop ?_
  | with_reducible refine x_for ?_
  | with_reducible refine x_iL ?_
  | with_reducible refine x_iT ?_
  | with_reducible refine x_iE ?_
  | with_reducible refine x_iU ?_
  | with_reducible refine x_iR1 ?_
  | with_reducible refine x_iR2 ?_
  | with_reducible refine x_gcons ?_
  | with_reducible refine x_gnil ?_
  | with_reducible refine x_par ?_
  | with_reducible refine x_lstRg ?_
  | with_reducible refine x_rg1 ?_
  | with_reducible refine x_rg1At ?_
  | with_reducible refine x_par3 ?_
  | with_reducible refine x_bm ?_
  | with_reducible refine x_bm0 ?_
  | with_reducible refine x_gSub ?_
  | with_reducible refine x_lc ?_
  | with_reducible refine x_yes ?_
  | with_reducible refine x_setf ?_
  | with_reducible refine x_next ?_
  | with_reducible refine x_B ?_
  | with_reducible refine x_and ?_
  | with_reducible refine x_or ?_
  | with_reducible refine x_not ?_
  | with_reducible refine x_andV ?_
  | with_reducible refine x_orV ?_
  | with_reducible refine x_notV ?_
  | with_reducible refine x_ifE ?_
  | with_reducible refine x_chain ?_
  | with_reducible refine x_chain3 ?_
  | with_reducible refine x_un ?_
  | with_reducible refine x_isNe ?_
  | with_reducible refine x_notNe ?_
  | with_reducible refine x_starA ?_
  | with_reducible refine x_plusI ?_
  | with_reducible refine x_minus ?_
  | with_reducible refine x_lt ?_
  | with_reducible refine x_le ?_
  | with_reducible refine x_gt ?_
  | with_reducible refine x_ge ?_
  | with_reducible refine x_eqI ?_
  | with_reducible refine x_neI ?_
  | with_reducible refine x_eqS ?_
  | with_reducible refine x_eqB ?_
  | with_reducible refine x_neB ?_
  | with_reducible refine x_int ?_
  | with_reducible refine x_intB ?_
  | with_reducible refine x_max2 ?_
  | with_reducible refine x_min2 ?_
  | with_reducible refine x_max3 ?_
  | with_reducible refine x_abs ?_
  | with_reducible refine x_neg ?_
  | with_reducible refine x_isi_ii ?_
  | with_reducible refine x_isi_ib ?_
  | with_reducible refine x_T ?_
  | with_reducible refine x_nT ?_
  | with_reducible refine x_nF ?_
  | with_reducible refine x_F ?_)
local macro_rules | `(tactic| walk_at "x") => `(tactic| repeat walk_at "x1")

section
variable {P : Program} {w : World} {K : PySem.W.Frag} {mg : Str → Option Value} {base : Heap}
def spLS (K : PySem.W.Frag) : Sp := fun vs H Q _ => ∃ (a : Addr) (ns : List Int), vs = [.ref a] ∧ SqL K H a (ns.map V.int) ∧ ∀ st H', H st = none → Same H H' → StAt K H' st a ns → Q (.ref st) H'
theorem ok__law_start (W : Wd K mg) : FnR P w K mg base CX0 1 (ga K "_law_start") (spLS K) := by
  refine (def_ok W.F__law_start sc__law_start (fun _ _ _ _ _ _ us hl => match us, hl with | [_], _ => rfl) (fun vs H Q E ⟨a, ns, ev, _⟩ => by rw [ev]; rfl) fun cdv A outer s H vs Q E hr ⟨a, ns, ev, hs, k⟩ => ?_).2
  subst ev
  refine ⟨_, PSs.nox (pss_cons (ps_set (i := 1) sc__law_start.nd rfl (Or.inl rfl) pe_int) (pss_cons (ps_for PassesOwn.never rfl (pi_listK K (pv 0)) (pg_name (i := 2) sc__law_start.nd rfl (Or.inl rfl)) (pss_one (ps_set (i := 1) sc__law_start.nd rfl (Or.inl rfl) (pe_op op_modP (pe_op op_plus (pe_op op_plus (pe_op op_times (pv 1) pe_int) (pv 2)) pe_int) pe_int)))) (pss_one (ps_ret (pe_lst (pa_cons (pv 0) (pa_cons pe_int (pa_cons (pv 1) (pa_cons pe_int pa_nil))))))))), ?_⟩
  walk_at "x"
  refine x_iLAt hs (x_loop walk_list (fun i σ H2 => H2 = H ∧ ∃ z b, σ = [some (.ref a), some (.int z), b]) ⟨rfl, _, _, rfl⟩ (fun i σ H2 _ ⟨e, _⟩ => by rw [e]; exact hs) ?_ ?_)
  · rintro i y σ H2 H3 hi ⟨rfl, z, b, rfl⟩ ⟨rfl, ey⟩
    rw [List.getElem?_map] at ey
    obtain ⟨n, _, rfl⟩ := Option.map_eq_some_iff.mp ey
    walk_at "x"
    refine x_timesI (.inr ⟨by decide, by decide⟩) ?_
    walk_at "x"
    refine x_mod (by decide) ?_
    walk_at "x"
    exact ⟨rfl, _, _, rfl⟩
  · rintro σ H2 ⟨rfl, z, b, rfl⟩
    walk_at "x"
    exact ⟨sz rfl, fun st hst => k st _ hst (Same.new hst) (StAt.new hs hst (Int.le_refl 0))⟩
theorem pick2 {u v : V} {z : Int} (h0 : 0 ≤ z) (h1 : z < 2) : ∃ y, atI [u, v] z = some y ∧ ((z = 0 ∧ y = u) ∨ (z = 1 ∧ y = v)) := by
  have : z = 0 ∨ z = 1 := by omega
  rcases this with rfl | rfl
  · exact ⟨u, rfl, .inl ⟨rfl, rfl⟩⟩
  · exact ⟨v, rfl, .inr ⟨rfl, rfl⟩⟩
def spLD (K : PySem.W.Frag) : Sp := fun vs H Q _ => ∃ (st a : Addr) (ns : List Int) (c : Int), vs = [.ref st, .int c] ∧ StAt K H st a ns ∧ 0 < c ∧ c ≤ 2000000000000000000 ∧ ∀ z H', 0 ≤ z → z < c → SameB st H H' → StAt K H' st a ns → Q (.int z) H'
theorem divW {i j : Int} (h : 0 < j) (h2 : j ≤ 2000000000000000000) : CDivW i j := wide_div (b := 62) h (by omega) (by decide) (by decide)
theorem ok__law_drawn (W : Wd K mg) : FnR P w K mg base CX0 1 (ga K "_law_drawn") (spLD K) := by
  refine (def_ok W.F__law_drawn sc__law_drawn (fun _ _ _ _ _ _ us hl => match us, hl with | [_, _], _ => rfl) (fun vs H Q E ⟨st, a, ns, c, ev, _⟩ => by rw [ev]; rfl) fun cdv A outer s H vs Q E hr ⟨st, a, ns, c, ev, hS, c0, c1, k⟩ => ?_).2
  subst ev
  obtain ⟨pos, m, r, hst, p0⟩ := hS.lst
  refine ⟨_, PSs.nox (pss_cons (ps_if (pt_cmpR op_gtI (pe_ix (ix_K K) (pv 0) pe_int (fun _ _ => rfl)) pe_int (nomark _)) (pss_cons (ps_set (i := 2) sc__law_drawn.nd rfl (Or.inl rfl) (pe_op op_modP (pe_ix (ix_K K) (pv 0) pe_int (fun _ _ => rfl)) (pv 1))) (pss_cons (ps_asg (pe_op op_divP (pe_ix (ix_K K) (pv 0) pe_int (fun _ _ => rfl)) (pv 1)) (pg_sub (pv 0) pe_int set_list)) (pss_one (ps_ret (pv 2))))) pss_nil) (pss_cons (ps_asg (pe_op op_plus (pe_ix (ix_K K) (pv 0) pe_int (fun _ _ => rfl)) pe_int) (pg_sub (pv 0) pe_int set_list)) (pss_cons (ps_if (pt_cmpR op_leI (pe_ix (ix_K K) (pv 0) pe_int (fun _ _ => rfl)) (pe_callB (c_lenK K) (by rfl) W.f_len (by decide +kernel) (pa_cons (pe_ix (ix_K K) (pv 0) pe_int (fun _ _ => rfl)) pa_nil)) (nomark _)) (pss_cons (ps_set (i := 3) sc__law_drawn.nd rfl (Or.inl rfl) (pe_ix (ix_K K) (pe_ix (ix_K K) (pv 0) pe_int (fun _ _ => rfl)) (pe_op op_minus (pe_ix (ix_K K) (pv 0) pe_int (fun _ _ => rfl)) pe_int) (fun _ _ => rfl))) (pss_cons (ps_asg (pe_ifExp (pt_cmpR op_geI (pv 3) (pe_op op_powP pe_int pe_int) (nomark _)) (pe_op op_divP (pv 3) (pv 1)) pe_int) (pg_sub (pv 0) pe_int set_list)) (pss_one (ps_ret (pe_op op_modP (pv 3) (pv 1)))))) pss_nil) (pss_cons (ps_asg (pe_op op_modP (pe_op op_plus (pe_op op_times (pe_ix (ix_K K) (pv 0) pe_int (fun _ _ => rfl)) pe_int) pe_int) pe_int) (pg_sub (pv 0) pe_int set_list)) (pss_one (ps_ret (pe_op op_modP (pe_op op_divP (pe_ix (ix_K K) (pv 0) pe_int (fun _ _ => rfl)) pe_int) (pv 1)))))))), ?_⟩
  walk_at "x"
  refine x_ixL (SqL.of hst) (i := 3) rfl ?_
  walk_at "x"
  refine x_ifd (fun hr => ?_) fun hr => ?_
  · walk_at "x"
    refine x_ixL (SqL.of hst) (i := 3) rfl ?_
    walk_at "x"
    refine x_mod c0 ?_
    walk_at "x"
    refine x_ixL (SqL.of hst) (i := 3) rfl ?_
    walk_at "x"
    refine x_div (divW c0 c1) ?_
    walk_at "x"
    refine x_setL hst rfl ?_
    walk_at "x"
    exact k _ _ (Int.emod_nonneg _ (by omega)) (Int.emod_lt_of_pos _ c0) SameB.upd (hS.put p0)
  · walk_at "x"
    refine x_ixL (SqL.of hst) (i := 1) rfl ?_
    walk_at "x"
    refine x_setL hst rfl ?_
    have hS1 : StAt K (upd H st (.lst [.ref a, .int (pos + 1), .int m, .int r])) st a ns := hS.put (by omega)
    have e1 : (upd H st (.lst [.ref a, .int (pos + 1), .int m, .int r])) st = some (.lst [.ref a, .int (pos + 1), .int m, .int r]) := upd_same
    have s1 : SameB st H (upd H st (.lst [.ref a, .int (pos + 1), .int m, .int r])) := SameB.upd
    show (tSeq _ _) _ _ (upd H st (.lst [.ref a, .int (pos + 1), .int m, .int r]))
    generalize upd H st (.lst [.ref a, .int (pos + 1), .int m, .int r]) = H1 at hS1 e1 s1
    walk_at "x"
    refine x_ixL (SqL.of e1) (i := 1) rfl ?_
    walk_at "x"
    refine x_ixL (SqL.of e1) (i := 0) rfl ?_
    walk_at "x"
    refine x_lenL hS1.scr0 ?_
    walk_at "x"
    refine x_ifd (fun hl => ?_) fun hl => ?_
    · walk_at "x"
      refine x_ixL (SqL.of e1) (i := 0) rfl ?_
      walk_at "x"
      refine x_ixL (SqL.of e1) (i := 1) rfl ?_
      walk_at "x"
      rw [List.length_map] at hl
      have hlt : pos.toNat < ns.length := by omega
      refine x_ixL (v := .int (ns[pos.toNat])) hS1.scr0 (at_of (j := pos.toNat) (by omega) (by rw [List.getElem?_map, List.getElem?_eq_getElem hlt]; rfl)) ?_
      walk_at "x"
      refine x_pow ⟨by decide, by decide, by decide⟩ ?_
      walk_at "x"
      have fin : ∀ r2 : Int, gSub (tVar 0) (tC (.int 3)) rSetL (.int r2) [some (.ref st), some (.int c), none, some (.int (ns[pos.toNat]))] H1 (fun σ H' => tRet (tOp rModP (tVar 3) (tVar 1)) { nx := fun _ H' => Q .non H', rt := Q } σ H') := by
        intro r2
        walk_at "x"
        refine x_setL e1 rfl ?_
        walk_at "x"
        refine x_mod c0 ?_
        exact k _ _ (Int.emod_nonneg _ (by omega)) (Int.emod_lt_of_pos _ c0) (s1.trans SameB.upd) (hS1.put (by omega))
      refine x_ifd (fun hb => ?_) fun hb => ?_
      · walk_at "x"
        refine x_div (divW c0 c1) ?_
        exact fin _
      · refine x_c ?_
        exact fin _
    · walk_at "x"
      refine x_ixL (SqL.of e1) (i := 2) rfl ?_
      walk_at "x"
      refine x_timesI (.inr ⟨by decide, by decide⟩) ?_
      walk_at "x"
      refine x_mod (by decide) ?_
      walk_at "x"
      refine x_setL e1 rfl ?_
      walk_at "x"
      refine x_ixL (SqL.of upd_same) (i := 2) rfl ?_
      walk_at "x"
      refine x_div (divW (by decide) (by decide)) ?_
      walk_at "x"
      refine x_mod c0 ?_
      exact k _ _ (Int.emod_nonneg _ (by omega)) (Int.emod_lt_of_pos _ c0) (s1.trans SameB.upd) (hS1.put (by omega))
def spRS (K : PySem.W.Frag) : Sp := fun vs H Q _ => ∃ (st a : Addr) (ns : List Int) (m h : Int), vs = [.ref st, .int m, .int h] ∧ StAt K H st a ns ∧ 0 ≤ m ∧ m ≤ 100 ∧ 0 ≤ h ∧ h ≤ 1000000000000000000 ∧
  ∀ r H' ps l, H r = none → SameB st H H' → StAt K H' st a ns → r ≠ st → H' r = some (.lst ps) → StepsAt H' ps l → (l.length : Int) ≤ m → fitsS h l → Q (.ref r) H'
theorem ok__law_random_steps (W : Wd K mg) : FnR P w K mg base CX0 2 (ga K "_law_random_steps") (spRS K) := by
  refine (def_ok W.F__law_random_steps sc__law_random_steps (fun _ _ _ _ _ _ us hl => match us, hl with | [_, _, _], _ => rfl) (fun vs H Q E ⟨st, a, ns, m, h, ev, _⟩ => by rw [ev]; rfl) fun cdv A outer s H vs Q E hr ⟨st, a, ns, m, h, ev, hS, m0, m1, h0, h1, k⟩ => ?_).2
  subst ev
  refine ⟨_, PSs.nox (pss_cons (ps_par (i := 3) (j := 4) (by rfl) sc__law_random_steps.nd rfl rfl (by decide) rfl rfl (pa_cons (pe_lst pa_nil) (pa_cons (pe_callR (ok__law_drawn W) (hr.mono (by decide)) W.g__law_drawn W.k__law_drawn pass0 rfl (pa_cons (pv 0) (pa_cons pe_int pa_nil))) pa_nil)) (by rfl)) (pss_cons (ps_for PassesOwn.never rfl (pi_range1 (by rfl) W.f_range (pa_cons (pe_callR (ok__law_drawn W) (hr.mono (by decide)) W.g__law_drawn W.k__law_drawn pass0 rfl (pa_cons (pv 0) (pa_cons (pe_op op_plus (pv 1) pe_int) pa_nil))) pa_nil)) (pg_name (i := 5) sc__law_random_steps.nd rfl (Or.inl rfl)) (pss_one (ps_if (PW.pt (pw_and (pt_cmpR (op_eqK K hr.units) (pv 4) pe_int (nomark _)) (pw_and1 (pt_cmpR (op_eqK K hr.units) (pe_callR (ok__law_drawn W) (hr.mono (by decide)) W.g__law_drawn W.k__law_drawn pass0 rfl (pa_cons (pv 0) (pa_cons pe_int pa_nil))) pe_int (nomark _))))) (pss_one (ps_expr (pe_bmK K PySem.F.plainAttrs_list PySem.F.slot_list_append PySem.F.type_list_append mt_append (pv 3) (pa_cons (pe_tup (pa_cons pe_str pa_nil)) pa_nil)))) (pss_cons (ps_set (i := 6) sc__law_random_steps.nd rfl (Or.inl rfl) (pe_ix (ix_K K) (pe_lst (pa_cons (pe_callR (ok__law_drawn W) (hr.mono (by decide)) W.g__law_drawn W.k__law_drawn pass0 rfl (pa_cons (pv 0) (pa_cons (pe_op op_plus (pv 2) pe_int) pa_nil))) (pa_cons (pe_op op_minus (pv 2) (pe_callR (ok__law_drawn W) (hr.mono (by decide)) W.g__law_drawn W.k__law_drawn pass0 rfl (pa_cons (pv 0) (pa_cons (pe_op op_plus (pe_op op_divP (pv 2) pe_int) pe_int) pa_nil)))) pa_nil))) (pe_callR (ok__law_drawn W) (hr.mono (by decide)) W.g__law_drawn W.k__law_drawn pass0 rfl (pa_cons (pv 0) (pa_cons pe_int pa_nil))) (fun _ _ => rfl))) (pss_one (ps_expr (pe_bmK K PySem.F.plainAttrs_list PySem.F.slot_list_append PySem.F.type_list_append mt_append (pv 3) (pa_cons (pe_tup (pa_cons (pe_ix (ix_K K) (pe_lst (pa_cons pe_str (pa_cons pe_str pa_nil))) (pe_callR (ok__law_drawn W) (hr.mono (by decide)) W.g__law_drawn W.k__law_drawn pass0 rfl (pa_cons (pv 0) (pa_cons pe_int pa_nil))) (fun _ _ => rfl)) (pa_cons (pv 6) pa_nil))) pa_nil)))))))) (pss_one (ps_ret (pv 3))))), ?_⟩
  walk_at "x"
  refine ⟨sz rfl, fun r hr0 => ?_⟩
  walk_at "x"
  refine ⟨st, a, ns, 3, rfl, hS.mono (Same.new hr0), by decide, by decide, fun z1 H1 z10 z11 s1 S1 => ?_⟩
  walk_at "x"
  refine ⟨_, _, rfl, ?_⟩
  walk_at "x"
  refine ⟨st, a, ns, m + 1, rfl, S1, by omega, by omega, fun z2 H2 z20 z21 s2 S2 => ?_⟩
  walk_at "x"
  refine x_iR1At (by omega) (by omega) ?_
  have hne : r ≠ st := hS.neN hr0
  have sA : SameB st H H2 := (SameB.of (Same.new hr0)).trans (s1.trans s2)
  have hrr : H2 r = some (.lst []) := s2 _ _ hne (s1 _ _ hne upd_same)
  refine x_loop walk_range (fun i σ H3 => SameB st H H3 ∧ StAt K H3 st a ns ∧ (∃ u v, σ = [some (.ref st), some (.int m), some (.int h), some (.ref r), some (.int z1), u, v]) ∧ ∃ ps l, H3 r = some (.lst ps) ∧ StepsAt H3 ps l ∧ l.length = i ∧ fitsS h l) ⟨sA, S2, ⟨_, _, rfl⟩, [], [], hrr, .nil, rfl, fun b n hm => nomatch hm⟩ (fun _ _ _ _ _ => trivial) ?_ ?_
  · rintro i y σ H4 H3 hi ⟨s3, S3, ⟨u, v, rfl⟩, ps, l, hps, hpl, hll, hfl⟩ ⟨rfl, rfl⟩
    have lps : ps.length = l.length := pr_len hpl
    walk_at "x"
    -- what a new step leads to
    have put : ∀ (H5 : Hp) (t : Addr) (sp : Stp) (b : Option V), SameB st H3 H5 → StAt K H5 st a ns → H5 t = none → (∀ b n, sp = .mt b n → 0 ≤ n ∧ n ≤ h) →
        SameB st H (upd (upd H5 t (.tup (stepV sp))) r (.lst (ps ++ [.ref t]))) ∧ StAt K (upd (upd H5 t (.tup (stepV sp))) r (.lst (ps ++ [.ref t]))) st a ns ∧
        (∃ u v, [some (V.ref st), some (.int m), some (.int h), some (.ref r), some (.int z1), some (.int (0 + (i : Int))), b] = [some (V.ref st), some (.int m), some (.int h), some (.ref r), some (.int z1), u, v]) ∧
        ∃ ps' l', (upd (upd H5 t (.tup (stepV sp))) r (.lst (ps ++ [.ref t]))) r = some (.lst ps') ∧ StepsAt (upd (upd H5 t (.tup (stepV sp))) r (.lst (ps ++ [.ref t]))) ps' l' ∧ l'.length = i + 1 ∧ fitsS h l' := by
      intro H5 t sp b s5 S5 ht hsp
      have hr5 : H5 r = some (.lst ps) := s5 _ _ hne hps
      have e5 : Same H5 (upd H5 t (.tup (stepV sp))) := Same.new ht
      have hr6 := e5 _ _ hr5
      have S6 := S5.mono e5
      have sN : SameB st H (upd (upd H5 t (.tup (stepV sp))) r (.lst (ps ++ [.ref t]))) := by
        intro b o hb e
        rw [upd_ne (ne_of_none e hr0)]
        exact e5 _ _ (s5 _ _ hb (s3 _ _ hb e))
      refine ⟨sN, ?_, ⟨_, _, rfl⟩, _, l ++ [sp], upd_same, ?_, ?_, ?_⟩
      · obtain ⟨p1, p2, p3, p4, p5⟩ := S6.lst
        exact ⟨⟨p1, p2, p3, by rw [upd_ne hne.symm]; exact p4, p5⟩, fun H' s' => hS.scr H' (sN.trans s')⟩
      · refine pr_snoc ((StepsAt.monoB S3 s5 hpl).mono2 e5 hr6) ⟨t, rfl, ?_⟩
        rw [upd_ne (ne_of upd_same hr6 (by intro z; cases z))]
        exact upd_same
      · rw [List.length_append, hll]
        rfl
      · intro b n hm
        rcases List.mem_append.mp hm with hm | hm
        · exact hfl b n hm
        · exact hsp b n (List.mem_singleton.mp hm).symm
    refine x_meet (fun H5 => SameB st H3 H5 ∧ StAt K H5 st a ns) ?meet (fun meet => x_ifd (fun hz => ?turn) fun hz => x_F (meet H3 ⟨SameB.refl _ _, S3⟩))
    case turn =>
      walk_at "x"
      refine ⟨st, a, ns, 4, rfl, S3, by decide, by decide, fun z4 H5 z40 z41 s5 S5 => ?_⟩
      walk_at "x"
      refine x_ifd (fun hz4 => ?_) fun hz4 => ?_
      · walk_at "x"
        refine ⟨ty_lst (s5 _ _ hne hps), ?_⟩
        walk_at "x"
        refine ⟨sz rfl, fun t ht => ?_⟩
        walk_at "x"
        refine x_app (up (s5 _ _ hne hps) ht) (sz5' (by omega)) ?_
        exact put H5 t .turn _ s5 S5 ht (fun b n e => nomatch e)
      · exact meet H5 ⟨s5, S5⟩
    case meet =>
      rintro H5 ⟨s5, S5⟩
      walk_at "x"
      refine ⟨st, a, ns, h + 1, rfl, S5, by omega, by omega, fun y1 H6 y10 y11 s6 S6 => ?_⟩
      walk_at "x"
      refine x_div (divW (by decide) (by decide)) ?_
      walk_at "x"
      refine ⟨st, a, ns, h / 3 + 1, rfl, S6, by omega, by omega, fun y2 H7 y20 y21 s7 S7 => ?_⟩
      walk_at "x"
      refine ⟨sz rfl, fun q hq => ?_⟩
      walk_at "x"
      refine ⟨st, a, ns, 2, rfl, S7.mono (Same.new hq), by decide, by decide, fun y3 H8 y30 y31 s8 S8 => ?_⟩
      have hq8 : H8 q = some (.lst [.int y1, .int (h - y2)]) := s8 _ _ (S7.neN hq) upd_same
      obtain ⟨y, hy, hyy⟩ := pick2 (u := .int y1) (v := .int (h - y2)) y30 y31
      refine x_ixL (SqL.of hq8) hy ?_
      have ey : ∃ n : Int, y = .int n ∧ 0 ≤ n ∧ n ≤ h := by
        rcases hyy with ⟨_, e⟩ | ⟨_, e⟩
        · exact ⟨y1, e, y10, by omega⟩
        · exact ⟨h - y2, e, by omega, by omega⟩
      obtain ⟨n, rfl, n0, n1⟩ := ey
      have s38 : SameB st H3 H8 := s5.trans (s6.trans (s7.trans ((SameB.of (Same.new hq)).trans s8)))
      walk_at "x"
      refine ⟨ty_lst (s38 _ _ hne hps), ?_⟩
      walk_at "x"
      refine ⟨sz rfl, fun q2 hq2 => ?_⟩
      walk_at "x"
      refine ⟨st, a, ns, 2, rfl, S8.mono (Same.new hq2), by decide, by decide, fun y4 H9 y40 y41 s9 S9 => ?_⟩
      have hq9 : H9 q2 = some (.lst [.str "red", .str "blue"]) := s9 _ _ (S8.neN hq2) upd_same
      obtain ⟨y', hy', hyy'⟩ := pick2 (u := .str "red") (v := .str "blue") y40 y41
      refine x_ixL (SqL.of hq9) hy' ?_
      have eb : ∃ b : Bool, y' = .str (roomS b) := by
        rcases hyy' with ⟨_, e⟩ | ⟨_, e⟩
        · exact ⟨true, e⟩
        · exact ⟨false, e⟩
      obtain ⟨b, rfl⟩ := eb
      have s39 : SameB st H3 H9 := s38.trans ((SameB.of (Same.new hq2)).trans s9)
      walk_at "x"
      refine ⟨sz rfl, fun t ht => ?_⟩
      walk_at "x"
      refine x_app (up (s39 _ _ hne hps) ht) (sz5' (by omega)) ?_
      exact put H9 t (.mt b n) _ s39 S9 ht (fun b' n' e => by cases e; exact ⟨n0, n1⟩)
  · rintro σ H3 ⟨s3, S3, ⟨u, v, rfl⟩, ps, l, hps, hpl, hll, hfl⟩
    walk_at "x"
    exact k r H3 ps l hr0 s3 S3 hne hps hpl (by omega) hfl
def spLP (K : PySem.W.Frag) : Sp := fun vs H Q _ => ∃ (r : Addr) (ps : List V) (l : List Stp), vs = [.ref r] ∧ H r = some (.lst ps) ∧ StepsAt H ps l ∧ goodP l ∧ ∀ x H', H x = none → Same H H' → PlanAt (CP K) H' x l → Q (.ref x) H'
theorem good_take {l : List Stp} (h : goodP l) (n : Nat) : goodP (l.take n) := ⟨fun s hs => h.1 s (List.mem_of_mem_take hs), Nat.le_trans (List.length_take_le' _ _) h.2⟩
theorem ok__law_plan (W : Wd K mg) : FnR P w K mg base CX0 6 (ga K "_law_plan") (spLP K) := by
  refine (def_ok W.F__law_plan sc__law_plan (fun _ _ _ _ _ _ us hl => match us, hl with | [_], _ => rfl) (fun vs H Q E ⟨r, ps, l, ev, _⟩ => by rw [ev]; rfl) fun cdv A outer s H vs Q E hr ⟨r, ps, l, ev, hps, hpl, hg, k⟩ => ?_).2
  subst ev
  have lps : ps.length = l.length := pr_len hpl
  refine ⟨_, PSs.nox (pss_cons (ps_set (i := 1) sc__law_plan.nd rfl (Or.inl rfl) (pe_mk0 W.mk_Plan (ok_Plan_init W) (hr.mono (by decide)) W.g_Plan pass0 rfl)) (pss_cons (ps_for PassesOwn.never rfl (pi_listK K (pv 0)) (pg_name (i := 2) sc__law_plan.nd rfl (Or.inl rfl)) (pss_one (ps_set (i := 1) sc__law_plan.nd rfl (Or.inl rfl) (pe_methR W.c_Plan W.m_Plan_joined (ok_Plan_joined W) (hr.mono (by decide)) pass0 (pv 1) (pa_cons (pe_mk W.mk_Plan (ok_Plan_init W) (hr.mono (by decide)) W.g_Plan pass0 rfl (pa_cons (pv 2) pa_nil)) pa_nil))))) (pss_one (ps_ret (pv 1))))), ?_⟩
  walk_at "x"
  refine mk_plan (l := []) .nil ⟨(fun s hs => nomatch hs), Nat.zero_le _⟩ fun x0 H0 hx0 s0 p0 => ?_
  walk_at "x"
  refine x_iLAt (SqL.of (s0 _ _ hps)) (x_loop walk_list (fun i σ H2 => Same H H2 ∧ ∃ x b, σ = [some (.ref r), some (.ref x), b] ∧ H x = none ∧ PlanAt (CP K) H2 x (l.take i)) ⟨s0, x0, _, rfl, hx0, p0⟩ (fun i σ H2 _ ⟨s2, _⟩ => SqL.of (s2 _ _ hps)) ?_ ?_)
  · rintro i y σ H2 H3 hi ⟨s2, x, b, rfl, hx, hP⟩ ⟨rfl, ey⟩
    obtain ⟨st, hst, q, rfl, hq⟩ := pr_at hpl ey
    have tk : l.take (i + 1) = l.take i ++ [st] := by rw [List.take_add_one, hst]; rfl
    obtain ⟨dx, t, vs, g1, g2, g3⟩ := id hP.ex
    walk_at "x"
    refine x_methAt g1 rfl ?_
    walk_at "x"
    have g60 := good_take hg (i + 1)
    rw [tk] at g60 ⊢
    refine mk_plan (l := [st]) (.cons ⟨q, rfl, s2 _ _ hq⟩ .nil) ⟨fun s hs => g60.1 s (List.mem_append_right _ hs), by show 1 ≤ 60; decide⟩ fun x1 H4 hx1 s4 p4 => ?_
    walk_at "x"
    refine ⟨[.ref x], [.ref x1], rfl, rfl, sz rfl, fun u hu => ?_⟩
    refine ⟨x, x1, u, l.take i, [st], rfl, (hP.mono s4).mono (Same.new hu), p4.mono (Same.new hu), upd_same, g60, fun x5 H5 hx5 s5 p5 => ?_⟩
    walk_at "x"
    have sA := (s2.trans s4).trans ((Same.new hu).trans s5)
    exact ⟨sA, x5, _, rfl, ((s2.trans s4).trans (Same.new hu)).free hx5, p5⟩
  · rintro σ H2 ⟨s2, x, b, rfl, hx, hP⟩
    rw [lps, List.take_length] at hP
    walk_at "x"
    exact k x H2 hx s2 hP
end
end K05

set_option Elab.async false
set_option linter.all false
set_option autoImplicit false
set_option maxRecDepth 100000
set_option maxHeartbeats 4000000
namespace K05
open PySem PySem.Spec PyProof.Rows L2 He ChH Ch ChM
local macro_rules | `(tactic| walk_at "x1") => `(tactic| first
  | ((with_reducible apply x_var); exact rfl)
  | with_reducible refine x_c ?_
  | with_reducible refine x_op ?_
  | with_reducible refine x_seq ?_
  | with_reducible refine x_asg ?_
  | with_reducible refine x_gname ?_
  | with_reducible refine x_cons ?_
  | with_reducible refine x_nil ?_
  | with_reducible refine x_fld ?_
  | with_reducible refine x_ret ?_
  | with_reducible refine x_ifS ?_
  | with_reducible refine x_test ?_
  | with_reducible refine x_ex ?_
  | with_reducible refine x_call ?_
  | with_reducible refine x_mk ?_
  | with_reducible refine x_meth ?_
  | with_reducible refine x_prop ?_
  | with_reducible refine x_cb ?_
  | with_reducible refine x_tup ?_
  | with_reducible refine x_lst ?_
  | with_reducible refine x_drop ?_
  | with_reducible refine x_for ?_
  | with_reducible refine x_iL ?_
  | with_reducible refine x_iT ?_
  | with_reducible refine x_iE ?_
  | with_reducible refine x_iU ?_
  | with_reducible refine x_iR1 ?_
  | with_reducible refine x_iR2 ?_
  | with_reducible refine x_gcons ?_
  | with_reducible refine x_gnil ?_
  | with_reducible refine x_par ?_
  | with_reducible refine x_lstRg ?_
  | with_reducible refine x_rg1 ?_
  | with_reducible refine x_rg1At ?_
  | with_reducible refine x_par3 ?_
  | with_reducible refine x_bm ?_
  | with_reducible refine x_bm0 ?_
  | with_reducible refine x_gSub ?_
  | with_reducible refine x_lc ?_
  | with_reducible refine x_yes ?_
  | with_reducible refine x_setf ?_
  | with_reducible refine x_next ?_
  | with_reducible refine x_B ?_
  | with_reducible refine x_and ?_
  | with_reducible refine x_or ?_
  | with_reducible refine x_not ?_
  | with_reducible refine x_andV ?_
  | with_reducible refine x_orV ?_
  | with_reducible refine x_notV ?_
  | with_reducible refine x_ifE ?_
  | with_reducible refine x_chain ?_
  | with_reducible refine x_chain3 ?_
  | with_reducible refine x_un ?_
  | with_reducible refine x_isNe ?_
  | with_reducible refine x_notNe ?_
  | with_reducible refine x_starA ?_
  | with_reducible refine x_plusI ?_
  | with_reducible refine x_minus ?_
  | with_reducible refine x_lt ?_
  | with_reducible refine x_le ?_
  | with_reducible refine x_gt ?_
  | with_reducible refine x_ge ?_
  | with_reducible refine x_eqI ?_
  | with_reducible refine x_neI ?_
  | with_reducible refine x_eqS ?_
  | with_reducible refine x_eqB ?_
  | with_reducible refine x_neB ?_
  | with_reducible refine x_int ?_
  | with_reducible refine x_intB ?_
  | with_reducible refine x_max2 ?_
  | with_reducible refine x_min2 ?_
  | with_reducible refine x_max3 ?_
  | with_reducible refine x_abs ?_
  | with_reducible refine x_neg ?_
  | with_reducible refine x_isi_ii ?_
  | with_reducible refine x_isi_ib ?_
  | with_reducible refine x_T ?_
  | with_reducible refine x_nT ?_
  | with_reducible refine x_nF ?_
  | with_reducible refine x_F ?_)
local macro_rules | `(tactic| walk_at "x") => `(tactic| repeat walk_at "x1")

section
variable {P : Program} {w : World} {K : PySem.W.Frag} {mg : Str → Option Value} {base : Heap}
def spPl (K : PySem.W.Frag) : Sp := fun vs H Q _ => ∃ (r : Addr) (ps : List V) (l : List Stp) (c x : Int), vs = [.ref r, .int c, .int x] ∧ H r = some (.lst ps) ∧ StepsAt H ps l ∧ l.length ≤ 10000 ∧
  ∀ t q H', H q = none → H t = none → Same H H' → H' t = some (.tup [.ref q, .int (playS (x, c - x) l).1]) → H' q = some (.lst ((playC (x, c - x) l).map V.int)) → Q (.ref t) H'
theorem ok__law_played (W : Wd K mg) : FnR P w K mg base CX0 1 (ga K "_law_played") (spPl K) := by
  refine (def_ok W.F__law_played sc__law_played (fun _ _ _ _ _ _ us hl => match us, hl with | [_, _, _], _ => rfl) (fun vs H Q E ⟨r, ps, l, c, x, ev, _⟩ => by rw [ev]; rfl) fun cdv A outer s H vs Q E hr ⟨r, ps, l, c, x, ev, hps, hpl, hll, k⟩ => ?_).2
  subst ev
  have lps : ps.length = l.length := pr_len hpl
  refine ⟨_, PSs.nox (pss_cons (ps_par3 (i := 3) (j := 4) (l := 5) (by rfl) sc__law_played.nd rfl rfl rfl (by decide) (by decide) (by decide) rfl rfl rfl (pa_cons (pv 2) (pa_cons (pe_op op_minus (pv 1) (pv 2)) (pa_cons (pe_lst pa_nil) pa_nil))) (by rfl)) (pss_cons (ps_for PassesOwn.never rfl (pi_listK K (pv 0)) (pg_name (i := 6) sc__law_played.nd rfl (Or.inl rfl)) (pss_cons (ps_set (i := 7) sc__law_played.nd rfl (Or.inl rfl) pe_int) (pss_cons (ps_if (pt_cmpR (op_eqK K hr.units) (pe_ix (ix_K K) (pv 6) pe_int (fun _ _ => rfl)) pe_str (nomark _)) (pss_one (ps_par (i := 3) (j := 4) (by rfl) sc__law_played.nd rfl rfl (by decide) rfl rfl (pa_cons (pv 4) (pa_cons (pv 3) pa_nil)) (by rfl))) (pss_one (ps_if (pt_cmpR (op_eqK K hr.units) (pe_ix (ix_K K) (pv 6) pe_int (fun _ _ => rfl)) pe_str (nomark _)) (pss_cons (ps_set (i := 7) sc__law_played.nd rfl (Or.inl rfl) (pe_callB (c_max2 rfl) (by rfl) W.f_max (by decide +kernel) (pa_cons pe_int (pa_cons (pe_op op_minus (pe_ix (ix_K K) (pv 6) pe_int (fun _ _ => rfl)) (pv 3)) pa_nil)))) (pss_one (ps_par (i := 3) (j := 4) (by rfl) sc__law_played.nd rfl rfl (by decide) rfl rfl (pa_cons (pe_op op_plus (pv 3) (pv 7)) (pa_cons (pe_op op_minus (pv 4) (pv 7)) pa_nil)) (by rfl)))) (pss_cons (ps_set (i := 7) sc__law_played.nd rfl (Or.inl rfl) (pe_callB (c_max2 rfl) (by rfl) W.f_max (by decide +kernel) (pa_cons pe_int (pa_cons (pe_op op_minus (pe_ix (ix_K K) (pv 6) pe_int (fun _ _ => rfl)) (pv 4)) pa_nil)))) (pss_one (ps_par (i := 3) (j := 4) (by rfl) sc__law_played.nd rfl rfl (by decide) rfl rfl (pa_cons (pe_op op_minus (pv 3) (pv 7)) (pa_cons (pe_op op_plus (pv 4) (pv 7)) pa_nil)) (by rfl))))))) (pss_one (ps_expr (pe_bmK K PySem.F.plainAttrs_list PySem.F.slot_list_append PySem.F.type_list_append mt_append (pv 5) (pa_cons (pv 7) pa_nil))))))) (pss_one (ps_ret (pe_tup (pa_cons (pv 5) (pa_cons (pv 3) pa_nil))))))), ?_⟩
  walk_at "x"
  refine ⟨sz rfl, fun q hq => ?_⟩
  walk_at "x"
  refine ⟨_, _, _, rfl, ?_⟩
  walk_at "x"
  have hrq : r ≠ q := ne_of_none hps hq
  refine x_iLAt (SqL.of (up hps hq)) (x_loop walk_list (fun i σ H2 => Same H H2 ∧ (∃ a b, σ = [some (.ref r), some (.int c), some (.int x), some (.int (playS (x, c - x) (l.take i)).1), some (.int (playS (x, c - x) (l.take i)).2), some (.ref q), a, b]) ∧ H2 q = some (.lst ((playC (x, c - x) (l.take i)).map V.int))) ⟨Same.new hq, ⟨_, _, rfl⟩, upd_same⟩ (fun i σ H2 _ ⟨s2, _⟩ => SqL.of (s2 _ _ hps)) ?_ ?_)
  · rintro i y σ H2 H3 hi ⟨s2, ⟨a, b, rfl⟩, hq2⟩ ⟨rfl, ey⟩
    obtain ⟨st, hst, p, rfl, hp⟩ := pr_at hpl ey
    have tk : l.take (i + 1) = l.take i ++ [st] := by rw [List.take_add_one, hst]; rfl
    rw [tk, playS_snoc, playC_snoc]
    have len : (playC (x, c - x) (l.take i)).length ≤ 10000 := by
      rw [playC_len]
      exact Nat.le_trans (List.length_take_le' _ _) hll
    generalize playS (x, c - x) (l.take i) = pp
    generalize playC (x, c - x) (l.take i) = cc at hq2 len ⊢
    have hp3 := s2 _ _ hp
    have fin : ∀ (z : Int) (σ : L2.St), Same H (upd H3 q (.lst (cc.map V.int ++ [.int z]))) ∧ (upd H3 q (.lst (cc.map V.int ++ [.int z]))) q = some (.lst ((cc ++ [z]).map V.int)) := by
      intro z σ
      refine ⟨Same.mut s2 hq, ?_⟩
      rw [upd_same, List.map_append]
      rfl
    cases st with
    | turn =>
      walk_at "x"
      refine x_ixT (SqT.of hp3) (i := 0) rfl ?_
      walk_at "x"
      refine x_T ?_
      walk_at "x"
      refine ⟨_, _, rfl, ?_⟩
      walk_at "x"
      refine ⟨ty_lst hq2, ?_⟩
      walk_at "x"
      refine x_app hq2 (sz5' (by rw [List.length_map]; omega)) ?_
      walk_at "x"
      exact ⟨(fin 0 []).1, ⟨_, _, rfl⟩, (fin 0 []).2⟩
    | mt bb n =>
      walk_at "x"
      refine x_ixT (SqT.of hp3) (i := 0) rfl ?_
      walk_at "x"
      rw [show decide (roomS bb = ("turn" : Str)) = false by cases bb <;> decide +kernel]
      walk_at "x"
      refine x_ixT (SqT.of hp3) (i := 0) rfl ?_
      walk_at "x"
      rw [show decide (roomS bb = ("red" : Str)) = bb by cases bb <;> decide +kernel]
      cases bb with
      | true =>
        walk_at "x"
        refine x_ixT (SqT.of hp3) (i := 1) rfl ?_
        walk_at "x"
        refine ⟨_, _, rfl, ?_⟩
        walk_at "x"
        refine ⟨ty_lst hq2, ?_⟩
        walk_at "x"
        refine x_app hq2 (sz5' (by rw [List.length_map]; omega)) ?_
        walk_at "x"
        exact ⟨(fin _ []).1, ⟨_, _, rfl⟩, (fin _ []).2⟩
      | false =>
        walk_at "x"
        refine x_ixT (SqT.of hp3) (i := 1) rfl ?_
        walk_at "x"
        refine ⟨_, _, rfl, ?_⟩
        walk_at "x"
        refine ⟨ty_lst hq2, ?_⟩
        walk_at "x"
        refine x_app hq2 (sz5' (by rw [List.length_map]; omega)) ?_
        walk_at "x"
        exact ⟨(fin _ []).1, ⟨_, _, rfl⟩, (fin _ []).2⟩
  · rintro σ H2 ⟨s2, ⟨a, b, rfl⟩, hq2⟩
    rw [lps, List.take_length] at hq2 ⊢
    walk_at "x"
    exact ⟨sz rfl, fun t ht => k t q _ hq (s2.free ht) (s2.trans (Same.new ht)) upd_same (up hq2 ht)⟩
end
end K05

set_option Elab.async false
set_option linter.all false
set_option autoImplicit false
set_option maxRecDepth 100000
set_option maxHeartbeats 4000000
namespace K05
open PySem PySem.Spec PyProof.Rows L2 He ChH Ch ChM
/-! ### the plain law: where two effects differ first -/
def difE (e f : Eff) (x : Int) : Prop := ¬ (e.carried x = f.carried x ∧ e.fin x = f.fin x)
instance (e f : Eff) (x : Int) : Decidable (difE e f x) := by unfold difE; infer_instance
def cands (e f : Eff) : List Int := [0, 1, e.lo, e.lo + 1, e.hi, e.hi + 1, f.lo, f.lo + 1, f.hi, f.hi + 1]
theorem eff_line {e : Eff} (h : e.lo ≤ e.hi) {x : Int} (h1 : x ≠ e.lo + 1) (h2 : x ≠ e.hi + 1) : e.carried x = 2 * e.carried (x - 1) - e.carried (x - 2) ∧ e.fin x = 2 * e.fin (x - 1) - e.fin (x - 2) := by
  have hp : e.place x = 2 * e.place (x - 1) - e.place (x - 2) := by
    unfold Eff.place
    cases e.goal with
    | some g => dsimp only; omega
    | none =>
      dsimp only
      have := mx_def x e.lo
      have := mn_def (mx x e.lo) e.hi
      have := mx_def (x - 1) e.lo
      have := mn_def (mx (x - 1) e.lo) e.hi
      have := mx_def (x - 2) e.lo
      have := mn_def (mx (x - 2) e.lo) e.hi
      omega
  constructor
  · unfold Eff.carried
    have := mx_def (e.lo - x) (x - e.hi)
    have := mx_def (mx (e.lo - x) (x - e.hi)) 0
    have := mx_def (e.lo - (x - 1)) ((x - 1) - e.hi)
    have := mx_def (mx (e.lo - (x - 1)) ((x - 1) - e.hi)) 0
    have := mx_def (e.lo - (x - 2)) ((x - 2) - e.hi)
    have := mx_def (mx (e.lo - (x - 2)) ((x - 2) - e.hi)) 0
    omega
  · unfold Eff.fin
    rw [hp]
    split <;> omega
/-- a first difference is among the candidates -/
theorem first_cand {e f : Eff} (he : e.lo ≤ e.hi) (hf : f.lo ≤ f.hi) {x : Int} (h0 : 0 ≤ x) (hd : difE e f x) (hm : ∀ y, 0 ≤ y → y < x → ¬ difE e f y) : x ∈ cands e f := by
  by_cases m : x ∈ cands e f
  · exact m
  · exfalso
    unfold cands at m
    simp only [List.mem_cons, List.not_mem_nil, or_false, not_or] at m
    obtain ⟨m0, m1, m2, m3, m4, m5, m6, m7, m8, m9⟩ := m
    have a1 := hm (x - 1) (by omega) (by omega)
    have a2 := hm (x - 2) (by omega) (by omega)
    obtain ⟨e1, e2⟩ := eff_line he m3 m5
    obtain ⟨f1, f2⟩ := eff_line hf m7 m9
    unfold difE at a1 a2 hd
    rw [Classical.not_not] at a1 a2
    exact hd ⟨by omega, by omega⟩
/-- o is the first start in a house of c chairs at which e and f differ -/
def FirstD (c : Int) (e f : Eff) : Option Int → Prop
  | some x => 0 ≤ x ∧ x ≤ c ∧ difE e f x ∧ ∀ y, 0 ≤ y → y < x → ¬ difE e f y
  | none => ∀ y, 0 ≤ y → y ≤ c → ¬ difE e f y
theorem difE_comm {e f : Eff} {x : Int} : difE e f x ↔ difE f e x := by
  unfold difE
  constructor
  · exact fun h z => h ⟨z.1.symm, z.2.symm⟩
  · exact fun h z => h ⟨z.1.symm, z.2.symm⟩
theorem firstD_one {c : Int} {e f : Eff} {o o' : Option Int} (h : FirstD c e f o) (h' : FirstD c f e o') : o' = o := by
  cases o with
  | none =>
    cases o' with
    | none => rfl
    | some y =>
      obtain ⟨y0, y1, yd, _⟩ := h'
      exact absurd (difE_comm.mp yd) (h y y0 y1)
  | some x =>
    obtain ⟨x0, x1, xd, xm⟩ := h
    cases o' with
    | none => exact absurd (difE_comm.mp xd) (h' x x0 x1)
    | some y =>
      obtain ⟨y0, y1, yd, ym⟩ := h'
      have a : ¬ y < x := fun z => xm y y0 z (difE_comm.mp yd)
      have b : ¬ x < y := fun z => ym x x0 z (difE_comm.mp xd)
      rw [show y = x by omega]
/-- a smallest one -/
theorem least_ex {p : Int → Prop} : ∀ (n : Nat), (∃ y : Int, 0 ≤ y ∧ y ≤ (n : Int) ∧ p y) → ∃ x : Int, 0 ≤ x ∧ x ≤ (n : Int) ∧ p x ∧ ∀ y : Int, 0 ≤ y → y < x → ¬ p y
  | 0, ⟨y, y0, y1, h⟩ => ⟨y, y0, y1, h, fun z z0 z1 => by omega⟩
  | n + 1, ⟨y, y0, y1, h⟩ => by
    by_cases q : ∃ z, 0 ≤ z ∧ z ≤ (n : Int) ∧ p z
    · obtain ⟨x, x0, x1, hx, hm⟩ := least_ex n q
      exact ⟨x, x0, by omega, hx, hm⟩
    · refine ⟨y, y0, y1, h, fun z z0 z1 hz => q ⟨z, z0, by omega, hz⟩⟩
/-- what the loop over the sorted candidates finds -/
theorem find_some {c : Int} {e f : Eff} (he : e.lo ≤ e.hi) (hf : f.lo ≤ f.hi) {ms : List Int} (hp : ms.Perm (cands e f)) (hs : ms.Pairwise (· ≤ ·)) {i : Nat} {x : Int} (hi : ms[i]? = some x) (h0 : 0 ≤ x) (h1 : x ≤ c) (hd : difE e f x)
    (hb : ∀ j y, j < i → ms[j]? = some y → y ≤ c → ¬ difE e f y) : FirstD c e f (some x) := by
  refine ⟨h0, h1, hd, fun y y0 y1 hy => ?_⟩
  obtain ⟨z, z0, z1, hz, hm⟩ := least_ex (p := difE e f) y.toNat ⟨y, y0, by omega, hy⟩
  have zm := hp.mem_iff.mpr (first_cand he hf z0 hz hm)
  obtain ⟨j, hj, ej⟩ := List.getElem_of_mem zm
  obtain ⟨hi2, ei⟩ := List.getElem?_eq_some_iff.mp hi
  rcases Nat.lt_trichotomy j i with h | h | h
  · exact hb j z h (by rw [List.getElem?_eq_getElem hj, ej]) (by omega) hz
  · subst h
    rw [ei] at ej
    omega
  · have := List.pairwise_iff_getElem.mp hs i j hi2 hj h
    rw [ei, ej] at this
    omega
theorem find_none {c : Int} {e f : Eff} (he : e.lo ≤ e.hi) (hf : f.lo ≤ f.hi) {ms : List Int} (hp : ms.Perm (cands e f)) (hb : ∀ j y, j < ms.length → ms[j]? = some y → y ≤ c → ¬ difE e f y) : FirstD c e f none := by
  intro y y0 y1 hy
  obtain ⟨z, z0, z1, hz, hm⟩ := least_ex (p := difE e f) y.toNat ⟨y, y0, by omega, hy⟩
  have zm := hp.mem_iff.mpr (first_cand he hf z0 hz hm)
  obtain ⟨j, hj, ej⟩ := List.getElem_of_mem zm
  exact hb j z hj (by rw [List.getElem?_eq_getElem hj, ej]) (by omega) hz
local macro_rules | `(tactic| walk_at "x1") => `(tactic| first
  | ((with_reducible apply x_var); exact rfl)
  | with_reducible refine x_c ?_
  | with_reducible refine x_op ?_
  | with_reducible refine x_seq ?_
  | with_reducible refine x_asg ?_
  | with_reducible refine x_gname ?_
  | with_reducible refine x_cons ?_
  | with_reducible refine x_nil ?_
  | with_reducible refine x_fld ?_
  | with_reducible refine x_ret ?_
  | with_reducible refine x_ifS ?_
  | with_reducible refine x_test ?_
  | with_reducible refine x_ex ?_
  | with_reducible refine x_call ?_
  | with_reducible refine x_mk ?_
  | with_reducible refine x_meth ?_
  | with_reducible refine x_prop ?_
  | with_reducible refine x_cb ?_
  | with_reducible refine x_tup ?_
  | with_reducible refine x_lst ?_
  | with_reducible refine x_drop ?_
  | with_reducible refine x_for ?_
  | with_reducible refine x_iL ?_
  | with_reducible refine x_iT ?_
  | with_reducible refine x_iE ?_
  | with_reducible refine x_iU ?_
  | with_reducible refine x_iR1 ?_
  | with_reducible refine x_iR2 ?_
  | with_reducible refine x_gcons ?_
  | with_reducible refine x_gnil ?_
  | with_reducible refine x_par ?_
  | with_reducible refine x_lstRg ?_
  | with_reducible refine x_rg1 ?_
  | with_reducible refine x_rg1At ?_
  | with_reducible refine x_par3 ?_
  | with_reducible refine x_bm ?_
  | with_reducible refine x_bm0 ?_
  | with_reducible refine x_gSub ?_
  | with_reducible refine x_lc ?_
  | with_reducible refine x_yes ?_
  | with_reducible refine x_setf ?_
  | with_reducible refine x_next ?_
  | with_reducible refine x_B ?_
  | with_reducible refine x_and ?_
  | with_reducible refine x_or ?_
  | with_reducible refine x_not ?_
  | with_reducible refine x_andV ?_
  | with_reducible refine x_orV ?_
  | with_reducible refine x_notV ?_
  | with_reducible refine x_ifE ?_
  | with_reducible refine x_chain ?_
  | with_reducible refine x_chain3 ?_
  | with_reducible refine x_un ?_
  | with_reducible refine x_isNe ?_
  | with_reducible refine x_notNe ?_
  | with_reducible refine x_starA ?_
  | with_reducible refine x_plusI ?_
  | with_reducible refine x_minus ?_
  | with_reducible refine x_lt ?_
  | with_reducible refine x_le ?_
  | with_reducible refine x_gt ?_
  | with_reducible refine x_ge ?_
  | with_reducible refine x_eqI ?_
  | with_reducible refine x_neI ?_
  | with_reducible refine x_eqS ?_
  | with_reducible refine x_eqB ?_
  | with_reducible refine x_neB ?_
  | with_reducible refine x_int ?_
  | with_reducible refine x_intB ?_
  | with_reducible refine x_max2 ?_
  | with_reducible refine x_min2 ?_
  | with_reducible refine x_max3 ?_
  | with_reducible refine x_abs ?_
  | with_reducible refine x_neg ?_
  | with_reducible refine x_isi_ii ?_
  | with_reducible refine x_isi_ib ?_
  | with_reducible refine x_T ?_
  | with_reducible refine x_nT ?_
  | with_reducible refine x_nF ?_
  | with_reducible refine x_F ?_)
local macro_rules | `(tactic| walk_at "x") => `(tactic| repeat walk_at "x1")

local macro_rules | `(tactic| walk_at "eff") => `(tactic| first
  | refine x_eff (by assumption) (Wd.c_Effect (by assumption)) (Wd.n_Effect_chairs (by assumption)) eff_chairs ?_
  | refine x_eff (by assumption) (Wd.c_Effect (by assumption)) (Wd.n_Effect_low (by assumption)) eff_low ?_
  | refine x_eff (by assumption) (Wd.c_Effect (by assumption)) (Wd.n_Effect_high (by assumption)) eff_high ?_
  | refine x_eff (by assumption) (Wd.c_Effect (by assumption)) (Wd.n_Effect_extra (by assumption)) eff_extra ?_
  | refine x_eff (by assumption) (Wd.c_Effect (by assumption)) (Wd.n_Effect_goal (by assumption)) eff_goal ?_
  | refine x_eff (by assumption) (Wd.c_Effect (by assumption)) (Wd.n_Effect_turned (by assumption)) eff_turned ?_)
local macro_rules | `(tactic| walk_at "y") => `(tactic| repeat (first | walk_at "x1" | walk_at "eff"))

local macro_rules | `(tactic| walk_at "q1") => `(tactic| first
  | walk_at "x1"
  | with_reducible refine x_sl ?_
  | with_reducible refine x_noPart ?_
  | with_reducible refine x_part ?_
  | with_reducible refine x_partI ?_)
local macro_rules | `(tactic| walk_at "q") => `(tactic| repeat walk_at "q1")

section
variable {P : Program} {w : World} {K : PySem.W.Frag} {mg : Str → Option Value} {base : Heap}
def spFD (K : PySem.W.Frag) : Sp := fun vs H Q _ => ∃ (p q : Addr) (c : Int) (l m : List Stp), vs = [.ref p, .ref q, .int c] ∧ PlanAt (CP K) H p l ∧ PlanAt (CP K) H q m ∧ l.length ≤ 60 ∧ m.length ≤ 60 ∧ 0 ≤ c ∧ c ≤ 1000000000000000000 ∧ fitsS c l ∧ fitsS c m ∧
  ∀ o H', Same H H' → FirstD c (effOf c l) (effOf c m) o → Q (goalV o) H'
theorem ok_first_difference (W : Wd K mg) : FnR P w K mg base CX0 6 (ga K "first_difference") (spFD K) := by
  refine (def_ok W.F_first_difference sc_first_difference (fun _ _ _ _ _ _ us hl => match us, hl with | [_, _, _], _ => rfl) (fun vs H Q E ⟨p, q, c, l, m, ev, _⟩ => by rw [ev]; rfl) fun cdv A outer s H vs Q E hr ⟨p, q, c, l, m, ev, hp, hq, l60, m60, c0, c1, hfl, hfm, k⟩ => ?_).2
  subst ev
  obtain ⟨eo, ec, _, _⟩ := effOf_ok c0 hfl
  obtain ⟨fo, fc, _, _⟩ := effOf_ok c0 hfm
  refine ⟨_, PSs.nox (pss_cons (ps_expr (pe_callR (ok_validate_house W) (hr.mono (by decide)) W.g_validate_house W.k_validate_house pass0 rfl (pa_cons (pv 0) (pa_cons (pv 2) pa_nil)))) (pss_cons (ps_expr (pe_callR (ok_validate_house W) (hr.mono (by decide)) W.g_validate_house W.k_validate_house pass0 rfl (pa_cons (pv 1) (pa_cons (pv 2) pa_nil)))) (pss_cons (ps_par (i := 3) (j := 4) (by rfl) sc_first_difference.nd rfl rfl (by decide) rfl rfl (pa_cons (pe_callR (ok_effect_of W) (hr.mono (by decide)) W.g_effect_of W.k_effect_of pass0 rfl (pa_cons (pv 0) (pa_cons (pv 2) pa_nil))) (pa_cons (pe_callR (ok_effect_of W) (hr.mono (by decide)) W.g_effect_of W.k_effect_of pass0 rfl (pa_cons (pv 1) (pa_cons (pv 2) pa_nil))) pa_nil)) (by rfl)) (pss_cons (ps_set (i := 5) sc_first_difference.nd rfl (Or.inl rfl) (pe_lst (pa_cons pe_int (pa_cons pe_int pa_nil)))) (pss_cons (ps_for PassesOwn.never rfl (pi_tupK K (pe_tup (pa_cons (pe_fldK K (pv 3)) (pa_cons (pe_fldK K (pv 3)) (pa_cons (pe_fldK K (pv 4)) (pa_cons (pe_fldK K (pv 4)) pa_nil)))))) (pg_name (i := 6) sc_first_difference.nd rfl (Or.inl rfl)) (pss_one (ps_expr (pe_bmK K PySem.F.plainAttrs_list PySem.F.slot_list_extend PySem.F.type_list_extend mt_extend (pv 5) (pa_cons (pe_lst (pa_cons (pv 6) (pa_cons (pe_op op_plus (pv 6) pe_int) pa_nil))) pa_nil))))) (pss_cons (ps_for PassesOwn.never rfl (pi_listK K (pe_callB (c_sortedK K) (by rfl) W.f_sorted (by decide +kernel) (pa_cons (pv 5) pa_nil))) (pg_name (i := 7) sc_first_difference.nd rfl (Or.inl rfl)) (pss_one (ps_if (PW.pt (pw_and (pt_cmpR op_leI (pv 7) (pv 2) (nomark _)) (pw_and1 (pt_cmpR (op_neK K hr.units) (pe_tup (pa_cons (pe_methR W.c_Effect W.m_Effect_carried (ok_Effect_carried W) (hr.mono (by decide)) pass0 (pv 3) (pa_cons (pv 7) pa_nil)) (pa_cons (pe_methR W.c_Effect W.m_Effect_end (ok_Effect_end W) (hr.mono (by decide)) pass0 (pv 3) (pa_cons (pv 7) pa_nil)) pa_nil))) (pe_tup (pa_cons (pe_methR W.c_Effect W.m_Effect_carried (ok_Effect_carried W) (hr.mono (by decide)) pass0 (pv 4) (pa_cons (pv 7) pa_nil)) (pa_cons (pe_methR W.c_Effect W.m_Effect_end (ok_Effect_end W) (hr.mono (by decide)) pass0 (pv 4) (pa_cons (pv 7) pa_nil)) pa_nil))) (nomark _))))) (pss_one (ps_ret (pv 7))) pss_nil))) (pss_one (ps_ret pe_non)))))))), ?_⟩
  walk_at "y"
  refine ⟨p, c, l, rfl, hp, l60, c0, c1, hfl, fun H1 s1 => ?_⟩
  walk_at "y"
  refine ⟨q, c, m, rfl, hq.mono s1, m60, c0, c1, hfm, fun H2 s2 => ?_⟩
  walk_at "y"
  refine ⟨p, c, l, rfl, (hp.mono s1).mono s2, l60, fun x1 H3 s3 e3 => ?_⟩
  walk_at "y"
  refine ⟨q, c, m, rfl, ((hq.mono s1).mono s2).mono s3, m60, fun x2 H4 s4 f4 => ?_⟩
  walk_at "y"
  refine ⟨_, _, rfl, ?_⟩
  have e4 := e3.mono s4
  have s04 := s1.trans (s2.trans (s3.trans s4))
  generalize effOf c l = e at *
  generalize effOf c m = f at *
  walk_at "y"
  refine ⟨sz rfl, fun r hr4 => ?_⟩
  have e5 := e4.mono (Same.new (o := .lst [.int 0, .int 1]) hr4)
  have f5 := f4.mono (Same.new (o := .lst [.int 0, .int 1]) hr4)
  walk_at "y"
  refine ⟨sz rfl, fun t ht => ?_⟩
  walk_at "y"
  refine x_iTAt (SqT.of upd_same) ?_
  have hr5 : (upd (upd H4 r (.lst [.int 0, .int 1])) t (.tup [.int e.lo, .int e.hi, .int f.lo, .int f.hi])) r = some (.lst [.int 0, .int 1]) := up upd_same ht
  have s5 : Same H4 (upd (upd H4 r (.lst [.int 0, .int 1])) t (.tup [.int e.lo, .int e.hi, .int f.lo, .int f.hi])) := (Same.new hr4).trans (Same.new ht)
  have t5 : (upd (upd H4 r (.lst [.int 0, .int 1])) t (.tup [.int e.lo, .int e.hi, .int f.lo, .int f.hi])) t = some (.tup [.int e.lo, .int e.hi, .int f.lo, .int f.hi]) := upd_same
  generalize upd (upd H4 r (.lst [.int 0, .int 1])) t (.tup [.int e.lo, .int e.hi, .int f.lo, .int f.hi]) = H5 at hr5 s5 t5 ⊢
  refine x_loop walk_tup (fun i σ H6 => (∃ b d, σ = [some (.ref p), some (.ref q), some (.int c), some (.ref x1), some (.ref x2), some (.ref r), b, d]) ∧ Same H4 H6 ∧ H6 t = some (.tup [.int e.lo, .int e.hi, .int f.lo, .int f.hi]) ∧ H6 r = some (.lst (((cands e f).take (2 + 2 * i)).map V.int))) ⟨⟨_, _, rfl⟩, s5, t5, hr5⟩ (fun i σ H6 _ ⟨_, _, ht6, _⟩ => SqT.of ht6) ?_ ?_
  · rintro i y σ H6 H7 hi ⟨⟨b, d, rfl⟩, s6, ht6, hr6⟩ ⟨rfl, ey⟩
    have hi4 : i < 4 := hi
    obtain ⟨z, rfl, hz⟩ : ∃ z : Int, y = .int z ∧ (((cands e f).take (2 + 2 * i)).map V.int ++ [.int z, .int (z + 1)]) = ((cands e f).take (2 + 2 * (i + 1))).map V.int := by
      have : i = 0 ∨ i = 1 ∨ i = 2 ∨ i = 3 := by omega
      rcases this with rfl | rfl | rfl | rfl
      · cases ey; exact ⟨_, rfl, rfl⟩
      · cases ey; exact ⟨_, rfl, rfl⟩
      · cases ey; exact ⟨_, rfl, rfl⟩
      · cases ey; exact ⟨_, rfl, rfl⟩
    walk_at "y"
    refine ⟨ty_lst hr6, ?_⟩
    walk_at "y"
    refine ⟨sz rfl, fun u hu => ?_⟩
    walk_at "y"
    refine ⟨r, u, _, _, rfl, rfl, up hr6 hu, upd_same, sz5 ?_, ?_⟩
    · rw [List.length_map, List.length_take]
      show min _ 10 + 2 ≤ _
      omega
    walk_at "y"
    refine ⟨⟨_, _, rfl⟩, ?_, ?_, ?_⟩
    · exact Same.mut (s6.trans (Same.new hu)) hr4
    · rw [upd_ne (ne_of ht6 hr6 (by intro z; cases z))]
      exact up ht6 hu
    · rw [upd_same, hz]
  · rintro σ H6 ⟨⟨b, d, rfl⟩, s6, _, hr6⟩
    have hr6' : H6 r = some (.lst ((cands e f).map V.int)) := hr6
    have e6 := e4.mono s6
    have f6 := f4.mono s6
    walk_at "y"
    refine x_sorted (SqL.of hr6') (by show 10 < 64; decide) fun ms u hperm hsort hu => ?_
    have s7 : Same H6 (upd H6 u (.lst (ms.map V.int))) := Same.new hu
    have hu7 : (upd H6 u (.lst (ms.map V.int))) u = some (.lst (ms.map V.int)) := upd_same
    generalize upd H6 u (.lst (ms.map V.int)) = H7 at s7 hu7 ⊢
    have e7 := e6.mono s7
    have f7 := f6.mono s7
    refine x_iLAt (SqL.of hu7) (x_loop walk_list (fun i σ H8 => (∃ b d, σ = [some (.ref p), some (.ref q), some (.int c), some (.ref x1), some (.ref x2), some (.ref r), b, d]) ∧ Same H7 H8 ∧ ∀ j y, j < i → ms[j]? = some y → y ≤ c → ¬ difE e f y) ⟨⟨_, _, rfl⟩, Same.refl _, fun j y hj => by omega⟩ (fun i σ H8 _ ⟨_, s8, _⟩ => SqL.of (s8 _ _ hu7)) ?_ ?_)
    · rintro i y σ H8 H9 hi ⟨⟨b, d, rfl⟩, s8, hb⟩ ⟨rfl, ey⟩
      rw [List.getElem?_map] at ey
      obtain ⟨x, hx, rfl⟩ := Option.map_eq_some_iff.mp ey
      have e8 := e7.mono s8
      have f8 := f7.mono s8
      have x0 : 0 ≤ x := by
        have := hperm.mem_iff.mp (List.mem_of_getElem? hx)
        unfold cands at this
        simp only [List.mem_cons, List.not_mem_nil, or_false] at this
        have := eo.lo0
        have := eo.lh
        have := fo.lo0
        have := fo.lh
        omega
      walk_at "y"
      refine x_ifd (fun hxc => ?_) fun hxc => ?_
      · walk_at "y"
        refine x_effM e8 (by kernel_rfl) ?_
        walk_at "y"
        refine ⟨x1, e, x, rfl, e8, ?_⟩
        walk_at "y"
        refine x_effM e8 (by kernel_rfl) ?_
        walk_at "y"
        refine ⟨x1, e, x, rfl, e8, ?_⟩
        walk_at "y"
        refine ⟨sz rfl, fun ta hta => ?_⟩
        have f9 := f8.mono (Same.new (o := .tup [.int (e.carried x), .int (e.fin x)]) hta)
        walk_at "y"
        refine x_effM f9 (by kernel_rfl) ?_
        walk_at "y"
        refine ⟨x2, f, x, rfl, f9, ?_⟩
        walk_at "y"
        refine x_effM f9 (by kernel_rfl) ?_
        walk_at "y"
        refine ⟨x2, f, x, rfl, f9, ?_⟩
        walk_at "y"
        refine ⟨sz rfl, fun tb htb => ?_⟩
        have s9 := (Same.new (o := .tup [.int (e.carried x), .int (e.fin x)]) hta).trans (Same.new (o := .tup [.int (f.carried x), .int (f.fin x)]) htb)
        refine x_neP (up upd_same htb) upd_same ?_
        walk_at "y"
        refine x_ifnd (fun hd => ?_) fun hd => ?_
        · walk_at "y"
          exact k (some x) _ (s04.trans (s6.trans (s7.trans (s8.trans s9)))) (find_some eo.lh fo.lh hperm hsort hx x0 hxc hd hb)
        · walk_at "y"
          refine ⟨⟨_, _, rfl⟩, s8.trans s9, fun j y hj hy yc => ?_⟩
          by_cases hji : j < i
          · exact hb j y hji hy yc
          · have : j = i := by omega
            subst this
            rw [hx] at hy
            cases hy
            exact fun z => z hd
      · walk_at "y"
        refine ⟨⟨_, _, rfl⟩, s8, fun j y hj hy yc => ?_⟩
        by_cases hji : j < i
        · exact hb j y hji hy yc
        · have : j = i := by omega
          subst this
          rw [hx] at hy
          cases hy
          exact absurd yc hxc
    · rintro σ H8 ⟨⟨b, d, rfl⟩, s8, hb⟩
      rw [List.length_map] at hb
      walk_at "y"
      exact k none _ (s04.trans (s6.trans (s7.trans s8))) (find_none eo.lh fo.lh hperm hb)
end
end K05

set_option Elab.async false
set_option linter.all false
set_option autoImplicit false
set_option maxRecDepth 100000
set_option maxHeartbeats 4000000
namespace K05
open PySem PySem.Spec PyProof.Rows L2 He ChH Ch ChM
local macro_rules | `(tactic| walk_at "x1") => `(tactic| first
  | ((with_reducible apply x_var); exact rfl)
  | with_reducible refine x_c ?_
  | with_reducible refine x_op ?_
  | with_reducible refine x_seq ?_
  | with_reducible refine x_asg ?_
  | with_reducible refine x_gname ?_
  | with_reducible refine x_cons ?_
  | with_reducible refine x_nil ?_
  | with_reducible refine x_fld ?_
  | with_reducible refine x_ret ?_
  | with_reducible refine x_ifS ?_
  | with_reducible refine x_test ?_
  | with_reducible refine x_ex ?_
  | with_reducible refine x_call ?_
  | with_reducible refine x_mk ?_
  | with_reducible refine x_meth ?_
  | with_reducible refine x_prop ?_
  | with_reducible refine x_cb ?_
  | with_reducible refine x_tup ?_
  | with_reducible refine x_lst ?_
  | with_reducible refine x_drop ?_
  | with_reducible refine x_for ?_
  | with_reducible refine x_iL ?_
  | with_reducible refine x_iT ?_
  | with_reducible refine x_iE ?_
  | with_reducible refine x_iU ?_
  | with_reducible refine x_iR1 ?_
  | with_reducible refine x_iR2 ?_
  | with_reducible refine x_gcons ?_
  | with_reducible refine x_gnil ?_
  | with_reducible refine x_par ?_
  | with_reducible refine x_lstRg ?_
  | with_reducible refine x_rg1 ?_
  | with_reducible refine x_rg1At ?_
  | with_reducible refine x_par3 ?_
  | with_reducible refine x_bm ?_
  | with_reducible refine x_bm0 ?_
  | with_reducible refine x_gSub ?_
  | with_reducible refine x_lc ?_
  | with_reducible refine x_yes ?_
  | with_reducible refine x_setf ?_
  | with_reducible refine x_next ?_
  | with_reducible refine x_B ?_
  | with_reducible refine x_and ?_
  | with_reducible refine x_or ?_
  | with_reducible refine x_not ?_
  | with_reducible refine x_andV ?_
  | with_reducible refine x_orV ?_
  | with_reducible refine x_notV ?_
  | with_reducible refine x_ifE ?_
  | with_reducible refine x_chain ?_
  | with_reducible refine x_chain3 ?_
  | with_reducible refine x_un ?_
  | with_reducible refine x_isNe ?_
  | with_reducible refine x_notNe ?_
  | with_reducible refine x_starA ?_
  | with_reducible refine x_plusI ?_
  | with_reducible refine x_minus ?_
  | with_reducible refine x_lt ?_
  | with_reducible refine x_le ?_
  | with_reducible refine x_gt ?_
  | with_reducible refine x_ge ?_
  | with_reducible refine x_eqI ?_
  | with_reducible refine x_neI ?_
  | with_reducible refine x_eqS ?_
  | with_reducible refine x_eqB ?_
  | with_reducible refine x_neB ?_
  | with_reducible refine x_int ?_
  | with_reducible refine x_intB ?_
  | with_reducible refine x_max2 ?_
  | with_reducible refine x_min2 ?_
  | with_reducible refine x_max3 ?_
  | with_reducible refine x_abs ?_
  | with_reducible refine x_neg ?_
  | with_reducible refine x_isi_ii ?_
  | with_reducible refine x_isi_ib ?_
  | with_reducible refine x_T ?_
  | with_reducible refine x_nT ?_
  | with_reducible refine x_nF ?_
  | with_reducible refine x_F ?_)
local macro_rules | `(tactic| walk_at "x") => `(tactic| repeat walk_at "x1")

local macro_rules | `(tactic| walk_at "q1") => `(tactic| first
  | walk_at "x1"
  | with_reducible refine x_sl ?_
  | with_reducible refine x_noPart ?_
  | with_reducible refine x_part ?_
  | with_reducible refine x_partI ?_)
local macro_rules | `(tactic| walk_at "q") => `(tactic| repeat walk_at "q1")

section
variable {P : Program} {w : World} {K : PySem.W.Frag} {mg : Str → Option Value} {base : Heap}
def spOt (K : PySem.W.Frag) : Sp := fun vs H Q _ => ∃ (st a r : Addr) (ns : List Int) (h : Int) (ps : List V) (l : List Stp), vs = [.ref st, .ref r, .int h] ∧ StAt K H st a ns ∧ H r = some (.lst ps) ∧ StepsAt H ps l ∧ l.length ≤ 10 ∧ fitsS h l ∧ r ≠ st ∧ 0 ≤ h ∧ h ≤ 1000000000000000000 ∧
  ∀ r' H' ps' l', SameB st H H' → StAt K H' st a ns → r' ≠ st → H' r' = some (.lst ps') → StepsAt H' ps' l' → l'.length ≤ 40 → fitsS h l' → Q (.ref r') H'
theorem ok__law_other (W : Wd K mg) : FnR P w K mg base CX0 3 (ga K "_law_other") (spOt K) := by
  refine (def_ok W.F__law_other sc__law_other (fun _ _ _ _ _ _ us hl => match us, hl with | [_, _, _], _ => rfl) (fun vs H Q E ⟨st, a, r, ns, h, ps, l, ev, _⟩ => by rw [ev]; rfl) fun cdv A outer s H vs Q E hr ⟨st, a, r, ns, h, ps, l, ev, S, hps, hpl, hll, hfl, hrst, h0, h1, k⟩ => ?_).2
  subst ev
  have lps : ps.length = l.length := pr_len hpl
  refine ⟨_, PSs.nox (pss_cons (ps_par (i := 3) (j := 4) (by rfl) sc__law_other.nd rfl rfl (by decide) rfl rfl (pa_cons (pe_callR (ok__law_drawn W) (hr.mono (by decide)) W.g__law_drawn W.k__law_drawn pass0 rfl (pa_cons (pv 0) (pa_cons pe_int pa_nil))) (pa_cons (pe_callR (ok__law_drawn W) (hr.mono (by decide)) W.g__law_drawn W.k__law_drawn pass0 rfl (pa_cons (pv 0) (pa_cons (pe_op op_plus (pe_callB (c_lenK K) (by rfl) W.f_len (by decide +kernel) (pa_cons (pv 1) pa_nil)) pe_int) pa_nil))) pa_nil)) (by rfl)) (pss_cons (ps_if (pt_cmpR (op_eqK K hr.units) (pv 3) pe_int (nomark _)) (pss_one (ps_ret (pe_op op_plus (pe_op op_plus (pe_slice (sl_listK K) (pv 1) po_none (po_some (pv 4))) (pe_lst (pa_cons (pe_tup (pa_cons pe_str pa_nil)) (pa_cons (pe_tup (pa_cons pe_str pa_nil)) pa_nil)))) (pe_slice (sl_listK K) (pv 1) (po_some (pv 4)) po_none)))) pss_nil) (pss_cons (ps_if (pt_cmpR (op_eqK K hr.units) (pv 3) pe_int (nomark _)) (pss_one (ps_ret (pe_op op_plus (pe_op op_plus (pe_slice (sl_listK K) (pv 1) po_none (po_some (pv 4))) (pe_op op_times (pe_slice (sl_listK K) (pv 1) (po_some (pv 4)) (po_some (pe_op op_plus (pv 4) pe_int))) pe_int)) (pe_slice (sl_listK K) (pv 1) (po_some (pe_op op_plus (pv 4) pe_int)) po_none)))) pss_nil) (pss_cons (ps_if (pt_cmpR (op_eqK K hr.units) (pv 3) pe_int (nomark _)) (pss_one (ps_ret (pe_op op_plus (pe_op op_plus (pe_slice (sl_listK K) (pv 1) po_none (po_some (pv 4))) (pe_lst (pa_cons (pe_tup (pa_cons (pe_ix (ix_K K) (pe_lst (pa_cons pe_str (pa_cons pe_str pa_nil))) (pe_callR (ok__law_drawn W) (hr.mono (by decide)) W.g__law_drawn W.k__law_drawn pass0 rfl (pa_cons (pv 0) (pa_cons pe_int pa_nil))) (fun _ _ => rfl)) (pa_cons (pe_callR (ok__law_drawn W) (hr.mono (by decide)) W.g__law_drawn W.k__law_drawn pass0 rfl (pa_cons (pv 0) (pa_cons (pe_op op_plus (pv 2) pe_int) pa_nil))) pa_nil))) pa_nil))) (pe_slice (sl_listK K) (pv 1) (po_some (pv 4)) po_none)))) pss_nil) (pss_cons (ps_if (pt_cmpR (op_eqK K hr.units) (pv 3) pe_int (nomark _)) (pss_one (ps_ret (pe_op op_plus (pe_slice (sl_listK K) (pv 1) po_none (po_some (pv 4))) (pe_slice (sl_listK K) (pv 1) (po_some (pe_op op_plus (pv 4) pe_int)) po_none)))) pss_nil) (pss_one (ps_ret (pe_ifExp (pt_cmpR (op_eqK K hr.units) (pv 3) pe_int (nomark _)) (pe_callR (ok__law_random_steps W) (hr.mono (by decide)) W.g__law_random_steps W.k__law_random_steps pass0 rfl (pa_cons (pv 0) (pa_cons pe_int (pa_cons (pv 2) pa_nil)))) (pv 1))))))))), ?_⟩
  walk_at "q"
  refine ⟨st, a, ns, 6, rfl, S, by decide, by decide, fun z1 H1 z10 z11 s1 S1 => ?_⟩
  have hps1 := s1 _ _ hrst hps
  walk_at "q"
  refine x_lenL (SqL.of hps1) ?_
  walk_at "q"
  refine ⟨st, a, ns, (ps.length : Int) + 1, rfl, S1, by omega, by omega, fun z2 H2 z20 z21 s2 S2 => ?_⟩
  walk_at "q"
  refine ⟨_, _, rfl, ?_⟩
  have hps2 := s2 _ _ hrst hps1
  have hpl2 : StepsAt H2 ps l := StepsAt.monoB S1 s2 (StepsAt.monoB S s1 hpl)
  have s02 := s1.trans s2
  -- a list made of pieces
  have fin : ∀ (q : Addr) (H' : Hp) (vs : List V) (m : List Stp), H2 q = none → Same H2 H' → H' q = some (.lst vs) → StepsAt H' vs m → m.length ≤ 40 → fitsS h m → Q (.ref q) H' := by
    intro q H' vs m hq sq hv hm ml mf
    exact k q H' vs m (s02.trans (SameB.of sq)) (S2.mono sq) (S2.neN hq) hv hm ml mf
  have cl : ∀ (lo hi : Option Int), (cutV ps lo hi).length ≤ 10 := fun lo hi => by
    have := cutV_length ps lo hi
    omega
  have cf : ∀ (a b : Nat), fitsS h ((l.drop a).take b) := fun a b => fits_sub hfl fun s hs => mem_cut hs
  have cl2 : ∀ (a b : Nat), ((l.drop a).take b).length ≤ 10 := fun a b => by
    rw [List.length_take, List.length_drop]
    omega
  walk_at "q"
  refine x_ifd (fun e0 => ?_) fun e0 => ?_
  · walk_at "q"
    refine n_slL (SqL.of hps2) fun q1 H3 hq1 s3 e1 => ?_
    walk_at "q"
    refine ⟨sz rfl, fun t1 ht1 => ?_⟩; generalize hNt1 : upd _ t1 _ = H4; obtain ⟨s4, e2⟩ := nws hNt1 ht1
    walk_at "q"
    refine ⟨sz rfl, fun t2 ht2 => ?_⟩; generalize hNt2 : upd _ t2 _ = H5; obtain ⟨s5, e3⟩ := nws hNt2 ht2
    walk_at "q"
    refine ⟨sz rfl, fun u hu => ?_⟩; generalize hNu : upd _ u _ = H6; obtain ⟨s6, e4⟩ := nws hNu hu
    refine n_plusL (s6 _ _ (s5 _ _ (s4 _ _ e1))) e4 (sz5 (by have := cl none (some z2); show _ + 2 ≤ _; omega)) fun r1 H7 hr1 s7 e5 => ?_
    walk_at "q"
    refine n_slL (SqL.of (s7 _ _ (s6 _ _ (s5 _ _ (s4 _ _ (s3 _ _ hps2)))))) fun q2 H8 hq2 s8 e6 => ?_
    refine n_plusL (s8 _ _ e5) e6 (sz5 (by have := cl none (some z2); have := cl (some z2) none; rw [List.length_append]; show _ + 2 + _ ≤ _; omega)) fun r2 H9 hr2 s9 e7 => ?_
    have s49 := s4.trans (s5.trans (s6.trans (s7.trans (s8.trans s9))))
    refine fin r2 H9 _ _ (((s3.trans (s4.trans (s5.trans (s6.trans (s7.trans s8))))).free hr2)) (s3.trans s49) e7 (pr_app (pr_app (pr_cut none (some z2) (hpl2.mono (s3.trans s49))) (StepsAt.put .turn (s9 _ _ (s8 _ _ (s7 _ _ (s6 _ _ (s5 _ _ e2))))) (StepsAt.put .turn (s9 _ _ (s8 _ _ (s7 _ _ (s6 _ _ e3)))) .nil))) (pr_cut (some z2) none (hpl2.mono (s3.trans s49)))) ?_ ?_
    · have := cl2 (HT.sIx ps.length 0 none) (HT.sIx ps.length ps.length (some z2) - HT.sIx ps.length 0 none)
      have := cl2 (HT.sIx ps.length 0 (some z2)) (HT.sIx ps.length ps.length none - HT.sIx ps.length 0 (some z2))
      rw [List.length_append, List.length_append]
      show _ + 2 + _ ≤ 40
      omega
    · refine fits_app (fits_app (cf _ _) fun b n hm => ?_) (cf _ _)
      rcases List.mem_cons.mp hm with hm | hm
      · cases hm
      · cases List.mem_singleton.mp hm
  walk_at "q"
  refine x_ifd (fun e0 => ?_) fun e0 => ?_
  · walk_at "q"
    refine n_slL (SqL.of hps2) fun q1 H3 hq1 s3 e1 => ?_
    walk_at "q"
    refine n_slL (SqL.of (s3 _ _ hps2)) fun q2 H4 hq2 s4 e2 => ?_
    walk_at "q"
    refine n_rep e2 (by decide) (by decide) (sz5 (by have := cl (some z2) (some (z2 + 1)); show _ * 2 ≤ _; omega)) fun q3 H5 hq3 s5 e3 => ?_
    refine n_plusL (s5 _ _ (s4 _ _ e1)) e3 (sz5 (by have := cl none (some z2); have := cl (some z2) (some (z2 + 1)); show _ + ((cutV ps (some z2) (some (z2 + 1))) ++ ((cutV ps (some z2) (some (z2 + 1))) ++ [])).length ≤ _; simp only [List.length_append, List.length_nil]; omega)) fun r1 H7 hr1 s7 e5 => ?_
    walk_at "q"
    refine n_slL (SqL.of (s7 _ _ (s5 _ _ (s4 _ _ (s3 _ _ hps2))))) fun q4 H8 hq4 s8 e6 => ?_
    refine n_plusL (s8 _ _ e5) e6 (sz5 (by have := cl none (some z2); have := cl (some z2) (some (z2 + 1)); have := cl (some (z2 + 1)) none; rw [List.length_append]; show _ + ((cutV ps (some z2) (some (z2 + 1))) ++ ((cutV ps (some z2) (some (z2 + 1))) ++ [])).length + _ ≤ _; simp only [List.length_append, List.length_nil]; omega)) fun r2 H9 hr2 s9 e7 => ?_
    have sA := s3.trans (s4.trans (s5.trans (s7.trans (s8.trans s9))))
    have pA := hpl2.mono sA
    refine fin r2 H9 _ _ ((s3.trans (s4.trans (s5.trans (s7.trans s8)))).free hr2) sA e7 (pr_app (pr_app (pr_cut none (some z2) pA) (pr_app (pr_cut (some z2) (some (z2 + 1)) pA) (pr_app (pr_cut (some z2) (some (z2 + 1)) pA) .nil))) (pr_cut (some (z2 + 1)) none pA)) ?_ ?_
    · have := cl2 (HT.sIx ps.length 0 none) (HT.sIx ps.length ps.length (some z2) - HT.sIx ps.length 0 none)
      have := cl2 (HT.sIx ps.length 0 (some z2)) (HT.sIx ps.length ps.length (some (z2 + 1)) - HT.sIx ps.length 0 (some z2))
      have := cl2 (HT.sIx ps.length 0 (some (z2 + 1))) (HT.sIx ps.length ps.length none - HT.sIx ps.length 0 (some (z2 + 1)))
      simp only [List.length_append, List.length_nil]
      omega
    · exact fits_app (fits_app (cf _ _) (fits_app (cf _ _) (fits_app (cf _ _) fun b n hm => nomatch hm))) (cf _ _)
  walk_at "q"
  refine x_ifd (fun e0 => ?_) fun e0 => ?_
  · walk_at "q"
    refine n_slL (SqL.of hps2) fun q1 H3 hq1 s3 e1 => ?_
    have S3 := S2.mono s3
    walk_at "q"
    refine ⟨sz rfl, fun q2 hq2 => ?_⟩; generalize hNq2 : upd _ q2 _ = H4; obtain ⟨s4, e2⟩ := nws hNq2 hq2
    walk_at "q"
    refine ⟨st, a, ns, 2, rfl, S3.mono s4, by decide, by decide, fun y4 H5 y40 y41 s5 S5 => ?_⟩
    obtain ⟨y', hy', hyy'⟩ := pick2 (u := .str "red") (v := .str "blue") y40 y41
    refine x_ixL (SqL.of (s5 _ _ (S3.neN hq2) e2)) hy' ?_
    obtain ⟨b, rfl⟩ : ∃ b : Bool, y' = .str (roomS b) := by
      rcases hyy' with ⟨_, e⟩ | ⟨_, e⟩
      · exact ⟨true, e⟩
      · exact ⟨false, e⟩
    walk_at "q"
    refine ⟨st, a, ns, h + 1, rfl, S5, by omega, by omega, fun n H6 n0 n1 s6 S6 => ?_⟩
    walk_at "q"
    refine ⟨sz rfl, fun t ht => ?_⟩; generalize hNt : upd _ t _ = H7; obtain ⟨s7, e7⟩ := nws hNt ht
    walk_at "q"
    refine ⟨sz rfl, fun u hu => ?_⟩; generalize hNu : upd _ u _ = H8; obtain ⟨s8, e8⟩ := nws hNu hu
    have nq1 : q1 ≠ st := S2.neN hq1
    have s48 : SameB st H3 H8 := (SameB.of s4).trans (s5.trans (s6.trans ((SameB.of s7).trans (SameB.of s8))))
    refine n_plusL (s48 _ _ nq1 e1) e8 (sz5 (by have := cl none (some z2); show _ + 1 ≤ _; omega)) fun r1 H9 hr1 s9 e9 => ?_
    walk_at "q"
    have s39 : SameB st H2 H9 := (SameB.of s3).trans (s48.trans (SameB.of s9))
    refine n_slL (SqL.of (s39 _ _ hrst hps2)) fun q4 HA hq4 sA eA => ?_
    refine n_plusL (sA _ _ e9) eA (sz5 (by have := cl none (some z2); have := cl (some z2) none; rw [List.length_append]; show _ + 1 + _ ≤ _; omega)) fun r2 HB hr2 sB eB => ?_
    have s2B : SameB st H2 HB := s39.trans ((SameB.of sA).trans (SameB.of sB))
    have pB := StepsAt.monoB S2 s2B hpl2
    have SB : StAt K HB st a ns := (((((S6.mono s7).mono s8).mono s9).mono sA).mono sB)
    have SA : StAt K HA st a ns := ((((S6.mono s7).mono s8).mono s9).mono sA)
    refine k r2 HB _ _ (s02.trans s2B) SB (SA.neN hr2) eB (pr_app (pr_app (pr_cut none (some z2) pB) (StepsAt.put (.mt b n) (sB _ _ (sA _ _ (s9 _ _ (s8 _ _ e7)))) .nil)) (pr_cut (some z2) none pB)) ?_ ?_
    · have := cl2 (HT.sIx ps.length 0 none) (HT.sIx ps.length ps.length (some z2) - HT.sIx ps.length 0 none)
      have := cl2 (HT.sIx ps.length 0 (some z2)) (HT.sIx ps.length ps.length none - HT.sIx ps.length 0 (some z2))
      rw [List.length_append, List.length_append]
      show _ + 1 + _ ≤ 40
      omega
    · refine fits_app (fits_app (cf _ _) fun b' n' hm => ?_) (cf _ _)
      cases List.mem_singleton.mp hm
      omega
  walk_at "q"
  refine x_ifd (fun e0 => ?_) fun e0 => ?_
  · walk_at "q"
    refine n_slL (SqL.of hps2) fun q1 H3 hq1 s3 e1 => ?_
    walk_at "q"
    refine n_slL (SqL.of (s3 _ _ hps2)) fun q2 H4 hq2 s4 e2 => ?_
    refine n_plusL (s4 _ _ e1) e2 (sz5 (by have := cl none (some z2); have := cl (some (z2 + 1)) none; omega)) fun r1 H5 hr1 s5 e5 => ?_
    have sA := s3.trans (s4.trans s5)
    have pA := hpl2.mono sA
    refine fin r1 H5 _ _ ((s3.trans s4).free hr1) sA e5 (pr_app (pr_cut none (some z2) pA) (pr_cut (some (z2 + 1)) none pA)) ?_ ?_
    · have := cl2 (HT.sIx ps.length 0 none) (HT.sIx ps.length ps.length (some z2) - HT.sIx ps.length 0 none)
      have := cl2 (HT.sIx ps.length 0 (some (z2 + 1))) (HT.sIx ps.length ps.length none - HT.sIx ps.length 0 (some (z2 + 1)))
      rw [List.length_append]
      omega
    · exact fits_app (cf _ _) (cf _ _)
  walk_at "q"
  refine x_ifd (fun e0 => ?_) fun e0 => ?_
  · walk_at "q"
    refine ⟨st, a, ns, 5, h, rfl, S2, by decide, by decide, h0, h1, fun r5 H5 ps5 l5 hr5 s5 S5 hr5st hps5 hpl5 hll5 hfl5 => ?_⟩
    exact k r5 H5 ps5 l5 (s02.trans s5) S5 hr5st hps5 hpl5 (by omega) hfl5
  · walk_at "q"
    exact k r H2 ps l s02 S2 hrst hps2 hpl2 (by omega) hfl
/-- the simulations differ -/
def spDi (K : PySem.W.Frag) : Sp := fun vs H Q _ => ∃ (r q : Addr) (ps qs : List V) (l m : List Stp) (c x : Int), vs = [.ref r, .ref q, .int c, .int x] ∧ H r = some (.lst ps) ∧ StepsAt H ps l ∧ l.length ≤ 10000 ∧ H q = some (.lst qs) ∧ StepsAt H qs m ∧ m.length ≤ 10000 ∧
  ∀ H', Same H H' → Q (.bl (!decide ((playC (x, c - x) l).sum = (playC (x, c - x) m).sum ∧ (playS (x, c - x) l).1 = (playS (x, c - x) m).1))) H'
theorem ok__law_differ (W : Wd K mg) : FnR P w K mg base CX0 2 (ga K "_law_differ") (spDi K) := by
  refine (def_ok W.F__law_differ sc__law_differ (fun _ _ _ _ _ _ us hl => match us, hl with | [_, _, _, _], _ => rfl) (fun vs H Q E ⟨r, q, ps, qs, l, m, c, x, ev, _⟩ => by rw [ev]; rfl) fun cdv A outer s H vs Q E hr ⟨r, q, ps, qs, l, m, c, x, ev, hps, hpl, hll, hqs, hqm, hmm, k⟩ => ?_).2
  subst ev
  refine ⟨_, PSs.nox (pss_cons (ps_par (i := 4) (j := 5) (by rfl) sc__law_differ.nd rfl rfl (by decide) rfl rfl (pa_cons (pe_callR (ok__law_played W) (hr.mono (by decide)) W.g__law_played W.k__law_played pass0 rfl (pa_cons (pv 0) (pa_cons (pv 2) (pa_cons (pv 3) pa_nil)))) (pa_cons (pe_callR (ok__law_played W) (hr.mono (by decide)) W.g__law_played W.k__law_played pass0 rfl (pa_cons (pv 1) (pa_cons (pv 2) (pa_cons (pv 3) pa_nil)))) pa_nil)) (by rfl)) (pss_one (ps_ret (pe_cmpR (op_neK K hr.units) (pe_tup (pa_cons (pe_callB (c_sumK K rfl) (by rfl) W.f_sum (by decide +kernel) (pa_cons (pe_ix (ix_K K) (pv 4) pe_int (fun _ _ => rfl)) pa_nil)) (pa_cons (pe_ix (ix_K K) (pv 4) pe_int (fun _ _ => rfl)) pa_nil))) (pe_tup (pa_cons (pe_callB (c_sumK K rfl) (by rfl) W.f_sum (by decide +kernel) (pa_cons (pe_ix (ix_K K) (pv 5) pe_int (fun _ _ => rfl)) pa_nil)) (pa_cons (pe_ix (ix_K K) (pv 5) pe_int (fun _ _ => rfl)) pa_nil))) (nomark _))))), ?_⟩
  walk_at "q"
  refine ⟨r, ps, l, c, x, rfl, hps, hpl, hll, fun t1 q1 H1 hq1 ht1 s1 e1 e2 => ?_⟩
  walk_at "q"
  refine ⟨q, qs, m, c, x, rfl, s1 _ _ hqs, hqm.mono s1, hmm, fun t2 q2 H2 hq2 ht2 s2 e3 e4 => ?_⟩
  walk_at "q"
  refine ⟨_, _, rfl, ?_⟩
  walk_at "q"
  refine x_ixT (SqT.of (s2 _ _ e1)) (i := 0) rfl ?_
  walk_at "q"
  refine x_sum (SqL.of (s2 _ _ e2)) ?_
  walk_at "q"
  refine x_ixT (SqT.of (s2 _ _ e1)) (i := 1) rfl ?_
  walk_at "q"
  refine ⟨sz rfl, fun u1 hu1 => ?_⟩; generalize hNu1 : upd _ u1 _ = H3; obtain ⟨s3, e5⟩ := nws hNu1 hu1
  walk_at "q"
  refine x_ixT (SqT.of (s3 _ _ e3)) (i := 0) rfl ?_
  walk_at "q"
  refine x_sum (SqL.of (s3 _ _ e4)) ?_
  walk_at "q"
  refine x_ixT (SqT.of (s3 _ _ e3)) (i := 1) rfl ?_
  walk_at "q"
  refine ⟨sz rfl, fun u2 hu2 => ?_⟩; generalize hNu2 : upd _ u2 _ = H4; obtain ⟨s4, e6⟩ := nws hNu2 hu2
  refine x_neP (s4 _ _ e5) e6 ?_
  exact k _ (s1.trans (s2.trans (s3.trans s4)))
end
end K05

set_option Elab.async false
set_option linter.all false
set_option autoImplicit false
set_option maxRecDepth 100000
set_option pp.maxSteps 1500
set_option maxHeartbeats 4000000
namespace K05
open PySem PySem.Spec PyProof.Rows L2 He ChH Ch ChM
theorem firstD_comm {c : Int} {e f : Eff} {o : Option Int} (h : FirstD c e f o) : FirstD c f e o := by
  cases o with
  | none => exact fun y y0 y1 z => h y y0 y1 (difE_comm.mp z)
  | some x =>
    obtain ⟨x0, x1, xd, xm⟩ := h
    exact ⟨x0, x1, difE_comm.mp xd, fun y y0 y1 z => xm y y0 y1 (difE_comm.mp z)⟩
theorem firstD_snoc {i : Nat} {e f : Eff} {gs : List Int} (h : FirstD ((i : Int) - 1) e f gs.head?) :
    (difE e f (i : Int) → FirstD ((i + 1 : Nat) - 1 : Int) e f (gs ++ [(i : Int)]).head?) ∧ (¬ difE e f (i : Int) → FirstD ((i + 1 : Nat) - 1 : Int) e f gs.head?) := by
  have ei : ((i + 1 : Nat) - 1 : Int) = (i : Int) := by omega
  rw [ei]
  cases gs with
  | nil =>
    refine ⟨fun hd => ⟨by omega, Int.le_refl _, hd, fun y y0 y1 => h y y0 (by omega)⟩, fun hd y y0 y1 => ?_⟩
    by_cases hy : y = (i : Int)
    · rw [hy]
      exact hd
    · exact h y y0 (by omega)
  | cons g r =>
    obtain ⟨x0, x1, xd, xm⟩ := h
    exact ⟨fun _ => ⟨x0, by omega, xd, xm⟩, fun _ => ⟨x0, by omega, xd, xm⟩⟩
theorem dif_play {c x : Int} {l m : List Stp} (hl : fitsS c l) (hm : fitsS c m) (h0 : 0 ≤ x) (h1 : x ≤ c) :
    (!decide ((playC (x, c - x) l).sum = (playC (x, c - x) m).sum ∧ (playS (x, c - x) l).1 = (playS (x, c - x) m).1)) = decide (difE (effOf c l) (effOf c m) x) := by
  obtain ⟨a1, a2⟩ := summary_right hl h0 h1
  obtain ⟨b1, b2⟩ := summary_right hm h0 h1
  rw [a1, a2, b1, b2]
  unfold difE
  by_cases h : (effOf c l).carried x = (effOf c m).carried x ∧ (effOf c l).fin x = (effOf c m).fin x
  · simp [h]
  · simp [h]
/-- where the starts of a large house end -/
def limD (c : Int) : Option Int → Int
  | none => c + 1
  | some x => x
theorem limD_ok {c : Int} {e f : Eff} {o : Option Int} (h : FirstD c e f o) (hc : 0 ≤ c) : 0 ≤ limD c o ∧ limD c o ≤ c + 1 ∧ ∀ y, 0 ≤ y → y < limD c o → ¬ difE e f y := by
  cases o with
  | none => exact ⟨by show 0 ≤ c + 1; omega, Int.le_refl _, fun y y0 y1 => h y y0 (by have : y < c + 1 := y1; omega)⟩
  | some x => exact ⟨h.1, by have := h.2.1; show x ≤ c + 1; omega, h.2.2.2⟩
local macro_rules | `(tactic| walk_at "x1") => `(tactic| first
  | ((with_reducible apply x_var); exact rfl)
  | with_reducible refine x_c ?_
  | with_reducible refine x_op ?_
  | with_reducible refine x_seq ?_
  | with_reducible refine x_asg ?_
  | with_reducible refine x_gname ?_
  | with_reducible refine x_cons ?_
  | with_reducible refine x_nil ?_
  | with_reducible refine x_fld ?_
  | with_reducible refine x_ret ?_
  | with_reducible refine x_ifS ?_
  | with_reducible refine x_test ?_
  | with_reducible refine x_ex ?_
  | with_reducible refine x_call ?_
  | with_reducible refine x_mk ?_
  | with_reducible refine x_meth ?_
  | with_reducible refine x_prop ?_
  | with_reducible refine x_cb ?_
  | with_reducible refine x_tup ?_
  | with_reducible refine x_lst ?_
  | with_reducible refine x_drop ?_
  | with_reducible refine x_for ?_
  | with_reducible refine x_iL ?_
  | with_reducible refine x_iT ?_
  | with_reducible refine x_iE ?_
  | with_reducible refine x_iU ?_
  | with_reducible refine x_iR1 ?_
  | with_reducible refine x_iR2 ?_
  | with_reducible refine x_gcons ?_
  | with_reducible refine x_gnil ?_
  | with_reducible refine x_par ?_
  | with_reducible refine x_lstRg ?_
  | with_reducible refine x_rg1 ?_
  | with_reducible refine x_rg1At ?_
  | with_reducible refine x_par3 ?_
  | with_reducible refine x_bm ?_
  | with_reducible refine x_bm0 ?_
  | with_reducible refine x_gSub ?_
  | with_reducible refine x_lc ?_
  | with_reducible refine x_yes ?_
  | with_reducible refine x_setf ?_
  | with_reducible refine x_next ?_
  | with_reducible refine x_B ?_
  | with_reducible refine x_and ?_
  | with_reducible refine x_or ?_
  | with_reducible refine x_not ?_
  | with_reducible refine x_andV ?_
  | with_reducible refine x_orV ?_
  | with_reducible refine x_notV ?_
  | with_reducible refine x_ifE ?_
  | with_reducible refine x_chain ?_
  | with_reducible refine x_chain3 ?_
  | with_reducible refine x_un ?_
  | with_reducible refine x_isNe ?_
  | with_reducible refine x_notNe ?_
  | with_reducible refine x_starA ?_
  | with_reducible refine x_plusI ?_
  | with_reducible refine x_minus ?_
  | with_reducible refine x_lt ?_
  | with_reducible refine x_le ?_
  | with_reducible refine x_gt ?_
  | with_reducible refine x_ge ?_
  | with_reducible refine x_eqI ?_
  | with_reducible refine x_neI ?_
  | with_reducible refine x_eqS ?_
  | with_reducible refine x_eqB ?_
  | with_reducible refine x_neB ?_
  | with_reducible refine x_int ?_
  | with_reducible refine x_intB ?_
  | with_reducible refine x_max2 ?_
  | with_reducible refine x_min2 ?_
  | with_reducible refine x_max3 ?_
  | with_reducible refine x_abs ?_
  | with_reducible refine x_neg ?_
  | with_reducible refine x_isi_ii ?_
  | with_reducible refine x_isi_ib ?_
  | with_reducible refine x_T ?_
  | with_reducible refine x_nT ?_
  | with_reducible refine x_nF ?_
  | with_reducible refine x_F ?_)
local macro_rules | `(tactic| walk_at "x") => `(tactic| repeat walk_at "x1")

local macro_rules | `(tactic| walk_at "q1") => `(tactic| first
  | walk_at "x1"
  | with_reducible refine x_sl ?_
  | with_reducible refine x_noPart ?_
  | with_reducible refine x_part ?_
  | with_reducible refine x_partI ?_)
local macro_rules | `(tactic| walk_at "q") => `(tactic| repeat walk_at "q1")

section
variable {P : Program} {w : World} {K : PySem.W.Frag} {mg : Str → Option Value} {base : Heap}
abbrev lawLv : Nat := 7
def spLaw (K : PySem.W.Frag) : Sp := fun vs H Q _ => ∃ (a : Addr) (ns : List Int), vs = [.ref a] ∧ SqL K H a (ns.map V.int) ∧ ∀ H', Q (.bl true) H'
theorem ok_law (W : Wd K mg) : FnOk P w K mg base CX0 lawLv (ga K "law") (fdOf K (ga K "law")) ["_law_script"] (spLaw K) := by
  refine (def_ok W.F_law sc_law (fun _ _ _ _ _ _ us hl => match us, hl with | [_], _ => rfl) (fun vs H Q E ⟨a, ns, ev, _⟩ => by rw [ev]; rfl) fun cdv A outer s H vs Q E hr ⟨a, ns, ev, hs, k⟩ => ?_).1
  subst ev
  refine ⟨_, PSs.nox (pss_cons (ps_set (i := 1) sc_law.nd rfl (Or.inr rfl) (pe_callR (ok__law_start W) (hr.mono (by decide)) W.g__law_start W.k__law_start pass0 rfl (pa_cons (pv 0) pa_nil))) (pss_cons (ps_for PassesOwn.never rfl (pi_range1 (by rfl) W.f_range (pa_cons pe_int pa_nil)) (pg_name (i := 2) sc_law.nd rfl (Or.inl rfl)) (pss_cons (ps_set (i := 3) sc_law.nd rfl (Or.inr rfl) (pe_ix (ix_K K) (pe_lst (pa_cons (pe_callR (ok__law_drawn W) (hr.mono (by decide)) W.g__law_drawn W.k__law_drawn pass0 rfl (pa_cons (pv 1) (pa_cons pe_int pa_nil))) (pa_cons (pe_op op_powP pe_int pe_int) pa_nil))) (pe_op op_divP (pe_callR (ok__law_drawn W) (hr.mono (by decide)) W.g__law_drawn W.k__law_drawn pass0 rfl (pa_cons (pv 1) (pa_cons pe_int pa_nil))) pe_int) (fun _ _ => rfl))) (pss_cons (ps_set (i := 4) sc_law.nd rfl (Or.inr rfl) (pe_callR (ok__law_random_steps W) (hr.mono (by decide)) W.g__law_random_steps W.k__law_random_steps pass0 rfl (pa_cons (pv 1) (pa_cons pe_int (pa_cons (pv 3) pa_nil))))) (pss_cons (ps_set (i := 5) sc_law.nd rfl (Or.inr rfl) (pe_callR (ok__law_other W) (hr.mono (by decide)) W.g__law_other W.k__law_other pass0 rfl (pa_cons (pv 1) (pa_cons (pv 4) (pa_cons (pv 3) pa_nil))))) (pss_cons (ps_set (i := 6) sc_law.nd rfl (Or.inl rfl) (pe_callR (ok_first_difference W) (hr.mono (by decide)) W.g_first_difference W.k_first_difference pass0 rfl (pa_cons (pe_callR (ok__law_plan W) (hr.mono (by decide)) W.g__law_plan W.k__law_plan pass0 rfl (pa_cons (pv 4) pa_nil)) (pa_cons (pe_callR (ok__law_plan W) (hr.mono (by decide)) W.g__law_plan W.k__law_plan pass0 rfl (pa_cons (pv 5) pa_nil)) (pa_cons (pv 3) pa_nil))))) (pss_cons (ps_if (pt_cmpR op_ltI (pv 3) pe_int (nomark _)) (pss_cons (ps_setLc (i := 7) (own := [("_law_start_here", 10)]) (g := gName 10) rfl sc_law.nd rfl rfl (sw_true rfl rfl rfl (by decide +kernel)) (pi_range1 (by rfl) W.f_range (pa_cons (pe_op op_plus (pv 3) pe_int) pa_nil)) (blkOk_by (own := [("_law_start_here", 10)]) (N := N_law) (sc := defScope s_law) (by decide +kernel)) (fun _ _ _ _ _ => (pg_name (i := 10) sc_law.nd rfl (Or.inl rfl))) (fun _ _ _ _ _ => (pts_one (pt_val (pe_callR (ok__law_differ W) (hr.mono (by decide)) W.g__law_differ W.k__law_differ pass0 rfl (pa_cons (pv 4) (pa_cons (pv 5) (pa_cons (pv 3) (pa_cons (pv 10) pa_nil)))))))) (fun _ _ _ _ _ => (pv 10))) (pss_one (ps_if (pt_cmpR (op_neK K hr.units) (pv 6) (pe_ifExp (pt_cmpR (op_neK K hr.units) (pv 7) (pe_lst pa_nil) (nomark _)) (pe_ix (ix_K K) (pv 7) pe_int (fun _ _ => rfl)) pe_non) (nomark _)) (pss_one (ps_ret pe_bl)) pss_nil))) (pss_cons (ps_set (i := 8) sc_law.nd rfl (Or.inr rfl) (pe_ifExp (pt_cmp (pc_isN (pv 6))) (pe_op op_plus (pv 3) pe_int) (pv 6))) (pss_cons (ps_if (PW.pt (pw_and (pt_cmp (pc_notN (pv 6))) (pw_and1 (pt_not (pt_val (pe_callR (ok__law_differ W) (hr.mono (by decide)) W.g__law_differ W.k__law_differ pass0 rfl (pa_cons (pv 4) (pa_cons (pv 5) (pa_cons (pv 3) (pa_cons (pv 6) pa_nil)))))))))) (pss_one (ps_ret pe_bl)) pss_nil) (pss_cons (ps_set (i := 9) sc_law.nd rfl (Or.inl rfl) (pe_ifExp (pt_cmpR op_gtI (pv 8) pe_int (nomark _)) (pe_op op_plus (pe_lc (own := [("_law_k", 11)]) (g := gName 11) (tt := tYes) rfl sc_law.nd (pi_range1 (by rfl) W.f_range (pa_cons pe_int pa_nil)) (blkOk_by (own := [("_law_k", 11)]) (N := N_law) (sc := defScope s_law) (by decide +kernel)) (fun _ _ _ _ _ => (pg_name (i := 11) sc_law.nd rfl (Or.inl rfl))) (fun _ _ _ _ _ => pts_nil) (fun _ _ _ _ _ => (pe_callR (ok__law_drawn W) (hr.mono (by decide)) W.g__law_drawn W.k__law_drawn pass0 rfl (pa_cons (pv 1) (pa_cons (pv 8) pa_nil))))) (pe_lst (pa_cons (pe_op op_minus (pv 8) pe_int) (pa_cons pe_int pa_nil)))) (pe_lst pa_nil))) (pss_one (ps_if (pt_cmpR (op_neK K hr.units) (pe_lc (own := [("_law_start_here", 10)]) (g := gName 10) rfl sc_law.nd (pi_listK K (pv 9)) (blkOk_by (own := [("_law_start_here", 10)]) (N := N_law) (sc := defScope s_law) (by decide +kernel)) (fun _ _ _ _ _ => (pg_name (i := 10) sc_law.nd rfl (Or.inl rfl))) (fun _ _ _ _ _ => (pts_one (pt_val (pe_callR (ok__law_differ W) (hr.mono (by decide)) W.g__law_differ W.k__law_differ pass0 rfl (pa_cons (pv 4) (pa_cons (pv 5) (pa_cons (pv 3) (pa_cons (pv 10) pa_nil)))))))) (fun _ _ _ _ _ => (pv 10))) (pe_lst pa_nil) (nomark _)) (pss_one (ps_ret pe_bl)) pss_nil)))))) (pss_one (ps_if (pt_cmpR (op_neK K hr.units) (pe_callR (ok_first_difference W) (hr.mono (by decide)) W.g_first_difference W.k_first_difference pass0 rfl (pa_cons (pe_callR (ok__law_plan W) (hr.mono (by decide)) W.g__law_plan W.k__law_plan pass0 rfl (pa_cons (pv 5) pa_nil)) (pa_cons (pe_callR (ok__law_plan W) (hr.mono (by decide)) W.g__law_plan W.k__law_plan pass0 rfl (pa_cons (pv 4) pa_nil)) (pa_cons (pv 3) pa_nil)))) (pv 6) (nomark _)) (pss_one (ps_ret pe_bl)) pss_nil)))))))) (pss_one (ps_ret pe_bl)))), ?_⟩
  walk_at "q"
  refine ⟨a, ns, rfl, hs, fun st H0 hst s0 S0 => ?_⟩
  walk_at "q"
  refine x_iR1At (by decide) (by decide) ?_
  refine x_loop walk_range (fun i σ H1 => StAt K H1 st a ns ∧ ∃ b c d e f g h i j l, σ = [some (.ref a), some (.ref st), b, c, d, e, f, g, h, i, j, l]) ⟨S0, _, _, _, _, _, _, _, _, _, _, rfl⟩ (fun _ _ _ _ _ => trivial) ?_ ?_
  · rintro i y σ H2 H1 hi ⟨S1, b, c, d, e, f, g, h, i2, j2, l2, rfl⟩ ⟨rfl, rfl⟩
    walk_at "q"
    refine ⟨st, a, ns, 13, rfl, S1, by decide, by decide, fun z1 H2 z10 z11 s2 S2 => ?_⟩
    walk_at "q"
    refine x_pow ⟨by decide, by decide, by decide⟩ ?_
    walk_at "q"
    refine ⟨sz rfl, fun q1 hq1 => ?_⟩; generalize hNq1 : upd _ q1 _ = H3; obtain ⟨s3, e3⟩ := nws hNq1 hq1
    walk_at "q"
    refine ⟨st, a, ns, 3, rfl, S2.mono s3, by decide, by decide, fun z2 H4 z20 z21 s4 S4 => ?_⟩
    walk_at "q"
    refine x_div (divW (by decide) (by decide)) ?_
    have hq4 := s4 q1 _ (S2.neN hq1) e3
    obtain ⟨y, hy, hyy⟩ := pick2 (u := .int z1) (v := .int (10 ^ ((18 : Int).toNat))) (z := z2 / 2) (by omega) (by omega)
    refine x_ixL (SqL.of hq4) hy ?_
    have ey : ∃ n : Int, y = .int n ∧ 0 ≤ n ∧ n ≤ 1000000000000000000 := by
      have e18 : (10 : Int) ^ ((18 : Int).toNat) = 1000000000000000000 := by decide
      rcases hyy with ⟨_, e⟩ | ⟨_, e⟩
      · exact ⟨z1, e, z10, by omega⟩
      · rw [e18] at e
        exact ⟨_, e, by omega, by omega⟩
    obtain ⟨hh, rfl, h0, h1⟩ := ey
    walk_at "q"
    refine ⟨st, a, ns, 6, hh, rfl, S4, by decide, by decide, h0, h1, fun r H5 ps l hr5 s5 S5 hrst hps hpl hll hfl => ?_⟩
    walk_at "q"
    refine ⟨st, a, r, ns, hh, ps, l, rfl, S5, hps, hpl, by omega, hfl, hrst, h0, h1, fun q H6 qs m s6 S6 hqst hqs hqm hmm hfm => ?_⟩
    have hps6 := s6 _ _ hrst hps
    have hpl6 := StepsAt.monoB S5 s6 hpl
    have gl : goodP l := ⟨fun s hs b n e => by subst e; have := hfl b n hs; omega, by omega⟩
    have gm : goodP m := ⟨fun s hs b n e => by subst e; have := hfm b n hs; omega, by omega⟩
    walk_at "q"
    refine ⟨r, ps, l, rfl, hps6, hpl6, gl, fun x1 H7 hx1 s7 P7 => ?_⟩
    walk_at "q"
    refine ⟨q, qs, m, rfl, s7 _ _ hqs, hqm.mono s7, gm, fun x2 H8 hx2 s8 P8 => ?_⟩
    walk_at "q"
    refine ⟨x1, x2, hh, l, m, rfl, P7.mono s8, P8, by omega, by omega, h0, h1, hfl, hfm, fun o H9 s9 ho => ?_⟩
    have s69 := s7.trans (s8.trans s9)
    have S9 := S6.mono s69
    have hps9 := s69 _ _ hps6
    have hqs9 := s69 _ _ hqs
    have hpl9 := hpl6.mono s69
    have hqm9 := hqm.mono s69
    walk_at "q"
    refine x_ifMd (fun σ H' => SameB st H9 H' ∧ StAt K H' st a ns ∧ ∃ b c d e f g, σ = [some (.ref a), some (.ref st), b, some (.int hh), some (.ref r), some (.ref q), some (goalV o), c, d, e, f, g]) (fun hsm N kN => ?small) (fun hbig N kN => ?large) ?rest
    case rest =>
      rintro σ HA ⟨sA, SA, b, c, d, e, f, g, rfl⟩
      have hpsA := sA _ _ hrst hps9
      have hqsA := sA _ _ hqst hqs9
      have hplA := StepsAt.monoB S9 sA hpl9
      have hqmA := StepsAt.monoB S9 sA hqm9
      walk_at "q"
      refine ⟨q, qs, m, rfl, hqsA, hqmA, gm, fun x1 H7 hx1 s7 P7 => ?_⟩
      walk_at "q"
      refine ⟨r, ps, l, rfl, s7 _ _ hpsA, hplA.mono s7, gl, fun x2 H8 hx2 s8 P8 => ?_⟩
      walk_at "q"
      refine ⟨x1, x2, hh, m, l, rfl, P7.mono s8, P8, by omega, by omega, h0, h1, hfm, hfl, fun o' HB sB ho' => ?_⟩
      obtain rfl : o' = o := firstD_one ho ho'
      walk_at "q"
      refine x_neG ?_
      walk_at "q"
      refine x_ifnd (fun hne => absurd rfl hne) fun _ => ?_
      walk_at "q"
      exact ⟨SA.mono (s7.trans (s8.trans sB)), _, _, _, _, _, _, _, _, _, _, rfl⟩
    case small =>
      walk_at "q"
      refine x_iR1At (by omega) (by omega) ?_
      refine x_lcA walk_range (fun i acc _ => ∃ gs : List Int, acc = gs.map V.int ∧ FirstD ((i : Int) - 1) (effOf hh l) (effOf hh m) gs.head?) (fun _ _ _ _ _ _ _ h => h) (fun _ _ => ⟨[], rfl, fun y y0 y1 => by omega⟩) (by omega) (fun _ _ => trivial) ?_ ?_
      · rintro j y acc HA HB NT NF hT hF hj sA ⟨gs, rfl, hgs⟩ ⟨rfl, rfl⟩
        walk_at "q"
        refine ⟨rfl, ?_⟩
        walk_at "q"
        refine ⟨r, q, ps, qs, l, m, hh, 0 + (j : Int), rfl, sA _ _ hps9, hpl9.mono sA, by omega, sA _ _ hqs9, hqm9.mono sA, by omega, fun HC sC => ?_⟩
        rw [dif_play hfl hfm (by omega) (by omega)]
        rw [Int.zero_add]
        obtain ⟨g1, g2⟩ := firstD_snoc hgs
        walk_at "q"
        refine x_ifd (fun hd => ?_) fun hd => ?_
        · walk_at "q"
          refine hT _ _ sC ⟨gs ++ [(j : Int)], ?_, g1 hd⟩
          rw [List.map_append]
          show _ ++ [V.int (0 + (j : Int))] = _
          rw [Int.zero_add]
          rfl
        · exact hF _ sC ⟨gs, rfl, g2 hd⟩
      · rintro D acc HA hD sA hA ⟨gs, rfl, hgs⟩ _
        have eN : ((hh + 1).toNat : Int) - 1 = hh := by omega
        rw [eN] at hgs
        have eo : o = gs.head? := firstD_one hgs (firstD_comm ho)
        walk_at "q"
        refine ⟨sz rfl, fun u hu => ?_⟩; generalize hNu : upd _ u _ = HB; obtain ⟨sB, eB⟩ := nws hNu hu
        refine x_neL (ns := gs) (ms := []) (SqL.of (sB _ _ hA)) (SqL.of eB) ?_
        cases gs with
        | nil =>
          rw [decide_eq_true (rfl : ([] : List Int) = [])]
          walk_at "q"
          refine x_neG (x := o) (y := none) ?_
          rw [eo]
          rw [decide_eq_true (p := ([] : List Int).head? = none) rfl]
          walk_at "q"
          exact kN _ _ ⟨SameB.of (sA.trans sB), S9.mono (sA.trans sB), _, _, _, _, _, _, by rw [eo]; rfl⟩
        | cons g gr =>
          rw [decide_eq_false (by intro z; cases z)]
          walk_at "q"
          refine x_ixL (SqL.of (sB _ _ hA)) (i := 0) (atI_nat (j := 0) rfl) ?_
          refine x_neG (x := o) (y := some g) ?_
          rw [eo]
          rw [decide_eq_true (p := (g :: gr).head? = some g) rfl]
          walk_at "q"
          exact kN _ _ ⟨SameB.of (sA.trans sB), S9.mono (sA.trans sB), _, _, _, _, _, _, by rw [eo]; rfl⟩
    case large =>
      obtain ⟨L0, L1, Ld⟩ := limD_ok ho h0
      walk_at "q"
      have gn : decide (goalV o = V.non) = decide (o = none) := by cases o <;> rfl
      rw [gn]
      refine x_ifSetd (fun v H' => v = .int (limD hh o) ∧ H9 = H') (fun hn Q' kQ => ?limN) (fun hs Q' kQ => ?limS) ?limR
      case limN =>
        walk_at "q"
        refine kQ _ _ ⟨?_, rfl⟩
        rw [hn]
        rfl
      case limS =>
        walk_at "q"
        refine kQ _ _ ⟨?_, rfl⟩
        cases o with
        | none => exact absurd rfl hs
        | some x => rfl
      case limR =>
        rintro _ _ ⟨rfl, rfl⟩
        refine x_gname ?_
        dsimp only
        refine x_seq ?_
        refine x_skip (fun H' => Same H9 H') (fun QT hQ => ?_) fun HA sA => ?_
        · walk_at "q"
          rw [gn]
          cases o with
          | none =>
            rw [decide_eq_true (rfl : (none : Option Int) = none)]
            walk_at "q"
            exact hQ _ (Same.refl _)
          | some x =>
            rw [decide_eq_false (show ¬ (some x : Option Int) = none by intro z; cases z)]
            walk_at "q"
            refine ⟨r, q, ps, qs, l, m, hh, x, rfl, hps9, hpl9, by omega, hqs9, hqm9, by omega, fun HC sC => ?_⟩
            rw [dif_play hfl hfm ho.1 ho.2.1, decide_eq_true ho.2.2.1]
            walk_at "q"
            exact hQ _ sC
        have SA := S9.mono sA
        walk_at "q"
        refine x_ifSetd (fun v H' => ∃ (u : Addr) (ys : List Int), v = .ref u ∧ SameB st HA H' ∧ StAt K H' st a ns ∧ H' u = some (.lst (ys.map V.int)) ∧ ys.length ≤ 10 ∧ ∀ y ∈ ys, 0 ≤ y ∧ y < limD hh o) (fun hp Q' kQ => ?liY) (fun hz Q' kQ => ?liN) ?behind
        case liN =>
          walk_at "q"
          refine ⟨sz rfl, fun u hu => ?_⟩
          exact kQ _ _ ⟨u, [], rfl, SameB.of (Same.new hu), SA.mono (Same.new hu), upd_same, Nat.zero_le _, fun y hy => nomatch hy⟩
        case liY =>
          walk_at "q"
          refine x_iR1At (by decide) (by decide) ?_
          refine x_lcG walk_range (fun D j HB => StAt K HB st a ns ∧ SameB st HA HB ∧ ∃ xs : List Int, HB D = some (.lst (xs.map V.int)) ∧ xs.length = j ∧ ∀ x ∈ xs, 0 ≤ x ∧ x < limD hh o) (fun D hD => ⟨SA.mono (Same.new hD), SameB.of (Same.new hD), [], upd_same, rfl, fun x hx => nomatch hx⟩) (fun _ _ _ _ _ => trivial) ?_ ?_
          · rintro D j y HB HC hD hj ⟨SB, sB, xs, hxs, hxl, hxb⟩ ⟨rfl, rfl⟩
            have nD : D ≠ st := SA.neN hD
            walk_at "q"
            refine ⟨rfl, ?_⟩
            walk_at "q"
            refine ⟨st, a, ns, limD hh o, rfl, SB, hp, by omega, fun z5 HC z50 z51 s11 S11 => ?_⟩
            obtain ⟨S12, s12⟩ := StAt.putD (o := .lst (xs.map V.int ++ [.int z5])) SA S11 hD (sB.trans s11)
            refine ⟨_, s11 _ _ nD hxs, sz5' (by rw [List.length_map]; have : j < 5 := hj; omega), S12, s12, xs ++ [z5], ?_, by rw [List.length_append, hxl]; rfl, fun x hx => ?_⟩
            · rw [upd_same, List.map_append]
              rfl
            · rcases List.mem_append.mp hx with hx | hx
              · exact hxb x hx
              · rw [List.mem_singleton.mp hx]
                omega
          · rintro D HB hD ⟨SB, sB, xs, hxs, hxl, hxb⟩
            walk_at "q"
            refine ⟨sz rfl, fun q2 hq2 => ?_⟩; generalize hNq2 : upd _ q2 _ = HC; obtain ⟨sC, eC⟩ := nws hNq2 hq2
            refine n_plusL (sC _ _ hxs) eC (sz5 (by rw [List.length_map, hxl]; show 5 + 2 ≤ 100000; decide)) fun q3 HD hq3 sD eD => ?_
            refine kQ _ _ ⟨q3, xs ++ [limD hh o - 1, 0], rfl, sB.trans ((SameB.of sC).trans (SameB.of sD)), (SB.mono sC).mono sD, ?_, by rw [List.length_append, hxl]; show 5 + 2 ≤ 10; decide, fun x hx => ?_⟩
            · rw [eD, List.map_append]
              rfl
            · simp only [List.mem_append, List.mem_cons, List.not_mem_nil, or_false] at hx
              rcases hx with hx | hx | hx
              · exact hxb x hx
              all_goals omega
        case behind =>
          rintro _ HB ⟨u, ys, rfl, sB, SB, hu, hyl, hyb⟩
          have hpsB := sB _ _ hrst (sA _ _ hps9)
          have hqsB := sB _ _ hqst (sA _ _ hqs9)
          have hplB := StepsAt.monoB SA sB (hpl9.mono sA)
          have hqmB := StepsAt.monoB SA sB (hqm9.mono sA)
          walk_at "q"
          refine x_iLAt (SqL.of hu) ?_
          · refine x_lcA walk_list (fun i acc _ => acc = []) (fun _ _ _ _ _ _ _ h => h) (fun _ _ => rfl) (by rw [List.length_map]; omega) (fun H' s' => SqL.of (s' _ _ hu)) ?_ ?_
            · rintro j y acc HC HD NT NF hT hF hj sC rfl ⟨rfl, ey⟩
              rw [List.getElem?_map] at ey
              obtain ⟨x, hx, rfl⟩ := Option.map_eq_some_iff.mp ey
              obtain ⟨x0, x1⟩ := hyb x (List.mem_of_getElem? hx)
              walk_at "q"
              refine ⟨rfl, ?_⟩
              walk_at "q"
              refine ⟨r, q, ps, qs, l, m, hh, x, rfl, sC _ _ hpsB, hplB.mono sC, by omega, sC _ _ hqsB, hqmB.mono sC, by omega, fun HE sE => ?_⟩
              rw [dif_play hfl hfm x0 (by omega), decide_eq_false (Ld x x0 x1)]
              walk_at "q"
              exact hF _ sE rfl
            · rintro D acc HC hD sC hC rfl _
              walk_at "q"
              refine ⟨sz rfl, fun v hv => ?_⟩; generalize hNv : upd _ v _ = HE; obtain ⟨sE, eE⟩ := nws hNv hv
              refine x_neL (ns := []) (ms := []) (SqL.of (sE _ _ hC)) (SqL.of eE) ?_
              rw [decide_eq_true (rfl : ([] : List Int) = [])]
              walk_at "q"
              exact kN _ _ ⟨(SameB.of sA).trans (sB.trans (SameB.of (sC.trans sE))), SB.mono (sC.trans sE), _, _, _, _, _, _, rfl⟩
  · rintro σ H1 ⟨S1, b, c, d, e, f, g, h, i, j, l, rfl⟩
    walk_at "q"
    exact k _
end
end K05

set_option Elab.async false
set_option linter.all false
set_option autoImplicit false
set_option maxRecDepth 100000
set_option pp.maxSteps 1500
namespace K05
open PySem PySem.Spec PyProof.Rows L2 He ChH
theorem facts {P : Program} {w : World} {K : PySem.W.Frag} {h : Heap} {mg : Str → Option Value} {f : Addr} (X : K.In h) (G : h.Ns mainGlobals mg) (hfa : mg ("law" : Str) = some (.ref f)) (c : SaysC faL xsL dfL K) :
    ∃ fd : FuncData, (∀ (s : Shared) (v : Value), BindsTo s fd ⟨[v], []⟩ [("_law_script", v)]) ∧ ∀ base : Heap, K.In base → base.Ns mainGlobals mg → FnOk P w K mg base CX0 lawLv f fd ["_law_script"] (spLaw K) := by
  have W : Wd K mg := ⟨⟨h, X, G⟩, c⟩
  have e := hfa.symm.trans W.g_law
  cases e
  have b := FunD.bindsA (ps := ["_law_script"]) W.F_law fun _ _ _ _ _ _ us hl => match us, hl with | [_], _ => rfl
  exact ⟨_, fun s v => b s [v] rfl, fun base _ _ => ok_law W⟩
end K05
open PySem PySem.W PyProof.Rows
set_option maxRecDepth 100000 in
set_option maxHeartbeats 0 in
theorem PySem.Challenge.cw_chaircarry_k05_first_difference_holds : PySem.Challenge.rw_chaircarry_k05_first_difference.Holds := by
  w_on; o_law
  refine HandSHeadRun.head_any (r := OpenLaw.row PySem.Challenge.rw_chaircarry_k05_first_difference) (q := view (OpenLaw.row PySem.Challenge.rw_chaircarry_k05_first_difference).prog [29]) (H := K05.hk) (ob := K05.ob) (M := 8000) (loose := K05.loose) (d := HandSHeadRun.topDef (OpenLaw.row PySem.Challenge.rw_chaircarry_k05_first_difference).prog 29) (kwd := []) K05.ob_eq
    (by kernel_rfl) (fun s => by kernel_rfl) K05.run (by kernel_rfl) (by kernel_rfl) (by kernel_rfl) (by rfl) (by first | assumption | decide +kernel) (by decide +kernel) ⟨rfl, rfl, rfl, rfl, rfl, by decide +kernel⟩ ?hw ?hc
  case hw => w_witness2
  case hc =>
    refine L2.walk_ofE (l := PySem.Challenge.rw_chaircarry_k05_first_difference) (n := 63) (k := K05.lawLv) (x := "_law_script") (CX := L2.CX0) rfl (by decide) (by kernel_rfl) ⟨rfl, by decide, by decide⟩ ?F (fun _ _ _ _ z => z)
    intro w mg fa h Y G hmg0
    obtain ⟨K, KX, c⟩ := Y
    have hmg : mg ("law" : PySem.Str) = some (.ref fa) := by
      have e : (HandSHeadRun.topDef (OpenLaw.row PySem.Challenge.rw_chaircarry_k05_first_difference).prog 29).name = ("law" : PySem.Str) := by kernel_rfl
      rw [← e]
      exact hmg0
    obtain ⟨fd, hb, hF⟩ := K05.facts (P := (PySem.Challenge.rw_chaircarry_k05_first_difference).prog) (w := w) KX G hmg c
    exact ⟨K, fd, K05.spLaw K, KX, hb, fun H a ns hl _ hS => ⟨a, ns, rfl, hS, fun _ => rfl⟩, hF⟩
#print axioms PySem.Challenge.cw_chaircarry_k05_first_difference_holds
