import PyProof.Rows.All
import Wide.All
import OpenK.AllK
import Wide.FinOn
import KE.KUnpackStar
import HandS.Base
import HandS.Call
import KE.GoesEnum
import HandS.List
import HandS.Iter
import HandS.Walk
import HandS.Flt
import HandS.More
import HandS.Star
import HandS.Property
import HandS.Defaults
import HandS.ClsMeth
import HandS.Words
import HandS.ForMost
import HandS.Exc
import HandS.TryOnly
import HandS.ExcOwn
import HandS.WordsExc
import HandS.IsInst
import HandS.Wide
import HandS.Style
import HandS.Conv
import HandS.Flow
import HandS.Deep
import PyProof.WalkInts
import PyProof.P3Eq
import HandS.Ends
import HandS.HeadHook1
import HandS.HeadHook2
import HandS.HeadHook3
import HandS.HeadNt
import PySem.Challenge.RW_chaircarry_k14_known_houses
import KE.KStateDown
import HandS.Head0
import HandS.Head1
import HandS.Head2
import HandS.HeadEnd
set_option linter.all false
set_option maxRecDepth 100000
set_option maxHeartbeats 4000000
namespace ChM
/-! ### the mirror of plans and effects -/
inductive Stp where
  | turn
  | mt (r : Bool) (n : Int)
  deriving DecidableEq
/-- (side, need) of each step -/
def sides : Int → List Stp → List (Int × Int)
  | _, [] => []
  | s, .turn :: r => (0, 0) :: sides (0 - s) r
  | s, .mt b n :: r => ((if b then s else 0 - s), n) :: sides s r
def fitsS (c : Int) (l : List Stp) : Prop := ∀ b n, Stp.mt b n ∈ l → 0 ≤ n ∧ n ≤ c
def turns : List Stp → Nat
  | [] => 0
  | .turn :: r => turns r + 1
  | .mt _ _ :: r => turns r
def turning (l : List Stp) : Bool := turns l % 2 == 1
structure Eff where
  c : Int
  lo : Int
  hi : Int
  ex : Int
  goal : Option Int
  tu : Bool
def mkE (c lo hi ex : Int) (g : Option Int) (t : Bool) : Eff := ⟨c, lo, hi, ex, if g = none ∧ lo = hi then some lo else g, t⟩
/-- max and min as Python's two-place ones say them -/
def mx (a b : Int) : Int := if b > a then b else a
def mn (a b : Int) : Int := if b < a then b else a
def Eff.atLeast (e : Eff) (n : Int) : Eff := match e.goal with
  | none => if n ≤ e.hi then mkE e.c (mx e.lo n) e.hi 0 none e.tu else mkE e.c e.hi e.hi (n - e.hi) (some n) e.tu
  | some g => if n ≤ g then e else mkE e.c e.lo e.hi (e.ex + n - g) (some n) e.tu
def Eff.mir (e : Eff) : Eff := mkE e.c (e.c - e.hi) (e.c - e.lo) e.ex (e.goal.map fun g => e.c - g) e.tu
def Eff.atMost (e : Eff) (m : Int) : Eff := (e.mir.atLeast (e.c - m)).mir
def Eff.carried (e : Eff) (x : Int) : Int := mx (mx (e.lo - x) (x - e.hi)) 0 + e.ex
def Eff.place (e : Eff) (x : Int) : Int := match e.goal with
  | none => mn (mx x e.lo) e.hi
  | some g => g
def Eff.fin (e : Eff) (x : Int) : Int := if e.tu then e.c - e.place x else e.place x
structure Eff.Ok (e : Eff) : Prop where
  lo0 : 0 ≤ e.lo
  lh : e.lo ≤ e.hi
  hc : e.hi ≤ e.c
  ex0 : 0 ≤ e.ex
  no : e.goal = none → e.ex = 0 ∧ e.lo < e.hi
  yes : ∀ g, e.goal = some g → 0 ≤ g ∧ g ≤ e.c
def nothing (c : Int) : Eff := mkE c 0 c 0 none false
def moved (c x s n : Int) : Int := if s = 1 then mx x n else if s = -1 then mn x (c - n) else x
def effStep (c : Int) (e : Eff) (p : Int × Int) : Eff := if p.1 = 1 then e.atLeast p.2 else if p.1 = -1 then e.atMost (c - p.2) else e
def effFold (c : Int) (l : List (Int × Int)) : Eff := l.foldl (effStep c) (nothing c)
def effOf (c : Int) (l : List Stp) : Eff :=
  let e := effFold c (sides 1 l)
  mkE c e.lo e.hi e.ex e.goal (turning l)
theorem mx_def (a b : Int) : (mx a b = a ∧ b ≤ a) ∨ (mx a b = b ∧ a < b) := by
  unfold mx
  split <;> omega
theorem mn_def (a b : Int) : (mn a b = a ∧ a ≤ b) ∨ (mn a b = b ∧ b < a) := by
  unfold mn
  split <;> omega
theorem mkE_none {c lo hi ex : Int} {t : Bool} (h : lo < hi) : mkE c lo hi ex none t = ⟨c, lo, hi, ex, none, t⟩ := by
  unfold mkE
  rw [if_neg (by omega)]
theorem mkE_eq {c lo ex : Int} {t : Bool} : mkE c lo lo ex none t = ⟨c, lo, lo, ex, some lo, t⟩ := by
  unfold mkE
  rw [if_pos ⟨rfl, rfl⟩]
theorem mkE_some {c lo hi ex g : Int} {t : Bool} : mkE c lo hi ex (some g) t = ⟨c, lo, hi, ex, some g, t⟩ := by
  unfold mkE
  rw [if_neg (by intro h; cases h.1)]
theorem mkE_cases {c lo hi : Int} {t : Bool} (h0 : 0 ≤ lo) (h1 : lo ≤ hi) (h2 : hi ≤ c) :
    (mkE c lo hi 0 none t).Ok ∧ ∀ x, (mkE c lo hi 0 none t).place x = mn (mx x lo) hi := by
  by_cases e : lo = hi
  · subst e
    rw [mkE_eq]
    refine ⟨⟨h0, h1, h2, Int.le_refl 0, (fun z => nomatch z), fun g hg => ?_⟩, fun x => ?_⟩
    · cases hg
      exact ⟨h0, h2⟩
    · show lo = mn (mx x lo) lo
      have := mx_def x lo
      have := mn_def (mx x lo) lo
      omega
  · rw [mkE_none (by omega)]
    exact ⟨⟨h0, h1, h2, Int.le_refl 0, fun _ => ⟨rfl, by show lo < hi; omega⟩, (fun g hg => nomatch hg)⟩, fun x => rfl⟩
theorem Ok_some {c lo hi ex g : Int} {t : Bool} (h0 : 0 ≤ lo) (h1 : lo ≤ hi) (h2 : hi ≤ c) (h3 : 0 ≤ ex) (h4 : 0 ≤ g) (h5 : g ≤ c) : (mkE c lo hi ex (some g) t).Ok := by
  rw [mkE_some]
  exact ⟨h0, h1, h2, h3, (fun z => nomatch z), fun g1 hg => by cases hg; exact ⟨h4, h5⟩⟩
@[simp] theorem mkE_c {c lo hi ex : Int} {g : Option Int} {t : Bool} : (mkE c lo hi ex g t).c = c := rfl
@[simp] theorem mkE_lo {c lo hi ex : Int} {g : Option Int} {t : Bool} : (mkE c lo hi ex g t).lo = lo := rfl
@[simp] theorem mkE_hi {c lo hi ex : Int} {g : Option Int} {t : Bool} : (mkE c lo hi ex g t).hi = hi := rfl
@[simp] theorem mkE_ex {c lo hi ex : Int} {g : Option Int} {t : Bool} : (mkE c lo hi ex g t).ex = ex := rfl
@[simp] theorem mkE_tu {c lo hi ex : Int} {g : Option Int} {t : Bool} : (mkE c lo hi ex g t).tu = t := rfl
theorem place_some {e : Eff} {g x : Int} (h : e.goal = some g) : e.place x = g := by
  unfold Eff.place
  rw [h]
theorem place_none {e : Eff} {x : Int} (h : e.goal = none) : e.place x = mn (mx x e.lo) e.hi := by
  unfold Eff.place
  rw [h]
theorem place_range {e : Eff} (h : e.Ok) {x : Int} (h0 : 0 ≤ x) (h1 : x ≤ e.c) : 0 ≤ e.place x ∧ e.place x ≤ e.c := by
  have a := h.lo0
  have b := h.lh
  have d := h.hc
  cases g : e.goal with
  | none =>
    rw [place_none g]
    have := mx_def x e.lo
    have := mn_def (mx x e.lo) e.hi
    omega
  | some y =>
    rw [place_some g]
    exact h.yes y g
theorem atLeast_ok {e : Eff} (h : e.Ok) {n : Int} (h0 : 0 ≤ n) (h1 : n ≤ e.c) :
    (e.atLeast n).Ok ∧ (e.atLeast n).c = e.c ∧ (e.atLeast n).tu = e.tu ∧ ∀ x, (e.atLeast n).place x = mx (e.place x) n ∧ (e.atLeast n).carried x = e.carried x + (mx (e.place x) n - e.place x) := by
  have a := h.lo0
  have b := h.lh
  have d := h.hc
  cases g : e.goal with
  | none =>
    obtain ⟨z, l⟩ := h.no g
    unfold Eff.atLeast
    rw [g]
    dsimp only
    by_cases q : n ≤ e.hi
    · rw [if_pos q]
      have m := mx_def e.lo n
      obtain ⟨o, p⟩ := mkE_cases (c := e.c) (lo := mx e.lo n) (hi := e.hi) (t := e.tu) (by omega) (by omega) d
      refine ⟨o, rfl, rfl, fun x => ⟨?_, ?_⟩⟩
      · rw [p, place_none g]
        have := mx_def x e.lo
        have := mx_def x (mx e.lo n)
        have := mn_def (mx x (mx e.lo n)) e.hi
        have := mn_def (mx x e.lo) e.hi
        have := mx_def (mn (mx x e.lo) e.hi) n
        omega
      · rw [place_none g]
        unfold Eff.carried
        simp only [mkE_lo, mkE_hi, mkE_ex]
        have := mx_def x e.lo
        have := mn_def (mx x e.lo) e.hi
        have := mx_def (mn (mx x e.lo) e.hi) n
        have := mx_def (mx e.lo n - x) (x - e.hi)
        have := mx_def (mx (mx e.lo n - x) (x - e.hi)) 0
        have := mx_def (e.lo - x) (x - e.hi)
        have := mx_def (mx (e.lo - x) (x - e.hi)) 0
        omega
    · rw [if_neg q]
      refine ⟨Ok_some (by omega) (by omega) d (by omega) h0 h1, rfl, rfl, fun x => ⟨?_, ?_⟩⟩
      · rw [place_none g, mkE_some]
        show n = _
        have := mx_def x e.lo
        have := mn_def (mx x e.lo) e.hi
        have := mx_def (mn (mx x e.lo) e.hi) n
        omega
      · rw [place_none g]
        unfold Eff.carried
        simp only [mkE_lo, mkE_hi, mkE_ex]
        have := mx_def x e.lo
        have := mn_def (mx x e.lo) e.hi
        have := mx_def (mn (mx x e.lo) e.hi) n
        have := mx_def (e.hi - x) (x - e.hi)
        have := mx_def (mx (e.hi - x) (x - e.hi)) 0
        have := mx_def (e.lo - x) (x - e.hi)
        have := mx_def (mx (e.lo - x) (x - e.hi)) 0
        omega
  | some y =>
    obtain ⟨y0, y1⟩ := h.yes y g
    unfold Eff.atLeast
    rw [g]
    dsimp only
    by_cases q : n ≤ y
    · rw [if_pos q]
      refine ⟨h, rfl, rfl, fun x => ?_⟩
      rw [place_some g]
      have := mx_def y n
      omega
    · rw [if_neg q]
      have := h.ex0
      refine ⟨Ok_some a b d (by omega) h0 h1, rfl, rfl, fun x => ⟨?_, ?_⟩⟩
      · rw [place_some g, mkE_some]
        show n = _
        have := mx_def y n
        omega
      · rw [place_some g]
        unfold Eff.carried
        simp only [mkE_lo, mkE_hi, mkE_ex]
        have := mx_def y n
        omega
theorem mir_ok {e : Eff} (h : e.Ok) : e.mir.Ok ∧ e.mir.c = e.c ∧ e.mir.tu = e.tu ∧ ∀ x, e.mir.place x = e.c - e.place (e.c - x) ∧ e.mir.carried x = e.carried (e.c - x) := by
  have a := h.lo0
  have b := h.lh
  have d := h.hc
  have car : ∀ x, e.mir.carried x = e.carried (e.c - x) := fun x => by
    unfold Eff.carried Eff.mir
    simp only [mkE_lo, mkE_hi, mkE_ex]
    have := mx_def (e.c - e.hi - x) (x - (e.c - e.lo))
    have := mx_def (mx (e.c - e.hi - x) (x - (e.c - e.lo))) 0
    have := mx_def (e.lo - (e.c - x)) (e.c - x - e.hi)
    have := mx_def (mx (e.lo - (e.c - x)) (e.c - x - e.hi)) 0
    omega
  cases g : e.goal with
  | none =>
    obtain ⟨z, l⟩ := h.no g
    have em : e.mir = mkE e.c (e.c - e.hi) (e.c - e.lo) 0 none e.tu := by
      unfold Eff.mir
      rw [g, z] <;> rfl
    obtain ⟨o, p⟩ := mkE_cases (c := e.c) (lo := e.c - e.hi) (hi := e.c - e.lo) (t := e.tu) (by omega) (by omega) (by omega)
    refine ⟨by rw [em]; exact o, rfl, rfl, fun x => ⟨?_, car x⟩⟩
    rw [em, p, place_none g]
    have := mx_def x (e.c - e.hi)
    have := mn_def (mx x (e.c - e.hi)) (e.c - e.lo)
    have := mx_def (e.c - x) e.lo
    have := mn_def (mx (e.c - x) e.lo) e.hi
    omega
  | some y =>
    obtain ⟨y0, y1⟩ := h.yes y g
    have em : e.mir = mkE e.c (e.c - e.hi) (e.c - e.lo) e.ex (some (e.c - y)) e.tu := by
      unfold Eff.mir
      rw [g] <;> rfl
    refine ⟨by rw [em]; exact Ok_some (by omega) (by omega) (by omega) h.ex0 (by omega) (by omega), rfl, rfl, fun x => ⟨?_, car x⟩⟩
    rw [em, mkE_some, place_some g] <;> rfl
theorem atMost_ok {e : Eff} (h : e.Ok) {m : Int} (h0 : 0 ≤ m) (h1 : m ≤ e.c) :
    (e.atMost m).Ok ∧ (e.atMost m).c = e.c ∧ (e.atMost m).tu = e.tu ∧ ∀ x, (e.atMost m).place x = mn (e.place x) m ∧ (e.atMost m).carried x = e.carried x + (e.place x - mn (e.place x) m) := by
  obtain ⟨o1, c1, t1, p1⟩ := mir_ok h
  obtain ⟨o2, c2, t2, p2⟩ := atLeast_ok o1 (n := e.c - m) (by omega) (by rw [c1]; omega)
  obtain ⟨o3, c3, t3, p3⟩ := mir_ok o2
  refine ⟨o3, by unfold Eff.atMost; rw [c3, c2, c1], by unfold Eff.atMost; rw [t3, t2, t1], fun x => ?_⟩
  obtain ⟨a3, b3⟩ := p3 x
  rw [c2, c1] at a3 b3
  obtain ⟨a2, b2⟩ := p2 (e.c - x)
  obtain ⟨a1, b1⟩ := p1 (e.c - x)
  have ex : e.c - (e.c - x) = x := by omega
  rw [ex] at a1 b1
  unfold Eff.atMost
  rw [a3, b3, a2, b2, a1, b1]
  have := mx_def (e.c - e.place x) (e.c - m)
  have := mn_def (e.place x) m
  omega
theorem nothing_ok {c : Int} (h : 0 ≤ c) : (nothing c).Ok ∧ ∀ x, 0 ≤ x → x ≤ c → (nothing c).place x = x ∧ (nothing c).carried x = 0 := by
  obtain ⟨o, p⟩ := mkE_cases (c := c) (lo := 0) (hi := c) (t := false) (by omega) h (by omega)
  refine ⟨o, fun x h0 h1 => ⟨?_, ?_⟩⟩
  · show (mkE c 0 c 0 none false).place x = x
    rw [p]
    have := mx_def x 0
    have := mn_def (mx x 0) c
    omega
  · show (mkE c 0 c 0 none false).carried x = 0
    unfold Eff.carried
    simp only [mkE_lo, mkE_hi, mkE_ex]
    have := mx_def (0 - x) (x - c)
    have := mx_def (mx (0 - x) (x - c)) 0
    omega
/-! ### steps one by one -/
def absI (a : Int) : Int := if a < 0 then -a else a
def simP (c : Int) : List (Int × Int) → Int → Int
  | [], x => x
  | p :: r, x => simP c r (moved c x p.1 p.2)
def simC (c : Int) : List (Int × Int) → Int → Int
  | [], _ => 0
  | p :: r, x => absI (moved c x p.1 p.2 - x) + simC c r (moved c x p.1 p.2)
def fits (c : Int) (l : List (Int × Int)) : Prop := ∀ p ∈ l, (p.1 = 1 ∨ p.1 = -1 ∨ p.1 = 0) ∧ 0 ≤ p.2 ∧ p.2 ≤ c
theorem effStep_ok {c : Int} {e : Eff} (h : e.Ok) (hc : e.c = c) {p : Int × Int} (hs : p.1 = 1 ∨ p.1 = -1 ∨ p.1 = 0) (h0 : 0 ≤ p.2) (h1 : p.2 ≤ c) :
    (effStep c e p).Ok ∧ (effStep c e p).c = c ∧ (effStep c e p).tu = e.tu ∧ ∀ x, (effStep c e p).place x = moved c (e.place x) p.1 p.2 ∧
      (effStep c e p).carried x = e.carried x + absI (moved c (e.place x) p.1 p.2 - e.place x) := by
  unfold effStep moved
  rcases hs with s | s | s
  · rw [if_pos s]
    obtain ⟨a, b, d, f⟩ := atLeast_ok h h0 (by omega)
    refine ⟨a, b.trans hc, d, fun x => ?_⟩
    rw [if_pos s, (f x).1, (f x).2]
    refine ⟨rfl, ?_⟩
    unfold absI
    have := mx_def (e.place x) p.2
    split <;> omega
  · rw [if_neg (by omega), if_pos s]
    obtain ⟨a, b, d, f⟩ := atMost_ok h (m := c - p.2) (by omega) (by omega)
    refine ⟨a, b.trans hc, d, fun x => ?_⟩
    rw [if_neg (by omega), if_pos s, (f x).1, (f x).2]
    refine ⟨rfl, ?_⟩
    unfold absI
    have := mn_def (e.place x) (c - p.2)
    split <;> omega
  · rw [if_neg (by omega), if_neg (by omega)]
    refine ⟨h, hc, rfl, fun x => ?_⟩
    rw [if_neg (by omega), if_neg (by omega)]
    refine ⟨rfl, ?_⟩
    unfold absI
    split <;> omega
theorem fold_ok {c : Int} : ∀ (l : List (Int × Int)) (e : Eff), e.Ok → e.c = c → fits c l →
    (l.foldl (effStep c) e).Ok ∧ (l.foldl (effStep c) e).c = c ∧ (l.foldl (effStep c) e).tu = e.tu ∧ ∀ x, (l.foldl (effStep c) e).place x = simP c l (e.place x) ∧ (l.foldl (effStep c) e).carried x = e.carried x + simC c l (e.place x)
  | [], e, h, hc, _ => ⟨h, hc, rfl, fun x => ⟨rfl, by show e.carried x = e.carried x + 0; omega⟩⟩
  | p :: r, e, h, hc, hf => by
    obtain ⟨hs, h0, h1⟩ := hf p List.mem_cons_self
    obtain ⟨a, b, d, f⟩ := effStep_ok h hc hs h0 h1
    obtain ⟨a2, b2, d2, f2⟩ := fold_ok r (effStep c e p) a b fun q hq => hf q (List.mem_cons_of_mem _ hq)
    refine ⟨a2, b2, d2.trans d, fun x => ?_⟩
    rw [List.foldl_cons, (f2 x).1, (f2 x).2, (f x).1, (f x).2]
    refine ⟨rfl, ?_⟩
    show _ = e.carried x + (absI (moved c (e.place x) p.1 p.2 - e.place x) + simC c r (moved c (e.place x) p.1 p.2))
    omega
theorem mkE_self {e : Eff} (h : e.Ok) (t : Bool) : mkE e.c e.lo e.hi e.ex e.goal t = { e with tu := t } := by
  unfold mkE
  cases g : e.goal with
  | none =>
    have := (h.no g).2
    rw [if_neg (by omega)]
  | some y =>
    rw [if_neg (by intro z; cases z.1)]
theorem sides_fits {c : Int} : ∀ (l : List Stp) (s : Int), (s = 1 ∨ s = -1) → 0 ≤ c → fitsS c l → fits c (sides s l)
  | [], _, _, _, _ => fun p hp => nomatch hp
  | .turn :: r, s, hs, h0, h => fun p hp => by
    rcases List.mem_cons.mp hp with e | hp
    · subst e
      exact ⟨.inr (.inr rfl), by show (0 : Int) ≤ 0; omega, h0⟩
    · exact sides_fits r (0 - s) (by omega) h0 (fun b n hm => h b n (List.mem_cons_of_mem _ hm)) p hp
  | .mt b n :: r, s, hs, h0, h => fun p hp => by
    rcases List.mem_cons.mp hp with e | hp
    · subst e
      refine ⟨?_, h b n List.mem_cons_self⟩
      show (if b = true then s else 0 - s) = 1 ∨ (if b = true then s else 0 - s) = -1 ∨ (if b = true then s else 0 - s) = 0
      split <;> omega
    · exact sides_fits r s hs h0 (fun b n hm => h b n (List.mem_cons_of_mem _ hm)) p hp
theorem effOf_ok {c : Int} {l : List Stp} (hc : 0 ≤ c) (hl : fitsS c l) :
    (effOf c l).Ok ∧ (effOf c l).c = c ∧ (effOf c l).tu = turning l ∧ ∀ x, 0 ≤ x → x ≤ c → (effOf c l).place x = simP c (sides 1 l) x ∧ (effOf c l).carried x = simC c (sides 1 l) x := by
  obtain ⟨n0, n1⟩ := nothing_ok hc
  obtain ⟨a, b, d, f⟩ := fold_ok (sides 1 l) (nothing c) n0 rfl (sides_fits l 1 (.inl rfl) hc hl)
  have e : effOf c l = ⟨c, (effFold c (sides 1 l)).lo, (effFold c (sides 1 l)).hi, (effFold c (sides 1 l)).ex, (effFold c (sides 1 l)).goal, turning l⟩ := by
    show mkE c (effFold c (sides 1 l)).lo (effFold c (sides 1 l)).hi (effFold c (sides 1 l)).ex (effFold c (sides 1 l)).goal (turning l) = _
    have h := mkE_self (e := effFold c (sides 1 l)) a (turning l)
    have hb : (effFold c (sides 1 l)).c = c := b
    rw [hb] at h
    exact h
  rw [e]
  have hcc : (effFold c (sides 1 l)).c = c := b
  have hhc : (effFold c (sides 1 l)).hi ≤ c := Int.le_trans a.hc (Int.le_of_eq hcc)
  refine ⟨⟨a.lo0, a.lh, hhc, a.ex0, a.no, fun g hg => ⟨(a.yes g hg).1, Int.le_trans (a.yes g hg).2 (Int.le_of_eq hcc)⟩⟩, rfl, rfl, fun x h0 h1 => ?_⟩
  obtain ⟨p1, p2⟩ := f x
  rw [(n1 x h0 h1).1, (n1 x h0 h1).2] at *
  refine ⟨p1, ?_⟩
  have p2' : (effFold c (sides 1 l)).carried x = 0 + simC c (sides 1 l) x := p2
  show (effFold c (sides 1 l)).carried x = _
  rw [p2']
  omega
end ChM

set_option linter.all false
set_option autoImplicit false
set_option maxRecDepth 100000
set_option maxHeartbeats 4000000
namespace ChM
/-! ### a simulation of the two rooms -/
def play1 (p : Int × Int) : Stp → (Int × Int) × Int
  | .turn => ((p.2, p.1), 0)
  | .mt true n => ((p.1 + mx 0 (n - p.1), p.2 - mx 0 (n - p.1)), mx 0 (n - p.1))
  | .mt false n => ((p.1 - mx 0 (n - p.2), p.2 + mx 0 (n - p.2)), mx 0 (n - p.2))
def playS : Int × Int → List Stp → Int × Int
  | p, [] => p
  | p, s :: r => playS (play1 p s).1 r
def playC : Int × Int → List Stp → List Int
  | _, [] => []
  | p, s :: r => (play1 p s).2 :: playC (play1 p s).1 r
theorem playS_snoc : ∀ (l : List Stp) (p : Int × Int) (s : Stp), playS p (l ++ [s]) = (play1 (playS p l) s).1
  | [], _, _ => rfl
  | x :: r, p, s => playS_snoc r (play1 p x).1 s
theorem playC_snoc : ∀ (l : List Stp) (p : Int × Int) (s : Stp), playC p (l ++ [s]) = playC p l ++ [(play1 (playS p l) s).2]
  | [], _, _ => rfl
  | x :: r, p, s => congrArg (_ :: ·) (playC_snoc r (play1 p x).1 s)
theorem playC_len : ∀ (l : List Stp) (p : Int × Int), (playC p l).length = l.length
  | [], _ => rfl
  | x :: r, p => congrArg (· + 1) (playC_len r (play1 p x).1)
def sideAt : Int → List Stp → Int
  | s, [] => s
  | s, .turn :: r => sideAt (0 - s) r
  | s, .mt _ _ :: r => sideAt s r
theorem sides_len : ∀ (l : List Stp) (s : Int), (sides s l).length = l.length
  | [], _ => rfl
  | .turn :: r, s => congrArg (· + 1) (sides_len r (0 - s))
  | .mt _ _ :: r, s => congrArg (· + 1) (sides_len r s)
theorem sides_snoc : ∀ (l : List Stp) (s : Int) (x : Stp), sides s (l ++ [x]) = sides s l ++ sides (sideAt s l) [x]
  | [], _, _ => rfl
  | .turn :: r, s, x => by show (0, 0) :: sides (0 - s) (r ++ [x]) = (0, 0) :: sides (0 - s) r ++ _; rw [sides_snoc]; rfl
  | .mt b n :: r, s, x => by show (_, n) :: sides s (r ++ [x]) = (_, n) :: sides s r ++ _; rw [sides_snoc]; rfl
theorem sideAt_snoc : ∀ (l : List Stp) (s : Int) (x : Stp), sideAt s (l ++ [x]) = sideAt (sideAt s l) [x]
  | [], _, _ => rfl
  | .turn :: r, s, x => sideAt_snoc r (0 - s) x
  | .mt b n :: r, s, x => sideAt_snoc r s x
theorem turns_app (a b : List Stp) : turns (a ++ b) = turns a + turns b := by
  induction a with
  | nil => show turns b = 0 + turns b; omega
  | cons s r ih =>
    cases s with
    | turn => show turns (r ++ b) + 1 = turns r + 1 + turns b; omega
    | mt c n => exact ih
theorem turns_step {l : List Stp} {i : Nat} {s : Stp} (h : l[i]? = some s) : turns (l.take (i + 1)) = turns (l.take i) + (if s = .turn then 1 else 0) := by
  rw [List.take_add_one, h, turns_app]
  cases s <;> rfl
theorem turns_le : ∀ l : List Stp, turns l ≤ l.length
  | [] => Nat.le_refl _
  | .turn :: r => Nat.succ_le_succ (turns_le r)
  | .mt _ _ :: r => Nat.le_succ_of_le (turns_le r)
theorem sideAt_turns : ∀ (l : List Stp) (s : Int), sideAt s l = if turns l % 2 = 1 then 0 - s else s
  | [], s => rfl
  | .turn :: r, s => by
    show sideAt (0 - s) r = if (turns r + 1) % 2 = 1 then 0 - s else s
    rw [sideAt_turns r (0 - s)]
    by_cases h : turns r % 2 = 1
    · rw [if_pos h, if_neg (by omega)]
      omega
    · rw [if_neg h, if_pos (by omega)]
  | .mt _ _ :: r, s => sideAt_turns r s
theorem sideAt_turning (l : List Stp) : sideAt 1 l = if turning l then -1 else 1 := by
  rw [sideAt_turns]
  unfold turning
  by_cases h : turns l % 2 = 1
  · rw [h]
    rfl
  · rw [if_neg h, beq_false_of_ne h]
    rfl
/-- the place of the room that is red at first -/
def placeOf (s : Int) (p : Int × Int) : Int := if s = 1 then p.1 else p.2
theorem play_sim {c : Int} : ∀ (l : List Stp) (s : Int) (p : Int × Int), (s = 1 ∨ s = -1) → p.1 + p.2 = c →
    (playS p l).1 + (playS p l).2 = c ∧ placeOf (sideAt s l) (playS p l) = simP c (sides s l) (placeOf s p) ∧ (playC p l).sum = simC c (sides s l) (placeOf s p)
  | [], s, p, _, h => ⟨h, rfl, rfl⟩
  | .turn :: r, s, p, hs, h => by
    obtain ⟨a, b, d⟩ := play_sim r (0 - s) (p.2, p.1) (by omega) (by show p.2 + p.1 = c; omega)
    have e : placeOf (0 - s) (p.2, p.1) = placeOf s p := by
      unfold placeOf
      rcases hs with rfl | rfl
      · rw [if_neg (by decide), if_pos rfl]
      · rw [if_pos (by decide), if_neg (by decide)]
    have m : moved c (placeOf s p) 0 0 = placeOf s p := by
      unfold moved
      rw [if_neg (by decide), if_neg (by decide)]
    rw [e] at b d
    refine ⟨a, ?_, ?_⟩
    · show placeOf (sideAt (0 - s) r) (playS (p.2, p.1) r) = simP c (sides (0 - s) r) (moved c (placeOf s p) 0 0)
      rw [m, b]
    · show (0 :: playC (p.2, p.1) r).sum = absI (moved c (placeOf s p) 0 0 - placeOf s p) + simC c (sides (0 - s) r) (moved c (placeOf s p) 0 0)
      rw [m, List.sum_cons, d]
      unfold absI
      rw [if_neg (by omega)]
      omega
  | .mt true n :: r, s, p, hs, h => by
    have hm := mx_def 0 (n - p.1)
    obtain ⟨a, b, d⟩ := play_sim r s (p.1 + mx 0 (n - p.1), p.2 - mx 0 (n - p.1)) hs (by show p.1 + mx 0 (n - p.1) + (p.2 - mx 0 (n - p.1)) = c; omega)
    have m : moved c (placeOf s p) s n = placeOf s (p.1 + mx 0 (n - p.1), p.2 - mx 0 (n - p.1)) ∧ absI (moved c (placeOf s p) s n - placeOf s p) = mx 0 (n - p.1) := by
      unfold moved placeOf absI
      rcases hs with rfl | rfl
      · rw [if_pos rfl, if_pos rfl, if_pos rfl]
        have := mx_def p.1 n
        dsimp only
        split <;> omega
      · rw [if_neg (by decide), if_pos rfl, if_neg (by decide), if_neg (by decide)]
        have := mn_def p.2 (c - n)
        dsimp only
        split <;> omega
    refine ⟨a, ?_, ?_⟩
    · show placeOf (sideAt s r) _ = simP c (sides s r) (moved c (placeOf s p) s n)
      rw [m.1]
      exact b
    · show (mx 0 (n - p.1) :: playC _ r).sum = absI (moved c (placeOf s p) s n - placeOf s p) + simC c (sides s r) (moved c (placeOf s p) s n)
      rw [m.2, m.1, List.sum_cons, ← d]
      rfl
  | .mt false n :: r, s, p, hs, h => by
    have hm := mx_def 0 (n - p.2)
    obtain ⟨a, b, d⟩ := play_sim r s (p.1 - mx 0 (n - p.2), p.2 + mx 0 (n - p.2)) hs (by show p.1 - mx 0 (n - p.2) + (p.2 + mx 0 (n - p.2)) = c; omega)
    have m : moved c (placeOf s p) (0 - s) n = placeOf s (p.1 - mx 0 (n - p.2), p.2 + mx 0 (n - p.2)) ∧ absI (moved c (placeOf s p) (0 - s) n - placeOf s p) = mx 0 (n - p.2) := by
      unfold moved placeOf absI
      rcases hs with rfl | rfl
      · rw [if_neg (by decide), if_pos (by decide), if_pos rfl, if_pos rfl]
        have := mn_def p.1 (c - n)
        dsimp only
        split <;> omega
      · rw [if_pos (by decide), if_neg (by decide), if_neg (by decide)]
        have := mx_def p.2 n
        dsimp only
        split <;> omega
    refine ⟨a, ?_, ?_⟩
    · show placeOf (sideAt s r) _ = simP c (sides s r) (moved c (placeOf s p) (0 - s) n)
      rw [m.1]
      exact b
    · show (mx 0 (n - p.2) :: playC _ r).sum = absI (moved c (placeOf s p) (0 - s) n - placeOf s p) + simC c (sides s r) (moved c (placeOf s p) (0 - s) n)
      rw [m.2, m.1, List.sum_cons, ← d]
      rfl
/-- a summary is right -/
theorem summary_right {c x : Int} {l : List Stp} (hl : fitsS c l) (h0 : 0 ≤ x) (h1 : x ≤ c) :
    (playC (x, c - x) l).sum = (effOf c l).carried x ∧ (playS (x, c - x) l).1 = (effOf c l).fin x := by
  have hc : 0 ≤ c := by omega
  obtain ⟨o, oc, ot, f⟩ := effOf_ok hc hl
  obtain ⟨f1, f2⟩ := f x h0 h1
  obtain ⟨a, b, d⟩ := play_sim (c := c) l 1 (x, c - x) (.inl rfl) (by show x + (c - x) = c; omega)
  have e : placeOf 1 (x, c - x) = x := rfl
  rw [e] at b d
  refine ⟨by rw [d, f2], ?_⟩
  unfold Eff.fin
  rw [f1, ot, ← b, oc, sideAt_turning]
  unfold placeOf
  cases turning l with
  | true =>
    simp
    omega
  | false => simp
end ChM

set_option linter.all false
set_option autoImplicit false
set_option maxRecDepth 100000
set_option maxHeartbeats 4000000
namespace ChM
/-! ### effects one after another, rounds -/
def Eff.later (a b : Eff) : Eff := if a.tu then b.mir else b
def goal2 (x y : Option Int) : Option Int := match y with
  | none => x
  | some g => some g
def Eff.followed (a b : Eff) : Eff := mkE a.c ((a.atLeast (a.later b).lo).atMost (a.later b).hi).lo ((a.atLeast (a.later b).lo).atMost (a.later b).hi).hi (((a.atLeast (a.later b).lo).atMost (a.later b).hi).ex + (a.later b).ex) (goal2 ((a.atLeast (a.later b).lo).atMost (a.later b).hi).goal (a.later b).goal) (!decide (a.tu = b.tu))
theorem after_ok {a l : Eff} (ha : a.Ok) (hl : l.Ok) (hc : l.c = a.c) (t : Bool) :
    ∀ R, R = mkE a.c ((a.atLeast l.lo).atMost l.hi).lo ((a.atLeast l.lo).atMost l.hi).hi (((a.atLeast l.lo).atMost l.hi).ex + l.ex) (goal2 ((a.atLeast l.lo).atMost l.hi).goal l.goal) t →
    R.Ok ∧ ∀ x, R.place x = l.place (a.place x) ∧ R.carried x = a.carried x + l.carried (a.place x) := by
  intro R eR
  have l0 := hl.lo0
  have l1 := hl.lh
  have l2 := hl.hc
  have l3 := hl.ex0
  obtain ⟨o1, c1, t1, f1⟩ := atLeast_ok ha (n := l.lo) l0 (by omega)
  obtain ⟨o2, c2, t2, f2⟩ := atMost_ok o1 (m := l.hi) (by omega) (by omega)
  generalize hF : (a.atLeast l.lo).atMost l.hi = F at *
  have cF : F.c = a.c := c2.trans c1
  have pF : ∀ x, F.place x = mn (mx (a.place x) l.lo) l.hi := fun x => by rw [(f2 x).1, (f1 x).1]
  have kF : ∀ x, F.carried x = a.carried x + (mx (mx (l.lo - a.place x) (a.place x - l.hi)) 0) := fun x => by
    rw [(f2 x).2, (f1 x).1, (f1 x).2]
    have := mx_def (a.place x) l.lo
    have := mn_def (mx (a.place x) l.lo) l.hi
    have := mx_def (l.lo - a.place x) (a.place x - l.hi)
    have := mx_def (mx (l.lo - a.place x) (a.place x - l.hi)) 0
    omega
  have f0 := o2.lo0
  have g1 := o2.lh
  have g2 := o2.hc
  have g3 := o2.ex0
  have lc : ∀ x, l.carried x = mx (mx (l.lo - x) (x - l.hi)) 0 + l.ex := fun x => rfl
  have Fc : ∀ x, F.carried x = mx (mx (F.lo - x) (x - F.hi)) 0 + F.ex := fun x => rfl
  cases gl : l.goal with
  | none =>
    obtain ⟨e0, e1⟩ := hl.no gl
    rw [gl] at eR
    have eR2 : R = mkE a.c F.lo F.hi (F.ex + l.ex) F.goal t := eR
    rw [e0, Int.add_zero] at eR2
    have hR : R = { F with tu := t } := by
      rw [eR2, ← cF]
      exact mkE_self o2 t
    have lp : ∀ x, l.place x = mn (mx x l.lo) l.hi := fun x => place_none gl
    refine ⟨?_, fun x => ?_⟩
    · rw [hR]
      exact ⟨f0, g1, g2, g3, o2.no, o2.yes⟩
    · have q1 : R.place x = F.place x := by rw [hR]; rfl
      have q2 : R.carried x = F.carried x := by rw [hR]; rfl
      rw [q1, q2, pF, kF, lp, lc, e0]
      refine ⟨rfl, by omega⟩
  | some g =>
    obtain ⟨y0, y1⟩ := hl.yes g gl
    rw [gl] at eR
    have eR2 : R = mkE a.c F.lo F.hi (F.ex + l.ex) (some g) t := eR
    refine ⟨?_, fun x => ?_⟩
    · rw [eR2]
      exact Ok_some f0 g1 (by omega) (by omega) y0 (by omega)
    · have q1 : R.place x = g := by rw [eR2, mkE_some]; rfl
      have q2 : R.carried x = F.carried x + l.ex := by
        rw [eR2]
        unfold Eff.carried
        simp only [mkE_lo, mkE_hi, mkE_ex]
        omega
      rw [q1, q2, kF, place_some gl, lc]
      refine ⟨rfl, by omega⟩
theorem later_ok {a b : Eff} (hb : b.Ok) : (a.later b).Ok ∧ (a.later b).c = b.c := by
  obtain ⟨o, c, _, _⟩ := mir_ok hb
  unfold Eff.later
  split
  · exact ⟨o, c⟩
  · exact ⟨hb, rfl⟩
theorem fin_range {e : Eff} (h : e.Ok) {x : Int} (h0 : 0 ≤ x) (h1 : x ≤ e.c) : 0 ≤ e.fin x ∧ e.fin x ≤ e.c := by
  obtain ⟨a, b⟩ := place_range h h0 h1
  unfold Eff.fin
  split <;> omega
theorem carried_nonneg {e : Eff} (h : e.Ok) (x : Int) : 0 ≤ e.carried x := by
  have := h.ex0
  unfold Eff.carried
  have := mx_def (mx (e.lo - x) (x - e.hi)) 0
  omega
theorem followed_ok {a b : Eff} (ha : a.Ok) (hb : b.Ok) (hc : b.c = a.c) :
    (a.followed b).Ok ∧ (a.followed b).c = a.c ∧ (a.followed b).tu = !decide (a.tu = b.tu) ∧ ∀ x, (a.followed b).fin x = b.fin (a.fin x) ∧ (a.followed b).carried x = a.carried x + b.carried (a.fin x) := by
  obtain ⟨lo, lc⟩ := later_ok (a := a) hb
  obtain ⟨o, f⟩ := after_ok ha lo (lc.trans hc) (!decide (a.tu = b.tu)) (a.followed b) rfl
  have cc : (a.followed b).c = a.c := rfl
  have ct : (a.followed b).tu = !decide (a.tu = b.tu) := rfl
  refine ⟨o, cc, ct, fun x => ?_⟩
  obtain ⟨f1, f2⟩ := f x
  unfold Eff.fin
  rw [cc, ct, f1, f2]
  obtain ⟨_, _, _, m⟩ := mir_ok hb
  obtain ⟨m1, m2⟩ := m (a.place x)
  unfold Eff.later
  cases ta : a.tu with
  | true =>
    simp only [if_pos]
    rw [m1, m2, hc]
    refine ⟨?_, rfl⟩
    cases tb : b.tu
    · simp
      omega
    · simp
  | false =>
    simp only [Bool.false_eq_true, if_false, if_neg]
    cases tb : b.tu
    · simp
    · simp [hc]
/-- rounds of an effect -/
def runF (e : Eff) : Nat → Int → Int
  | 0, x => x
  | n + 1, x => runF e n (e.fin x)
def runC (e : Eff) : Nat → Int → Int
  | 0, _ => 0
  | n + 1, x => e.carried x + runC e n (e.fin x)
theorem runF_add (e : Eff) : ∀ (i j : Nat) (x : Int), runF e (i + j) x = runF e j (runF e i x)
  | 0, j, x => by rw [Nat.zero_add]; rfl
  | i + 1, j, x => by
    rw [show i + 1 + j = (i + j) + 1 by omega]
    exact runF_add e i j (e.fin x)
theorem runC_add (e : Eff) : ∀ (i j : Nat) (x : Int), runC e (i + j) x = runC e i x + runC e j (runF e i x)
  | 0, j, x => by
    rw [Nat.zero_add]
    show runC e j x = 0 + runC e j x
    omega
  | i + 1, j, x => by
    rw [show i + 1 + j = (i + j) + 1 by omega]
    show e.carried x + runC e (i + j) (e.fin x) = (e.carried x + runC e i (e.fin x)) + runC e j (runF e i (e.fin x))
    rw [runC_add e i j (e.fin x)]
    omega
theorem run_range {e : Eff} (h : e.Ok) : ∀ (n : Nat) {x : Int}, 0 ≤ x → x ≤ e.c → 0 ≤ runF e n x ∧ runF e n x ≤ e.c
  | 0, x, h0, h1 => ⟨h0, h1⟩
  | n + 1, x, h0, h1 => run_range h n (fin_range h h0 h1).1 (fin_range h h0 h1).2
structure IsPow (e : Eff) (n : Nat) (f : Eff) : Prop where
  ok : f.Ok
  c : f.c = e.c
  tu : f.tu = (e.tu && n % 2 == 1)
  fin : ∀ x, 0 ≤ x → x ≤ e.c → f.fin x = runF e n x
  car : ∀ x, 0 ≤ x → x ≤ e.c → f.carried x = runC e n x
theorem isPow_zero {e : Eff} (h : e.Ok) : IsPow e 0 (nothing e.c) := by
  have hc : 0 ≤ e.c := Int.le_trans h.lo0 (Int.le_trans h.lh h.hc)
  obtain ⟨o, f⟩ := nothing_ok hc
  refine ⟨o, rfl, by cases e.tu <;> rfl, fun x h0 h1 => ?_, fun x h0 h1 => (f x h0 h1).2⟩
  show (if false = true then _ else (nothing e.c).place x) = x
  rw [if_neg (by decide)]
  exact (f x h0 h1).1
theorem isPow_one {e : Eff} (h : e.Ok) : IsPow e 1 e := ⟨h, rfl, by cases e.tu <;> rfl, fun _ _ _ => rfl, fun x _ _ => by show _ = e.carried x + 0; omega⟩
theorem isPow_add {e a b : Eff} (h : e.Ok) {i j : Nat} (ha : IsPow e i a) (hb : IsPow e j b) : IsPow e (i + j) (a.followed b) := by
  obtain ⟨o, c, t, f⟩ := followed_ok ha.ok hb.ok (hb.c.trans ha.c.symm)
  refine ⟨o, c.trans ha.c, ?_, fun x h0 h1 => ?_, fun x h0 h1 => ?_⟩
  · rw [t, ha.tu, hb.tu]
    cases e.tu with
    | false => rfl
    | true =>
      have hi : i % 2 = 0 ∨ i % 2 = 1 := by omega
      have hj : j % 2 = 0 ∨ j % 2 = 1 := by omega
      have hij : (i + j) % 2 = (i % 2 + j % 2) % 2 := Nat.add_mod i j 2
      rw [hij]
      rcases hi with hi | hi <;> rcases hj with hj | hj <;> rw [hi, hj] <;> decide
  · obtain ⟨r0, r1⟩ := run_range h i h0 h1
    rw [(f x).1, ha.fin x h0 h1, hb.fin _ r0 r1, runF_add]
  · obtain ⟨r0, r1⟩ := run_range h i h0 h1
    rw [(f x).2, ha.fin x h0 h1, ha.car x h0 h1, hb.car _ r0 r1, runC_add]
/-! ### rounds of a plan are a longer plan -/
def times (l : List Stp) : Nat → List Stp
  | 0 => []
  | n + 1 => l ++ times l n
theorem playS_app : ∀ (a b : List Stp) (p : Int × Int), playS p (a ++ b) = playS (playS p a) b
  | [], _, _ => rfl
  | x :: r, b, p => playS_app r b (play1 p x).1
theorem playC_app : ∀ (a b : List Stp) (p : Int × Int), playC p (a ++ b) = playC p a ++ playC (playS p a) b
  | [], _, _ => rfl
  | x :: r, b, p => congrArg (_ :: ·) (playC_app r b (play1 p x).1)
theorem play_keep (l : List Stp) : ∀ (p : Int × Int), (playS p l).1 + (playS p l).2 = p.1 + p.2 := by
  induction l with
  | nil => exact fun p => rfl
  | cons s r ih =>
    intro p
    show (playS (play1 p s).1 r).1 + (playS (play1 p s).1 r).2 = _
    rw [ih]
    cases s with
    | turn => show p.2 + p.1 = _; omega
    | mt b n =>
      cases b
      · show p.1 - mx 0 (n - p.2) + (p.2 + mx 0 (n - p.2)) = _; omega
      · show p.1 + mx 0 (n - p.1) + (p.2 - mx 0 (n - p.1)) = _; omega
theorem play_pair {l : List Stp} {c x : Int} : playS (x, c - x) l = ((playS (x, c - x) l).1, c - (playS (x, c - x) l).1) := by
  have := play_keep l (x, c - x)
  have e : (x, c - x).1 + (x, c - x).2 = c := by show x + (c - x) = c; omega
  rw [e] at this
  generalize playS (x, c - x) l = p at this
  cases p with
  | mk u v =>
    show (u, v) = (u, c - u)
    rw [show v = c - u by show v = _; have : u + v = c := this; omega]
theorem rounds_right {c : Int} {l : List Stp} (hl : fitsS c l) : ∀ (n : Nat) {x : Int}, 0 ≤ x → x ≤ c →
    (playC (x, c - x) (times l n)).sum = runC (effOf c l) n x ∧ (playS (x, c - x) (times l n)).1 = runF (effOf c l) n x
  | 0, x, _, _ => ⟨rfl, rfl⟩
  | n + 1, x, h0, h1 => by
    obtain ⟨s1, s2⟩ := summary_right hl h0 h1
    obtain ⟨o, oc, _, _⟩ := effOf_ok (by omega : 0 ≤ c) hl
    have r := fin_range o h0 (by omega)
    obtain ⟨q1, q2⟩ := rounds_right hl n r.1 (by omega)
    show (playC (x, c - x) (l ++ times l n)).sum = _ ∧ (playS (x, c - x) (l ++ times l n)).1 = _
    rw [playS_app, playC_app, play_pair, s2, List.sum_append, q1, q2, s1]
    exact ⟨rfl, rfl⟩
end ChM

set_option linter.all false
set_option autoImplicit false
set_option maxRecDepth 100000
set_option maxHeartbeats 4000000
namespace ChM
/-! ### needs, two rounds -/
def mxL (l : List Int) : Int := l.foldr (fun a m => if a > m then a else m) 0
theorem mxL_ge : ∀ l : List Int, 0 ≤ mxL l ∧ ∀ y ∈ l, y ≤ mxL l
  | [] => ⟨Int.le_refl 0, fun y hy => nomatch hy⟩
  | a :: r => by
    obtain ⟨h0, h1⟩ := mxL_ge r
    have e : mxL (a :: r) = if a > mxL r then a else mxL r := rfl
    rw [e]
    refine ⟨by split <;> omega, fun y hy => ?_⟩
    rcases List.mem_cons.mp hy with z | z
    · subst z
      split <;> omega
    · have := h1 y z
      split <;> omega
theorem mxL_mem : ∀ l : List Int, mxL l ∈ l ++ [0]
  | [] => List.mem_singleton.mpr rfl
  | a :: r => by
    have e : mxL (a :: r) = if a > mxL r then a else mxL r := rfl
    rw [e]
    split
    · exact List.mem_cons_self
    · exact List.mem_cons_of_mem _ (mxL_mem r)
theorem mxL_one {l : List Int} {m : Int} (h : m ∈ l ++ [0]) (hm : ∀ y ∈ l ++ [0], y ≤ m) : m = mxL l := by
  have a := hm _ (mxL_mem l)
  obtain ⟨h0, h1⟩ := mxL_ge l
  rcases List.mem_append.mp h with z | z
  · have := h1 m z
    omega
  · have : m = 0 := List.mem_singleton.mp z
    omega
def needL (s : Int) (ps : List (Int × Int)) : List Int := (ps.filter fun p => p.1 = s).map (·.2)
theorem needL_snoc (s : Int) (ps : List (Int × Int)) (p : Int × Int) : needL s (ps ++ [p]) = needL s ps ++ (if p.1 = s then [p.2] else []) := by
  unfold needL
  rw [List.filter_append, List.map_append]
  by_cases h : p.1 = s
  · simp [h]
  · simp [h]
theorem needL_mem {s n : Int} {ps : List (Int × Int)} (h : (s, n) ∈ ps) : n ∈ needL s ps := List.mem_map.mpr ⟨(s, n), List.mem_filter.mpr ⟨h, by simp⟩, rfl⟩
def needsOf (l : List Stp) : Int × Int :=
  if turning l then (mx (mxL (needL 1 (sides 1 l))) (mxL (needL (-1) (sides 1 l))), mx (mxL (needL 1 (sides 1 l))) (mxL (needL (-1) (sides 1 l)))) else (mxL (needL 1 (sides 1 l)), mxL (needL (-1) (sides 1 l)))
def fewest (l : List Stp) : Int := mx (needsOf l).1 (needsOf l).2
def sparing (l : List Stp) : Int := (needsOf l).1 + (needsOf l).2
theorem sides_mem : ∀ (l : List Stp) (s : Int) (b : Bool) (n : Int), (s = 1 ∨ s = -1) → Stp.mt b n ∈ l → (1, n) ∈ sides s l ∨ (-1, n) ∈ sides s l
  | [], _, _, _, _, h => nomatch h
  | .turn :: r, s, b, n, hs, h => by
    rcases List.mem_cons.mp h with z | z
    · cases z
    · rcases sides_mem r (0 - s) b n (by omega) z with q | q
      · exact .inl (List.mem_cons_of_mem _ q)
      · exact .inr (List.mem_cons_of_mem _ q)
  | .mt c m :: r, s, b, n, hs, h => by
    rcases List.mem_cons.mp h with z | z
    · cases z
      have e : sides s (.mt c m :: r) = ((if c then s else 0 - s), m) :: sides s r := rfl
      rw [e]
      rcases hs with rfl | rfl <;> cases c
      · exact .inr List.mem_cons_self
      · exact .inl List.mem_cons_self
      · exact .inl List.mem_cons_self
      · exact .inr List.mem_cons_self
    · rcases sides_mem r s b n hs z with q | q
      · exact .inl (List.mem_cons_of_mem _ q)
      · exact .inr (List.mem_cons_of_mem _ q)
theorem fewest_ge (l : List Stp) : (∀ y ∈ needL 1 (sides 1 l), y ≤ fewest l) ∧ (∀ y ∈ needL (-1) (sides 1 l), y ≤ fewest l) ∧ 0 ≤ fewest l := by
  obtain ⟨a0, a1⟩ := mxL_ge (needL 1 (sides 1 l))
  obtain ⟨b0, b1⟩ := mxL_ge (needL (-1) (sides 1 l))
  unfold fewest needsOf
  have := mx_def (mxL (needL 1 (sides 1 l))) (mxL (needL (-1) (sides 1 l)))
  generalize mxL (needL 1 (sides 1 l)) = a at *
  generalize mxL (needL (-1) (sides 1 l)) = b at *
  split
  · have := mx_def (mx a b) (mx a b)
    refine ⟨fun y hy => ?_, fun y hy => ?_, ?_⟩
    · have := a1 y hy; show y ≤ mx (mx a b) (mx a b); omega
    · have := b1 y hy; show y ≤ mx (mx a b) (mx a b); omega
    · show 0 ≤ mx (mx a b) (mx a b); omega
  · refine ⟨fun y hy => ?_, fun y hy => ?_, ?_⟩
    · have := a1 y hy; show y ≤ mx a b; omega
    · have := b1 y hy; show y ≤ mx a b; omega
    · show 0 ≤ mx a b; omega
theorem fits_fewest {l : List Stp} {c : Int} (hg : ∀ b n, Stp.mt b n ∈ l → 0 ≤ n) (h : fewest l ≤ c) : fitsS c l := fun b n hm => by
  obtain ⟨a, d, _⟩ := fewest_ge l
  refine ⟨hg b n hm, ?_⟩
  rcases sides_mem l 1 b n (.inl rfl) hm with q | q
  · exact Int.le_trans (a n (needL_mem q)) h
  · exact Int.le_trans (d n (needL_mem q)) h
/-- two rounds in the long run -/
def twoR (c : Int) (l : List Stp) : Int := runC (effOf c l) 2 (runF (effOf c l) 2 0)
theorem two_any {e f : Eff} (he : e.Ok) (hp : IsPow e 2 f) {x : Int} (x0 : 0 ≤ x) (x1 : x ≤ e.c) : (match f.goal with | none => 0 | some g => f.carried g) = runC e 2 (runF e 2 x) := by
  have r := run_range he 2 x0 x1
  have ft : f.tu = false := by rw [hp.tu]; cases e.tu <;> rfl
  have fp : f.fin x = f.place x := by unfold Eff.fin; rw [ft]; rfl
  rw [← hp.car _ r.1 r.2, ← hp.fin x x0 x1, fp]
  cases g : f.goal with
  | some y =>
    rw [place_some g]
  | none =>
    obtain ⟨z, l⟩ := hp.ok.no g
    rw [place_none g]
    unfold Eff.carried
    rw [z]
    have := mx_def x f.lo
    have := mn_def (mx x f.lo) f.hi
    generalize mn (mx x f.lo) f.hi = p at *
    have := mx_def (f.lo - p) (p - f.hi)
    have := mx_def (mx (f.lo - p) (p - f.hi)) 0
    show (0 : Int) = mx (mx (f.lo - p) (p - f.hi)) 0 + 0
    omega
def halvesV (n : Int) : Int × Int := if n % 2 = 1 then (n, 2) else (n / 2, 1)
end ChM

set_option linter.all false
set_option autoImplicit false
set_option maxRecDepth 100000
set_option maxHeartbeats 4000000
namespace ChM
/-! ### effects written out -/
theorem eff_ext {e f : Eff} (h1 : e.c = f.c) (h2 : e.lo = f.lo) (h3 : e.hi = f.hi) (h4 : e.ex = f.ex) (h5 : e.goal = f.goal) (h6 : e.tu = f.tu) : e = f := by
  cases e; cases f
  cases h1; cases h2; cases h3; cases h4; cases h5; cases h6
  rfl
theorem mir_some (c lo hi ex g : Int) (t : Bool) : (⟨c, lo, hi, ex, some g, t⟩ : Eff).mir = ⟨c, c - hi, c - lo, ex, some (c - g), t⟩ := mkE_some
theorem mir_none (c lo hi ex : Int) (t : Bool) (h : lo < hi) : (⟨c, lo, hi, ex, none, t⟩ : Eff).mir = ⟨c, c - hi, c - lo, ex, none, t⟩ := mkE_none (show c - hi < c - lo by omega)
theorem atLeast_some (c lo hi ex g n : Int) (t : Bool) : (⟨c, lo, hi, ex, some g, t⟩ : Eff).atLeast n = if n ≤ g then ⟨c, lo, hi, ex, some g, t⟩ else ⟨c, lo, hi, ex + n - g, some n, t⟩ := by
  unfold Eff.atLeast
  dsimp only
  rw [mkE_some]
theorem atMost_some (c lo hi ex g m : Int) (t : Bool) : (⟨c, lo, hi, ex, some g, t⟩ : Eff).atMost m = if g ≤ m then ⟨c, lo, hi, ex, some g, t⟩ else ⟨c, lo, hi, ex + g - m, some m, t⟩ := by
  unfold Eff.atMost
  rw [mir_some, atLeast_some]
  show Eff.mir (if c - m ≤ c - g then _ else _) = _
  by_cases h : g ≤ m
  · rw [if_pos (by omega), if_pos h, mir_some]
    refine eff_ext rfl ?_ ?_ rfl ?_ rfl
    · show c - (c - lo) = lo; omega
    · show c - (c - hi) = hi; omega
    · show some (c - (c - g)) = some g; congr 1; omega
  · rw [if_neg (by omega), if_neg h, mir_some]
    refine eff_ext rfl ?_ ?_ ?_ ?_ rfl
    · show c - (c - lo) = lo; omega
    · show c - (c - hi) = hi; omega
    · show ex + (c - m) - (c - g) = ex + g - m; omega
    · show some (c - (c - m)) = some m; congr 1; omega
theorem atLeast_none (c lo hi ex n : Int) (t : Bool) : (⟨c, lo, hi, ex, none, t⟩ : Eff).atLeast n = if n ≤ hi then mkE c (mx lo n) hi 0 none t else ⟨c, hi, hi, n - hi, some n, t⟩ := by
  unfold Eff.atLeast
  dsimp only
  rw [mkE_some]
theorem atMost_none (c lo hi ex m : Int) (t : Bool) (h : lo < hi) : (⟨c, lo, hi, ex, none, t⟩ : Eff).atMost m = if lo ≤ m then mkE c lo (mn hi m) 0 none t else ⟨c, lo, lo, lo - m, some m, t⟩ := by
  unfold Eff.atMost
  rw [mir_none _ _ _ _ _ h, atLeast_none]
  show Eff.mir (if c - m ≤ c - lo then _ else _) = _
  by_cases q : lo ≤ m
  · rw [if_pos (by omega), if_pos q]
    have a := mx_def (c - hi) (c - m)
    have b := mn_def hi m
    by_cases e : lo = mn hi m
    · rw [← e, mkE_eq]
      have e2 : mx (c - hi) (c - m) = c - lo := by omega
      rw [e2, mkE_eq, mir_some]
      refine eff_ext rfl ?_ ?_ rfl ?_ rfl
      · show c - (c - lo) = lo; omega
      · show c - (c - lo) = lo; omega
      · show some (c - (c - lo)) = some lo; congr 1; omega
    · rw [mkE_none (show lo < mn hi m by omega), mkE_none (show mx (c - hi) (c - m) < c - lo by omega), mir_none _ _ _ _ _ (by omega)]
      refine eff_ext rfl ?_ ?_ rfl rfl rfl
      · show c - (c - lo) = lo; omega
      · show c - mx (c - hi) (c - m) = mn hi m; omega
  · rw [if_neg (by omega), if_neg q, mir_some]
    refine eff_ext rfl ?_ ?_ ?_ ?_ rfl
    · show c - (c - lo) = lo; omega
    · show c - (c - lo) = lo; omega
    · show c - m - (c - lo) = lo - m; omega
    · show some (c - (c - m)) = some m; congr 1; omega
theorem nothing_pos {c : Int} (h : 0 < c) : nothing c = ⟨c, 0, c, 0, none, false⟩ := mkE_none h
/-! ### known houses -/
theorem two_eff {a b s : Int} (a1 : 1 ≤ a) (b1 : 1 ≤ b) (s1 : 1 ≤ s) (sa : s ≤ a) (sb : s ≤ b) : effOf (a + b - s) [.mt true a, .mt false b] = ⟨a + b - s, a, a, s, some (a - s), false⟩ := by
  have es : sides 1 [.mt true a, .mt false b] = [(1, a), (-1, b)] := rfl
  have m0 : mx 0 a = a := by have := mx_def 0 a; omega
  have st1 : effStep (a + b - s) (nothing (a + b - s)) (1, a) = mkE (a + b - s) a (a + b - s) 0 none false := by
    rw [nothing_pos (by omega)]
    unfold effStep
    rw [if_pos rfl, atLeast_none, if_pos (by show a ≤ a + b - s; omega), m0]
  have st2 : effStep (a + b - s) (mkE (a + b - s) a (a + b - s) 0 none false) (-1, b) = ⟨a + b - s, a, a, s, some (a - s), false⟩ := by
    unfold effStep
    rw [if_neg (show ¬ ((-1 : Int) = 1) by decide), if_pos rfl]
    show Eff.atMost _ (a + b - s - b) = _
    by_cases h : a = a + b - s
    · rw [← h, mkE_eq, atMost_some, if_neg (by omega)]
      refine eff_ext rfl rfl rfl ?_ ?_ rfl
      · show 0 + a - (a - b) = s; omega
      · show some (a - b) = some (a - s); congr 1; omega
    · rw [mkE_none (by omega), atMost_none _ _ _ _ _ _ (by omega), if_neg (by omega)]
      refine eff_ext rfl rfl rfl ?_ ?_ rfl
      · show a - (a + b - s - b) = s; omega
      · show some (a + b - s - b) = some (a - s); congr 1; omega
  have ef : effFold (a + b - s) (sides 1 [.mt true a, .mt false b]) = ⟨a + b - s, a, a, s, some (a - s), false⟩ := by
    rw [es]
    show effStep _ (effStep _ (nothing (a + b - s)) (1, a)) (-1, b) = _
    rw [st1, st2]
  show mkE (a + b - s) (effFold (a + b - s) (sides 1 [.mt true a, .mt false b])).lo _ _ _ _ = _
  rw [ef]
  exact mkE_some
theorem turn_eff {a s : Int} (a1 : 1 ≤ a) (s1 : 1 ≤ s) (sa : s ≤ a) : effOf (2 * a - s) [.mt true a, .turn] = ⟨2 * a - s, a, 2 * a - s, 0, (if a < 2 * a - s then none else some a), true⟩ := by
  have es : sides 1 [.mt true a, .turn] = [(1, a), (0, 0)] := rfl
  have m0 : mx 0 a = a := by have := mx_def 0 a; omega
  have ef : effFold (2 * a - s) (sides 1 [.mt true a, .turn]) = mkE (2 * a - s) a (2 * a - s) 0 none false := by
    rw [es]
    show effStep (2 * a - s) (effStep (2 * a - s) (nothing (2 * a - s)) (1, a)) (0, 0) = _
    rw [nothing_pos (by omega)]
    have t1 : effStep (2 * a - s) ⟨2 * a - s, 0, 2 * a - s, 0, none, false⟩ (1, a) = mkE (2 * a - s) a (2 * a - s) 0 none false := by
      unfold effStep
      rw [if_pos rfl, atLeast_none, if_pos (by show a ≤ 2 * a - s; omega), m0]
    rw [t1]
    unfold effStep
    rw [if_neg (show ¬ ((0 : Int) = 1) by decide), if_neg (show ¬ ((0 : Int) = -1) by decide)]
  show mkE (2 * a - s) (effFold (2 * a - s) (sides 1 [.mt true a, .turn])).lo (effFold (2 * a - s) (sides 1 [.mt true a, .turn])).hi (effFold (2 * a - s) (sides 1 [.mt true a, .turn])).ex (effFold (2 * a - s) (sides 1 [.mt true a, .turn])).goal true = _
  rw [ef]
  by_cases h : a < 2 * a - s
  · rw [if_pos h, mkE_none h]
    exact mkE_none h
  · have e : a = 2 * a - s := by omega
    rw [if_neg h, ← e, mkE_eq]
    exact mkE_some
end ChM

set_option Elab.async false
set_option linter.all false
set_option autoImplicit false
set_option maxRecDepth 100000
set_option maxHeartbeats 4000000
namespace Ch
open PySem PySem.Spec PyProof.Rows L2
/-! ### a star among the targets: a, *b = a tuple -/
section
variable {prog : Program} {w : World} {A : Around} {E : Value → Shared → Prop} {s : Shared}
theorem star_tup {t : Addr} {its : Array Value} {n i : Nat} {Q : List Value → Shared → Prop} (ht : IsTup s.heap t its) (hand : A.handled = none) (hin : i < n) (hle : n ≤ its.size + 1) (hsz : its.size ≤ 16384)
    (k : ∀ (g : Heap) (tk : Nat), (∀ b o, s.heap.get? b = some o → g.get? b = some o) → Q (its.toList.take i ++ [.ref g.objs.size] ++ (its.toList.drop i).drop (its.size + 1 - n)) { s with heap := g.push { cls := .type "list", data := .seq ((its.toList.drop i).take (its.size + 1 - n)).toArray }, toks := tk }) :
    wpAny (model prog w) A (unpackItems (.ref t) n (some i)) Q E s := by
  have tlt : t < s.heap.objs.size := by
    obtain ⟨o, ho, _⟩ := ht
    exact Heap.lt_size ho
  have tne : t ≠ s.heap.objs.size := Nat.ne_of_lt tlt
  unfold unpackItems
  refine wpAny_bind ?_
  unfold notIterableAtAll
  refine wpAny_bind (wpAny_specialOf ht.typeIs slot_tuple_iter.lookup (wpAny_pure ?_))
  simp only [Bool.false_eq_true, if_false]
  refine wpAny_bind (wpAny_holding (iter_tuple ht (?_)))
  refine wpAny_bind (wpAny_holding (draw_tuple tne i 0 _ _ ⟨_, Heap.get?_push_size _ rfl, rfl, rfl⟩ (ht.push _) (by omega) fun g1 it1 sb1 => ?_))
  have ht1 : IsTup g1 t its := (ht.push _).extBut sb1.extBut tne
  rw [Nat.zero_add] at it1
  obtain ⟨oi, hoi, hoi2⟩ := id it1
  obtain ⟨ot, hot, _⟩ := id ht1
  rw [List.drop_zero]
  have lf : (its.toList.take i).length = i := by
    rw [List.length_take, Array.length_toList]
    omega
  have lr : (its.toList.drop i).length = its.size - i := by
    rw [List.length_drop, Array.length_toList]
  rw [if_neg (show ¬ ((its.toList.take i).length < i) by omega)]
  refine wpAny_bind (wpAny_holding (PySem.W.kun_collect (s := { s with heap := g1 }) (T := "tuple_iterator") (Or.inr (Or.inr (Or.inr rfl))) (Walks.tuple (A := A.in1) hand s.heap.objs.size t tne its) (fun _ _ st => st.1.typeIs) (k := i) (by omega) ⟨it1, ht1⟩ (Heap.lt_size hoi) (Heap.lt_size hot) (fun g2 tk kp => ?_) (by rw [sizeLine_eq]; omega)))
  have lm : (its.toList.drop i).length - (n - 1 - i) = its.size + 1 - n := by omega
  show wpAny _ _ (if (its.toList.drop i).length < n - 1 - i then _ else _) _ _ _
  rw [if_neg (by omega)]
  show wpAny _ _ (newList ((its.toList.drop i).take ((its.toList.drop i).length - (n - 1 - i))) >>= fun d => pure (its.toList.take i ++ [d] ++ (its.toList.drop i).drop ((its.toList.drop i).length - (n - 1 - i)))) _ _ _
  rw [lm]
  have keep : ∀ b o, s.heap.get? b = some o → g2.get? b = some o := fun b o e => by
    have hb : b ≠ s.heap.objs.size := Nat.ne_of_lt (Heap.lt_size e)
    exact kp b o hb (sb1.extBut b o hb (Heap.get?_push_of_some _ e))
  refine wpAny_bind (wpAny_newList (s := { s with heap := g2, toks := tk }) (wpAny_pure (k g2 tk keep)) ?_)
  rw [List.length_take, lr, sizeLine_eq]
  omega
end
section
variable {X : Cx} {pos : Pos}
theorem pgs_star {e : Expr} {p : Pos} {es : List Expr} {t : TG} {u : TGs} (h1 : PG X e t) (h2 : PGs X es u)
    (hs : (assignEach (.Starred e p :: es) X.env).map (·.2) = assign e X.env :: (assignEach es X.env).map (·.2) := by rfl) : PGs X (.Starred e p :: es) (gCons t u) := by
  refine ⟨fun pins s σ H vs us Q I r ⟨v, vr, ev, h⟩ => ?_⟩
  subst ev
  cases r with
  | cons ra rb =>
    rw [hs]
    exact assignInOrder_cons (thn (h1.run pins s σ H _ _ _ I ra h) fun _ s1 ⟨σ1, H1, I1, q1⟩ => h2.run pins s1 σ1 H1 _ _ Q I1 rb q1)
/-- n targets, the i-th with a star, a tuple of fewer or more items -/
def gStar (K : PySem.W.Frag) (n i : Nat) (t : TGs) : TG := fun v σ H Q => ∃ a xs, v = .ref a ∧ SqT K H a xs ∧ i < n ∧ n ≤ xs.length + 1 ∧ xs.length ≤ 16384 ∧
  ∀ d, H d = none → t (xs.take i ++ [.ref d] ++ (xs.drop i).drop (xs.length + 1 - n)) σ (upd H d (.lst ((xs.drop i).take (xs.length + 1 - n)))) Q
theorem pg_star {es : List Expr} {k : Nat} {t : TGs} {n i : Nat} (hc : X.calm = true) (h : PGs X es t)
    (hn : (assignEach es X.env).length = n := by rfl) (hst : (assignEach es X.env).findIdx? (·.1) = some i := by rfl) : PG X (.Tuple es k pos) (gStar X.K n i t) := by
  refine ⟨fun pins s σ H v u Q I r ⟨a, xs, ev, hq, hin, hle, hsz, q⟩ => ?_⟩
  subst ev
  cases r
  obtain ⟨its, rv, ht, _⟩ := I.tuple hq
  have el : its.length = xs.length := rv.length.symm
  rw [assign_Tuple]
  refine wpAny_bind (wpAny_standAt ?_)
  unfold unpack
  rw [hn, hst]
  refine wpAny_bind (wpAny_holding (star_tup ht (I.ok.hd hc) hin (by simp [el]; omega) (by simp [el]; omega) fun g tk keep => ?_))
  have esz : its.toArray.size + 1 - n = xs.length + 1 - n := by simp [el]
  rw [esz]
  have I1 : Inv X pins σ H { s with heap := g, toks := tk } := I.kept (t' := tk) keep
  have hf : H g.objs.size = none := I1.hok.fresh (Nat.le_refl _)
  have I2 : Inv X pins σ (upd H g.objs.size (.lst ((xs.drop i).take (xs.length + 1 - n)))) { s with heap := g.push { cls := .type "list", data := .seq ((its.toArray.toList.drop i).take (xs.length + 1 - n)).toArray }, toks := tk } := by
    refine I1.laid (t' := tk) (fun b u e => Heap.get?_push_of_some _ e) (Nat.le_refl _) ⟨?_, (its.drop i).take (xs.length + 1 - n), 0, (rv.drop i).take _, Heap.get?_push_size _ rfl⟩
    rw [List.length_take, List.length_drop, sizeLine_eq]
    omega
  refine h.run pins _ σ _ _ _ Q I2 ?_ (q _ hf)
  exact Vals.append (Vals.append (rv.take i) (.cons rfl .nil)) ((rv.drop i).drop _)
end
end Ch

set_option Elab.async false
set_option linter.all false
set_option autoImplicit false
set_option maxRecDepth 100000
set_option maxHeartbeats 4000000
namespace Ch
open PySem PySem.Spec PyProof.Rows L2
/-! ### a < b < c < d as a test -/
def tChain3 (r1 r2 r3 : R2) (ta tb tc td : TE) : TE := fun σ H Q => ta σ H fun x H1 => tb σ H1 fun y H2 => r1 x y H2 fun z H3 => ∃ k, z = .bl k ∧
  (if k = true then tc σ H3 fun x2 H4 => r2 y x2 H4 fun z2 H5 => ∃ k2, z2 = .bl k2 ∧ (if k2 = true then td σ H5 fun x3 H6 => r3 x2 x3 H6 Q else Q (.bl false) H5) else Q (.bl false) H3)
section
variable {X : Cx} {a b c d : Expr} {ta tb tc td : TE} {pos : Pos}
theorem pt_chain3 {o1 o2 o3 : CmpOp} {r1 r2 r3 : R2} (h1 : OpR X (compareOp o1) r1) (h2 : OpR X (compareOp o2) r2) (h3 : OpR X (compareOp o3) r3) (ha : PE X a ta) (hb : PE X b tb) (hc : PE X c tc) (hd : PE X d td)
    (hm : lastMarks [o1, o2, o3] [b, c, d] = false := by with_unfolding_all rfl) : PT X (.Compare a [o1, o2, o3] [b, c, d] pos) (tTest (tChain3 r1 r2 r3 ta tb tc td)) := by
  refine ⟨fun pins s σ H Q I h => isTrue_chain (thn (ha.run pins s σ H _ I h) fun v s1 ⟨x, H1, I1, e1, q1⟩ => test_link (thn (hb.run pins s1 σ H1 _ I1 q1) fun u s2 ⟨y, H2, I2, e2, q2⟩ =>
    thn (h1 pins s2 σ H2 x y v u _ I2 e1 e2 q2) fun w1 s3 ⟨z, H3, I3, e3, k, ek, q3⟩ => ?_)) hm⟩
  subst ek
  cases e3
  refine wpAny_truthy_bool ?_
  cases k with
  | false =>
    obtain ⟨k', ek', q'⟩ := q3
    cases ek'
    exact ite_ff ⟨H3, I3, q'⟩
  | true =>
    refine ite_tt (test_link (thn (hc.run pins s3 σ H3 _ I3 q3) fun w2 s4 ⟨x2, H4, I4, e4, q4⟩ => thn (h2 pins s4 σ H4 y x2 u w2 _ I4 e2 e4 q4) fun w3 s5 ⟨z2, H5, I5, e5, k2, ek2, q5⟩ => ?_))
    subst ek2
    cases e5
    refine wpAny_truthy_bool ?_
    cases k2 with
    | false =>
      obtain ⟨k', ek', q'⟩ := q5
      cases ek'
      exact ite_ff ⟨H5, I5, q'⟩
    | true =>
      refine ite_tt (test_last (thn (hd.run pins s5 σ H5 _ I5 q5) fun w4 s6 ⟨x3, H6, I6, e6, q6⟩ => thn (h3 pins s6 σ H6 x2 x3 w2 w4 _ I6 e4 e6 q6) fun w5 s7 ⟨z3, H7, I7, e7, k3, ek3, q7⟩ => ?_))
      subst ek3
      cases e7
      exact wpAny_truthy_bool ⟨H7, I7, q7⟩
end
end Ch

set_option Elab.async false
set_option linter.all false
set_option autoImplicit false
set_option maxRecDepth 100000
set_option maxHeartbeats 4000000
namespace Ch
open PySem PySem.Spec PyProof.Rows L2
open Sem (wp)
/-! ### enumerate of a tuple -/
theorem en_new1 {v : Value} {ob : Obj} {G : Heap → Prop} (B : Begins v ob G) :
    Meets (Builtin.«enumerate.__new__» ⟨[.type "enumerate", v], []⟩) (fun _ R s => G s.heap ∧
      R (.ok (.ret (.ref (s.heap.push ob).objs.size))) { s with heap := (s.heap.push ob).push { cls := .type "enumerate", data := .fields #[.none, .bool false, .ref s.heap.objs.size, rawInt 0, .none, .none] } }) :=
  .of_wp fun prog w A R st ⟨hG, hR⟩ => by
    obtain ⟨hp, ge, dr, tk, os⟩ := st
    have hsub := sub_enumerate
    have itq : ∀ {A1 : Around} {E : Value → Shared → Prop} {Q : Value → Shared → Prop}, Q (.ref hp.objs.size) ⟨hp.push ob, ge, dr, tk, os⟩ → wpAny (model prog w) A1 (pyIter v) Q E ⟨hp, ge, dr, tk, os⟩ :=
      fun q => B.iter prog w _ _ ⟨hp, ge, dr, tk, os⟩ _ hG q
    wp_walk using itq
    refine wpAny_stack_any fun sk => wpAny_pure (?_)
    split
    · rename_i c _ _ _ _ _
      cases (c == Value.type "enumerate")
      all_goals
        wp_walk using itq
        exact ⟨_, rfl, hR⟩
    · wp_walk using itq
      exact ⟨_, rfl, hR⟩
section
variable {prog : Program} {w : World} {A : Around} {E : Value → Shared → Prop} {s : Shared}
theorem en_call1 {v : Value} {ob : Obj} {G : Heap → Prop} {Q : Value → Shared → Prop} (B : Begins v ob G) (hG : G s.heap)
    (k : ∀ g : Heap, IsEnum g (s.heap.objs.size + 1) s.heap.objs.size 0 .none → g.get? s.heap.objs.size = some ob → (∀ b o, s.heap.get? b = some o → g.get? b = some o) → Q (.ref (s.heap.objs.size + 1)) { s with heap := g }) :
    wpAny (model prog w) A (call (.type "enumerate") [v]) Q E s := by
  refine callType_new F.called_enumerate (by decide) (F.typeCall_enumerate_1 _) (F.newCall_enumerate_1 _) (fun obj => F.args_object_init_2 obj _) F.entry_enumerate_new (en_new1 B) ⟨hG, ?_⟩
  have sz : (s.heap.push ob).objs.size = s.heap.objs.size + 1 := Heap.size_push ..
  show _ ∧ _
  rw [sz]
  have ie : IsEnum ((s.heap.push ob).push { cls := .type "enumerate", data := .fields #[.none, .bool false, .ref s.heap.objs.size, rawInt 0, .none, .none] }) (s.heap.objs.size + 1) s.heap.objs.size 0 .none := by
    have q := Heap.get?_push_size (s.heap.push ob) (o := { cls := .type "enumerate", data := .fields #[.none, .bool false, .ref s.heap.objs.size, rawInt 0, .none, .none] }) rfl
    rw [sz] at q
    exact q
  exact ⟨⟨_, ie, rfl⟩, k _ ie (Heap.get?_push_of_some _ (Heap.get?_push_size _ B.free)) fun b o x => Heap.get?_push_of_some _ (Heap.get?_push_of_some _ x)⟩
end
/-- the tuple at a, each item in a new pair -/
def IteT (K : PySem.W.Frag) (a : Addr) : It :=
  ⟨fun i H => ∃ (xs : List V) (x : V), SqT K H a xs ∧ xs[i]? = some x, fun i H v H' => ∃ T x, v = .ref T ∧ H T = none ∧ H' = upd H T (.tup [.int (i : Nat), x]) ∧ ∀ xs, SqT K H a xs → xs[i]? = some x, fun i H => ∃ xs : List V, SqT K H a xs ∧ xs.length ≤ i⟩
theorem turn_enumT {P : Program} {w : World} {K : PySem.W.Frag} {elts : List Expr} {kk : Nat} {tpos : Pos} (a e it : Addr) :
    Turn P w K (.Tuple elts kk tpos) (IteT K a) [e, it] e (fun i h => (∃ old, IsEnum h e it ((i : Nat) : Int) old) ∧ h.IsTupleIter it a i ∧ e ≠ it ∧ e ≠ a ∧ a ≠ it) where
  mem := List.mem_cons_self
  obj := fun i h st b hb => by
    obtain ⟨⟨old, he⟩, ⟨o, ho, hc, hd⟩, _⟩ := st
    rcases List.mem_cons.mp hb with z | z
    · rw [z]
      exact ⟨_, he, fun v q => nomatch q⟩
    · rw [List.mem_singleton.mp z]
      exact ⟨o, ho, fun v q => by rw [hd] at q; cases q⟩
  keep := fun i h h' ⟨⟨old, he⟩, hi, hn⟩ k => ⟨⟨old, k e (by simp) _ he⟩, hi.at fun o q => k it (by simp) o q, hn⟩
  item := by
    intro X hP hw hK hc i pins s σ H E I hf ⟨⟨old, he⟩, hit, hne, hea, hai⟩ ⟨xs, x, hq, hx⟩
    subst hP hw hK
    obtain ⟨its, rv, p, hz⟩ := I.tuple hq
    obtain ⟨u, hu, ru⟩ := rv.get hx
    have pt : s.heap.IsTuple a its.toArray := p
    have hel : e < s.heap.objs.size := Heap.lt_size he
    have hil : it < s.heap.objs.size := by
      obtain ⟨_, q, _⟩ := hit
      exact Heap.lt_size q
    have hlt : i < its.toArray.size := by
      have := (List.getElem?_eq_some_iff.mp hu).1
      simpa using this
    refine wpAny_pyNext_enum_itemD (Draws.tuple (A := X.A.in1) (I.ok.hd hc) it a hai its.toArray) he ⟨hit, pt⟩ hlt hne (by simp [hne, hea]) fun u' g tk hPu ho st' hT hsz hk => ?_
    have eu : u' = u := by
      have h1 : its.toArray[i]? = some u' := hPu
      rw [List.getElem?_toArray, hu] at h1
      exact (Option.some.inj h1).symm
    subst eu
    refine ⟨_, rfl, wpAny_letOwnedTupleGo_enum (s := { s with heap := g, toks := tk + 1 }) ho fun g2 he' sb => ?_⟩
    have hT2 : g2.get? s.heap.objs.size = some { cls := .type "tuple", data := .seq #[.int i tk, u'] } := (sb.2 _ (Nat.ne_of_gt hel)).trans hT
    have new : ObjOk X.prog X.w (upd H s.heap.objs.size (.tup [.int (i : Nat), x])) g2 s.heap.objs.size (.tup [.int (i : Nat), x]) :=
      ⟨by show 2 ≤ sizeLine; decide, [.int i tk, u'], .cons ⟨_, rfl⟩ (.cons ru .nil), ⟨_, hT2, rfl, _, rfl⟩⟩
    have I1 : Inv X pins σ (upd H s.heap.objs.size (.tup [.int (i : Nat), x])) { s with heap := g2, toks := tk + 1 } :=
      I.turnedNew (ch := [e, it]) (fun b ob hb q => by
        have n1 : b ≠ e := fun z => hb (by simp [z])
        have n2 : b ≠ it := fun z => hb (by simp [z])
        exact (sb.2 b n1).trans (hk b ob n1 n2 q)) hf (Nat.le_refl _) new
    refine ⟨.ref s.heap.objs.size, _, I1, rfl, ⟨_, x, rfl, I.hok.fresh (Nat.le_refl _), rfl, fun ys hy => by rw [I.tuple_inj hy hq]; exact hx⟩, ⟨⟨u', ?_⟩, st'.1.at fun o q => (sb.2 it (Ne.symm hne)).trans q, hne, hea, hai⟩, fun b hb => ?_⟩
    · rw [show ((i + 1 : Nat) : Int) = (i : Int) + 1 by omega]
      exact he'
    · have lb : b < s.heap.objs.size := by
        rcases List.mem_cons.mp hb with z | z
        · rw [z]
          exact hel
        · rw [List.mem_singleton.mp z]
          exact hil
      rw [upd_ne (Nat.ne_of_lt lb)]
      exact (hf b hb).1
  done := by
    intro X hP hw hK hc i pins s σ H E I hf ⟨⟨old, he⟩, hit, hne, hea, hai⟩ ⟨xs, hq, hx⟩
    subst hP hw hK
    obtain ⟨its, rv, p, hz⟩ := I.tuple hq
    have pt : s.heap.IsTuple a its.toArray := p
    obtain ⟨f0, f1, f2, f3, f4, f5⟩ := hf it (by simp)
    have hl := rv.length
    have hd : s.heap.IsTupleIter it a i := hit
    refine wpAny_pyNext_enum_endD (fp := [it, a]) (n := i) (P := fun _ _ => False) (St := fun j g => j = i ∧ g.IsTupleIter it a i ∧ g.IsTuple a its.toArray) ?_ he ⟨rfl, hit, pt⟩ fun g eb => ⟨rfl, I.turned (t' := s.toks) (fun b o hb q => eb b o hb q) f0 f1 f3 f4 f5⟩
    exact {
      live := fun _ _ st => let ⟨o, ho, _⟩ := st.2.1; ⟨o, ho⟩
      frame := fun _ _ _ st hk => ⟨st.1, st.2.1.at fun o q => hk it (by simp) o q, st.2.2.at fun o q => hk a (by simp) o q⟩
      item := fun j s2 Q2 E2 hj st _ => absurd st.1 (Nat.ne_of_lt hj)
      done := fun s2 Q2 E2 st hE => wpAny_nextOf_tuple_end (I.ok.hd hc) st.2.1 st.2.2 (by simp; omega) hE }
  self := fun A i s Q E st h => let ⟨⟨_, he⟩, _⟩ := st; wpAny_pyIter_enum he h
def iEnumT (K : PySem.W.Frag) (ta : TA) : TI := fun σ H R => ta σ H fun vs H1 => ∃ a xs, vs = [.ref a] ∧ SqT K H1 a xs ∧ R (IteT K a) H1
theorem pi_enumT {X : Cx} {e : Expr} {ta : TA} {p pos tpos : Pos} {elts : List Expr} {kk : Nat} (hg : Gl X "enumerate") (hm : X.mg "enumerate" = none) (ha : PA X [e] ta) (hs : starEach [e] X.env = [(false, eval e X.env)] := by rfl) :
    PI X (.Tuple elts kk tpos) (.Call (.Name "enumerate" p) [e] [] pos) (iEnumT X.K ta) := by
  refine ⟨fun pins s σ H R I h => ?_⟩
  refine Call_ (ld_blt I hg hm boot_enumerate (PyProof.Rows.callWith_type1 (thn (ha.run pos pins s σ H _ I h) fun us s1 ⟨vs, H1, I1, r1, a, xs, ex, hq, q⟩ => ?_) hs rfl))
  subst ex
  obtain ⟨u, rfl, ru⟩ := vals1 r1
  obtain rfl : u = Value.ref a := ru
  obtain ⟨its, rv, p', hz⟩ := I1.tuple hq
  have pt : s1.heap.IsTuple a its.toArray := p'
  have al : a < s1.heap.objs.size := by
    obtain ⟨o, ho, _⟩ := pt
    exact Heap.lt_size ho
  refine en_call1 (begins_tuple a its.toArray) pt fun g he hit hk => wpAny_pyIter_enum he ?_
  have I2 : Inv X pins σ H1 { s1 with heap := g } := I1.kept (t' := s1.toks) hk
  refine ⟨s1.heap.objs.size + 1, [s1.heap.objs.size + 1, s1.heap.objs.size], _, _, H1, rfl, I2, turn_enumT a (s1.heap.objs.size + 1) s1.heap.objs.size, ⟨⟨.none, he⟩, ⟨_, hit, rfl, rfl⟩, Nat.succ_ne_self _, Nat.ne_of_gt (Nat.lt_succ_of_lt al), Nat.ne_of_lt al⟩, fun b hb => ?_, q⟩
  have lb : s1.heap.objs.size ≤ b := by
    rcases List.mem_cons.mp hb with z | z
    · rw [z]
      exact Nat.le_add_right _ _
    · rw [List.mem_singleton.mp z]
      exact Nat.le_refl _
  exact I1.fpOk lb (I1.hok.fresh lb)
theorem walk_enumT {K : PySem.W.Frag} {a : Addr} {xs : List V} : Walk (IteT K a) xs.length (fun H => SqT K H a xs) (YPair (fun i => some (.int (i : Nat))) (fun i => xs[i]?)) where
  goes := fun i H hi hG => ⟨xs, xs[i], hG, List.getElem?_eq_getElem hi⟩
  stops := fun H hG => ⟨xs, hG, Nat.le_refl _⟩
  yields := fun i H v H' hi hG ⟨T, x, ev, hT, eH, hx⟩ => ⟨T, _, x, ev, hT, eH, rfl, hx xs hG⟩
/-! ### max of three ints -/
theorem call_max3 {X : Cx} (hc : X.calm = true) : CallR X (.builtin "max") (fun xs H Q => ∃ i j k : Int, xs = [.int i, .int j, .int k] ∧ Q (.int (if k > (if j > i then j else i) then k else (if j > i then j else i))) H) := by
  intro pins s σ H xs us Q I r ⟨i, j, k, e, q⟩
  refine call_max3Nu hc pins s σ H xs us Q I r ⟨.int i, .int j, .int k, _, e, ?_, q⟩
  have two : ∀ a b : Int, nuMax2 (.int a) (.int b) = some (.int (if b > a then b else a)) := fun a b => by
    show some (if decide (a < b) = true then V.int b else V.int a) = _
    by_cases h : a < b
    · rw [decide_eq_true h, if_pos rfl, if_pos h]
    · rw [decide_eq_false h, if_neg Bool.false_ne_true, if_neg h]
  unfold nuMax3
  rw [two, Option.bind_some, two]
end Ch

set_option Elab.async false
set_option linter.all false
set_option autoImplicit false
set_option maxRecDepth 100000
set_option maxHeartbeats 4000000
namespace Ch
open PySem PySem.Spec PyProof.Rows L2
/-! ### calls by positional promises -/
def tCallR (sp : Sp) (E : XK) (t : TA) : TE := fun σ H Q => t σ H fun vs H1 => sp vs H1 Q E
def tMethR (C : Addr) (m : Str) (sp : Sp) (E : XK) (ta : TE) (t : TA) : TE := fun σ H Q => ta σ H fun x H1 => ∃ a dx fs, x = .ref a ∧ H1 a = some (.ins C dx fs) ∧ fs.lookup m = none ∧ t σ H1 fun vs H2 => sp (.ref a :: vs) H2 Q E
def tPropR (C : Addr) (sp : Sp) (E : XK) (ta : TE) : TE := fun σ H Q => ta σ H fun x H1 => ∃ a dx fs, x = .ref a ∧ H1 a = some (.ins C dx fs) ∧ sp [.ref a] H1 Q E
def tMk (C : Addr) (sp : Sp) (E : XK) (t : TA) : TE := fun σ H Q => t σ H fun vs H1 => ∀ x dx, H1 x = none → H1 dx = none → dx ≠ x → sp (.ref x :: vs) (upd (upd H1 dx (.own x)) x (.ins C dx [])) (fun v H2 => v = .non ∧ Q (.ref x) H2) E
section
variable {X : Cx} {CX : CXT} {k : Nat} {f C g p : Addr} {sp : Sp} {E : XK} {x m : Str} {np pos apos : Pos} {e o : Expr} {es : List Expr} {ta : TE} {t : TA}
theorem pe_callR (F : FnR X.prog X.w X.K X.mg X.base CX k f sp) (hr : Room k X.A) (hm : X.mg x = some (.ref f)) (hk : PySem.W.keepIn X.K (.ref f) = true) (hx : Passes CX X E) (hg : Gl X x) (ha : PA X (e :: es) t)
    (hd : (x == ("__debug__" : Str)) = false := by decide) (he : starEach (e :: es) X.env = (false, eval e X.env) :: starEach es X.env := by rfl) (hpl : (backTo pos (starEach es X.env)).any (·.1) = false := by rfl) :
    PE X (.Call (.Name x np) (e :: es) [] pos) (tCallR sp E t) :=
  ⟨fun pins s σ H Q I h => wpAny_Call_Name_kw (ld_glob I hg hm (PySem.W.callWith_K (h₀ := X.base) I.ok.mod.kin hk (thn (ha.run pos pins s σ H _ I h) fun us s1 ⟨vs, H1, I1, r, q⟩ => ⟨I1.kIn, wpAny_call (run_fnR F hr hx I1 r q)⟩) he hpl) hd)⟩
theorem pe_callR0 (F : FnR X.prog X.w X.K X.mg X.base CX k f sp) (hr : Room k X.A) (hm : X.mg x = some (.ref f)) (hk : PySem.W.keepIn X.K (.ref f) = true) (hx : Passes CX X E) (hg : Gl X x)
    (hd : (x == ("__debug__" : Str)) = false := by decide) : PE X (.Call (.Name x np) [] [] pos) (tCallR sp E tNil) :=
  ⟨fun pins s σ H Q I h => wpAny_Call_Name_kw (ld_glob I hg hm (PySem.W.callWith_K0 I.kIn hk (wpAny_call (run_fnR (us := []) F hr hx I .nil h))) hd)⟩
theorem pe_methR {pl : Sem Bool} (c : Cls X.K C) (hm : Meth X.K C m f) (F : FnR X.prog X.w X.K X.mg X.base CX k f sp) (hr : Room k X.A) (hx : Passes CX X E) (ho : PE X o ta) (ha : PA X (e :: es) t)
    (hst : starEach (e :: es) X.env = (false, eval e X.env) :: starEach es X.env := by rfl) (hpl : (backTo pos (starEach es X.env)).any (·.1) = false := by rfl)
    (ht : eval (.Call (.Attribute o m apos) (e :: es) [] pos) X.env = (do
      let rv ← eval o X.env
      standAt apos.atName
      let (fn, first) ← holding [rv] (getMethod rv m pl)
      callWith pos fn first (backTo pos (starEach (e :: es) X.env)) (backToKw pos (keywordEach [] X.env))) := by rfl) :
    PE X (.Call (.Attribute o m apos) (e :: es) [] pos) (tMethR C m sp E ta t) := by
  refine ⟨fun pins s σ H Q I h => PySem.W.methodCall_KW (pl := pl) (thn (ho.run pins s σ H _ I h) fun u s1 ⟨y, H1, I1, ry, a, dx, fs, ey, ea, l, q⟩ => ?_) ht⟩
  subst ey
  obtain rfl : u = Value.ref a := ry
  refine getmeth_ok I1 ea c hm l (PySem.W.callWith_K (first := [.ref a]) (h₀ := X.base) I.ok.mod.kin hm.kp (thn (ha.run pos pins s1 σ H1 _ I1 q) fun us s2 ⟨vs, H2, I2, r, q2⟩ => ⟨I2.kIn, ?_⟩) hst hpl)
  exact wpAny_call (run_fnR (us := .ref a :: us) (vs := .ref a :: vs) F hr hx I2 (.cons rfl r) q2)
theorem pe_methR0 {pl : Sem Bool} (c : Cls X.K C) (hm : Meth X.K C m f) (F : FnR X.prog X.w X.K X.mg X.base CX k f sp) (hr : Room k X.A) (hx : Passes CX X E) (ho : PE X o ta)
    (ht : eval (.Call (.Attribute o m apos) [] [] pos) X.env = (do
      let rv ← eval o X.env
      standAt apos.atName
      let (fn, first) ← holding [rv] (getMethod rv m pl)
      callWith pos fn first (backTo pos (starEach [] X.env)) (backToKw pos (keywordEach [] X.env))) := by rfl) :
    PE X (.Call (.Attribute o m apos) [] [] pos) (tMethR C m sp E ta tNil) := by
  refine ⟨fun pins s σ H Q I h => PySem.W.methodCall_KW (pl := pl) (thn (ho.run pins s σ H _ I h) fun u s1 ⟨y, H1, I1, ry, a, dx, fs, ey, ea, l, q⟩ => ?_) ht⟩
  subst ey
  obtain rfl : u = Value.ref a := ry
  exact getmeth_ok I1 ea c hm l (PySem.W.callWith_K0 (first := [.ref a]) I1.kIn hm.kp (wpAny_call (run_fnR (us := [.ref a]) (vs := [.ref a]) F hr hx I1 (.cons rfl .nil) q)))
/-- C(e, ..), C(), C(*e) -/
theorem pe_mk (M : Mk X.K C f) (F : FnR X.prog X.w X.K X.mg X.base CX k f sp) (hr : Room (k + 1) X.A) (hm : X.mg x = some (.ref C)) (hx : Passes CX X E) (hg : Gl X x) (ha : PA X (e :: es) t) (hd : (x == ("__debug__" : Str)) = false := by decide)
    (he : starEach (e :: es) X.env = (false, eval e X.env) :: starEach es X.env := by rfl) (hpl : (backTo pos (starEach es X.env)).any (·.1) = false := by rfl) : PE X (.Call (.Name x np) (e :: es) [] pos) (tMk C sp E t) :=
  StX.pe_makeR M F hr hg hm hx ha hd he hpl
theorem pe_mk0 (M : Mk X.K C f) (F : FnR X.prog X.w X.K X.mg X.base CX k f sp) (hr : Room (k + 1) X.A) (hm : X.mg x = some (.ref C)) (hx : Passes CX X E) (hg : Gl X x) (hd : (x == ("__debug__" : Str)) = false := by decide) :
    PE X (.Call (.Name x np) [] [] pos) (tMk C sp E tNil) :=
  ⟨fun pins s σ H Q I h => wpAny_Call_Name_kw (ld_glob I hg hm (PySem.W.callWith_K0 I.kIn M.kp (StX.run_makeR (us := []) M F hr hx I .nil h)) hd)⟩
def tStarA (K : PySem.W.Frag) (te : TE) : TA := fun σ H Q => te σ H fun y H1 => ∃ a xs, y = .ref a ∧ (SqT K H1 a xs ∨ SqL K H1 a xs) ∧ Q xs H1
theorem pe_mkS {sp_ : Pos} (M : Mk X.K C f) (F : FnR X.prog X.w X.K X.mg X.base CX k f sp) (hr : Room (k + 1) X.A) (hm : X.mg x = some (.ref C)) (hx : Passes CX X E) (hg : Gl X x) (he : PE X e ta) (hd : (x == ("__debug__" : Str)) = false := by decide)
    (hst : starEach [.Starred e sp_] X.env = [(true, eval e X.env)] := by rfl) : PE X (.Call (.Name x np) [.Starred e sp_] [] pos) (tMk C sp E (tStarA X.K ta)) := by
  refine ⟨fun pins s σ H Q I h => wpAny_Call_Name_kw (ld_glob I hg hm (PySem.W.callWith_S (h₀ := X.base) I.ok.mod.kin M.kp (thn (he.run pins s σ H _ I h) fun v s1 ⟨y, H1, I1, ry, a, xs, ey, hxs, q⟩ => ?_) hst) hd)⟩
  subst ey
  obtain rfl : v = Value.ref a := ry
  exact StX.star_any I1 hxs fun us s2 I2 rv => ⟨I2.kIn, StX.run_makeR M F hr hx I2 rv q⟩
/-- a property whose getter raises nothing -/
theorem pe_propR (c : Cls X.K C) (hp : PropOf X.K C m p g) (F : FnR X.prog X.w X.K X.mg X.base CX0 k g sp) (hr : Room (k + 1) X.A) (ho : PE X o ta) (hab : attributeBase o m X.env (eval o X.env) = eval o X.env := by rfl) : PE X (.Attribute o m pos) (tPropR C sp E0 ta) := by
  refine ⟨fun pins s σ H Q I h => attr_of hab (thn (ho.run pins s σ H _ I h) fun u s1 ⟨y, H1, I1, ry, a, dx, fs, ey, ea, q⟩ => ?_)⟩
  subst ey
  obtain rfl : u = Value.ref a := ry
  obtain ⟨mA, J, hl, wi, _⟩ := ins_get I1.hok ea
  obtain ⟨rest, hrec⟩ := hp.rec_
  have hc : (PySem.W.clsIn X.K C).isSome = true := by
    obtain ⟨cd, hcd, _⟩ := PySem.W.any_some c.hd
    rw [hcd]
    rfl
  obtain ⟨od, Ja, _⟩ := J.look
  refine PySem.W.get_bind I1.kIn Ja (PySem.W.plainGet_of (c.get m)).1 (PySem.W.findObj_data hc hp.at_ hp.get hp.tak) (PySem.W.plainGet_of (c.get m)).2 (wpAny_call (PySem.W.prop_get (s := { s1 with toks := s1.toks + 1 }) I1.kIn hrec ?_))
  have I2 : Inv X pins σ H1 { s1 with toks := s1.toks + 1 } := I1.tok _
  refine codeAny_mono (F X.A.in1 X.stack { s1 with toks := s1.toks + 1 } H1 [.ref a] [.ref a] Q E0 hr.in1 I2.env0.in1 (.cons rfl .nil) q) fun r s' hq => ?_
  cases r with
  | error er =>
    have hz : CX0 X.stack H1 { s1 with toks := s1.toks + 1 } E0 er s' := hq
    exact False.elim hz
  | ok fl =>
    cases fl with
    | ret u1 =>
      obtain ⟨v, H', I3, rv, q3⟩ := I2.after hq
      show wpAny _ _ (handedOut u1) _ _ _
      rw [PySem.W.handedOut_of (handed_of rv)]
      exact wpAny_pure ⟨v, H', I3, rv, q3⟩
    | next => exact False.elim hq
    | brk => exact False.elim hq
    | cont => exact False.elim hq
end
/-! ### defs to such promises -/
section
variable {P : Program} {w : World} {K : PySem.W.Frag} {mg : Str → Option Value} {base : Heap} {x qual : Str} {params : Arguments} {body : List Stmt} {scope : Scope} {kws : List (Str × V)} {f : Addr} {fd : FuncData}
/-- a def without defaults and stars -/
theorem def_ok {CX : CXT} {N ps : List Str} {k : Nat} {sp : Sp} (F : FunD K x qual params body scope [] kws f fd) (S : FnScope N ps scope)
    (hb : ∀ (kV doc pm : Value) (an : Option Addr) (cdv ct : Value) (us : List Value), us.length = ps.length → bindArgs (PySem.W.fnOf x qual params body scope .none kV doc pm an cdv ct) ⟨us, []⟩ = pure (ps.zip us))
    (len : ∀ vs H Q E, sp vs H Q E → vs.length = ps.length)
    (body_ok : ∀ (cdv : Value) (A : Around) (outer : List Env) (s : Shared) (H : Hp) (vs : List V) (Q : VK) (E : XK), Room k (A.deeper (envOfC qual scope s.heap.objs.size f cdv)) → sp vs H Q E →
      ∃ t, PSs (cxOf CX P w K mg base N qual scope f cdv A outer s H E) body t ∧ t { nx := fun _ H' => Q .non H', rt := Q } (start N vs) H) : FnOk P w K mg base CX (k + 1) f fd ps sp ∧ FnR P w K mg base CX (k + 1) f sp := by
  have G : FnOk P w K mg base CX (k + 1) f fd ps sp := F.ok S len body_ok
  refine ⟨G, (G.raw (F.bindsN hb) .nil).imp fun vs H Q E h => ?_⟩
  rw [List.append_nil]
  exact h
/-- def f(a, .., *v) -/
theorem star_ok {CX : CXT} {N ps : List Str} {k : Nat} {sp : Sp} {pv : Str} (F : FunD K x qual params body scope [] kws f fd) (S : FnScope N (ps ++ [pv]) scope) (hCX : StX.CXUp CX)
    (hb : ∀ (kV doc pm : Value) (an : Option Addr) (cdv ct : Value) (us rest : List Value), us.length = ps.length → bindArgs (PySem.W.fnOf x qual params body scope .none kV doc pm an cdv ct) ⟨us ++ rest, []⟩ = (newTuple rest >>= fun t => pure (ps.zip us ++ [(pv, t)])))
    (body_ok : ∀ (cdv : Value) (A : Around) (outer : List Env) (s : Shared) (H : Hp) (vs : List V) (Q : VK) (E : XK), Room k (A.deeper (envOfC qual scope s.heap.objs.size f cdv)) → sp vs H Q E →
      ∃ t, PSs (cxOf CX P w K mg base N qual scope f cdv A outer s H E) body t ∧ t { nx := fun _ H' => Q .non H', rt := Q } (start N vs) H) :
    FnR P w K mg base CX (k + 1) f (fun vs H Q E => ∃ ws rest, vs = ws ++ rest ∧ ws.length = ps.length ∧ rest.length ≤ sizeLine ∧ ∀ p, H p = none → sp (ws ++ [V.ref p]) (upd H p (.tup rest)) Q E) := by
  obtain ⟨oc, od, dV, kV, doc, pm, an, cdv, ct, osl, e1, lk, hcd, hD, hK⟩ := F.ex
  rcases hD with ⟨_, e2⟩ | ⟨ne, _⟩
  · subst e1 e2
    exact StX.fn_star lk hcd S hCX (hb kV doc pm an cdv ct) fun A outer s H vs Q E hr hsp => body_ok cdv A outer s H vs Q E hr hsp
  · exact absurd rfl ne
end
end Ch

set_option Elab.async false
set_option linter.all false
set_option autoImplicit false
set_option maxRecDepth 100000
set_option maxHeartbeats 4000000
namespace Ch
open PySem PySem.Spec PyProof.Rows L2
/-! ### heaps -/
theorem Same.new {H : Hp} {p : Addr} {o : HO} (h : H p = none) : Same H (upd H p o) := fun b u e => by
  rw [upd_ne (ne_of_none e h)]
  exact e
theorem Same.seqT {K : PySem.W.Frag} {H H' : Hp} {a : Addr} {xs : List V} (e : Same H H') (h : SqT K H a xs) : SqT K H' a xs := by
  rcases h with (h | ⟨o, h⟩) | h
  · exact .inl (.inl (e _ _ h))
  · exact .inl (.inr ⟨o, e _ _ h⟩)
  · exact .inr h
theorem Same.mut {H H' : Hp} {p : Addr} {o : HO} (e : Same H H') (h : H p = none) : Same H (upd H' p o) := fun b u q => by
  rw [upd_ne (ne_of_none q h)]
  exact e b u q
theorem tr {H H1 H2 : Hp} {a : Addr} {o : HO} (e : Same H H1) (h : H a = some o) : H1 a = some o := e a o h
theorem up {H : Hp} {a p : Addr} {o u : HO} (h : H a = some o) (n : H p = none) : (upd H p u) a = some o := by
  rw [upd_ne (ne_of_none h n)]
  exact h
theorem fr {H H1 : Hp} {a p : Addr} {o : HO} (e : Same H H1) (n : H1 p = none) (h : H a = some o) : a ≠ p := ne_of_none (e a o h) n
/-! ### operators of several kinds of values -/
variable {X : Cx}
def rPlus : R2 := fun x y H Q => (∃ i j, x = .int i ∧ y = .int j ∧ Q (.int (i + j)) H) ∨ rCat x y H Q ∨ (∃ i j, x = .str i ∧ y = .str j ∧ i.length + j.length ≤ sizeLine ∧ Q (.str (i ++ j)) H)
theorem op_plus : OpR X (binaryOp .Add) rPlus := op_add.or (op_cat.or op_add_str)
def rTimes : R2 := fun x y H Q => (∃ i j, x = .int i ∧ y = .int j ∧ CMul i j ∧ Q (.int (i * j)) H) ∨ rI CMulW (fun i j => .int (i * j)) x y H Q ∨ rRep x y H Q
theorem op_times : OpR X (binaryOp .Mult) rTimes := op_mul.or (op_mulW.or op_rep)
def rMinus : R2 := rI0 fun i j => .int (i - j)
theorem op_minus : OpR X (binaryOp .Sub) rMinus := op_sub
def rModP : R2 := rI (fun _ j => 0 < j) fun i j => .int (i % j)
theorem op_modP : OpR X (binaryOp .Mod) rModP := op_mod
def rDivP : R2 := rI CDivW fun i j => .int (i / j)
theorem op_divP : OpR X (binaryOp .FloorDiv) rDivP := op_fdivW
def rPowP : R2 := rI CPow fun i j => .int (i ^ j.toNat)
theorem op_powP : OpR X (binaryOp .Pow) rPowP := op_pow
def rEqU (K : PySem.W.Frag) : R2 := fun x y H Q => rEq x y H Q ∨ rEqD K x y H Q
theorem op_eqU (hu : X.A.units + 64 < cLine) : OpR X (compareOp .Eq) (rEqU X.K) := op_eq.or (op_eqD hu)
def rNeU (K : PySem.W.Frag) : R2 := fun x y H Q => rNe x y H Q ∨ rNeD K x y H Q
theorem op_neU (hu : X.A.units + 64 < cLine) : OpR X (compareOp .NotEq) (rNeU X.K) := op_ne.or (op_neD hu)
def rLtI : R2 := rI0 fun i j => .bl (decide (i < j))
def rLeI : R2 := rI0 fun i j => .bl (decide (i ≤ j))
def rGtI : R2 := rI0 fun i j => .bl (decide (j < i))
def rGeI : R2 := rI0 fun i j => .bl (decide (j ≤ i))
theorem op_ltI : OpR X (compareOp .Lt) rLtI := op_lt
theorem op_leI : OpR X (compareOp .LtE) rLeI := op_le
theorem op_gtI : OpR X (compareOp .Gt) rGtI := op_gt
theorem op_geI : OpR X (compareOp .GtE) rGeI := op_ge
def rInU (K : PySem.W.Frag) : R2 := fun x y H Q => rIn K false x y H Q ∨ (∃ i j, x = .str i ∧ y = .str j ∧ Q (.bl (!(Builtin.Str.occurrences j i 0 j.length 1).isEmpty)) H)
theorem op_inU : OpR X (compareOp .In) (rInU X.K) := op_in_seq.or op_in_str
def rNotInU (K : PySem.W.Frag) : R2 := fun x y H Q => rIn K true x y H Q ∨ (∃ i j, x = .str i ∧ y = .str j ∧ Q (.bl (!(!(Builtin.Str.occurrences j i 0 j.length 1).isEmpty))) H)
theorem op_notInU : OpR X (compareOp .NotIn) (rNotInU X.K) := op_notIn_seq.or op_notIn_str
/-! ### built-ins by named readings -/
def rLn (K : PySem.W.Frag) : List V → Hp → VK → Prop := fun xs H Q => ∃ x n, xs = [x] ∧ LenV K x H n ∧ Q (.int n) H
theorem c_len : CallR X (.builtin "len") (rLn X.K) := call_len
def rI1 : List V → Hp → VK → Prop := fun xs H Q => (∃ i, xs = [.int i] ∧ Q (.int i) H) ∨ ∃ k, xs = [.bl k] ∧ Q (.int (if k then 1 else 0)) H
theorem c_int : CallR X (.type "int") rI1 := call_int1
def rMx2 : List V → Hp → VK → Prop := fun xs H Q => ∃ i j : Int, xs = [.int i, .int j] ∧ Q (.int (if j > i then j else i)) H
theorem c_max2 (hc : X.calm = true) : CallR X (.builtin "max") rMx2 := call_max2 hc
def rMn2 : List V → Hp → VK → Prop := fun xs H Q => ∃ i j : Int, xs = [.int i, .int j] ∧ Q (.int (if j < i then j else i)) H
theorem c_min2 (hc : X.calm = true) : CallR X (.builtin "min") rMn2 := call_min2 hc
def rMx3 : List V → Hp → VK → Prop := fun xs H Q => ∃ i j k : Int, xs = [.int i, .int j, .int k] ∧ Q (.int (if k > (if j > i then j else i) then k else (if j > i then j else i))) H
theorem c_max3 (hc : X.calm = true) : CallR X (.builtin "max") rMx3 := call_max3 hc
def rAb : List V → Hp → VK → Prop := fun xs H Q => ∃ i : Int, xs = [.int i] ∧ Q (.int (if i < 0 then -i else i)) H
theorem c_abs : CallR X (.builtin "abs") rAb := call_abs
def rLs (K : PySem.W.Frag) : List V → Hp → VK → Prop := fun xs H Q => ∃ p ys, xs = [.ref p] ∧ (SqL K H p ys ∨ SqT K H p ys) ∧ ∀ l, H l = none → Q (.ref l) (upd H l (.lst ys))
theorem c_list : CallR X (.type "list") (rLs X.K) := call_list_of
def rTu (K : PySem.W.Frag) : List V → Hp → VK → Prop := fun xs H Q => ∃ p ys, xs = [.ref p] ∧ ((SqL K H p ys ∧ ∀ l, H l = none → Q (.ref l) (upd H l (.tup ys))) ∨ (SqT K H p ys ∧ Q (.ref p) H))
theorem c_tuple : CallR X (.type "tuple") (rTu X.K) := call_tuple_of
/-- a module's text -/
theorem pe_gs {x z : Str} {pos : Pos} (h : ∃ t, X.mg x = some (.str z t)) (hg : Gl X x) (hd : (x == ("__debug__" : Str)) = false := by decide) : PE X (.Name x pos) (tC (.str z)) := by
  obtain ⟨t, e⟩ := h
  exact pe_glob hg e ⟨t, rfl⟩ hd
theorem pe_gi {x : Str} {z : Int} {pos : Pos} (h : ∃ t, X.mg x = some (.int z t)) (hg : Gl X x) (hd : (x == ("__debug__" : Str)) = false := by decide) : PE X (.Name x pos) (tC (.int z)) := by
  obtain ⟨t, e⟩ := h
  exact pe_glob hg e ⟨t, rfl⟩ hd
theorem pe_gr {x : Str} {a : Addr} {pos : Pos} (h : X.mg x = some (.ref a)) (hg : Gl X x) (hd : (x == ("__debug__" : Str)) = false := by decide) : PE X (.Name x pos) (tC (.ref a)) := pe_glob hg h rfl hd
/-- e.NAME, e a class -/
def tCV (v : V) : TE := tC v
theorem pe_cv {x f : Str} {C : Addr} {v : V} {np pos : Pos} (h : X.mg x = some (.ref C)) (r : ClX.CRead X.K C (.type "type")) (k : ∃ u, ClX.CVal X.K C (.type "type") f v u) (hg : Gl X x) (hd : (x == ("__debug__" : Str)) = false := by decide)
    (hb : attributeBase (.Name x np) f X.env (eval (.Name x np) X.env) = eval (.Name x np) X.env := by rfl) : PE X (.Attribute (.Name x np) f pos) (tC v) := by
  obtain ⟨u, k⟩ := k
  exact ⟨fun pins s σ H Q I q => (ClX.pe_cval (pe_gr h hg hd) hb).run pins s σ H Q I ⟨C, .type "type", v, u, rfl, r, k, q⟩⟩
/-! ### steps -/
section
variable {σ : L2.St} {H : Hp} {Q : VK} {QT : Bool → Hp → Prop} {QA : List V → Hp → Prop} {QS : L2.St → Hp → Prop} {D : Ends} {ta tb tc td te : TE} {t u tx ty : TT} {t1 t2 : TS} {r r' r'' : R2} {a : TA} {v x y z : V} {i j k : Int} {p q l : Addr} {b c : Bool} {xs ys : List V} {K : PySem.W.Frag} {sp : Sp} {E : XK} {C dx : Addr} {f m : Str} {fs : List (Str × V)} {n : Nat} {g : TG}
theorem x_var {n : Nat} (h : σ[n]? = some (some v)) (k : Q v H) : tVar n σ H Q := ⟨v, h, k⟩
theorem x_c (k : Q v H) : tC v σ H Q := k
theorem x_op (k : ta σ H fun x H1 => tb σ H1 fun y H2 => r x y H2 Q) : tOp r ta tb σ H Q := k
theorem x_un {r : V → Hp → VK → Prop} (k : ta σ H fun x H1 => r x H1 Q) : tUn r ta σ H Q := k
theorem x_test (k : te σ H fun x H' => ∃ k, x = .bl k ∧ QT k H') : tTest te σ H QT := k
theorem x_B (k : te σ H fun x H' => ∃ k, x = .bl k ∧ QT k H') : tB te σ H QT := k
theorem x_bl (k : QT b H) : ∃ k, V.bl b = .bl k ∧ QT k H := ⟨b, rfl, k⟩
theorem x_ex {R : Bool → Prop} (k : R b) : ∃ c, V.bl b = .bl c ∧ R c := ⟨b, rfl, k⟩
theorem x_nT {A B : Prop} (k : B) : if (!true) = true then A else B := k
theorem x_nF {A B : Prop} (k : A) : if (!false) = true then A else B := k
theorem x_and (k : t σ H fun c H1 => if c = true then u σ H1 QT else QT false H1) : tAnd t u σ H QT := k
theorem x_or (k : t σ H fun c H1 => if c = true then QT true H1 else u σ H1 QT) : tOr t u σ H QT := k
theorem x_not (k : t σ H fun c H1 => QT (!c) H1) : tNot t σ H QT := k
theorem x_andV (k : ta σ H fun x H1 => ∃ c, x = .bl c ∧ if c = true then tb σ H1 Q else Q (.bl false) H1) : tAndV ta tb σ H Q := k
theorem x_orV (k : ta σ H fun x H1 => ∃ c, x = .bl c ∧ if c = true then Q (.bl true) H1 else tb σ H1 Q) : tOrV ta tb σ H Q := k
theorem x_notV (k : ta σ H fun x H1 => ∃ c, x = .bl c ∧ Q (.bl (!c)) H1) : tNotV ta σ H Q := k
theorem x_ifE (k : t σ H fun c H1 => if c = true then ta σ H1 Q else tb σ H1 Q) : tIf t ta tb σ H Q := k
theorem x_chain (k : ta σ H fun x H1 => tb σ H1 fun y H2 => r x y H2 fun z H3 => ∃ k, z = .bl k ∧ (if k = true then tc σ H3 fun w' H4 => r' y w' H4 Q else Q (.bl false) H3)) : tChain r r' ta tb tc σ H Q := k
theorem x_chain3 (k : ta σ H fun x H1 => tb σ H1 fun y H2 => r x y H2 fun z H3 => ∃ k, z = .bl k ∧ (if k = true then tc σ H3 fun x2 H4 => r' y x2 H4 fun z2 H5 => ∃ k2, z2 = .bl k2 ∧ (if k2 = true then td σ H5 fun x3 H6 => r'' x2 x3 H6 Q else Q (.bl false) H5) else Q (.bl false) H3)) : tChain3 r r' r'' ta tb tc td σ H Q := k
theorem x_next (k : D.nx σ H) : tNext D σ H := k
theorem x_seq (k : t1 { D with nx := t2 D } σ H) : tSeq t1 t2 D σ H := k
theorem x_drop (k : te σ H fun _ H1 => D.nx σ H1) : tDrop te D σ H := k
theorem x_ret (k : te σ H D.rt) : tRet te D σ H := k
theorem x_ifS (k : t σ H fun b H1 => if b = true then t1 D σ H1 else t2 D σ H1) : tIfS t t1 t2 D σ H := k
theorem x_asg (k : te σ H fun x H1 => g x σ H1 D.nx) : tAsg te g D σ H := k
theorem x_gname {n : Nat} (k : QS (σ.set n (some v)) H) : gName n v σ H QS := k
theorem x_cons (k : te σ H fun x H1 => a σ H1 fun xs H2 => QA (x :: xs) H2) : tCons te a σ H QA := k
theorem x_nil (k : QA [] H) : tNil σ H QA := k
theorem x_tup (k : a σ H fun xs H1 => xs.length ≤ sizeLine ∧ ∀ p, H1 p = none → Q (.ref p) (upd H1 p (.tup xs))) : tTup a σ H Q := k
theorem x_lst (k : a σ H fun xs H1 => xs.length ≤ sizeLine ∧ ∀ p, H1 p = none → Q (.ref p) (upd H1 p (.lst xs))) : tLst a σ H Q := k
theorem x_cb {r : List V → Hp → VK → Prop} (k : a σ H fun vs H1 => r vs H1 Q) : tCB r a σ H Q := k
theorem x_call (k : a σ H fun vs H1 => sp vs H1 Q E) : tCallR sp E a σ H Q := k
theorem x_mk (k : a σ H fun vs H1 => ∀ x dx, H1 x = none → H1 dx = none → dx ≠ x → sp (.ref x :: vs) (upd (upd H1 dx (.own x)) x (.ins C dx [])) (fun v H2 => v = .non ∧ Q (.ref x) H2) E) : tMk C sp E a σ H Q := k
def rMeth (C : Addr) (m : Str) (k : Addr → Hp → Prop) (x : V) (H : Hp) : Prop := ∃ a dx fs, x = .ref a ∧ H a = some (.ins C dx fs) ∧ fs.lookup m = none ∧ k a H
theorem x_meth (k : ta σ H (rMeth C m fun p H1 => a σ H1 fun vs H2 => sp (.ref p :: vs) H2 Q E)) : tMethR C m sp E ta a σ H Q := k
theorem x_methAt {kk : Addr → Hp → Prop} (h : H p = some (.ins C dx fs)) (l : fs.lookup m = none) (k : kk p H) : rMeth C m kk (.ref p) H := ⟨p, dx, fs, rfl, h, l, k⟩
def rProp (C : Addr) (sp : Sp) (E : XK) (x : V) (H : Hp) (Q : VK) : Prop := ∃ a dx fs, x = .ref a ∧ H a = some (.ins C dx fs) ∧ sp [.ref a] H Q E
theorem x_prop (k : ta σ H fun x H1 => rProp C sp E x H1 Q) : tPropR C sp E ta σ H Q := k
theorem x_propAt (h : H p = some (.ins C dx fs)) (k : sp [.ref p] H Q E) : rProp C sp E (.ref p) H Q := ⟨p, dx, fs, rfl, h, k⟩
def rFld (K : PySem.W.Frag) (f : Str) (x : V) (H : Hp) (Q : VK) : Prop := ∃ a C dx fs v, x = .ref a ∧ H a = some (.ins C dx fs) ∧ Cls K C ∧ NoAttr K C f ∧ fs.lookup f = some v ∧ Q v H
theorem x_fld (k : ta σ H fun x H1 => rFld K f x H1 Q) : tFld K ta f σ H Q := k
theorem x_fldAt (h : H p = some (.ins C dx fs)) (c : Cls K C) (na : NoAttr K C f) (l : fs.lookup f = some v) (k : Q v H) : rFld K f (.ref p) H Q := ⟨p, C, dx, fs, v, rfl, h, c, na, l, k⟩
def rSet (K : PySem.W.Frag) (f : Str) (y x : V) (H : Hp) (k : Hp → Prop) : Prop := ∃ a C dx fs, x = .ref a ∧ H a = some (.ins C dx fs) ∧ Cls K C ∧ NoAttr K C f ∧ fs.length < 1000 ∧ k (upd H a (.ins C dx (putF f y fs)))
theorem x_setf (k : te σ H fun y H1 => ta σ H1 fun x H2 => rSet K f y x H2 fun H3 => D.nx σ H3) : sFld K ta te f D σ H := k
theorem x_setAt {kk : Hp → Prop} (h : H p = some (.ins C dx fs)) (c : Cls K C) (na : NoAttr K C f) (l : fs.length < 1000) (k : kk (upd H p (.ins C dx (putF f v fs)))) : rSet K f v (.ref p) H kk := ⟨p, C, dx, fs, rfl, h, c, na, l, k⟩
theorem x_starA (k : te σ H fun y H1 => ∃ a xs, y = .ref a ∧ (SqT K H1 a xs ∨ SqL K H1 a xs) ∧ QA xs H1) : tStarA K te σ H QA := k
/-! values -/
theorem x_plusI (k : Q (.int (i + j)) H) : rPlus (.int i) (.int j) H Q := .inl ⟨i, j, rfl, rfl, k⟩
theorem x_plusL (h1 : H p = some (.lst xs)) (h2 : H q = some (.lst ys)) (h3 : xs.length + ys.length ≤ sizeLine) (k : ∀ r, H r = none → Q (.ref r) (upd H r (.lst (xs ++ ys)))) : rPlus (.ref p) (.ref q) H Q := .inr (.inl ⟨p, q, xs, ys, rfl, rfl, h1, h2, h3, k⟩)
theorem x_minus (k : Q (.int (i - j)) H) : rMinus (.int i) (.int j) H Q := ⟨i, j, rfl, rfl, k⟩
theorem x_timesI (h : CMul i j) (k : Q (.int (i * j)) H) : rTimes (.int i) (.int j) H Q := .inl ⟨i, j, rfl, rfl, h, k⟩
theorem x_timesW (h : CMulW i j) (k : Q (.int (i * j)) H) : rTimes (.int i) (.int j) H Q := .inr (.inl ⟨i, j, rfl, rfl, h, k⟩)
theorem x_mod (h : 0 < j) (k : Q (.int (i % j)) H) : rModP (.int i) (.int j) H Q := ⟨i, j, rfl, rfl, h, k⟩
theorem x_div (h : CDivW i j) (k : Q (.int (i / j)) H) : rDivP (.int i) (.int j) H Q := ⟨i, j, rfl, rfl, h, k⟩
theorem x_pow (h : CPow i j) (k : Q (.int (i ^ j.toNat)) H) : rPowP (.int i) (.int j) H Q := ⟨i, j, rfl, rfl, h, k⟩
theorem x_lt (k : Q (.bl (decide (i < j))) H) : rLtI (.int i) (.int j) H Q := ⟨i, j, rfl, rfl, k⟩
theorem x_le (k : Q (.bl (decide (i ≤ j))) H) : rLeI (.int i) (.int j) H Q := ⟨i, j, rfl, rfl, k⟩
theorem x_gt (k : Q (.bl (decide (j < i))) H) : rGtI (.int i) (.int j) H Q := ⟨i, j, rfl, rfl, k⟩
theorem x_ge (k : Q (.bl (decide (j ≤ i))) H) : rGeI (.int i) (.int j) H Q := ⟨i, j, rfl, rfl, k⟩
theorem x_eqI (k : Q (.bl (decide (i = j))) H) : rEqU K (.int i) (.int j) H Q := .inl ⟨rfl, by rw [show decide (V.int i = V.int j) = decide (i = j) by simp]; exact k⟩
theorem x_neI (k : Q (.bl (!decide (i = j))) H) : rNeU K (.int i) (.int j) H Q := .inl ⟨rfl, by rw [show decide (V.int i = V.int j) = decide (i = j) by simp]; exact k⟩
theorem x_eqS {i j : Str} (k : Q (.bl (decide (i = j))) H) : rEqU K (.str i) (.str j) H Q := .inl ⟨rfl, by rw [show decide (V.str i = V.str j) = decide (i = j) by simp]; exact k⟩
theorem x_eqB {i j : Bool} (k : Q (.bl (decide (i = j))) H) : rEqU K (.bl i) (.bl j) H Q := .inl ⟨rfl, by rw [show decide (V.bl i = V.bl j) = decide (i = j) by simp]; exact k⟩
theorem x_neB {i j : Bool} (k : Q (.bl (!decide (i = j))) H) : rNeU K (.bl i) (.bl j) H Q := .inl ⟨rfl, by rw [show decide (V.bl i = V.bl j) = decide (i = j) by simp]; exact k⟩
theorem x_eqDp {d e : PyData} (h1 : Dp K H x d) (h2 : Dp K H y e) (h3 : SeqAt.shaped d = true) (h4 : SeqAt.shaped e = true) (k : Q (.bl (PyData.eqv d e)) H) : rEqU K x y H Q := .inr ⟨d, e, h1, h2, h3, h4, k⟩
theorem x_neDp {d e : PyData} (h1 : Dp K H x d) (h2 : Dp K H y e) (h3 : SeqAt.shaped d = true) (h4 : SeqAt.shaped e = true) (k : Q (.bl (!PyData.eqv d e)) H) : rNeU K x y H Q := .inr ⟨d, e, h1, h2, h3, h4, k⟩
theorem x_isN {x : V} (k : Q (.bl (decide (x = .non))) H) (e : te σ H fun y H1 => Q (.bl (decide (y = .non))) H1) : tIsN te σ H Q := e
theorem x_isNe (e : te σ H fun y H1 => Q (.bl (decide (y = .non))) H1) : tIsN te σ H Q := e
theorem x_notNe (e : te σ H fun y H1 => Q (.bl (!decide (y = .non))) H1) : tNotN te σ H Q := e
theorem x_ixL (h : SqL K H p xs) (a : atI xs i = some v) (k : Q v H) : rIx K (.ref p) (.int i) H Q := .inl ⟨p, xs, i, v, rfl, rfl, h, a, k⟩
theorem x_ixT (h : SqT K H p xs) (a : atI xs i = some v) (k : Q v H) : rIx K (.ref p) (.int i) H Q := .inr (.inl ⟨p, xs, i, v, rfl, rfl, h, a, k⟩)
theorem x_inT (h : SqT K H p xs) (h1 : flatV x = true) (h2 : xs.all flatV = true) (k : Q (.bl (inV x xs)) H) : rInU K x (.ref p) H Q := .inl ⟨p, xs, rfl, .inr h, h1, h2, k⟩
theorem x_inL (h : SqL K H p xs) (h1 : flatV x = true) (h2 : xs.all flatV = true) (k : Q (.bl (inV x xs)) H) : rInU K x (.ref p) H Q := .inl ⟨p, xs, rfl, .inl h, h1, h2, k⟩
theorem x_lenL (h : SqL K H p xs) (k : Q (.int xs.length) H) : rLn K [.ref p] H Q := ⟨.ref p, xs.length, rfl, .inl ⟨xs, h, rfl⟩, k⟩
theorem x_lenT (h : SqT K H p xs) (k : Q (.int xs.length) H) : rLn K [.ref p] H Q := ⟨.ref p, xs.length, rfl, .inr ⟨xs, h, rfl⟩, k⟩
theorem x_int (k : Q (.int i) H) : rI1 [.int i] H Q := .inl ⟨i, rfl, k⟩
theorem x_intB (k : Q (.int (if b then 1 else 0)) H) : rI1 [.bl b] H Q := .inr ⟨b, rfl, k⟩
theorem x_max2 (k : Q (.int (if j > i then j else i)) H) : rMx2 [.int i, .int j] H Q := ⟨i, j, rfl, k⟩
theorem x_min2 (k : Q (.int (if j < i then j else i)) H) : rMn2 [.int i, .int j] H Q := ⟨i, j, rfl, k⟩
theorem x_max3 {w : Int} (k : Q (.int (if w > (if j > i then j else i) then w else (if j > i then j else i))) H) : rMx3 [.int i, .int j, .int w] H Q := ⟨i, j, w, rfl, k⟩
theorem x_abs (k : Q (.int (if i < 0 then -i else i)) H) : rAb [.int i] H Q := ⟨i, rfl, k⟩
theorem x_listL (h : SqL K H p xs) (k : ∀ l, H l = none → Q (.ref l) (upd H l (.lst xs))) : rLs K [.ref p] H Q := ⟨p, xs, rfl, .inl h, k⟩
theorem x_listT (h : SqT K H p xs) (k : ∀ l, H l = none → Q (.ref l) (upd H l (.lst xs))) : rLs K [.ref p] H Q := ⟨p, xs, rfl, .inr h, k⟩
theorem x_neg (k : Q (.int (-i)) H) : rU (fun i => .int (-i)) (.int i) H Q := ⟨i, rfl, k⟩
/-! ways -/
theorem x_if {A B : Prop} (hT : b = true → A) (hF : b = false → B) : if b = true then A else B := by
  cases b with
  | true => exact hT rfl
  | false => exact hF rfl
theorem x_ifd {c A B : Prop} [Decidable c] (hT : c → A) (hF : ¬ c → B) : if decide c = true then A else B := by
  by_cases h : c
  · rw [decide_eq_true h]
    exact hT h
  · rw [decide_eq_false h]
    exact hF h
theorem x_ifnd {c A B : Prop} [Decidable c] (hT : ¬ c → A) (hF : c → B) : if (!decide c) = true then A else B := by
  by_cases h : c
  · rw [decide_eq_true h]
    exact hF h
  · rw [decide_eq_false h]
    exact hT h
theorem x_T {A B : Prop} (h : A) : if true = true then A else B := h
theorem x_F {A B : Prop} (h : B) : if false = true then A else B := h
end
end Ch
namespace Ch
open PySem PySem.Spec PyProof.Rows L2
section
variable {H : Hp} {Q : VK} {K : PySem.W.Frag} {p : Addr} {xs : List V} {i : Int} {b : Bool} {z : Str}
theorem x_isiB {x : V} {a n : String} {r : Bool} (t : TyX K H x (.type a)) (h : kitB a n = some r) (k : Q (.bl r) H) : rIsi K [x, .ty n] H Q := ⟨x, .ty n, .type a, .type n, r, rfl, .ty n, t, kit_ty h, k⟩
theorem x_isi_ii (k : Q (.bl true) H) : rIsi K [.int i, .ty "int"] H Q := x_isiB (.base (.int i)) (by decide +kernel) k
theorem x_isi_ib (k : Q (.bl false) H) : rIsi K [.int i, .ty "bool"] H Q := x_isiB (.base (.int i)) (by decide +kernel) k
theorem x_isi_bi (k : Q (.bl true) H) : rIsi K [.bl b, .ty "int"] H Q := x_isiB (.base (.bl b)) (by decide +kernel) k
theorem x_isi_bb (k : Q (.bl true) H) : rIsi K [.bl b, .ty "bool"] H Q := x_isiB (.base (.bl b)) (by decide +kernel) k
theorem x_isi_tt (h : H p = some (.tup xs)) (k : Q (.bl true) H) : rIsi K [.ref p, .ty "tuple"] H Q := x_isiB (.base (.tup h)) (by decide +kernel) k
theorem x_isi_lt (h : H p = some (.lst xs)) (k : Q (.bl false) H) : rIsi K [.ref p, .ty "tuple"] H Q := x_isiB (.base (.lst h)) (by decide +kernel) k
theorem x_isi_tl (h : H p = some (.tup xs)) (k : Q (.bl false) H) : rIsi K [.ref p, .ty "list"] H Q := x_isiB (.base (.tup h)) (by decide +kernel) k
theorem x_isi_ll (h : H p = some (.lst xs)) (k : Q (.bl true) H) : rIsi K [.ref p, .ty "list"] H Q := x_isiB (.base (.lst h)) (by decide +kernel) k
theorem sz {xs : List V} (h : Nat.ble xs.length sizeLine = true) : xs.length ≤ sizeLine := Nat.le_of_ble_eq_true h
theorem sz5 {n : Nat} (h : n ≤ 100000) : n ≤ sizeLine := Nat.le_trans h (by decide)
theorem sz5' {n : Nat} (h : n < 100000) : n < sizeLine := Nat.lt_of_lt_of_le h (by decide)
end
end Ch
/-! ### loops -/
namespace Ch
open PySem PySem.Spec PyProof.Rows L2
def ForB (J : It) (g : TG) (tb : TS) (D : Ends) (σ : L2.St) (H1 : Hp) : Prop := ∃ W : Nat → Nat → L2.St → Hp → Prop, (∃ m, W 0 m σ H1) ∧ ∀ i m σ H, W i m σ H →
  (J.stop i H ∧ D.nx σ H) ∨ (J.go i H ∧ ∃ N : L2.St → Hp → Prop, (∀ σ' H', N σ' H' → ∃ m', m' < m ∧ W (i + 1) m' σ' H') ∧ ∀ x H', J.yld i H x H' → g x σ H' fun σ2 H2 => tb { D with nx := N, ct := N, bk := D.nx } σ2 H2)
def rIL (K : PySem.W.Frag) (x : V) (H : Hp) (R : It → Hp → Prop) : Prop := ∃ a, x = .ref a ∧ (∃ xs, SqL K H a xs) ∧ R (Itl K a) H
def rIT (K : PySem.W.Frag) (x : V) (H : Hp) (R : It → Hp → Prop) : Prop := ∃ a, x = .ref a ∧ (∃ xs, SqT K H a xs) ∧ R (Itt K a) H
def rIE (K : PySem.W.Frag) (vs : List V) (H : Hp) (R : It → Hp → Prop) : Prop := ∃ a xs, vs = [.ref a] ∧ SqL K H a xs ∧ R (Ite K a) H
def rIU (K : PySem.W.Frag) (vs : List V) (H : Hp) (R : It → Hp → Prop) : Prop := ∃ a xs, vs = [.ref a] ∧ SqT K H a xs ∧ R (IteT K a) H
def rIR1 (vs : List V) (H : Hp) (R : It → Hp → Prop) : Prop := ∃ j : Int, vs = [.int j] ∧ -(2 ^ 62) ≤ j ∧ j < 2 ^ 62 ∧ R (Itr 0 j.toNat) H
def rIR2 (vs : List V) (H : Hp) (R : It → Hp → Prop) : Prop := ∃ i j : Int, vs = [.int i, .int j] ∧ (-(2 ^ 62) ≤ i ∧ i < 2 ^ 62 ∧ -(2 ^ 62) ≤ j ∧ j < 2 ^ 62) ∧ R (Itr i (j - i).toNat) H
section
variable {σ : L2.St} {H : Hp} {R : It → Hp → Prop} {D : Ends} {wi : TI} {g : TG} {tb : TS} {tl : TE} {ta : TA} {K : PySem.W.Frag} {p : Addr} {xs : List V} {i j : Int}
theorem x_for (k : wi σ H fun J H1 => ForB J g tb D σ H1) : tFor wi g tb D σ H := k
theorem x_iL (k : tl σ H fun x H1 => rIL K x H1 R) : iList K tl σ H R := k
theorem x_iT (k : tl σ H fun x H1 => rIT K x H1 R) : iTup K tl σ H R := k
theorem x_iE (k : ta σ H fun x H1 => rIE K x H1 R) : iEnum K ta σ H R := k
theorem x_iU (k : ta σ H fun x H1 => rIU K x H1 R) : iEnumT K ta σ H R := k
theorem x_iR1 (k : ta σ H fun x H1 => rIR1 x H1 R) : iRng1 ta σ H R := k
theorem x_iR2 (k : ta σ H fun x H1 => rIR2 x H1 R) : iRng2 ta σ H R := k
theorem x_iLAt (h : SqL K H p xs) (k : R (Itl K p) H) : rIL K (.ref p) H R := ⟨p, rfl, ⟨xs, h⟩, k⟩
theorem x_iTAt (h : SqT K H p xs) (k : R (Itt K p) H) : rIT K (.ref p) H R := ⟨p, rfl, ⟨xs, h⟩, k⟩
theorem x_iEAt (h : SqL K H p xs) (k : R (Ite K p) H) : rIE K [.ref p] H R := ⟨p, xs, rfl, h, k⟩
theorem x_iUAt (h : SqT K H p xs) (k : R (IteT K p) H) : rIU K [.ref p] H R := ⟨p, xs, rfl, h, k⟩
theorem x_iR1At (h0 : -(2 ^ 62) ≤ j) (h1 : j < 2 ^ 62) (k : R (Itr 0 j.toNat) H) : rIR1 [.int j] H R := ⟨j, rfl, h0, h1, k⟩
theorem x_iR2At (h : -(2 ^ 62) ≤ i ∧ i < 2 ^ 62 ∧ -(2 ^ 62) ≤ j ∧ j < 2 ^ 62) (k : R (Itr i (j - i).toNat) H) : rIR2 [.int i, .int j] H R := ⟨i, j, rfl, h, k⟩
theorem x_loop {J : It} {n : Nat} {G : Hp → Prop} {Y : Nat → Hp → V → Hp → Prop} (w : Walk J n G Y) (Pv : Nat → L2.St → Hp → Prop) (h0 : Pv 0 σ H) (hG : ∀ i σ H, i ≤ n → Pv i σ H → G H)
    (hs : ∀ i x σ H H', i < n → Pv i σ H → Y i H x H' → g x σ H' fun σ2 H2 => tb { D with nx := Pv (i + 1), ct := Pv (i + 1), bk := D.nx } σ2 H2) (hd : ∀ σ H, Pv n σ H → D.nx σ H) : ForB J g tb D σ H := for_it w Pv h0 hG hs hd
/-! targets -/
theorem x_gTup {n : Nat} {t : TGs} {QS : L2.St → Hp → Prop} (h : H p = some (.tup xs)) (e : xs.length = n) (k : t xs σ H QS) : gTup K n t (.ref p) σ H QS := ⟨p, xs, rfl, SqT.of h, e, k⟩
theorem x_gTupT {n : Nat} {t : TGs} {QS : L2.St → Hp → Prop} (h : SqT K H p xs) (e : xs.length = n) (k : t xs σ H QS) : gTup K n t (.ref p) σ H QS := ⟨p, xs, rfl, h, e, k⟩
theorem x_gStar {n i : Nat} {t : TGs} {QS : L2.St → Hp → Prop} (h : H p = some (.tup xs)) (h1 : i < n) (h2 : n ≤ xs.length + 1) (h3 : xs.length ≤ 16384) (k : ∀ d, H d = none → t (xs.take i ++ [.ref d] ++ (xs.drop i).drop (xs.length + 1 - n)) σ (upd H d (.lst ((xs.drop i).take (xs.length + 1 - n)))) QS) : gStar K n i t (.ref p) σ H QS :=
  ⟨p, xs, rfl, SqT.of h, h1, h2, h3, k⟩
theorem x_star1 {t : TGs} {a : V} {QS : L2.St → Hp → Prop} (h : H p = some (.tup [a])) (k : ∀ d, H d = none → t [a, .ref d] σ (upd H d (.lst [])) QS) : gStar K 2 1 t (.ref p) σ H QS := ⟨p, [a], rfl, SqT.of h, by decide, Nat.le_refl 2, Nat.le_of_ble_eq_true rfl, k⟩
theorem x_star2 {t : TGs} {a b : V} {QS : L2.St → Hp → Prop} (h : H p = some (.tup [a, b])) (k : ∀ d, H d = none → t [a, .ref d] σ (upd H d (.lst [b])) QS) : gStar K 2 1 t (.ref p) σ H QS := ⟨p, [a, b], rfl, SqT.of h, by decide, Nat.le_of_ble_eq_true rfl, Nat.le_of_ble_eq_true rfl, k⟩
theorem x_gcons {t : TG} {u : TGs} {v : V} {vs : List V} {QS : L2.St → Hp → Prop} (k : t v σ H fun σ' H' => u vs σ' H' QS) : gCons t u (v :: vs) σ H QS := ⟨v, vs, rfl, k⟩
theorem x_gnil {QS : L2.St → Hp → Prop} (k : QS σ H) : gNil [] σ H QS := ⟨rfl, k⟩
theorem x_par {i j : Nat} (k : ta σ H fun vs H1 => ∃ u v, vs = [u, v] ∧ D.nx ((σ.set i (some u)).set j (some v)) H1) : tPar i j ta D σ H := k
theorem x_app {l : Addr} {v : V} {Q : VK} (h : H l = some (.lst xs)) (h1 : xs.length < sizeLine) (k : Q .non (upd H l (.lst (xs ++ [v])))) : rAppend (.ref l) [v] H Q := ⟨l, xs, v, rfl, rfl, h, h1, k⟩
def rBM (K : PySem.W.Frag) (T : String) (r : V → List V → Hp → VK → Prop) (x : V) (H : Hp) (t : (List V → Hp → Prop) → Prop) (Q : VK) : Prop := tyV K T x H ∧ t fun xs H2 => r x xs H2 Q
theorem x_bm {T : String} {r : V → List V → Hp → VK → Prop} {to : TE} {Q : VK} (k : to σ H fun x H1 => tyV K T x H1 ∧ ta σ H1 fun xs H2 => r x xs H2 Q) : tBM K T r to ta σ H Q := k
theorem x_bm0 {T : String} {r : V → List V → Hp → VK → Prop} {to : TE} {Q : VK} (k : to σ H fun x H1 => tyV K T x H1 ∧ r x [] H1 Q) : tBM0 K T r to σ H Q := k
theorem ty_lst {l : Addr} (h : H l = some (.lst xs)) : tyV K "list" (.ref l) H := .inl ⟨rfl, _, SqL.of h⟩
end
end Ch
/-! ### comprehensions -/
namespace Ch
open PySem PySem.Spec PyProof.Rows L2
def LcB (J : It) (g : TG) (tt : TT) (te : TE) (vs : List Nat) (σ : L2.St) (H1 : Hp) (Q : VK) : Prop := ∀ D, H1 D = none → ∃ W : Nat → Nat → Hp → Prop, (∃ m, W 0 m (upd H1 D (.lst []))) ∧ ∀ i m H, W i m H →
  (J.stop i H ∧ Q (.ref D) H) ∨ (J.go i H ∧ ∃ Nx : Hp → Prop, (∀ H', Nx H' → ∃ m', m' < m ∧ W (i + 1) m' H') ∧ ∀ x H', J.yld i H x H' → g x (wipe σ vs) H' fun σ2 H2 => wipe σ2 vs = wipe σ vs ∧ tt σ2 H2 fun b H3 =>
    if b = true then te σ2 H3 fun y H4 => ∃ acc, H4 D = some (.lst acc) ∧ acc.length < sizeLine ∧ Nx (upd H4 D (.lst (acc ++ [y]))) else Nx H3)
section
variable {σ : L2.St} {H : Hp} {Q : VK} {wi : TI} {g : TG} {tt : TT} {te : TE} {vs : List Nat} {J : It} {n : Nat} {G : Hp → Prop} {Y : Nat → Hp → V → Hp → Prop} {QT : Bool → Hp → Prop}
theorem x_lc (k : wi σ H fun J H1 => LcB J g tt te vs σ H1 Q) : tLc wi g tt te vs σ H Q := k
theorem x_yes (k : QT true H) : tYes σ H QT := k
/-- a comprehension that only makes new things: A tells of the items so far -/
theorem x_lcA (w : Walk J n G Y) (A : Nat → List V → Hp → Prop) (stab : ∀ i acc H D xs ys, H D = some (.lst xs) → A i acc H → A i acc (upd H D (.lst ys))) (h0 : ∀ D, H D = none → A 0 [] (upd H D (.lst []))) (hn : n ≤ 100000) (hG : ∀ H', Same H H' → G H')
    (hs : ∀ i x acc H1 H' (NT : V → Hp → Prop) (NF : Hp → Prop), (∀ y H4, Same H1 H4 → A (i + 1) (acc ++ [y]) H4 → NT y H4) → (∀ H3, Same H1 H3 → A (i + 1) acc H3 → NF H3) → i < n → Same H H1 → A i acc H1 → Y i H1 x H' →
      g x (wipe σ vs) H' fun σ2 H2 => wipe σ2 vs = wipe σ vs ∧ tt σ2 H2 fun b H3 => if b = true then te σ2 H3 NT else NF H3)
    (k : ∀ D acc H', H D = none → Same H H' → H' D = some (.lst acc) → A n acc H' → acc.length ≤ n → Q (.ref D) H') : LcB J g tt te vs σ H Q := by
  intro D hD
  refine lc_it w (fun i H1 => ∃ acc, H1 D = some (.lst acc) ∧ Same H H1 ∧ A i acc H1 ∧ acc.length ≤ i) ⟨[], upd_same, Same.new hD, h0 D hD, Nat.le_refl _⟩ (fun i H1 _ ⟨_, _, s1, _⟩ => hG H1 s1) ?_ ?_
  · rintro i x H1 H' hi ⟨acc, e1, s1, a1, l1⟩ y
    refine hs i x acc H1 H' _ _ ?_ ?_ hi s1 a1 y
    · intro y H4 s4 a4
      refine ⟨acc, s4 _ _ e1, by show acc.length < 2 ^ 24; omega, acc ++ [y], upd_same, Same.mut (s1.trans s4) hD, stab _ _ _ _ _ _ (s4 _ _ e1) a4, ?_⟩
      rw [List.length_append]
      exact Nat.succ_le_succ l1
    · intro H3 s3 a3
      exact ⟨acc, s3 _ _ e1, s1.trans s3, a3, Nat.le_succ_of_le l1⟩
  · rintro H1 ⟨acc, e1, s1, a1, l1⟩
    exact k D acc H1 hD s1 e1 a1 l1
end
end Ch
/-! ### the rules with the written part named -/
namespace Ch
open PySem PySem.Spec PyProof.Rows L2
section
variable {X : Cx} {e o a b tg iter value : Expr} {es : List Expr} {ta tb te tv : TE} {t : TA} {tgs : TGs} {f x : Str} {pos pos' p tpos : Pos} {n i kk : Nat} {elts : List Expr}
theorem op_eqK (K : PySem.W.Frag) (hu : X.A.units + 64 < cLine) (hK : X.K = K := by rfl) : OpR X (compareOp .Eq) (rEqU K) := by subst hK; exact op_eqU hu
theorem op_neK (K : PySem.W.Frag) (hu : X.A.units + 64 < cLine) (hK : X.K = K := by rfl) : OpR X (compareOp .NotEq) (rNeU K) := by subst hK; exact op_neU hu
theorem op_inK (K : PySem.W.Frag) (hK : X.K = K := by rfl) : OpR X (compareOp .In) (rInU K) := by subst hK; exact op_inU
theorem op_notInK (K : PySem.W.Frag) (hK : X.K = K := by rfl) : OpR X (compareOp .NotIn) (rNotInU K) := by subst hK; exact op_notInU
theorem ix_K (K : PySem.W.Frag) (hK : X.K = K := by rfl) : IxR X (rIx K) := by subst hK; exact ix_seq
theorem c_lenK (K : PySem.W.Frag) (hK : X.K = K := by rfl) : CallR X (.builtin "len") (rLn K) := by subst hK; exact c_len
theorem c_listK (K : PySem.W.Frag) (hK : X.K = K := by rfl) : CallR X (.type "list") (rLs K) := by subst hK; exact c_list
theorem c_tupleK (K : PySem.W.Frag) (hK : X.K = K := by rfl) : CallR X (.type "tuple") (rTu K) := by subst hK; exact c_tuple
theorem c_isiK (K : PySem.W.Frag) (hK : X.K = K := by rfl) : CallR X (.builtin "isinstance") (rIsi K) := by subst hK; exact call_isi
theorem c_isiTK (K : PySem.W.Frag) (hK : X.K = K := by rfl) : CallR X (.builtin "isinstance") (rIsiT K) := by subst hK; exact call_isiT
theorem c_sumK (K : PySem.W.Frag) (hc : X.calm = true) (hK : X.K = K := by rfl) : CallR X (.builtin "sum") (rSum K) := by subst hK; exact cr_sum hc
theorem pe_fldK (K : PySem.W.Frag) (he : PE X e ta) (hb : attributeBase e f X.env (eval e X.env) = eval e X.env := by rfl) (hK : X.K = K := by rfl) : PE X (.Attribute e f pos) (tFld K ta f) := by subst hK; exact pe_fld he hb
theorem ps_fldK (K : PySem.W.Frag) (ha : PE X o ta) (hv : PE X value tv) (hs : swapsWith value (some (.Attribute o f pos')) pos.line X.env = pure false := by rfl) (hK : X.K = K := by rfl) : PS X (.Assign [.Attribute o f pos'] value pos) (sFld K ta tv f) := by subst hK; exact ps_fld ha hv hs
theorem pi_listK (K : PySem.W.Frag) (hl : PE X e te) (hK : X.K = K := by rfl) : PI X tg e (iList K te) := by subst hK; exact pi_list hl
theorem pi_tupK (K : PySem.W.Frag) (hl : PE X e te) (hK : X.K = K := by rfl) : PI X tg e (iTup K te) := by subst hK; exact pi_tup hl
theorem pi_enumK (K : PySem.W.Frag) (hm : X.mg "enumerate" = none) (ha : PA X [e] t) (hK : X.K = K := by rfl) (hg : Gl X "enumerate" := by rfl) (hs : starEach [e] X.env = [(false, eval e X.env)] := by rfl) : PI X (.Tuple elts kk tpos) (.Call (.Name "enumerate" p) [e] [] pos) (iEnum K t) := by subst hK; exact pi_enum hg hm ha hs
theorem pi_enumTK (K : PySem.W.Frag) (hm : X.mg "enumerate" = none) (ha : PA X [e] t) (hK : X.K = K := by rfl) (hg : Gl X "enumerate" := by rfl) (hs : starEach [e] X.env = [(false, eval e X.env)] := by rfl) : PI X (.Tuple elts kk tpos) (.Call (.Name "enumerate" p) [e] [] pos) (iEnumT K t) := by subst hK; exact pi_enumT hg hm ha hs
theorem pg_tupK (K : PySem.W.Frag) (hc : X.calm = true) (h : PGs X es tgs) (hn : (assignEach es X.env).length = n := by rfl) (hst : (assignEach es X.env).findIdx? (·.1) = none := by rfl) (hK : X.K = K := by rfl) : PG X (.Tuple es kk pos) (gTup K n tgs) := by subst hK; exact pg_tup hc h hn hst
theorem pg_starK (K : PySem.W.Frag) (hc : X.calm = true) (h : PGs X es tgs) (hn : (assignEach es X.env).length = n := by rfl) (hst : (assignEach es X.env).findIdx? (·.1) = some i := by rfl) (hK : X.K = K := by rfl) : PG X (.Tuple es kk pos) (gStar K n i tgs) := by subst hK; exact pg_star hc h hn hst
theorem sl_listK (K : PySem.W.Frag) (hK : X.K = K := by rfl) : SlR X (rSlL K) := by subst hK; exact sl_list
theorem sl_tupK (K : PySem.W.Frag) (hK : X.K = K := by rfl) : SlR X (rSlT K) := by subst hK; exact sl_tup
theorem pe_bmK {T : String} {id : String} {r : V → List V → Hp → VK → Prop} {apos : Pos} {ea : Expr} (K : PySem.W.Frag) (pa : PlainAttrs T) (slot : Slot T f id) (hty : typeOf (.builtin id) = pure (.type "method_descriptor")) (hm : MtR X id r) (ho : PE X o ta) (ha : PA X (ea :: es) t) (hK : X.K = K := by rfl)
    (h3 : attributeBase o f X.env (eval o X.env) = eval o X.env := by rfl)
    (h4 : ((backTo pos (starEach (ea :: es) X.env)).all (fun x => !x.1) && (backToKw pos (keywordEach [] X.env)).all (fun x => x.1.isSome) && decide ((ea :: es).length + ([] : List Keyword).length + (if ([] : List Keyword).isEmpty then 0 else 1) < 30)) = true := by rfl)
    (h5 : (apos.endLine == pos.line) = true := by rfl) (h1 : starEach (ea :: es) X.env = (false, eval ea X.env) :: starEach es X.env := by rfl) (h2 : (backTo pos (starEach es X.env)).any (·.1) = false := by rfl) : PE X (.Call (.Attribute o f apos) (ea :: es) [] pos) (tBM K T r ta t) := by
  subst hK
  exact pe_bm pa slot hty hm ho ha h3 h4 h5 h1 h2
theorem pe_bm0K {T : String} {id : String} {r : V → List V → Hp → VK → Prop} {apos : Pos} (K : PySem.W.Frag) (pa : PlainAttrs T) (slot : Slot T f id) (hty : typeOf (.builtin id) = pure (.type "method_descriptor")) (hm : MtR X id r) (ho : PE X o ta) (hK : X.K = K := by rfl)
    (h3 : attributeBase o f X.env (eval o X.env) = eval o X.env := by rfl) (h5 : (apos.endLine == pos.line) = true := by rfl) : PE X (.Call (.Attribute o f apos) [] [] pos) (tBM0 K T r ta) := by
  subst hK
  exact pe_bm0 pa slot hty hm ho h3 h5
end
end Ch
namespace Ch
open PySem PySem.Spec PyProof.Rows L2
section
variable {σ : L2.St} {H : Hp} {v : V} {to ti : TE} {t : V → V → V → Hp → (Hp → Prop) → Prop} {QS : L2.St → Hp → Prop} {QH : Hp → Prop} {p : Addr} {xs : List V} {i : Int} {j : Nat}
theorem x_gSub (k : to σ H fun o H1 => ti σ H1 fun i H2 => t o i v H2 fun H3 => QS σ H3) : gSub to ti t v σ H QS := k
theorem x_setL (h : H p = some (.lst xs)) (e : ixN xs.length i = some j) (k : QH (upd H p (.lst (xs.set j v)))) : rSetL (.ref p) (.int i) v H QH := ⟨p, xs, i, j, rfl, rfl, h, e, k⟩
end
end Ch
namespace Ch
open L2
/-- two ways meet: what holds of every heap like that -/
theorem x_meet {G : Prop} {T : Hp → Prop} (R : Hp → Prop) (h1 : ∀ H, R H → T H) (h2 : (∀ H, R H → T H) → G) : G := h2 h1
end Ch
namespace Ch
open PySem PySem.Spec PyProof.Rows L2
theorem x_par3 {i j l : Nat} {ta : TA} {D : Ends} {σ : L2.St} {H : Hp} (k : ta σ H fun vs H1 => ∃ u v w, vs = [u, v, w] ∧ D.nx (((σ.set i (some u)).set j (some v)).set l (some w)) H1) : tPar3 i j l ta D σ H := k
theorem x_sum {K : PySem.W.Frag} {H : Hp} {Q : VK} {p : Addr} {ns : List Int} (h : SqL K H p (ns.map V.int)) (k : Q (.int ns.sum) H) : rSum K [.ref p] H Q := ⟨p, ns, rfl, h, k⟩
end Ch
namespace Ch
open PySem PySem.Spec PyProof.Rows L2
section
variable {σ : L2.St} {H : Hp} {Q : VK} {g : TG} {tt : TT} {te : TE} {vs : List Nat} {J : It} {n : Nat} {G : Hp → Prop} {Y : Nat → Hp → V → Hp → Prop}
/-- a comprehension by a word about the whole heap -/
theorem x_lcG (w : Walk J n G Y) (Pv : Addr → Nat → Hp → Prop) (h0 : ∀ D, H D = none → Pv D 0 (upd H D (.lst []))) (hG : ∀ D i H1, i ≤ n → Pv D i H1 → G H1)
    (hs : ∀ D i x H1 H', H D = none → i < n → Pv D i H1 → Y i H1 x H' → g x (wipe σ vs) H' fun σ2 H2 => wipe σ2 vs = wipe σ vs ∧ tt σ2 H2 fun b H3 =>
      if b = true then te σ2 H3 fun y H4 => ∃ acc, H4 D = some (.lst acc) ∧ acc.length < sizeLine ∧ Pv D (i + 1) (upd H4 D (.lst (acc ++ [y]))) else Pv D (i + 1) H3)
    (hd : ∀ D H1, H D = none → Pv D n H1 → Q (.ref D) H1) : LcB J g tt te vs σ H Q := fun D hD =>
  lc_it w (Pv D) (h0 D hD) (hG D) (fun i x H1 H' hi p y => hs D i x H1 H' hD hi p y) fun H1 p => hd D H1 hD p
theorem x_meet2 {G : Prop} {T : Addr → Hp → Prop} (R : Addr → Hp → Prop) (h1 : ∀ q H, R q H → T q H) (h2 : (∀ q H, R q H → T q H) → G) : G := h2 h1
theorem x_lstRg {te : L2.St → Hp → (Int → Int → Hp → Prop) → Prop} (k : te σ H fun a b H1 => RgOk a b ∧ ∀ q, H1 q = none → Q (.ref q) (upd H1 q (.lst (rgV a b)))) : tLstRg te σ H Q := k
def rRg1 (x : V) (H : Hp) (R : Int → Int → Hp → Prop) : Prop := ∃ n, x = .int n ∧ R 0 n H
theorem x_rg1 {ta : TE} {R : Int → Int → Hp → Prop} (k : ta σ H fun x H1 => rRg1 x H1 R) : tRg1 ta σ H R := k
theorem x_rg1At {R : Int → Int → Hp → Prop} {n : Int} (k : R 0 n H) : rRg1 (.int n) H R := ⟨n, rfl, k⟩
end
end Ch
namespace Ch
open PySem PySem.Spec PyProof.Rows L2
/-- if c: x = e, what is known of x behind it -/
theorem x_whenSet {c : Prop} [Decidable c] {D : Ends} {σ : L2.St} {H : Hp} {i : Nat} {te : TE} (R : V → Hp → Prop) (v0 : V) (h0 : σ.set i (some v0) = σ) (hF : ¬ c → R v0 H) (hT : c → te σ H R) (mono : ∀ Q : VK, (∀ v H', R v H' → Q v H') → te σ H R → te σ H Q) (h1 : ∀ v H', R v H' → D.nx (σ.set i (some v)) H') :
    if decide c = true then tAsg te (gName i) D σ H else tNext D σ H := by
  by_cases h : c
  · rw [decide_eq_true h]
    exact mono _ h1 (hT h)
  · rw [decide_eq_false h]
    show D.nx σ H
    have g := h1 v0 H (hF h)
    rw [h0] at g
    exact g
/-- the same, e told for any end -/
theorem x_whenSet' {c : Prop} [Decidable c] {D : Ends} {σ : L2.St} {H : Hp} {i : Nat} {te : TE} (R : V → Hp → Prop) (v0 : V) (h0 : σ.set i (some v0) = σ) (hF : ¬ c → R v0 H) (hT : c → ∀ Q : VK, (∀ v H', R v H' → Q v H') → te σ H Q) (h1 : ∀ v H', R v H' → D.nx (σ.set i (some v)) H') :
    if decide c = true then tAsg te (gName i) D σ H else tNext D σ H := by
  by_cases h : c
  · rw [decide_eq_true h]
    exact hT h _ h1
  · rw [decide_eq_false h]
    show D.nx σ H
    have g := h1 v0 H (hF h)
    rw [h0] at g
    exact g
end Ch
namespace Ch
open PySem PySem.Spec PyProof.Rows L2
section
variable {c : TT} {tb : TS} {D : Ends} {σ : L2.St} {H : Hp}
/-- while, a word with a measure -/
theorem x_while (W : Nat → L2.St → Hp → Prop) (m : Nat) (h0 : W m σ H) (hs : ∀ m σ H, W m σ H → c σ H fun b H1 => if b = true then ∃ N : L2.St → Hp → Prop, (∀ σ' H', N σ' H' → ∃ m', m' < m ∧ W m' σ' H') ∧ tb { D with nx := N, ct := N, bk := D.nx } σ H1 else D.nx σ H1) : tWhile c tb D σ H := ⟨W, ⟨m, h0⟩, hs⟩
theorem x_turn {W : Nat → L2.St → Hp → Prop} {m : Nat} (k : tb { D with nx := fun σ' H' => ∃ m', m' < m ∧ W m' σ' H', ct := fun σ' H' => ∃ m', m' < m ∧ W m' σ' H', bk := D.nx } σ H) : ∃ N : L2.St → Hp → Prop, (∀ σ' H', N σ' H' → ∃ m', m' < m ∧ W m' σ' H') ∧ tb { D with nx := N, ct := N, bk := D.nx } σ H := ⟨_, fun _ _ h => h, k⟩
end
end Ch
namespace Ch
open PySem PySem.Spec PyProof.Rows L2
/-- x = e1 if c else e2, what is known of x behind it -/
theorem x_ifSet {b : Bool} {σ : L2.St} {H : Hp} {ta tb : TE} {k : VK} (R : V → Hp → Prop) (hT : b = true → ∀ Q : VK, (∀ v H', R v H' → Q v H') → ta σ H Q) (hF : b = false → ∀ Q : VK, (∀ v H', R v H' → Q v H') → tb σ H Q) (h1 : ∀ v H', R v H' → k v H') :
    if b = true then ta σ H k else tb σ H k := by
  cases b with
  | true => exact hT rfl _ h1
  | false => exact hF rfl _ h1
theorem x_ifSetd {c : Prop} [Decidable c] {σ : L2.St} {H : Hp} {ta tb : TE} {k : VK} (R : V → Hp → Prop) (hT : c → ∀ Q : VK, (∀ v H', R v H' → Q v H') → ta σ H Q) (hF : ¬ c → ∀ Q : VK, (∀ v H', R v H' → Q v H') → tb σ H Q) (h1 : ∀ v H', R v H' → k v H') :
    if decide c = true then ta σ H k else tb σ H k := x_ifSet R (fun e => hT (of_decide_eq_true e)) (fun e => hF (of_decide_eq_false e)) h1
end Ch
namespace Ch
open PySem PySem.Spec PyProof.Rows L2
section
variable {X : Cx} {H : Hp} {Q : VK} {K : PySem.W.Frag} {p : Addr} {ns : List Int}
theorem c_minLK (K : PySem.W.Frag) (hc : X.calm = true) (hK : X.K = K := by rfl) : CallR X (.builtin "min") (rMin K) := by subst hK; exact cr_min hc
theorem c_maxLK (K : PySem.W.Frag) (hc : X.calm = true) (hK : X.K = K := by rfl) : CallR X (.builtin "max") (rMax K) := by subst hK; exact cr_max hc
theorem c_sortedK (K : PySem.W.Frag) (hK : X.K = K := by rfl) : CallR X (.builtin "sorted") (rSorted K) := by subst hK; exact cr_sorted
theorem x_minL (h : SqL K H p (ns.map V.int)) (h0 : 0 < ns.length) (k : ∀ m, m ∈ ns → (∀ y ∈ ns, m ≤ y) → Q (.int m) H) : rMin K [.ref p] H Q := ⟨p, ns, rfl, h, h0, k⟩
theorem x_maxL (h : SqL K H p (ns.map V.int)) (h0 : 0 < ns.length) (k : ∀ m, m ∈ ns → (∀ y ∈ ns, y ≤ m) → Q (.int m) H) : rMax K [.ref p] H Q := ⟨p, ns, rfl, h, h0, k⟩
theorem x_sorted (h : SqL K H p (ns.map V.int)) (h0 : ns.length < 64) (k : ∀ (ms : List Int) (q : Addr), ms.Perm ns → ms.Pairwise (· ≤ ·) → H q = none → Q (.ref q) (upd H q (.lst (ms.map V.int)))) : rSorted K [.ref p] H Q := ⟨p, ns, rfl, h, h0, k⟩
/-- a list of ints made by a range -/
def rgI (f : Int → Int) (n : Nat) : List Int := (List.range n).map fun j => f (j : Nat)
theorem rgI_len {f : Int → Int} {n : Nat} : (rgI f n).length = n := by unfold rgI; rw [List.length_map, List.length_range]
theorem rgI_snoc {f : Int → Int} {n : Nat} : rgI f (n + 1) = rgI f n ++ [f (n : Nat)] := by unfold rgI; rw [List.range_succ, List.map_append]; rfl
theorem rgI_at {f : Int → Int} {n : Nat} {y : Int} (h0 : 0 ≤ y) (h1 : y < n) : atI ((rgI f n).map V.int) y = some (.int (f y)) := by
  have e : y = ((y.toNat : Nat) : Int) := (Int.toNat_of_nonneg h0).symm
  rw [e]
  refine atI_nat ?_
  unfold rgI
  rw [List.getElem?_map, List.getElem?_map, List.getElem?_range (by omega)]
  rfl
theorem rgI_mem {f : Int → Int} {n : Nat} {z : Int} : z ∈ rgI f n ↔ ∃ y : Int, 0 ≤ y ∧ y < n ∧ f y = z := by
  unfold rgI
  constructor
  · intro h
    obtain ⟨j, hj, e⟩ := List.mem_map.mp h
    exact ⟨(j : Nat), by omega, by have := List.mem_range.mp hj; omega, e⟩
  · rintro ⟨y, h0, h1, e⟩
    refine List.mem_map.mpr ⟨y.toNat, List.mem_range.mpr (by omega), ?_⟩
    rw [Int.toNat_of_nonneg h0]
    exact e
end
end Ch

set_option Elab.async false
set_option linter.all false
set_option autoImplicit false
set_option maxRecDepth 100000
set_option maxHeartbeats 4000000
namespace Ch
open PySem PySem.Spec PyProof.Rows L2 ChM
/-! ### steps, plans -/
def roomS (b : Bool) : Str := if b then "red" else "blue"
def stepV : Stp → List V
  | .turn => [.str "turn"]
  | .mt b n => [.str (roomS b), .int n]
def StepsAt (H : Hp) : List V → List Stp → Prop := Paired fun v s => ∃ p, v = .ref p ∧ H p = some (.tup (stepV s))
theorem pr_len {α β : Type} {R : α → β → Prop} : ∀ {xs : List α} {ys : List β}, Paired R xs ys → xs.length = ys.length
  | _, _, .nil => rfl
  | _, _, .cons _ t => congrArg (· + 1) (pr_len t)
theorem pr_at {α β : Type} {R : α → β → Prop} : ∀ {xs : List α} {ys : List β} {i : Nat} {x : α}, Paired R xs ys → xs[i]? = some x → ∃ y, ys[i]? = some y ∧ R x y
  | _, _, _, _, .nil, e => nomatch e
  | _, _, 0, x, .cons r _, e => ⟨_, rfl, by cases e; exact r⟩
  | _, _, i + 1, x, .cons _ t, e => pr_at (i := i) t e
theorem pr_atR {α β : Type} {R : α → β → Prop} : ∀ {xs : List α} {ys : List β} {i : Nat} {y : β}, Paired R xs ys → ys[i]? = some y → ∃ x, xs[i]? = some x ∧ R x y
  | _, _, _, _, .nil, e => nomatch e
  | _, _, 0, x, .cons r _, e => ⟨_, rfl, by cases e; exact r⟩
  | _, _, i + 1, x, .cons _ t, e => pr_atR (i := i) t e
theorem pr_app {α β : Type} {R : α → β → Prop} : ∀ {xs xs' : List α} {ys ys' : List β}, Paired R xs ys → Paired R xs' ys' → Paired R (xs ++ xs') (ys ++ ys')
  | _, _, _, _, .nil, t => t
  | _, _, _, _, .cons r t, u => .cons r (pr_app t u)
theorem pr_im {α β : Type} {R R' : α → β → Prop} (f : ∀ a b, R a b → R' a b) : ∀ {xs : List α} {ys : List β}, Paired R xs ys → Paired R' xs ys
  | _, _, .nil => .nil
  | _, _, .cons r t => .cons (f _ _ r) (pr_im f t)
theorem pr_take {α β : Type} {R : α → β → Prop} : ∀ (n : Nat) {xs : List α} {ys : List β}, Paired R xs ys → Paired R (xs.take n) (ys.take n)
  | 0, _, _, _ => by rw [List.take_zero, List.take_zero]; exact .nil
  | n + 1, _, _, .nil => .nil
  | n + 1, _, _, .cons r t => .cons r (pr_take n t)
theorem pr_drop {α β : Type} {R : α → β → Prop} : ∀ (n : Nat) {xs : List α} {ys : List β}, Paired R xs ys → Paired R (xs.drop n) (ys.drop n)
  | 0, _, _, t => t
  | n + 1, _, _, .nil => .nil
  | n + 1, _, _, .cons r t => pr_drop n t
theorem pr_snoc {α β : Type} {R : α → β → Prop} {xs : List α} {ys : List β} {x : α} {y : β} (t : Paired R xs ys) (r : R x y) : Paired R (xs ++ [x]) (ys ++ [y]) := pr_app t (.cons r .nil)
theorem StepsAt.mono {H H' : Hp} {vs : List V} {l : List Stp} (e : Same H H') (h : StepsAt H vs l) : StepsAt H' vs l := pr_im (fun _ _ ⟨p, e1, e2⟩ => ⟨p, e1, e p _ e2⟩) h
structure PlanAt (C : Addr) (H : Hp) (p : Addr) (l : List Stp) : Prop where
  ex : ∃ dx t vs, H p = some (.ins C dx [("parts", .ref t)]) ∧ H t = some (.tup vs) ∧ StepsAt H vs l
theorem PlanAt.mono {C : Addr} {H H' : Hp} {p : Addr} {l : List Stp} (e : Same H H') (h : PlanAt C H p l) : PlanAt C H' p l := by
  obtain ⟨dx, t, vs, h1, h2, h3⟩ := h.ex
  exact ⟨dx, t, vs, e _ _ h1, e _ _ h2, h3.mono e⟩
/-- a step that a plan may have -/
def goodS (s : Stp) : Prop := ∀ b n, s = .mt b n → 0 ≤ n ∧ n ≤ 1000000000000000000
def goodP (l : List Stp) : Prop := (∀ s ∈ l, goodS s) ∧ l.length ≤ 60
theorem roomS_cases (b : Bool) : (b = true ∧ roomS b = "red") ∨ (b = false ∧ roomS b = "blue") := by
  cases b
  · exact .inr ⟨rfl, rfl⟩
  · exact .inl ⟨rfl, rfl⟩
/-- (side, need) -/
def pairV (p : Int × Int) : List V := [.int p.1, .int p.2]
def PairsAt (H : Hp) : List V → List (Int × Int) → Prop := Paired fun v s => ∃ p, v = .ref p ∧ H p = some (.tup (pairV s))
theorem PairsAt.mono {H H' : Hp} {vs : List V} {l : List (Int × Int)} (e : Same H H') (h : PairsAt H vs l) : PairsAt H' vs l := pr_im (fun _ _ ⟨p, e1, e2⟩ => ⟨p, e1, e p _ e2⟩) h
/-- a list at r, that is written -/
theorem PairsAt.mono2 {H H' : Hp} {vs : List V} {l : List (Int × Int)} {r : Addr} {xs : List V} {o : HO} (h : PairsAt H vs l) (e : Same H H') (hr : H' r = some (.lst xs)) : PairsAt (upd H' r o) vs l :=
  pr_im (fun _ _ ⟨p, e1, e2⟩ => ⟨p, e1, by rw [upd_ne (ne_of (e p _ e2) hr (by intro z; cases z))]; exact e p _ e2⟩) h
theorem StepsAt.mono2 {H H' : Hp} {vs : List V} {l : List Stp} {r : Addr} {xs : List V} {o : HO} (h : StepsAt H vs l) (e : Same H H') (hr : H' r = some (.lst xs)) : StepsAt (upd H' r o) vs l :=
  pr_im (fun _ _ ⟨p, e1, e2⟩ => ⟨p, e1, by rw [upd_ne (ne_of (e p _ e2) hr (by intro z; cases z))]; exact e p _ e2⟩) h
theorem PlanAt.mono2 {C : Addr} {H H' : Hp} {p r : Addr} {l : List Stp} {xs : List V} {o : HO} (h : PlanAt C H p l) (e : Same H H') (hr : H' r = some (.lst xs)) : PlanAt C (upd H' r o) p l := by
  obtain ⟨dx, t, vs, h1, h2, h3⟩ := h.ex
  exact ⟨dx, t, vs, by rw [upd_ne (ne_of (e p _ h1) hr (by intro z; cases z))]; exact e p _ h1, by rw [upd_ne (ne_of (e t _ h2) hr (by intro z; cases z))]; exact e t _ h2, h3.mono2 e hr⟩
/-! ### effects -/
def goalV : Option Int → V
  | none => .non
  | some g => .int g
def effF (e : Eff) : List (Str × V) := [("chairs", .int e.c), ("low", .int e.lo), ("high", .int e.hi), ("extra", .int e.ex), ("goal", goalV e.goal), ("turned", .bl e.tu)]
def EffAt (C : Addr) (H : Hp) (p : Addr) (e : Eff) : Prop := ∃ dx, H p = some (.ins C dx (effF e))
theorem EffAt.mono {C : Addr} {H H' : Hp} {p : Addr} {e : Eff} (s : Same H H') (h : EffAt C H p e) : EffAt C H' p e := let ⟨dx, q⟩ := h; ⟨dx, s _ _ q⟩
section
variable {H : Hp} {Q : VK} {K : PySem.W.Frag} {C p q : Addr} {e : Eff} {f : Str} {v : V}
theorem x_eff (h : EffAt C H p e) (c : Cls K C) (na : NoAttr K C f) (l : (effF e).lookup f = some v) (k : Q v H) : rFld K f (.ref p) H Q := let ⟨_, q⟩ := h; x_fldAt q c na l k
theorem eff_chairs : (effF e).lookup ("chairs" : Str) = some (.int e.c) := by unfold effF; kernel_rfl
theorem eff_low : (effF e).lookup ("low" : Str) = some (.int e.lo) := by unfold effF; kernel_rfl
theorem eff_high : (effF e).lookup ("high" : Str) = some (.int e.hi) := by unfold effF; kernel_rfl
theorem eff_extra : (effF e).lookup ("extra" : Str) = some (.int e.ex) := by unfold effF; kernel_rfl
theorem eff_goal : (effF e).lookup ("goal" : Str) = some (goalV e.goal) := by unfold effF; kernel_rfl
theorem eff_turned : (effF e).lookup ("turned" : Str) = some (.bl e.tu) := by unfold effF; kernel_rfl
/-- step == ("turn",) -/
def stepD : Stp → PyData
  | .turn => .tuple [.str "turn"]
  | .mt b n => .tuple [.str (roomS b), .int n]
theorem step_dp {s : Stp} (h : H p = some (.tup (stepV s))) : Dp K H (.ref p) (stepD s) := by
  cases s with
  | turn => exact .tup (SqT.of h) (.cons (.str _) .nil)
  | mt b n => exact .tup (SqT.of h) (.cons (.str _) (.cons (.int _) .nil))
theorem eq_turn {s : Stp} (h1 : H p = some (.tup (stepV s))) (h2 : H q = some (.tup [.str "turn"])) (k : Q (.bl (decide (s = .turn))) H) : rEqU K (.ref p) (.ref q) H Q := by
  refine x_eqDp (step_dp h1) (step_dp (s := .turn) h2) ?_ (by decide +kernel) ?_
  · cases s with
    | turn => decide +kernel
    | mt b n => cases b <;> kernel_rfl
  · cases s with
    | turn => exact k
    | mt b n =>
      have ez : PyData.eqv (stepD (.mt b n)) (stepD .turn) = false := by
        show (PyData.eqv (.str (roomS b)) (.str "turn") && false) = false
        rw [Bool.and_false]
      rw [ez]
      exact k
theorem step_len {s : Stp} : (stepV s).length = if s = .turn then 1 else 2 := by
  cases s <;> rfl
end
end Ch
/-! ### the draws' state: a list at st, written in place -/
namespace Ch
open PySem PySem.Spec PyProof.Rows L2 ChM
def SameB (st : Addr) (H H' : Hp) : Prop := ∀ b o, b ≠ st → H b = some o → H' b = some o
theorem SameB.refl (st : Addr) (H : Hp) : SameB st H H := fun _ _ _ h => h
theorem SameB.trans {st : Addr} {H H1 H2 : Hp} (a : SameB st H H1) (b : SameB st H1 H2) : SameB st H H2 := fun c o n h => b c o n (a c o n h)
theorem SameB.of {st : Addr} {H H' : Hp} (s : Same H H') : SameB st H H' := fun c o _ h => s c o h
theorem SameB.upd {st : Addr} {H : Hp} {o : HO} : SameB st H (upd H st o) := fun b u n h => by
  rw [upd_ne n]
  exact h
structure StAt (K : PySem.W.Frag) (H : Hp) (st a : Addr) (ns : List Int) : Prop where
  lst : ∃ pos m r : Int, H st = some (.lst [.ref a, .int pos, .int m, .int r]) ∧ 0 ≤ pos
  scr : ∀ H', SameB st H H' → SqL K H' a (ns.map V.int)
theorem StAt.mono {K : PySem.W.Frag} {H H' : Hp} {st a : Addr} {ns : List Int} (h : StAt K H st a ns) (s : Same H H') : StAt K H' st a ns := by
  obtain ⟨pos, m, r, h1, h2⟩ := h.lst
  exact ⟨⟨pos, m, r, s _ _ h1, h2⟩, fun H2 s2 => h.scr H2 ((SameB.of s).trans s2)⟩
theorem StAt.scr0 {K : PySem.W.Frag} {H : Hp} {st a : Addr} {ns : List Int} (h : StAt K H st a ns) : SqL K H a (ns.map V.int) := h.scr H (SameB.refl _ _)
theorem StAt.put {K : PySem.W.Frag} {H : Hp} {st a : Addr} {ns : List Int} {pos m r : Int} (h : StAt K H st a ns) (h0 : 0 ≤ pos) : StAt K (upd H st (.lst [.ref a, .int pos, .int m, .int r])) st a ns :=
  ⟨⟨pos, m, r, upd_same, h0⟩, fun H' s => h.scr H' (SameB.upd.trans s)⟩
theorem StAt.new {K : PySem.W.Frag} {H : Hp} {st a : Addr} {ns : List Int} {pos m r : Int} (hs : SqL K H a (ns.map V.int)) (hn : H st = none) (h0 : 0 ≤ pos) : StAt K (upd H st (.lst [.ref a, .int pos, .int m, .int r])) st a ns := by
  refine ⟨⟨pos, m, r, upd_same, h0⟩, fun H' s => ?_⟩
  have key : ∀ b o, H b = some o → H' b = some o := fun b o e => by
    have hb : b ≠ st := ne_of_none e hn
    refine s b o hb ?_
    rw [upd_ne hb]
    exact e
  rcases hs with (h | ⟨o, h⟩) | h
  · exact .inl (.inl (key _ _ h))
  · exact .inl (.inr ⟨o, key _ _ h⟩)
  · exact .inr h
/-- not the state: another kind of object, or one that came later -/
theorem StAt.ne {K : PySem.W.Frag} {H : Hp} {st a p : Addr} {ns : List Int} {o : HO} (h : StAt K H st a ns) (hp : H p = some o) (hd : ∀ xs, o ≠ .lst xs) : p ≠ st := by
  obtain ⟨_, _, _, h1, _⟩ := h.lst
  exact ne_of hp h1 (hd _)
theorem StAt.neN {K : PySem.W.Frag} {H : Hp} {st a p : Addr} {ns : List Int} (h : StAt K H st a ns) (hp : H p = none) : p ≠ st := by
  obtain ⟨_, _, _, h1, _⟩ := h.lst
  exact (ne_of_none h1 hp).symm
theorem StepsAt.monoB {K : PySem.W.Frag} {H H' : Hp} {st a : Addr} {ns : List Int} {vs : List V} {l : List Stp} (h : StAt K H st a ns) (s : SameB st H H') (hs : StepsAt H vs l) : StepsAt H' vs l :=
  pr_im (fun _ _ ⟨p, e1, e2⟩ => ⟨p, e1, s p _ (h.ne e2 fun xs z => nomatch z) e2⟩) hs
theorem PlanAt.monoB {K : PySem.W.Frag} {H H' : Hp} {st a C p : Addr} {ns : List Int} {l : List Stp} (h : StAt K H st a ns) (s : SameB st H H') (hp : PlanAt C H p l) : PlanAt C H' p l := by
  obtain ⟨dx, t, vs, h1, h2, h3⟩ := hp.ex
  exact ⟨dx, t, vs, s _ _ (h.ne h1 fun xs z => nomatch z) h1, s _ _ (h.ne h2 fun xs z => nomatch z) h2, StepsAt.monoB h s h3⟩
theorem SameB.free {K : PySem.W.Frag} {H H' : Hp} {st a p : Addr} {ns : List Int} (h : StAt K H' st a ns) (s : SameB st H H') (hp : H' p = none) : H p = none := by
  cases e : H p with
  | none => rfl
  | some o =>
    have := s p o (h.neN hp) e
    rw [hp] at this
    cases this
end Ch
namespace Ch
open PySem PySem.Spec PyProof.Rows L2 ChM
theorem StAt.putD {K : PySem.W.Frag} {H H1 : Hp} {st a D : Addr} {ns : List Int} {o : HO} (S0 : StAt K H st a ns) (S : StAt K H1 st a ns) (hD : H D = none) (sB : SameB st H H1) : StAt K (upd H1 D o) st a ns ∧ SameB st H (upd H1 D o) := by
  have sN : SameB st H (upd H1 D o) := fun b u hb e => by
    rw [upd_ne (ne_of_none e hD)]
    exact sB b u hb e
  obtain ⟨p1, p2, p3, p4, p5⟩ := S.lst
  exact ⟨⟨⟨p1, p2, p3, by rw [upd_ne (S0.neN hD).symm]; exact p4, p5⟩, fun H' s' => S0.scr H' (sN.trans s')⟩, sN⟩
end Ch

set_option linter.all false
set_option autoImplicit false
set_option maxRecDepth 100000
set_option maxHeartbeats 4000000
namespace ChM
open Ch
/-! ### simple plans, in plain -/
def lastW (c g : Int) (m : Nat) : Int := if m % 2 = 0 then c - g else g
def longW (c b g : Int) (m : Nat) (up : Bool) : Int := if up then c - b + c * ((m : Int) - 2) + lastW c g m else c - (c - b) + c * ((m : Int) - 2) + lastW c (c - g) m
def placesL (c g : Int) (m : Nat) (up : Bool) : List Int := rgI (fun j => if decide (decide (j % 2 = 0) = up) then c else 0) (m - 1) ++ [g]
def shortGo : Int → List Int → Int → List Int
  | _, [], _ => []
  | _, [z], _ => [z]
  | pv, z :: nx :: r, sl =>
    let st : Int := if z > pv then 1 else -1
    let less := mn sl (absI (z - mx (pv * st) (nx * st) * st) - 1)
    (z - less * st) :: shortGo (z - less * st) (nx :: r) (sl - less)
def possW (c b g : Int) (m : Nat) (up : Bool) : Bool := if up then decide (b < c) && (if m % 2 = 0 then decide (g < c) else decide (g > 0)) else decide (b > 0) && (if m % 2 = 0 then decide (g > 0) else decide (g < c))
/-- so many moves do, the first goes so -/
def doesW (c b g L : Int) (m : Nat) (up : Bool) : Prop := possW c b g m up = true ∧ L ≤ longW c b g m up
def WayOf (c b g L : Int) (up : Bool) (zs : List Int) : Prop :=
  (L = absI (g - b) ∧ up = decide (g > b) ∧ zs = [g]) ∨
  (L ≠ absI (g - b) ∧ ∃ m : Nat, 2 ≤ m ∧ doesW c b g L m up ∧ (∀ m' u, 2 ≤ m' → m' < m → ¬ doesW c b g L m' u) ∧ (up = false → ¬ doesW c b g L m true) ∧ zs = shortGo b (placesL c g m up) ((longW c b g m up - L) / 2))
def stepTo (c z : Int) (up : Bool) : Stp := if up then .mt true z else .mt false (c - z)
def zsteps (c : Int) : Bool → List Int → List Stp
  | _, [] => []
  | up, z :: r => stepTo c z up :: zsteps c (!up) r
def SimpleOf (e : Eff) (l : List Stp) : Prop :=
  (e.ex = 0 ∧ l = (if e.lo > 0 then [stepTo e.c e.lo true] else []) ++ (if e.hi < e.c then [stepTo e.c e.hi false] else [])) ∨
  (e.ex ≠ 0 ∧ ∃ g up zs, e.goal = some g ∧ WayOf e.c e.lo g e.ex up zs ∧ l = stepTo e.c e.lo (!up) :: zsteps e.c up zs)
theorem shortGo_len : ∀ (zs : List Int) (pv sl : Int), (shortGo pv zs sl).length = zs.length
  | [], _, _ => rfl
  | [_], _, _ => rfl
  | z :: nx :: r, pv, sl => congrArg (· + 1) (shortGo_len (nx :: r) _ _)
theorem zsteps_snoc (c : Int) : ∀ (zs : List Int) (up : Bool) (z : Int), zsteps c up (zs ++ [z]) = zsteps c up zs ++ [stepTo c z (if zs.length % 2 = 0 then up else !up)]
  | [], up, z => rfl
  | y :: r, up, z => by
    show stepTo c y up :: zsteps c (!up) (r ++ [z]) = stepTo c y up :: (zsteps c (!up) r ++ _)
    rw [zsteps_snoc c r (!up) z]
    congr 3
    show _ = stepTo c z (if (r.length + 1) % 2 = 0 then up else !up)
    congr 1
    by_cases h : r.length % 2 = 0
    · rw [if_pos h, if_neg (by omega)]
    · rw [if_neg h, if_pos (by omega), Bool.not_not]
theorem zsteps_len (c : Int) : ∀ (zs : List Int) (up : Bool), (zsteps c up zs).length = zs.length
  | [], _ => rfl
  | y :: r, up => congrArg (· + 1) (zsteps_len c r (!up))
/-! ### zigzags -/
def Zig : Bool → Int → List Int → Prop
  | _, _, [] => True
  | up, pv, z :: r => (if up = true then pv < z else z < pv) ∧ Zig (!up) z r
def inR (c : Int) (l : List Int) : Prop := ∀ z ∈ l, 0 ≤ z ∧ z ≤ c
theorem inR_cons {c z : Int} {l : List Int} (h : 0 ≤ z ∧ z ≤ c) (t : inR c l) : inR c (z :: l) := fun y hy => by
  rcases List.mem_cons.mp hy with e | e
  · subst e; exact h
  · exact t y e
theorem inR_tail {c z : Int} {l : List Int} (h : inR c (z :: l)) : (0 ≤ z ∧ z ≤ c) ∧ inR c l := ⟨h z List.mem_cons_self, fun y hy => h y (List.mem_cons_of_mem _ hy)⟩
/-- how much one place gives way -/
def lessAt (up : Bool) (pv z nx sl : Int) : Int := if up = true then mn sl (z - mx pv nx - 1) else mn sl (mn pv nx - z - 1)
theorem short_up {pv z nx sl : Int} {r : List Int} (h1 : pv < z) (h2 : nx < z) : shortGo pv (z :: nx :: r) sl = (z - lessAt true pv z nx sl) :: shortGo (z - lessAt true pv z nx sl) (nx :: r) (sl - lessAt true pv z nx sl) := by
  have e : mn sl (absI (z - mx (pv * 1) (nx * 1) * 1) - 1) = lessAt true pv z nx sl := by
    unfold lessAt
    rw [if_pos rfl, Int.mul_one, Int.mul_one, Int.mul_one]
    have := mx_def pv nx
    congr 1
    unfold absI
    rw [if_neg (by omega)]
  show (let st : Int := if z > pv then 1 else -1
    let less := mn sl (absI (z - mx (pv * st) (nx * st) * st) - 1)
    (z - less * st) :: shortGo (z - less * st) (nx :: r) (sl - less)) = _
  rw [if_pos h1]
  dsimp only
  rw [e, Int.mul_one]
theorem short_dn {pv z nx sl : Int} {r : List Int} (h1 : z < pv) (h2 : z < nx) : shortGo pv (z :: nx :: r) sl = (z + lessAt false pv z nx sl) :: shortGo (z + lessAt false pv z nx sl) (nx :: r) (sl - lessAt false pv z nx sl) := by
  have e : mn sl (absI (z - mx (pv * -1) (nx * -1) * -1) - 1) = lessAt false pv z nx sl := by
    unfold lessAt
    rw [if_neg (by decide)]
    have := mx_def (pv * -1) (nx * -1)
    have := mn_def pv nx
    congr 1
    unfold absI
    split <;> omega
  show (let st : Int := if z > pv then 1 else -1
    let less := mn sl (absI (z - mx (pv * st) (nx * st) * st) - 1)
    (z - less * st) :: shortGo (z - less * st) (nx :: r) (sl - less)) = _
  rw [if_neg (show ¬ z > pv by omega)]
  dsimp only
  rw [e, show z - lessAt false pv z nx sl * -1 = z + lessAt false pv z nx sl by omega]
theorem shortGo_zig (c : Int) : ∀ (zs : List Int) (up : Bool) (pv sl : Int), Zig up pv zs → inR c zs → 0 ≤ sl → Zig up pv (shortGo pv zs sl) ∧ inR c (shortGo pv zs sl)
  | [], _, _, _, _, _, _ => ⟨trivial, fun z hz => nomatch hz⟩
  | [z], _, _, _, h, hr, _ => ⟨h, hr⟩
  | z :: nx :: r, up, pv, sl, h, hr, hs => by
    obtain ⟨h1, h2, h3⟩ := h
    obtain ⟨rz, rt⟩ := inR_tail hr
    obtain ⟨rn, _⟩ := inR_tail rt
    cases up with
    | true =>
      have h1 : pv < z := h1
      have h2 : nx < z := h2
      rw [short_up h1 h2]
      have hl : lessAt true pv z nx sl = mn sl (z - mx pv nx - 1) := rfl
      generalize lessAt true pv z nx sl = le at *
      have := mx_def pv nx
      have := mn_def sl (z - mx pv nx - 1)
      obtain ⟨a, b⟩ := shortGo_zig c (nx :: r) false (z - le) (sl - le) ⟨by show nx < z - le; omega, h3⟩ rt (by omega)
      exact ⟨⟨by show pv < z - le; omega, a⟩, inR_cons (by omega) b⟩
    | false =>
      have h1 : z < pv := h1
      have h2 : z < nx := h2
      rw [short_dn h1 h2]
      have hl : lessAt false pv z nx sl = mn sl (mn pv nx - z - 1) := rfl
      generalize lessAt false pv z nx sl = le at *
      have := mn_def pv nx
      have := mn_def sl (mn pv nx - z - 1)
      obtain ⟨a, b⟩ := shortGo_zig c (nx :: r) true (z + le) (sl - le) ⟨by show z + le < nx; omega, h3⟩ rt (by omega)
      exact ⟨⟨by show z + le < pv; omega, a⟩, inR_cons (by omega) b⟩
def placesR (c g : Int) : Nat → Bool → List Int
  | 0, _ => [g]
  | k + 1, up => (if up = true then c else 0) :: placesR c g k (!up)
theorem rgI_cons {f : Int → Int} {n : Nat} : rgI f (n + 1) = f 0 :: rgI (fun j => f (j + 1)) n := by
  unfold rgI
  rw [List.range_succ_eq_map, List.map_cons, List.map_map]
  refine congrArg (f 0 :: ·) ?_
  refine List.map_congr_left fun j _ => ?_
  show f ((j + 1 : Nat) : Int) = f ((j : Int) + 1)
  rw [Int.natCast_add]; rfl
theorem places_eq (c g : Int) : ∀ (k : Nat) (up : Bool), placesL c g (k + 1) up = placesR c g k up
  | 0, _ => rfl
  | k + 1, up => by
    show rgI (fun j => if decide (decide (j % 2 = 0) = up) then c else 0) (k + 1) ++ [g] = (if up = true then c else 0) :: placesR c g k (!up)
    rw [rgI_cons, List.cons_append, ← places_eq c g k (!up)]
    congr 1
    · cases up <;> rfl
    · show _ = rgI (fun j => if decide (decide (j % 2 = 0) = !up) then c else 0) k ++ [g]
      congr 2
      funext j
      have e : decide (decide ((j + 1) % 2 = 0) = up) = decide (decide (j % 2 = 0) = !up) := by
        by_cases h : j % 2 = 0
        · rw [decide_eq_true h, decide_eq_false (show ¬ (j + 1) % 2 = 0 by omega)]
          cases up <;> rfl
        · rw [decide_eq_false h, decide_eq_true (show (j + 1) % 2 = 0 by omega)]
          cases up <;> rfl
      rw [e]
theorem placesR_len (c g : Int) : ∀ (k : Nat) (up : Bool), (placesR c g k up).length = k + 1
  | 0, _ => rfl
  | k + 1, up => congrArg (· + 1) (placesR_len c g k (!up))
theorem placesR_in {c g : Int} (hc : 0 ≤ c) (hg : 0 ≤ g ∧ g ≤ c) : ∀ (k : Nat) (up : Bool), inR c (placesR c g k up)
  | 0, _ => inR_cons hg fun z hz => nomatch hz
  | k + 1, up => inR_cons (by cases up <;> simp [hc]) (placesR_in hc hg k (!up))
/-- the direction of the last of so many moves -/
def lastUp : Nat → Bool → Bool
  | 0, up => up
  | k + 1, up => lastUp k (!up)
theorem lastUp_par : ∀ (k : Nat) (up : Bool), lastUp k up = if k % 2 = 0 then up else !up
  | 0, _ => rfl
  | k + 1, up => by
    show lastUp k (!up) = _
    rw [lastUp_par k (!up)]
    by_cases h : k % 2 = 0
    · rw [if_pos h, if_neg (by omega)]
    · rw [if_neg h, if_pos (by omega), Bool.not_not]
theorem places_zigI {c g : Int} (hc : 0 < c) : ∀ (k : Nat) (up : Bool), (if lastUp k up = true then 0 < g else g < c) → Zig up (if up = true then 0 else c) (placesR c g k up)
  | 0, true, h => ⟨h, trivial⟩
  | 0, false, h => ⟨h, trivial⟩
  | k + 1, true, h => ⟨hc, places_zigI hc k false h⟩
  | k + 1, false, h => ⟨hc, places_zigI hc k true h⟩
theorem places_zig {c b g : Int} (hc : 0 < c) {k : Nat} {up : Bool} (hb : if up = true then b < c else 0 < b) (h : if lastUp (k + 1) up = true then 0 < g else g < c) : Zig up b (placesR c g (k + 1) up) := by
  cases up with
  | true => exact ⟨hb, places_zigI hc k false h⟩
  | false => exact ⟨hb, places_zigI hc k true h⟩
theorem possW_spec {c b g : Int} {k : Nat} {up : Bool} : possW c b g (k + 2) up = true ↔ (if up = true then b < c else 0 < b) ∧ (if lastUp (k + 1) up = true then 0 < g else g < c) := by
  rw [lastUp_par]
  unfold possW
  by_cases h : (k + 2) % 2 = 0
  · have h' : ¬ (k + 1) % 2 = 0 := by omega
    cases up <;> simp [h, h']
  · have h' : (k + 1) % 2 = 0 := by omega
    have h2 : (k + 2) % 2 = 1 := by omega
    cases up <;> simp [h', h2]
/-- what a way tells of its places -/
theorem way_zig {c b g L : Int} {up : Bool} {zs : List Int} (hb : 0 ≤ b ∧ b ≤ c) (hg : 0 ≤ g ∧ g ≤ c) (hL : L ≠ 0) (h : WayOf c b g L up zs) : Zig up b zs ∧ inR c zs := by
  rcases h with ⟨e, eu, ez⟩ | ⟨ne, m, m2, ⟨hp, hl⟩, _, _, ez⟩
  · subst eu ez
    refine ⟨⟨?_, trivial⟩, inR_cons hg fun z hz => nomatch hz⟩
    by_cases q : g > b
    · rw [if_pos (decide_eq_true q)]; exact q
    · rw [if_neg (by rw [decide_eq_false q]; decide)]
      unfold absI at e
      split at e <;> omega
  · obtain ⟨k, rfl⟩ : ∃ k, m = k + 2 := ⟨m - 2, by omega⟩
    obtain ⟨h1, h2⟩ := possW_spec.mp hp
    have hc : 0 < c := by
      cases up
      · have : 0 < b := h1; omega
      · have : b < c := h1; omega
    rw [places_eq c g (k + 1) up] at ez
    subst ez
    exact shortGo_zig c _ up b _ (places_zig hc h1 h2) (placesR_in (by omega) hg _ _) (by omega)
theorem stepTo_good {c z : Int} {up : Bool} (c1 : c ≤ 1000000000000000000) (h : 0 ≤ z ∧ z ≤ c) : goodS (stepTo c z up) := by
  intro b n e
  unfold stepTo at e
  split at e <;> cases e <;> omega
theorem zsteps_good {c : Int} (c1 : c ≤ 1000000000000000000) : ∀ (zs : List Int) (up : Bool), inR c zs → ∀ s ∈ zsteps c up zs, goodS s
  | [], _, _, s, hs => nomatch hs
  | z :: r, up, h, s, hs => by
    obtain ⟨hz, hr⟩ := inR_tail h
    rcases List.mem_cons.mp hs with e | e
    · subst e
      exact stepTo_good c1 hz
    · exact zsteps_good c1 r (!up) hr s e
theorem simple_good {e : Eff} (h : e.Ok) (c1 : e.c ≤ 1000000000000000000) {l : List Stp} (hs : SimpleOf e l) : ∀ s ∈ l, goodS s := by
  have a := h.lo0
  have b := h.lh
  have d := h.hc
  rcases hs with ⟨_, el⟩ | ⟨ne, g, up, zs, eg, hw, el⟩
  · subst el
    intro s hs
    rcases List.mem_append.mp hs with q | q
    · split at q
      · rw [List.mem_singleton.mp q]; exact stepTo_good c1 (by omega)
      · exact nomatch q
    · split at q
      · rw [List.mem_singleton.mp q]; exact stepTo_good c1 (by omega)
      · exact nomatch q
  · subst el
    obtain ⟨_, hr⟩ := way_zig (c := e.c) (by omega) (h.yes g eg) ne hw
    intro s hs
    rcases List.mem_cons.mp hs with q | q
    · subst q; exact stepTo_good c1 (by omega)
    · exact zsteps_good c1 zs up hr s q
/-! ### no plan has fewer steps -/
def longR (c g : Int) : Int → Nat → Bool → Int
  | b, 0, up => if up = true then g - b else b - g
  | b, k + 1, up => if up = true then c - b + longR c g c k false else b + longR c g 0 k true
theorem longR_t (c g b : Int) (k : Nat) : longR c g b (k + 1) true = c - b + longR c g c k false := if_pos rfl
theorem longR_f (c g b : Int) (k : Nat) : longR c g b (k + 1) false = b + longR c g 0 k true := if_neg (by decide)
theorem longR_ext (c g d : Int) : ∀ (k : Nat) (b : Int) (up : Bool), (lastUp k up = true → longR c (g + d) b k up = longR c g b k up + d) ∧ (lastUp k up = false → longR c (g - d) b k up = longR c g b k up + d)
  | 0, b, true => ⟨fun _ => by show g + d - b = g - b + d; omega, fun h => nomatch h⟩
  | 0, b, false => ⟨(fun h => nomatch h), fun _ => by show b - (g - d) = b - g + d; omega⟩
  | k + 1, b, true => by
    obtain ⟨p, q⟩ := longR_ext c g d k c false
    rw [longR_t, longR_t, longR_t]
    exact ⟨fun h => by rw [p h]; omega, fun h => by rw [q h]; omega⟩
  | k + 1, b, false => by
    obtain ⟨p, q⟩ := longR_ext c g d k 0 true
    rw [longR_f, longR_f, longR_f]
    exact ⟨fun h => by rw [p h]; omega, fun h => by rw [q h]; omega⟩
theorem longR_rev {c g d : Int} (g0 : 0 ≤ g) (g1 : g ≤ c) : ∀ (k : Nat) (b : Int) (up : Bool), (lastUp k up = true → longR c g b k up + d ≤ longR c (g - d) b (k + 1) up) ∧ (lastUp k up = false → longR c g b k up + d ≤ longR c (g + d) b (k + 1) up)
  | 0, b, true => ⟨fun _ => by show g - b + d ≤ c - b + (c - (g - d)); omega, fun h => nomatch h⟩
  | 0, b, false => ⟨(fun h => nomatch h), fun _ => by show b - g + d ≤ b + (g + d - 0); omega⟩
  | k + 1, b, true => by
    obtain ⟨p, q⟩ := longR_rev (d := d) g0 g1 k c false
    rw [longR_t, longR_t, longR_t]
    exact ⟨fun h => by have := p h; omega, fun h => by have := q h; omega⟩
  | k + 1, b, false => by
    obtain ⟨p, q⟩ := longR_rev (d := d) g0 g1 k 0 true
    rw [longR_f, longR_f, longR_f]
    exact ⟨fun h => by have := p h; omega, fun h => by have := q h; omega⟩
theorem longR_ends (c g : Int) : ∀ k : Nat, longR c g c k false = c * k + (if lastUp k false = true then g else c - g) ∧ longR c g 0 k true = c * k + (if lastUp k true = true then g else c - g)
  | 0 => by
    refine ⟨?_, ?_⟩
    · show c - g = c * 0 + (c - g); omega
    · show g - 0 = c * 0 + g; omega
  | k + 1 => by
    obtain ⟨p, q⟩ := longR_ends c g k
    have e : c * ((k + 1 : Nat) : Int) = c * k + c := by rw [Int.natCast_add, Int.mul_add]; show c * k + c * 1 = _; rw [Int.mul_one]
    rw [longR_f, longR_t, p, q, e]
    refine ⟨?_, ?_⟩
    · show c + (c * k + (if lastUp k true = true then g else c - g)) = c * k + c + (if lastUp k true = true then g else c - g); omega
    · show c - 0 + (c * k + (if lastUp k false = true then g else c - g)) = c * k + c + (if lastUp k false = true then g else c - g); omega
theorem longW_eq (c b g : Int) (k : Nat) (up : Bool) : longW c b g (k + 2) up = longR c g b (k + 1) up := by
  obtain ⟨p, q⟩ := longR_ends c g k
  have e : (((k + 2 : Nat) : Int) - 2) = k := by omega
  have ep : (k + 2) % 2 = 0 ↔ k % 2 = 0 := by omega
  unfold longW lastW
  rw [e]
  rw [lastUp_par] at p q
  cases up with
  | true =>
    rw [if_pos rfl, longR_t, p]
    by_cases h : k % 2 = 0
    · rw [if_pos (ep.mpr h), if_pos h, if_neg (by decide)]; omega
    · rw [if_neg (fun z => h (ep.mp z)), if_neg h, if_pos (by decide)]; omega
  | false =>
    rw [if_neg (by decide), longR_f, q]
    by_cases h : k % 2 = 0
    · rw [if_pos (ep.mpr h), if_pos h, if_pos (by decide)]; omega
    · rw [if_neg (fun z => h (ep.mp z)), if_neg h, if_neg (by decide)]; omega
def endsN (c lo hi : Int) : Nat := (if lo > 0 then 1 else 0) + (if hi < c then 1 else 0)
/-- k + 1 moves, the first one up or down, come from b to g and carry x -/
def Reach (c b g x : Int) : Nat → Bool → Prop
  | 0, up => 0 < x ∧ x = longR c g b 0 up
  | k + 1, up => x ≤ longR c g b (k + 1) up ∧ (if up = true then b < c else 0 < b) ∧ (if lastUp (k + 1) up = true then 0 < g else g < c)
theorem reach_start {c b g x : Int} (b0 : 0 ≤ b ∧ b ≤ c) (g0 : 0 ≤ g ∧ g ≤ c) : ∀ {k : Nat} {up : Bool}, Reach c b g x k up → if up = true then b < c else 0 < b
  | 0, true, ⟨h0, h⟩ => by have h : x = g - b := h; show b < c; omega
  | 0, false, ⟨h0, h⟩ => by have h : x = b - g := h; show 0 < b; omega
  | k + 1, _, h => h.2.1
theorem reach_up {c b g x d : Int} (b0 : 0 ≤ b ∧ b ≤ c) (g0 : 0 ≤ g ∧ g ≤ c) (d0 : 0 < d) {k : Nat} {up : Bool} (h : Reach c b g x k up) : ∃ k', k' ≤ k + 1 ∧ Reach c b (g + d) (x + d) k' up := by
  cases hl : lastUp k up with
  | true =>
    refine ⟨k, Nat.le_succ k, ?_⟩
    have ee := (longR_ext c g d k b up).1 hl
    cases k with
    | zero =>
      obtain ⟨h1, h2⟩ := h
      exact ⟨by omega, by omega⟩
    | succ k =>
      obtain ⟨h1, h2, h3⟩ := h
      refine ⟨by omega, h2, ?_⟩
      rw [if_pos hl]; omega
  | false =>
    refine ⟨k + 1, Nat.le_refl _, ?_⟩
    have ee := (longR_rev (d := d) g0.1 g0.2 k b up).2 hl
    have hs := reach_start b0 g0 h
    have hx : x ≤ longR c g b k up := by
      cases k with
      | zero => exact Int.le_of_eq h.2
      | succ k => exact h.1
    refine ⟨by omega, hs, ?_⟩
    have : lastUp (k + 1) up = true := by
      rw [lastUp_par] at hl ⊢
      by_cases q : k % 2 = 0
      · rw [if_pos q] at hl; rw [if_neg (by omega), hl]; rfl
      · rw [if_neg q] at hl; rw [if_pos (by omega)]; cases up <;> simp_all
    rw [if_pos this]; omega
theorem reach_dn {c b g x d : Int} (b0 : 0 ≤ b ∧ b ≤ c) (g0 : 0 ≤ g ∧ g ≤ c) (d0 : 0 < d) {k : Nat} {up : Bool} (h : Reach c b g x k up) : ∃ k', k' ≤ k + 1 ∧ Reach c b (g - d) (x + d) k' up := by
  cases hl : lastUp k up with
  | false =>
    refine ⟨k, Nat.le_succ k, ?_⟩
    have ee := (longR_ext c g d k b up).2 hl
    cases k with
    | zero =>
      obtain ⟨h1, h2⟩ := h
      exact ⟨by omega, by omega⟩
    | succ k =>
      obtain ⟨h1, h2, h3⟩ := h
      refine ⟨by omega, h2, ?_⟩
      rw [if_neg (by rw [hl]; decide)]; omega
  | true =>
    refine ⟨k + 1, Nat.le_refl _, ?_⟩
    have ee := (longR_rev (d := d) g0.1 g0.2 k b up).1 hl
    have hs := reach_start b0 g0 h
    have hx : x ≤ longR c g b k up := by
      cases k with
      | zero => exact Int.le_of_eq h.2
      | succ k => exact h.1
    refine ⟨by omega, hs, ?_⟩
    have : lastUp (k + 1) up = false := by
      rw [lastUp_par] at hl ⊢
      by_cases q : k % 2 = 0
      · rw [if_pos q] at hl; rw [if_neg (by omega), hl]; rfl
      · rw [if_neg q] at hl; rw [if_pos (by omega)]; cases up <;> simp_all
    rw [if_neg (by rw [this]; decide)]; omega
/-- n meetings may have made this -/
structure Few (e : Eff) (n : Nat) : Prop where
  eq : ∀ g, e.goal = some g → e.lo = e.hi
  z : e.ex = 0 → endsN e.c e.lo e.hi ≤ n ∧ ∀ g, e.goal = some g → g = e.lo
  p : e.ex ≠ 0 → ∀ g, e.goal = some g → ∃ k up, k + 2 ≤ n ∧ Reach e.c e.lo g e.ex k up
theorem Few.le {e : Eff} {n m : Nat} (h : Few e n) (q : n ≤ m) : Few e m :=
  ⟨h.eq, fun z => ⟨Nat.le_trans (h.z z).1 q, (h.z z).2⟩, fun z g hg => let ⟨k, up, a, b⟩ := h.p z g hg; ⟨k, up, Nat.le_trans a q, b⟩⟩
theorem ends_lo {c lo lo' hi : Int} : endsN c lo' hi ≤ endsN c lo hi + 1 := by unfold endsN; split <;> split <;> omega
theorem ends_hi {c lo hi hi' : Int} : endsN c lo hi' ≤ endsN c lo hi + 1 := by unfold endsN; split <;> split <;> split <;> omega
theorem few_mk {c lo hi : Int} {t : Bool} {n : Nat} (h : endsN c lo hi ≤ n) : Few (mkE c lo hi 0 none t) n := by
  by_cases e : lo = hi
  · subst e
    rw [mkE_eq]
    exact ⟨fun _ _ => rfl, fun _ => ⟨h, fun g hg => by cases hg; rfl⟩, fun z => absurd rfl z⟩
  · have : mkE c lo hi 0 none t = ⟨c, lo, hi, 0, none, t⟩ := by unfold mkE; rw [if_neg (fun z => e z.2)]
    rw [this]
    exact ⟨(fun g hg => nomatch hg), fun _ => ⟨h, (fun g hg => nomatch hg)⟩, fun z => absurd rfl z⟩
theorem few_least {e : Eff} (he : e.Ok) {n : Nat} (h : Few e n) {a : Int} (a0 : 0 ≤ a) (a1 : a ≤ e.c) : Few (e.atLeast a) (n + 1) := by
  obtain ⟨c, lo, hi, ex, goal, t⟩ := e
  have l0 := he.lo0
  have l1 := he.lh
  have l2 := he.hc
  have l3 := he.ex0
  dsimp only at l0 l1 l2 l3 a1
  cases goal with
  | none =>
    obtain ⟨z, _⟩ := he.no rfl
    have z : ex = 0 := z
    subst z
    have hz := (h.z rfl).1
    dsimp only at hz
    rw [atLeast_none]
    split
    · exact few_mk (Nat.le_trans ends_lo (Nat.succ_le_succ hz))
    · rename_i q
      refine ⟨fun _ _ => rfl, fun z => ?_, fun _ g hg => ?_⟩
      · exfalso
        have z : a - hi = 0 := z
        omega
      · cases hg
        refine ⟨0, true, ?_, by show 0 < a - hi; omega, rfl⟩
        have : 1 ≤ endsN c lo hi := by unfold endsN; rw [if_pos (show hi < c by omega)]; omega
        omega
  | some g =>
    obtain ⟨g0, g1⟩ := he.yes g rfl
    dsimp only at g0 g1
    have elh : lo = hi := h.eq g rfl
    subst elh
    rw [atLeast_some]
    split
    · exact h.le (Nat.le_succ n)
    · rename_i q
      refine ⟨fun _ _ => rfl, fun z => ?_, fun _ g2 hg => ?_⟩
      · have z : ex + a - g = 0 := z
        omega
      · cases hg
        by_cases e0 : ex = 0
        · subst e0
          obtain ⟨hz, hgl⟩ := h.z rfl
          obtain rfl : g = lo := hgl g rfl
          dsimp only at hz
          refine ⟨0, true, ?_, by show 0 < 0 + a - g; omega, by show 0 + a - g = a - g; omega⟩
          have : 1 ≤ endsN c g g := by unfold endsN; rw [if_pos (show g < c by omega)]; omega
          omega
        · obtain ⟨k, up, hk, hr⟩ := h.p e0 g rfl
          obtain ⟨k2, hk2, hr2⟩ := reach_up (d := a - g) ⟨l0, by show lo ≤ c; omega⟩ ⟨g0, g1⟩ (by omega) hr
          dsimp only at hr2
          rw [show g + (a - g) = a by omega, show ex + (a - g) = ex + a - g by omega] at hr2
          exact ⟨k2, up, by omega, hr2⟩
theorem few_most {e : Eff} (he : e.Ok) {n : Nat} (h : Few e n) {a : Int} (a0 : 0 ≤ a) (a1 : a ≤ e.c) : Few (e.atMost a) (n + 1) := by
  obtain ⟨c, lo, hi, ex, goal, t⟩ := e
  have l0 := he.lo0
  have l1 := he.lh
  have l2 := he.hc
  have l3 := he.ex0
  dsimp only at l0 l1 l2 l3 a1
  cases goal with
  | none =>
    obtain ⟨z, lt⟩ := he.no rfl
    have z : ex = 0 := z
    have lt : lo < hi := lt
    subst z
    have hz := (h.z rfl).1
    dsimp only at hz
    rw [atMost_none _ _ _ _ _ _ lt]
    split
    · exact few_mk (Nat.le_trans ends_hi (Nat.succ_le_succ hz))
    · rename_i q
      refine ⟨fun _ _ => rfl, fun z => ?_, fun _ g hg => ?_⟩
      · exfalso
        have z : lo - a = 0 := z
        have q : ¬ lo ≤ a := q
        omega
      · cases hg
        have q : ¬ lo ≤ a := q
        refine ⟨0, false, ?_, by show 0 < lo - a; omega, rfl⟩
        have : 1 ≤ endsN c lo hi := by unfold endsN; rw [if_pos (show lo > 0 by omega)]; omega
        omega
  | some g =>
    obtain ⟨g0, g1⟩ := he.yes g rfl
    dsimp only at g0 g1
    have elh : lo = hi := h.eq g rfl
    subst elh
    rw [atMost_some]
    split
    · exact h.le (Nat.le_succ n)
    · rename_i q
      refine ⟨fun _ _ => rfl, fun z => ?_, fun _ g2 hg => ?_⟩
      · have z : ex + g - a = 0 := z
        omega
      · cases hg
        by_cases e0 : ex = 0
        · subst e0
          obtain ⟨hz, hgl⟩ := h.z rfl
          obtain rfl : g = lo := hgl g rfl
          dsimp only at hz
          refine ⟨0, false, ?_, by show 0 < 0 + g - a; omega, by show 0 + g - a = g - a; omega⟩
          have : 1 ≤ endsN c g g := by unfold endsN; rw [if_pos (show g > 0 by omega)]; omega
          omega
        · obtain ⟨k, up, hk, hr⟩ := h.p e0 g rfl
          obtain ⟨k2, hk2, hr2⟩ := reach_dn (d := g - a) ⟨l0, by show lo ≤ c; omega⟩ ⟨g0, g1⟩ (by omega) hr
          dsimp only at hr2
          rw [show g - (g - a) = a by omega, show ex + (g - a) = ex + g - a by omega] at hr2
          exact ⟨k2, up, by omega, hr2⟩
def mtc (ps : List (Int × Int)) : Nat := (ps.filter fun p => p.1 ≠ 0).length
theorem mtc_sides : ∀ (l : List Stp) (s : Int), (s = 1 ∨ s = -1) → mtc (sides s l) + turns l = l.length
  | [], _, _ => rfl
  | .turn :: r, s, hs => by
    have := mtc_sides r (0 - s) (by omega)
    have e : mtc (sides s (.turn :: r)) = mtc (sides (0 - s) r) := by
      show (List.filter _ ((0, 0) :: sides (0 - s) r)).length = _
      rw [List.filter_cons_of_neg (by simp)]; rfl
    rw [e]
    show _ + (turns r + 1) = r.length + 1
    omega
  | .mt b n :: r, s, hs => by
    have := mtc_sides r s hs
    have e : mtc (sides s (.mt b n :: r)) = mtc (sides s r) + 1 := by
      show (List.filter _ (((if b then s else 0 - s), n) :: sides s r)).length = _
      rw [List.filter_cons_of_pos (by cases b <;> simp <;> omega)]; rfl
    rw [e]
    show _ + turns r = r.length + 1
    omega
theorem few_fold {c : Int} : ∀ (ps : List (Int × Int)) (e : Eff) (n : Nat), e.Ok → e.c = c → fits c ps → Few e n → Few (ps.foldl (effStep c) e) (n + mtc ps)
  | [], e, n, _, _, _, h => h
  | p :: r, e, n, he, hc, hf, h => by
    obtain ⟨hs, h0, h1⟩ := hf p List.mem_cons_self
    obtain ⟨a, b, _, _⟩ := effStep_ok he hc hs h0 h1
    have hr : fits c r := fun q hq => hf q (List.mem_cons_of_mem _ hq)
    rw [List.foldl_cons]
    rcases hs with s | s | s
    · have e1 : effStep c e p = e.atLeast p.2 := by unfold effStep; rw [if_pos s]
      have m : mtc (p :: r) = mtc r + 1 := by unfold mtc; rw [List.filter_cons_of_pos (by simp; omega)]; rfl
      rw [m, show n + (mtc r + 1) = n + 1 + mtc r by omega]
      refine few_fold r _ _ a b hr ?_
      rw [e1]
      exact few_least he h h0 (by omega)
    · have e1 : effStep c e p = e.atMost (c - p.2) := by unfold effStep; rw [if_neg (by omega), if_pos s]
      have m : mtc (p :: r) = mtc r + 1 := by unfold mtc; rw [List.filter_cons_of_pos (by simp; omega)]; rfl
      rw [m, show n + (mtc r + 1) = n + 1 + mtc r by omega]
      refine few_fold r _ _ a b hr ?_
      rw [e1]
      exact few_most he h (by omega) (by omega)
    · have e1 : effStep c e p = e := by unfold effStep; rw [if_neg (by omega), if_neg (by omega)]
      have m : mtc (p :: r) = mtc r := by unfold mtc; rw [List.filter_cons_of_neg (by simp; omega)]
      rw [m]
      refine few_fold r _ _ a b hr ?_
      rw [e1]
      exact h
theorem effOf_few {c : Int} {l : List Stp} (hc : 0 ≤ c) (hl : fitsS c l) : Few (effOf c l) (mtc (sides 1 l)) := by
  obtain ⟨n0, _⟩ := nothing_ok hc
  have hf := sides_fits l 1 (.inl rfl) hc hl
  obtain ⟨a, b, _, _⟩ := fold_ok (c := c) (sides 1 l) (nothing c) n0 rfl hf
  have fz : Few (nothing c) 0 := few_mk (by unfold endsN; rw [if_neg (by omega), if_neg (by omega)]; exact Nat.le_refl _)
  have f := few_fold (c := c) (sides 1 l) (nothing c) 0 n0 rfl hf fz
  rw [Nat.zero_add] at f
  have hb : (effFold c (sides 1 l)).c = c := b
  have e : effOf c l = ⟨c, (effFold c (sides 1 l)).lo, (effFold c (sides 1 l)).hi, (effFold c (sides 1 l)).ex, (effFold c (sides 1 l)).goal, turning l⟩ := by
    have h := mkE_self (e := effFold c (sides 1 l)) a (turning l)
    rw [hb] at h
    exact h
  rw [e]
  have e2 : (effFold c (sides 1 l)).c = c := hb
  exact ⟨f.eq, fun z => by have := f.z z; rw [show ((sides 1 l).foldl (effStep c) (nothing c)).c = c from hb] at this; exact this, fun z => by have := f.p z; rw [show ((sides 1 l).foldl (effStep c) (nothing c)).c = c from hb] at this; exact this⟩
theorem reach_does {c b g x : Int} {k : Nat} {up : Bool} (h : Reach c b g x k up) (ne : x ≠ absI (g - b)) : ∃ k', k = k' + 1 ∧ doesW c b g x (k' + 2) up := by
  cases k with
  | zero =>
    exfalso
    obtain ⟨h0, h1⟩ := h
    refine ne ?_
    unfold absI
    cases up
    · have h1 : x = b - g := h1
      rw [if_pos (by omega)]; omega
    · have h1 : x = g - b := h1
      rw [if_neg (by omega)]; omega
  | succ k =>
    obtain ⟨h1, h2, h3⟩ := h
    exact ⟨k, rfl, possW_spec.mpr ⟨h2, h3⟩, by rw [longW_eq]; exact h1⟩
theorem placesL_len (c g : Int) {m : Nat} (h : 2 ≤ m) (up : Bool) : (placesL c g m up).length = m := by
  obtain ⟨k, rfl⟩ : ∃ k, m = k + 1 := ⟨m - 1, by omega⟩
  rw [places_eq, placesR_len]
theorem few_simple {e : Eff} {n : Nat} (h : Few e n) {l : List Stp} (hs : SimpleOf e l) : l.length ≤ n := by
  rcases hs with ⟨e0, el⟩ | ⟨ne, g, up, zs, eg, hw, el⟩
  · subst el
    refine Nat.le_trans (Nat.le_of_eq ?_) (h.z e0).1
    unfold endsN
    rw [List.length_append]
    congr 1 <;> split <;> rfl
  · subst el
    obtain ⟨k, u, hk, hr⟩ := h.p ne g eg
    show (zsteps e.c up zs).length + 1 ≤ n
    rw [zsteps_len]
    rcases hw with ⟨_, _, ez⟩ | ⟨nl, m, m2, _, hmin, _, ez⟩
    · subst ez
      show 1 + 1 ≤ n
      omega
    · obtain ⟨k', rfl, hd⟩ := reach_does hr nl
      have : m ≤ k' + 2 := by
        rcases Nat.lt_or_ge (k' + 2) m with q | q
        · exact absurd hd (hmin _ u (by omega) q)
        · exact q
      rw [ez, shortGo_len, placesL_len _ _ m2]
      omega
theorem few_ex {e : Eff} {n : Nat} (h : Few e n) (ne : e.ex ≠ 0) {g : Int} (eg : e.goal = some g) (nl : e.ex ≠ absI (g - e.lo)) : ∃ m u, 2 ≤ m ∧ m ≤ n ∧ doesW e.c e.lo g e.ex m u := by
  obtain ⟨k, u, hk, hr⟩ := h.p ne g eg
  obtain ⟨k', rfl, hd⟩ := reach_does hr nl
  exact ⟨k' + 2, u, by omega, by omega, hd⟩
def turnL (b : Bool) : List Stp := if b then [.turn] else []
/-- the simple plan has no more steps -/
theorem simple_le {c : Int} {l l' : List Stp} (hc : 0 ≤ c) (hl : fitsS c l) (hs : SimpleOf (effOf c l) l') : (l' ++ turnL (turning l)).length ≤ l.length := by
  have a := few_simple (effOf_few hc hl) hs
  have b := mtc_sides l 1 (.inl rfl)
  rw [List.length_append]
  cases ht : turning l with
  | false => show l'.length + 0 ≤ _; omega
  | true =>
    have : turns l ≠ 0 := fun z => by
      unfold turning at ht
      rw [z] at ht
      cases ht
    show l'.length + 1 ≤ _
    omega
theorem simple_goodP {c : Int} {l l' : List Stp} (hc : 0 ≤ c) (c1 : c ≤ 1000000000000000000) (hl : fitsS c l) (h60 : l.length ≤ 60) (hs : SimpleOf (effOf c l) l') : goodP (l' ++ turnL (turning l)) := by
  obtain ⟨o, oc, _, _⟩ := effOf_ok hc hl
  refine ⟨fun s hs' => ?_, Nat.le_trans (simple_le hc hl hs) h60⟩
  rcases List.mem_append.mp hs' with q | q
  · exact simple_good o (by rw [oc]; exact c1) hs s q
  · unfold turnL at q
    split at q
    · rw [List.mem_singleton.mp q]; intro b n z; cases z
    · exact nomatch q
theorem simple_ex {c : Int} {l : List Stp} (hc : 0 ≤ c) (hl : fitsS c l) (h60 : l.length ≤ 60) (ne : (effOf c l).ex ≠ 0) (g : Int) (eg : (effOf c l).goal = some g) (nl : (effOf c l).ex ≠ absI (g - (effOf c l).lo)) : ∃ m u, 2 ≤ m ∧ m ≤ 9000 ∧ doesW (effOf c l).c (effOf c l).lo g (effOf c l).ex m u := by
  obtain ⟨m, u, a, b, d⟩ := few_ex (effOf_few hc hl) ne eg nl
  have := mtc_sides l 1 (.inl rfl)
  exact ⟨m, u, a, by omega, d⟩
/-- there is one simple plan -/
theorem way_one {c b g L : Int} {u v : Bool} {xs ys : List Int} (h : WayOf c b g L u xs) (k : WayOf c b g L v ys) : u = v ∧ xs = ys := by
  rcases h with ⟨e, eu, ez⟩ | ⟨ne, m, m2, hd, hm, hu, ez⟩ <;> rcases k with ⟨e', eu', ez'⟩ | ⟨ne', m', m2', hd', hm', hu', ez'⟩
  · exact ⟨eu.trans eu'.symm, ez.trans ez'.symm⟩
  · exact absurd e ne'
  · exact absurd e' ne
  · have em : m = m' := by
      rcases Nat.lt_trichotomy m m' with q | q | q
      · exact absurd hd (hm' m u m2 q)
      · exact q
      · exact absurd hd' (hm m' v m2' q)
    subst em
    have euv : u = v := by
      cases u <;> cases v
      · rfl
      · exact absurd hd' (hu rfl)
      · exact absurd hd (hu' rfl)
      · rfl
    subst euv
    exact ⟨rfl, ez.trans ez'.symm⟩
theorem simple_one {e : Eff} {l m : List Stp} (h : SimpleOf e l) (k : SimpleOf e m) : l = m := by
  rcases h with ⟨e0, el⟩ | ⟨ne, g, u, zs, eg, hw, el⟩ <;> rcases k with ⟨e0', el'⟩ | ⟨ne', g', u', zs', eg', hw', el'⟩
  · exact el.trans el'.symm
  · exact absurd e0 ne'
  · exact absurd e0' ne
  · rw [eg] at eg'
    cases eg'
    obtain ⟨rfl, rfl⟩ := way_one hw hw'
    exact el.trans el'.symm
end ChM

set_option linter.all false
set_option autoImplicit false
set_option maxRecDepth 100000
set_option maxHeartbeats 4000000
namespace ChM
open Ch
/-! ### known houses: two meetings -/
theorem fitsS_two {a b c : Int} (a0 : 0 ≤ a) (ac : a ≤ c) (b0 : 0 ≤ b) (bc : b ≤ c) : fitsS c [.mt true a, .mt false b] := fun r n hm => by
  rcases List.mem_cons.mp hm with z | z
  · cases z; exact ⟨a0, ac⟩
  · cases List.mem_singleton.mp z; exact ⟨b0, bc⟩
theorem two_eff0 {a b : Int} (a1 : 1 ≤ a) (b1 : 1 ≤ b) : effOf (a + b) [.mt true a, .mt false b] = ⟨a + b, a, a, 0, some a, false⟩ := by
  have m0 : mx 0 a = a := by have := mx_def 0 a; omega
  have n0 : mn (a + b) a = a := by have := mn_def (a + b) a; omega
  have st1 : effStep (a + b) (nothing (a + b)) (1, a) = mkE (a + b) a (a + b) 0 none false := by
    rw [nothing_pos (by omega)]
    unfold effStep
    rw [if_pos rfl, atLeast_none, if_pos (by show a ≤ a + b; omega), m0]
  have st2 : effStep (a + b) (mkE (a + b) a (a + b) 0 none false) (-1, b) = ⟨a + b, a, a, 0, some a, false⟩ := by
    unfold effStep
    rw [if_neg (show ¬ ((-1 : Int) = 1) by decide), if_pos rfl]
    show Eff.atMost _ (a + b - b) = _
    rw [mkE_none (by omega), atMost_none _ _ _ _ _ _ (by omega), if_pos (by omega), show a + b - b = a by omega, n0, mkE_eq]
  have ef : effFold (a + b) (sides 1 [.mt true a, .mt false b]) = ⟨a + b, a, a, 0, some a, false⟩ := by
    show effStep _ (effStep _ (nothing (a + b)) (1, a)) (-1, b) = _
    rw [st1, st2]
  show mkE (a + b) (effFold (a + b) (sides 1 [.mt true a, .mt false b])).lo _ _ _ _ = _
  rw [ef]
  exact mkE_some
theorem car_one {c lo x : Int} {g : Option Int} {t : Bool} {ex : Int} : (⟨c, lo, lo, ex, g, t⟩ : Eff).carried x = absI (x - lo) + ex := by
  unfold Eff.carried absI
  have := mx_def (lo - x) (x - lo)
  have := mx_def (mx (lo - x) (x - lo)) 0
  dsimp only
  split <;> omega
theorem fin_one {c lo hi ex g x : Int} : (⟨c, lo, hi, ex, some g, false⟩ : Eff).fin x = g := rfl
theorem two_runs {c a s : Int} (s0 : 0 ≤ s) : ∀ n : Nat, runF ⟨c, a, a, s, some (a - s), false⟩ (n + 1) 0 = a - s ∧ runC ⟨c, a, a, s, some (a - s), false⟩ n (a - s) = n * (2 * s)
  | 0 => ⟨rfl, by show (0 : Int) = ((0 : Nat) : Int) * (2 * s); rw [Int.ofNat_zero, Int.zero_mul]⟩
  | n + 1 => by
    have fx : ∀ m : Nat, runF ⟨c, a, a, s, some (a - s), false⟩ m (a - s) = a - s := by
      intro m
      induction m with
      | zero => rfl
      | succ m ih => exact ih
    refine ⟨fx (n + 1), ?_⟩
    show Eff.carried _ (a - s) + runC _ n (a - s) = _
    rw [(two_runs s0 n).2, car_one, Int.natCast_add, Int.add_mul]
    unfold absI
    show _ = _ + 1 * (2 * s)
    split <;> omega
theorem two_twoR {a b s : Int} (a1 : 1 ≤ a) (b1 : 1 ≤ b) (s0 : 0 ≤ s) (sa : s ≤ a) (sb : s ≤ b) : twoR (a + b - s) [.mt true a, .mt false b] = 4 * s := by
  unfold twoR
  by_cases h : s = 0
  · subst h
    rw [show a + b - 0 = a + b by omega, two_eff0 a1 b1]
    show Eff.carried _ a + (Eff.carried _ a + 0) = 4 * 0
    rw [car_one]
    unfold absI
    split <;> omega
  · rw [two_eff a1 b1 (by omega) sa sb]
    obtain ⟨h1, h2⟩ := two_runs (c := a + b - s) (a := a) s0 1
    obtain ⟨_, h4⟩ := two_runs (c := a + b - s) (a := a) s0 2
    rw [h1, h4]
    show (2 : Int) * (2 * s) = 4 * s
    omega
theorem two_total {a b s : Int} (a1 : 1 ≤ a) (b1 : 1 ≤ b) (s1 : 1 ≤ s) (sa : s ≤ a) (sb : s ≤ b) {n : Int} (n1 : 1 ≤ n) :
    runC (effOf (a + b - s) [.mt true a, .mt false b]) n.toNat 0 = a + s + (n - 1) * (2 * s) ∧ runF (effOf (a + b - s) [.mt true a, .mt false b]) n.toNat 0 = a - s := by
  obtain ⟨k, rfl⟩ : ∃ k : Nat, n = k + 1 := ⟨(n - 1).toNat, by omega⟩
  rw [two_eff a1 b1 s1 sa sb, show ((k : Int) + 1).toNat = k + 1 by omega]
  obtain ⟨h1, h2⟩ := two_runs (c := a + b - s) (a := a) (s := s) (by omega) k
  refine ⟨?_, h1⟩
  show Eff.carried _ 0 + runC _ k (a - s) = _
  rw [h2, car_one, show (k : Int) + 1 - 1 = k by omega]
  unfold absI
  split <;> omega
theorem two_needs {a b : Int} (a0 : 0 ≤ a) (b0 : 0 ≤ b) : needsOf [.mt true a, .mt false b] = (a, b) := by
  have e1 : needL 1 (sides 1 [.mt true a, .mt false b]) = [a] := rfl
  have e2 : needL (-1) (sides 1 [.mt true a, .mt false b]) = [b] := rfl
  unfold needsOf
  rw [e1, e2]
  show (if false = true then _ else (mxL [a], mxL [b])) = _
  rw [if_neg (by decide)]
  have f : ∀ x : Int, 0 ≤ x → mxL [x] = x := fun x h => by
    show (if x > 0 then x else 0) = x
    split <;> omega
  rw [f a a0, f b b0]
/-! ### a meeting and a turn -/
theorem fitsS_turn {a c : Int} (a0 : 0 ≤ a) (ac : a ≤ c) : fitsS c [.mt true a, .turn] := fun r n hm => by
  rcases List.mem_cons.mp hm with z | z
  · cases z; exact ⟨a0, ac⟩
  · cases List.mem_singleton.mp z
theorem turn_needs {a : Int} (a0 : 0 ≤ a) : needsOf [.mt true a, .turn] = (a, a) := by
  have e1 : needL 1 (sides 1 [.mt true a, .turn]) = [a] := rfl
  have e2 : needL (-1) (sides 1 [.mt true a, .turn]) = [] := rfl
  have m1 : mxL [a] = a := by
    show (if a > 0 then a else 0) = a
    split <;> omega
  unfold needsOf
  rw [e1, e2, m1]
  show (if true = true then (mx a 0, mx a 0) else _) = _
  rw [if_pos rfl]
  have := mx_def a 0
  rw [show mx a 0 = a by omega]
theorem turn_runs {a s : Int} (a1 : 1 ≤ a) (s1 : 1 ≤ s) (sa : s ≤ a) (x : Int) (x0 : 0 ≤ x) (xa : x ≤ a) :
    (effOf (2 * a - s) [.mt true a, .turn]).carried x = a - x ∧ (effOf (2 * a - s) [.mt true a, .turn]).fin x = a - s := by
  rw [turn_eff a1 s1 sa]
  refine ⟨?_, ?_⟩
  · unfold Eff.carried
    dsimp only
    have := mx_def (a - x) (x - (2 * a - s))
    have := mx_def (mx (a - x) (x - (2 * a - s))) 0
    omega
  · unfold Eff.fin Eff.place
    dsimp only
    rw [if_pos rfl]
    have := mx_def x a
    have := mn_def (mx x a) (2 * a - s)
    by_cases h : a < 2 * a - s
    · rw [if_pos h]
      dsimp only
      omega
    · rw [if_neg h]
      dsimp only
      omega
theorem turn_all {a s : Int} (a1 : 1 ≤ a) (s1 : 1 ≤ s) (sa : s ≤ a) :
    twoR (2 * a - s) [.mt true a, .turn] = 2 * s ∧ runF (effOf (2 * a - s) [.mt true a, .turn]) 1 a = a - s ∧ runC (effOf (2 * a - s) [.mt true a, .turn]) 2 a = s := by
  have r := turn_runs a1 s1 sa
  have f0 := (r 0 (by omega) (by omega)).2
  obtain ⟨c1, f1⟩ := r (a - s) (by omega) (by omega)
  obtain ⟨c2, f2⟩ := r a (by omega) (by omega)
  have q0 : ∀ e : Eff, runF e 2 0 = e.fin (e.fin 0) := fun _ => rfl
  have q1 : ∀ (e : Eff) (x : Int), runF e 1 x = e.fin x := fun _ _ => rfl
  have q2 : ∀ (e : Eff) (x : Int), runC e 2 x = e.carried x + (e.carried (e.fin x) + 0) := fun _ _ => rfl
  unfold twoR
  rw [q0, q1, q2, q2]
  generalize effOf (2 * a - s) [.mt true a, .turn] = e at *
  rw [f0, f1, f1, c1, f2, c2, c1]
  refine ⟨by omega, rfl, by omega⟩
/-! ### meetings for all chairs -/
def allL (c : Int) : Nat → List Stp
  | 0 => []
  | m + 1 => allL c m ++ [.mt true c, .mt false c]
theorem allL_len (c : Int) : ∀ m, (allL c m).length = 2 * m
  | 0 => rfl
  | m + 1 => by
    show (allL c m ++ _).length = _
    rw [List.length_append, allL_len c m]
    show 2 * m + 2 = 2 * (m + 1)
    omega
theorem allL_fits {c : Int} (h : 0 ≤ c) : ∀ m, fitsS c (allL c m)
  | 0 => fun b n hm => nomatch hm
  | m + 1 => fun b n hm => by
    rcases List.mem_append.mp hm with z | z
    · exact allL_fits h m b n z
    · exact fitsS_two h (Int.le_refl _) h (Int.le_refl _) b n z
theorem allL_turns (c : Int) : ∀ m, turns (allL c m) = 0
  | 0 => rfl
  | m + 1 => by
    show turns (allL c m ++ _) = 0
    rw [turns_app, allL_turns c m]
    rfl
def prL (c : Int) : Nat → List (Int × Int)
  | 0 => []
  | m + 1 => prL c m ++ [(1, c), (-1, c)]
theorem sides_plain : ∀ (l m : List Stp), turns l = 0 → sides 1 (l ++ m) = sides 1 l ++ sides 1 m
  | [], _, _ => rfl
  | .turn :: r, m, h => by
    have h : turns r + 1 = 0 := h
    omega
  | .mt b n :: r, m, h => by
    show (_, n) :: sides 1 (r ++ m) = (_, n) :: (sides 1 r ++ sides 1 m)
    rw [sides_plain r m h]
theorem allL_sides (c : Int) : ∀ m, sides 1 (allL c m) = prL c m
  | 0 => rfl
  | m + 1 => by
    show sides 1 (allL c m ++ _) = _
    rw [sides_plain _ _ (allL_turns c m), allL_sides c m]
    rfl
theorem all_fold {c : Int} (c1 : 1 ≤ c) : ∀ m : Nat, effFold c (prL c (m + 1)) = ⟨c, c, c, c * (2 * m + 1), some 0, false⟩
  | 0 => by
    have m0 : mx 0 c = c := by have := mx_def 0 c; omega
    have st1 : effStep c (nothing c) (1, c) = ⟨c, c, c, 0, some c, false⟩ := by
      rw [nothing_pos (by omega)]
      unfold effStep
      rw [if_pos rfl, atLeast_none, if_pos (by show c ≤ c; omega), m0, mkE_eq]
    show effStep c (effStep c (nothing c) (1, c)) (-1, c) = _
    rw [st1]
    unfold effStep
    rw [if_neg (show ¬ ((-1 : Int) = 1) by decide), if_pos rfl]
    show Eff.atMost _ (c - c) = _
    rw [atMost_some, if_neg (by omega)]
    refine eff_ext rfl rfl rfl ?_ ?_ rfl
    · show 0 + c - (c - c) = c * 1; omega
    · show some (c - c) = some 0; congr 1; omega
  | m + 1 => by
    have ih := all_fold c1 m
    unfold effFold at ih ⊢
    show List.foldl (effStep c) (nothing c) (prL c (m + 1) ++ [(1, c), (-1, c)]) = _
    rw [List.foldl_append, ih]
    show effStep c (effStep c _ (1, c)) (-1, c) = _
    have st1 : effStep c ⟨c, c, c, c * (2 * m + 1), some 0, false⟩ (1, c) = ⟨c, c, c, c * (2 * m + 1) + c - 0, some c, false⟩ := by
      unfold effStep
      rw [if_pos rfl, atLeast_some, if_neg (by show ¬ c ≤ 0; omega)]
    rw [st1]
    unfold effStep
    rw [if_neg (show ¬ ((-1 : Int) = 1) by decide), if_pos rfl]
    show Eff.atMost _ (c - c) = _
    rw [atMost_some, if_neg (by omega)]
    refine eff_ext rfl rfl rfl ?_ ?_ rfl
    · show c * (2 * (m : Int) + 1) + c - 0 + c - (c - c) = c * (2 * ((m + 1 : Nat) : Int) + 1)
      rw [show (2 * ((m + 1 : Nat) : Int) + 1) = (2 * (m : Int) + 1) + 2 by omega, Int.mul_add c (2 * (m : Int) + 1) 2]
      omega
    · show some (c - c) = some 0; congr 1; omega
theorem all_eff {c : Int} (c1 : 1 ≤ c) (m : Nat) : effOf c (allL c (m + 1)) = ⟨c, c, c, c * (2 * m + 1), some 0, false⟩ := by
  have e : turning (allL c (m + 1)) = false := by unfold turning; rw [allL_turns]; rfl
  unfold effOf
  rw [e, allL_sides, all_fold c1 m]
  exact mkE_some
theorem all_eff1 {c : Int} (c1 : 1 ≤ c) (m : Nat) : effOf c (allL c (m + 1) ++ [.mt true 1, .turn, .turn]) = ⟨c, c, c, c * (2 * m + 1) + 1, some 1, false⟩ := by
  have e : turning (allL c (m + 1) ++ [.mt true 1, .turn, .turn]) = false := by
    unfold turning
    rw [turns_app, allL_turns]
    rfl
  have es : sides 1 (allL c (m + 1) ++ [.mt true 1, .turn, .turn]) = prL c (m + 1) ++ [(1, 1), (0, 0), (0, 0)] := by
    rw [sides_plain _ _ (allL_turns c (m + 1)), allL_sides]
    rfl
  have f : effFold c (prL c (m + 1) ++ [(1, 1), (0, 0), (0, 0)]) = ⟨c, c, c, c * (2 * m + 1) + 1, some 1, false⟩ := by
    have ih := all_fold c1 m
    unfold effFold at ih ⊢
    rw [List.foldl_append, ih]
    simp only [List.foldl_cons, List.foldl_nil]
    have z : ∀ x : Eff, effStep c x (0, 0) = x := fun x => by
      unfold effStep
      rw [if_neg (show ¬ ((0 : Int) = 1) by decide), if_neg (show ¬ ((0 : Int) = -1) by decide)]
    rw [z, z]
    unfold effStep
    rw [if_pos rfl, atLeast_some, if_neg (by decide)]
    refine eff_ext rfl rfl rfl ?_ rfl rfl
    show c * (2 * (m : Int) + 1) + 1 - 0 = c * (2 * (m : Int) + 1) + 1
    omega
  unfold effOf
  rw [e, es, f]
  exact mkE_some
theorem all_twoR {c : Int} (c1 : 1 ≤ c) (m : Nat) : twoR c (allL c (m + 1)) = 4 * (m + 1) * c := by
  unfold twoR
  rw [all_eff c1 m]
  show Eff.carried _ 0 + (Eff.carried _ 0 + 0) = _
  rw [car_one]
  have e : c * (2 * (m : Int) + 1) = 2 * ((m : Int) * c) + c := by rw [Int.mul_add, Int.mul_one, Int.mul_comm (m : Int) c, ← Int.mul_assoc, ← Int.mul_assoc, Int.mul_comm c 2]
  have e2 : 4 * ((m : Int) + 1) * c = 4 * ((m : Int) * c) + 4 * c := by rw [Int.mul_add, Int.add_mul, Int.mul_assoc]; rfl
  rw [e, e2]
  unfold absI
  split <;> omega
theorem mul_gap {c a b : Int} (c1 : 1 ≤ c) (h : a + 1 ≤ b) : c * a + c ≤ c * b := by
  have := Int.mul_le_mul_of_nonneg_left h (by omega : 0 ≤ c)
  rw [Int.mul_add, Int.mul_one] at this
  exact this
theorem all_simple {c : Int} (c1 : 1 ≤ c) (m : Nat) {l : List Stp} (h : SimpleOf (effOf c (allL c (m + 1))) l) : l.length = 2 * (m + 1) := by
  rw [all_eff c1 m] at h
  have big : c * 1 ≤ c * (2 * (m : Int) + 1) := Int.mul_le_mul_of_nonneg_left (by omega) (by omega)
  have lw : ∀ k : Nat, longW c c 0 (k + 2) false = c * (k + 2) - (if k % 2 = 0 then c else 0) := fun k => by
    unfold longW lastW
    rw [if_neg (by decide), show (((k + 2 : Nat) : Int) - 2) = k by omega, Int.mul_add]
    by_cases q : k % 2 = 0
    · rw [if_pos (by omega), if_pos q]; omega
    · rw [if_neg (by omega), if_neg q]; omega
  rcases h with ⟨e0, _⟩ | ⟨_, g, up, zs, eg, hw, el⟩
  · have e0 : c * (2 * (m : Int) + 1) = 0 := e0
    omega
  · cases eg
    subst el
    show (zsteps c up zs).length + 1 = _
    rw [zsteps_len]
    rcases hw with ⟨e1, _, ez⟩ | ⟨ne, k, k2, ⟨hp, hl⟩, hmin, _, ez⟩
    · subst ez
      have e1 : c * (2 * (m : Int) + 1) = absI (0 - c) := e1
      have : m = 0 := by
        rcases Nat.eq_zero_or_pos m with z | z
        · exact z
        · have := mul_gap c1 (a := 1) (b := 2 * (m : Int) + 1) (by omega)
          unfold absI at e1
          split at e1 <;> omega
      subst this
      rfl
    · rw [ez, shortGo_len, placesL_len _ _ k2]
      obtain ⟨k, rfl⟩ : ∃ j, k = j + 2 := ⟨k - 2, by omega⟩
      have hp := possW_spec.mp hp
      cases up with
      | true =>
        have : c < c := hp.1
        omega
      | false =>
        have hodd : k % 2 = 1 := by
          have h2 := hp.2
          rw [lastUp_par] at h2
          by_cases q : (k + 1) % 2 = 0
          · omega
          · rw [if_neg q] at h2
            have : (0 : Int) < 0 := h2
            omega
        have hl : c * (2 * (m : Int) + 1) ≤ longW c c 0 (k + 2) false := hl
        rw [lw, if_neg (by omega)] at hl
        have lo : 2 * m + 1 ≤ k + 2 := by
          rcases Nat.lt_or_ge (k + 2) (2 * m + 1) with q | q
          · have := mul_gap c1 (a := (k : Int) + 2) (b := 2 * (m : Int) + 1) (by omega)
            omega
          · exact q
        have hi : k + 2 ≤ 2 * m + 1 := by
          rcases Nat.lt_or_ge (2 * m + 1) (k + 2) with q | q
          · exfalso
            obtain ⟨j, hj⟩ : ∃ j, 2 * m + 1 = j + 2 := by
              rcases Nat.eq_zero_or_pos m with z | z
              · exfalso
                subst z
                refine ne ?_
                show c * (2 * ((0 : Nat) : Int) + 1) = absI (0 - c)
                unfold absI
                split <;> omega
              · exact ⟨2 * m - 1, by omega⟩
            refine hmin (2 * m + 1) false (by omega) q ?_
            rw [hj]
            have lu : lastUp (j + 1) false = false := by rw [lastUp_par, if_pos (by omega)]
            refine ⟨possW_spec.mpr ⟨by show 0 < c; omega, ?_⟩, ?_⟩
            · rw [lu]
              show (0 : Int) < c
              omega
            · show c * (2 * (m : Int) + 1) ≤ longW c c 0 (j + 2) false
              rw [lw, if_neg (by omega), show (2 * (m : Int) + 1) = (j : Int) + 2 by omega]
              omega
          · exact q
        omega
theorem all_simple1 {c : Int} (c1 : 1 ≤ c) (m : Nat) {l : List Stp} (h : SimpleOf (effOf c (allL c (m + 1) ++ [.mt true 1, .turn, .turn])) l) : l.length = 2 * (m + 1) + 1 := by
  rw [all_eff1 c1 m] at h
  have big : c * 1 ≤ c * (2 * (m : Int) + 1) := Int.mul_le_mul_of_nonneg_left (by omega) (by omega)
  have lw : ∀ k : Nat, longW c c 1 (k + 2) false = c * (k + 1) + (if k % 2 = 0 then 1 else c - 1) := fun k => by
    unfold longW lastW
    rw [if_neg (by decide), show (((k + 2 : Nat) : Int) - 2) = k by omega, Int.mul_add]
    by_cases q : k % 2 = 0
    · rw [if_pos (by omega), if_pos q]; omega
    · rw [if_neg (by omega), if_neg q]; omega
  rcases h with ⟨e0, _⟩ | ⟨_, g, up, zs, eg, hw, el⟩
  · have e0 : c * (2 * (m : Int) + 1) + 1 = 0 := e0
    omega
  · cases eg
    subst el
    show (zsteps c up zs).length + 1 = _
    rw [zsteps_len]
    rcases hw with ⟨e1, _, ez⟩ | ⟨ne, k, k2, ⟨hp, hl⟩, hmin, _, ez⟩
    · have e1 : c * (2 * (m : Int) + 1) + 1 = absI (1 - c) := e1
      exfalso
      unfold absI at e1
      split at e1 <;> omega
    · rw [ez, shortGo_len, placesL_len _ _ k2]
      obtain ⟨k, rfl⟩ : ∃ j, k = j + 2 := ⟨k - 2, by omega⟩
      have hp := possW_spec.mp hp
      cases up with
      | true =>
        have : c < c := hp.1
        omega
      | false =>
        have hl : c * (2 * (m : Int) + 1) + 1 ≤ longW c c 1 (k + 2) false := hl
        rw [lw] at hl
        have lo : 2 * (m + 1) ≤ k + 2 := by
          rcases Nat.lt_or_ge (k + 2) (2 * (m + 1)) with q | q
          · exfalso
            by_cases e : k % 2 = 0
            · rw [if_pos e] at hl
              have := mul_gap c1 (a := (k : Int) + 1) (b := 2 * (m : Int) + 1) (by omega)
              omega
            · rw [if_neg e] at hl
              have := mul_gap c1 (a := (k : Int) + 1) (b := 2 * (m : Int) + 1) (by omega)
              omega
          · exact q
        have hi : k + 2 ≤ 2 * (m + 1) := by
          rcases Nat.lt_or_ge (2 * (m + 1)) (k + 2) with q | q
          · exfalso
            refine hmin (2 * m + 2) false (by omega) q ?_
            have lu : lastUp (2 * m + 1) false = true := by rw [lastUp_par, if_neg (by omega)]; rfl
            refine ⟨possW_spec.mpr ⟨by show 0 < c; omega, ?_⟩, ?_⟩
            · rw [lu]
              show (0 : Int) < 1
              decide
            · show c * (2 * (m : Int) + 1) + 1 ≤ longW c c 1 (2 * m + 2) false
              rw [lw, if_pos (by omega), show ((2 * m : Nat) : Int) = 2 * (m : Int) by omega]
              omega
          · exact q
        omega
theorem all_turning (c : Int) (m : Nat) : turning (allL c m) = false ∧ turning (allL c m ++ [.mt true 1, .turn, .turn]) = false := by
  refine ⟨?_, ?_⟩
  · unfold turning; rw [allL_turns]; rfl
  · unfold turning; rw [turns_app, allL_turns]; rfl
end ChM

set_option Elab.async false
set_option linter.all false
set_option autoImplicit false
set_option maxRecDepth 100000
set_option maxHeartbeats 4000000
/-! ### == of lists and tuples of numbers -/
namespace Ch
open PySem PySem.Spec PyProof.Rows L2 ChM
def Lay (n : Nat) (d : PyData) : Prop := d.canLay0 = true ∧ d.depth ≤ n
theorem lay_all {n : Nat} : ∀ {ds : List PyData}, (∀ d ∈ ds, Lay n d) → PyData.canLayAll0 ds = true ∧ PyData.depthAll ds ≤ n
  | [], _ => by simp [PyData.canLayAll0, PyData.depthAll]
  | d :: ds, h => by
    obtain ⟨a, b⟩ := lay_all (ds := ds) fun e he => h e (List.mem_cons_of_mem _ he)
    obtain ⟨c, e⟩ := h d List.mem_cons_self
    refine ⟨by simp [PyData.canLayAll0, a, c], ?_⟩
    simp only [PyData.depthAll]
    omega
theorem lay_list {n : Nat} {ds : List PyData} (h : ∀ d ∈ ds, Lay n d) : Lay (n + 1) (.list ds) := by
  obtain ⟨a, b⟩ := lay_all h
  refine ⟨by simp only [PyData.canLay0]; exact a, ?_⟩
  simp only [PyData.depth]
  omega
theorem lay_tup {n : Nat} {ds : List PyData} (h : ∀ d ∈ ds, Lay n d) : Lay (n + 1) (.tuple ds) := by
  obtain ⟨a, b⟩ := lay_all h
  refine ⟨by simp only [PyData.canLay0]; exact a, ?_⟩
  simp only [PyData.depth]
  omega
theorem lay_int (n : Nat) (i : Int) : Lay n (.int i) := ⟨by simp [PyData.canLay0], by simp [PyData.depth]⟩
theorem lay_str (n : Nat) (i : Str) (h : PyData.strOk i = true) : Lay n (.str i) := ⟨by simp only [PyData.canLay0]; exact h, by simp [PyData.depth]⟩
theorem lay_bool (n : Nat) (i : Bool) : Lay n (.bool i) := ⟨by simp [PyData.canLay0], by simp [PyData.depth]⟩
theorem lay_none (n : Nat) : Lay n .none := ⟨by simp [PyData.canLay0], by simp [PyData.depth]⟩
theorem Lay.shaped {n : Nat} {d : PyData} (h : Lay n d) (hn : n ≤ 64 := by decide) : SeqAt.shaped d = true := by
  show (d.canLay0 && decide (d.depth ≤ 64)) = true
  rw [Bool.and_eq_true]
  exact ⟨h.1, decide_eq_true (Nat.le_trans h.2 hn)⟩
theorem lay_map {α : Type} {n : Nat} {f : α → PyData} (h : ∀ a, Lay n (f a)) (xs : List α) : ∀ d ∈ xs.map f, Lay n d := fun d hd => by
  obtain ⟨a, _, rfl⟩ := List.mem_map.mp hd
  exact h a
theorem eqvAll_map {α : Type} [DecidableEq α] {f : α → PyData} (h : ∀ a b, PyData.eqv (f a) (f b) = decide (a = b)) : ∀ xs ys : List α, PyData.eqvAll (xs.map f) (ys.map f) = decide (xs = ys)
  | [], [] => by simp [PyData.eqvAll]
  | [], _ :: _ => by simp [PyData.eqvAll]
  | _ :: _, [] => by simp [PyData.eqvAll]
  | x :: xs, y :: ys => by
    simp only [List.map_cons, PyData.eqvAll]
    rw [h, eqvAll_map h xs ys]
    by_cases e : x = y <;> by_cases e2 : xs = ys <;> simp [e, e2]
theorem eqv_int (a b : Int) : PyData.eqv (.int a) (.int b) = decide (a = b) := by
  simp only [PyData.eqv]
  by_cases e : a = b <;> simp [e]
theorem eqv_str (a b : Str) : PyData.eqv (.str a) (.str b) = decide (a = b) := by
  simp only [PyData.eqv]
  by_cases e : a = b
  · simp [e]
  · rw [decide_eq_false e]
    exact beq_false_of_ne e
theorem dpAll_ints {K : PySem.W.Frag} {H : Hp} : ∀ ns : List Int, DpAll K H (ns.map V.int) (ns.map PyData.int)
  | [] => .nil
  | n :: ns => .cons (.int n) (dpAll_ints ns)
section
variable {H : Hp} {Q : VK} {K : PySem.W.Frag} {p q : Addr} {ns ms : List Int} {a b c d : Int}
theorem x_neL (h1 : SqL K H p (ns.map V.int)) (h2 : SqL K H q (ms.map V.int)) (k : Q (.bl (!decide (ns = ms))) H) : rNeU K (.ref p) (.ref q) H Q := by
  refine x_neDp (.lst h1 (dpAll_ints ns)) (.lst h2 (dpAll_ints ms)) (lay_list (lay_map (lay_int 0) ns)).shaped (lay_list (lay_map (lay_int 0) ms)).shaped ?_
  have e : PyData.eqv (.list (ns.map PyData.int)) (.list (ms.map PyData.int)) = decide (ns = ms) := by
    simp only [PyData.eqv]
    exact eqvAll_map eqv_int ns ms
  rw [e]
  exact k
theorem x_eqL (h1 : SqL K H p (ns.map V.int)) (h2 : SqL K H q (ms.map V.int)) (k : Q (.bl (decide (ns = ms))) H) : rEqU K (.ref p) (.ref q) H Q := by
  refine x_eqDp (.lst h1 (dpAll_ints ns)) (.lst h2 (dpAll_ints ms)) (lay_list (lay_map (lay_int 0) ns)).shaped (lay_list (lay_map (lay_int 0) ms)).shaped ?_
  have e : PyData.eqv (.list (ns.map PyData.int)) (.list (ms.map PyData.int)) = decide (ns = ms) := by
    simp only [PyData.eqv]
    exact eqvAll_map eqv_int ns ms
  rw [e]
  exact k
theorem x_neTu (h1 : SqT K H p (ns.map V.int)) (h2 : SqT K H q (ms.map V.int)) (k : Q (.bl (!decide (ns = ms))) H) : rNeU K (.ref p) (.ref q) H Q := by
  refine x_neDp (.tup h1 (dpAll_ints ns)) (.tup h2 (dpAll_ints ms)) (lay_tup (lay_map (lay_int 0) ns)).shaped (lay_tup (lay_map (lay_int 0) ms)).shaped ?_
  have e : PyData.eqv (.tuple (ns.map PyData.int)) (.tuple (ms.map PyData.int)) = decide (ns = ms) := by
    simp only [PyData.eqv]
    exact eqvAll_map eqv_int ns ms
  rw [e]
  exact k
theorem x_eqTu (h1 : SqT K H p (ns.map V.int)) (h2 : SqT K H q (ms.map V.int)) (k : Q (.bl (decide (ns = ms))) H) : rEqU K (.ref p) (.ref q) H Q := by
  refine x_eqDp (.tup h1 (dpAll_ints ns)) (.tup h2 (dpAll_ints ms)) (lay_tup (lay_map (lay_int 0) ns)).shaped (lay_tup (lay_map (lay_int 0) ms)).shaped ?_
  have e : PyData.eqv (.tuple (ns.map PyData.int)) (.tuple (ms.map PyData.int)) = decide (ns = ms) := by
    simp only [PyData.eqv]
    exact eqvAll_map eqv_int ns ms
  rw [e]
  exact k
/-- (a, b) != (c, d) -/
theorem x_neP (h1 : H p = some (.tup [.int a, .int b])) (h2 : H q = some (.tup [.int c, .int d])) (k : Q (.bl (!decide (a = c ∧ b = d))) H) : rNeU K (.ref p) (.ref q) H Q := by
  refine x_neTu (ns := [a, b]) (ms := [c, d]) (SqT.of h1) (SqT.of h2) ?_
  rw [show decide ([a, b] = [c, d]) = decide (a = c ∧ b = d) by simp]
  exact k
theorem x_eqP (h1 : H p = some (.tup [.int a, .int b])) (h2 : H q = some (.tup [.int c, .int d])) (k : Q (.bl (decide (a = c ∧ b = d))) H) : rEqU K (.ref p) (.ref q) H Q := by
  refine x_eqTu (ns := [a, b]) (ms := [c, d]) (SqT.of h1) (SqT.of h2) ?_
  rw [show decide ([a, b] = [c, d]) = decide (a = c ∧ b = d) by simp]
  exact k
/-- numbers or None -/
theorem x_neG {x y : Option Int} (k : Q (.bl (!decide (x = y))) H) : rNeU K (goalV x) (goalV y) H Q := by
  refine .inl ⟨by cases x <;> cases y <;> rfl, ?_⟩
  rw [show decide (goalV x = goalV y) = decide (x = y) by cases x <;> cases y <;> simp [goalV]]
  exact k
theorem x_eqG {x y : Option Int} (k : Q (.bl (decide (x = y))) H) : rEqU K (goalV x) (goalV y) H Q := by
  refine .inl ⟨by cases x <;> cases y <;> rfl, ?_⟩
  rw [show decide (goalV x = goalV y) = decide (x = y) by cases x <;> cases y <;> simp [goalV]]
  exact k
/-- slices -/
theorem x_sl {r : V → Option Int → Option Int → Hp → VK → Prop} {te : TE} {tl th : TO} {σ : L2.St} (k : te σ H fun x H1 => tl σ H1 fun l H2 => th σ H2 fun u H3 => r x l u H3 Q) : L2.tSl r te tl th σ H Q := k
theorem x_slL {xs : List V} {lo hi : Option Int} (h : SqL K H p xs) (k : ∀ q, H q = none → Q (.ref q) (upd H q (.lst (cutV xs lo hi)))) : rSlL K (.ref p) lo hi H Q := ⟨p, xs, rfl, h, k⟩
theorem x_noPart {σ : L2.St} {QO : Option Int → Hp → Prop} (k : QO none H) : tNoPart σ H QO := k
theorem x_part {σ : L2.St} {te : TE} {QO : Option Int → Hp → Prop} (k : te σ H fun x H1 => ∃ i, x = .int i ∧ QO (some i) H1) : tPart te σ H QO := k
theorem x_partI {i : Int} {R : Int → Prop} (k : R i) : ∃ j, V.int i = .int j ∧ R j := ⟨i, rfl, k⟩
theorem x_rep {xs : List V} {n : Int} (h : H p = some (.lst xs)) (h0 : -(2 ^ 63) ≤ n) (h1 : n < 2 ^ 63) (h2 : xs.length * n.toNat ≤ sizeLine) (k : ∀ q, H q = none → Q (.ref q) (upd H q (.lst (List.replicate n.toNat xs).flatten))) : rTimes (.ref p) (.int n) H Q := .inr (.inr ⟨p, n, xs, rfl, rfl, h, h0, h1, h2, k⟩)
end
/-- a slice of paired lists -/
theorem pr_cut {β : Type} {R : V → β → Prop} {xs : List V} {ys : List β} (lo hi : Option Int) (h : Paired R xs ys) : Paired R (cutV xs lo hi) ((ys.drop (HT.sIx xs.length 0 lo)).take (HT.sIx xs.length xs.length hi - HT.sIx xs.length 0 lo)) := pr_take _ (pr_drop _ h)
end Ch
/-! ### new objects, the heap behind them named -/
namespace Ch
open PySem PySem.Spec PyProof.Rows L2 ChM
section
variable {H : Hp} {Q : VK} {K : PySem.W.Frag} {p q : Addr} {xs ys : List V} {o : HO} {n : Nat} {R : Addr → Hp → Prop}
theorem n_new (h : n ≤ sizeLine) (k : ∀ p H', H p = none → Same H H' → H' p = some o → R p H') : n ≤ sizeLine ∧ ∀ p, H p = none → R p (upd H p o) := ⟨h, fun p hp => k p _ hp (Same.new hp) upd_same⟩
theorem n_new0 (k : ∀ p H', H p = none → Same H H' → H' p = some o → R p H') : ∀ p, H p = none → R p (upd H p o) := fun p hp => k p _ hp (Same.new hp) upd_same
theorem n_slL {lo hi : Option Int} (h : SqL K H p xs) (k : ∀ q H', H q = none → Same H H' → H' q = some (.lst (cutV xs lo hi)) → Q (.ref q) H') : rSlL K (.ref p) lo hi H Q := x_slL h fun q hq => k q _ hq (Same.new hq) upd_same
theorem n_plusL (h1 : H p = some (.lst xs)) (h2 : H q = some (.lst ys)) (h3 : xs.length + ys.length ≤ sizeLine) (k : ∀ r H', H r = none → Same H H' → H' r = some (.lst (xs ++ ys)) → Q (.ref r) H') : rPlus (.ref p) (.ref q) H Q := x_plusL h1 h2 h3 fun q hq => k q _ hq (Same.new hq) upd_same
theorem n_rep {i : Int} (h : H p = some (.lst xs)) (h0 : -(2 ^ 63) ≤ i) (h1 : i < 2 ^ 63) (h2 : xs.length * i.toNat ≤ sizeLine) (k : ∀ q H', H q = none → Same H H' → H' q = some (.lst (List.replicate i.toNat xs).flatten) → Q (.ref q) H') : rTimes (.ref p) (.int i) H Q := x_rep h h0 h1 h2 fun q hq => k q _ hq (Same.new hq) upd_same
theorem fits_sub {h : Int} {l l' : List Stp} (hl : fitsS h l) (hs : ∀ s ∈ l', s ∈ l) : fitsS h l' := fun b n hm => hl b n (hs _ hm)
theorem mem_cut {α : Type} {l : List α} {a b : Nat} {s : α} (h : s ∈ (l.drop a).take b) : s ∈ l := List.mem_of_mem_drop (List.mem_of_mem_take h)
theorem fits_app {h : Int} {l m : List Stp} (hl : fitsS h l) (hm : fitsS h m) : fitsS h (l ++ m) := fun b n hx => by
  rcases List.mem_append.mp hx with z | z
  · exact hl b n z
  · exact hm b n z
end
end Ch
namespace Ch
open PySem PySem.Spec PyProof.Rows L2
theorem nws {H H' : Hp} {p : Addr} {o : HO} (h : upd H p o = H') (hp : H p = none) : Same H H' ∧ H' p = some o := by
  subst h
  exact ⟨Same.new hp, upd_same⟩
end Ch
namespace Ch
open PySem PySem.Spec PyProof.Rows L2 ChM
theorem StepsAt.put {H : Hp} {p : Addr} {vs : List V} {l : List Stp} (s : Stp) (h : H p = some (.tup (stepV s))) (t : StepsAt H vs l) : StepsAt H (.ref p :: vs) (s :: l) := .cons ⟨p, rfl, h⟩ t
end Ch
/-! ### ways that meet -/
namespace Ch
open PySem PySem.Spec PyProof.Rows L2
section
variable {σ : L2.St} {H : Hp} {D : Ends} {t : TT} {t1 t2 : TS} {b : Bool}
/-- if: what is known of everything behind it -/
theorem x_ifM (R : L2.St → Hp → Prop) (hT : b = true → ∀ N : L2.St → Hp → Prop, (∀ σ' H', R σ' H' → N σ' H') → t1 { D with nx := N } σ H) (hF : b = false → ∀ N : L2.St → Hp → Prop, (∀ σ' H', R σ' H' → N σ' H') → t2 { D with nx := N } σ H) (h1 : ∀ σ' H', R σ' H' → D.nx σ' H') :
    if b = true then t1 D σ H else t2 D σ H := by
  cases b with
  | true => exact hT rfl _ h1
  | false => exact hF rfl _ h1
theorem x_ifMd {c : Prop} [Decidable c] (R : L2.St → Hp → Prop) (hT : c → ∀ N : L2.St → Hp → Prop, (∀ σ' H', R σ' H' → N σ' H') → t1 { D with nx := N } σ H) (hF : ¬ c → ∀ N : L2.St → Hp → Prop, (∀ σ' H', R σ' H' → N σ' H') → t2 { D with nx := N } σ H) (h1 : ∀ σ' H', R σ' H' → D.nx σ' H') :
    if decide c = true then t1 D σ H else t2 D σ H := x_ifM R (fun e => hT (of_decide_eq_true e)) (fun e => hF (of_decide_eq_false e)) h1
/-- an if that is passed by -/
theorem x_skip (R : Hp → Prop) (hf : ∀ QT : Bool → Hp → Prop, (∀ H', R H' → QT false H') → t σ H QT) (h1 : ∀ H', R H' → t2 D σ H') : tIfS t t1 t2 D σ H := hf _ fun H' r => h1 H' r
end
end Ch
namespace Ch
open PySem PySem.Spec PyProof.Rows L2
/-- c or e, true in any way -/
theorem x_orK {c : Prop} [Decidable c] {tb : TE} {σ : L2.St} {H : Hp} {k : VK} (hF : ¬ c → ∀ Q' : VK, Q' (.bl true) H → tb σ H Q') (h : k (.bl true) H) : if decide c = true then k (.bl true) H else tb σ H k := by
  by_cases e : c
  · rw [decide_eq_true e]
    exact h
  · rw [decide_eq_false e]
    exact hF e _ h
theorem x_aug {i : Nat} {te : TE} {ti : TIp} {D : Ends} {σ : L2.St} {H : Hp} {v : V} (h : σ[i]? = some (some v)) (k : te σ H fun y H1 => ti v y H1 fun z H2 => D.nx (σ.set i (some z)) H2) : tAug i te ti D σ H := ⟨v, h, k⟩
theorem x_ipI {f : Int → Int → Int} {i j : Int} {H : Hp} {Q : VK} (k : Q (.int (f i j)) H) : ipI f (.int i) (.int j) H Q := ⟨i, j, rfl, rfl, k⟩
end Ch

set_option Elab.async false
set_option linter.all false
set_option autoImplicit false
set_option maxRecDepth 100000
set_option maxHeartbeats 4000000
/-! ### max of a tuple of ints -/
namespace Ch
open PySem PySem.Spec PyProof.Rows L2
section
variable {prog : Program} {w : World} {A : Around} {E : Value → Shared → Prop} {s : Shared}
theorem max_intTup {l : Addr} {xs : Array (Int × Tok)} {Q : Value → Shared → Prop} (hh : A.handled = none) (hl : s.heap.IsTuple l (intItems xs)) (hne : 0 < xs.size)
    (h : ∀ v h' tk, (intItems xs)[argBest (fun i j => decide (numAt xs i > numAt xs j)) (xs.size - 1)]? = some v → (∀ b o, s.heap.get? b = some o → h'.get? b = some o) → Q v { s with heap := h', toks := tk }) :
    wpAny (model prog w) A (call (.builtin "max") [.ref l]) Q E s := by
  have hlt : l < s.heap.objs.size := by
    obtain ⟨o, ho, _⟩ := hl
    exact Heap.lt_size ho
  refine call_max_walk (wpAny_pyIter_tuple hl ?_)
  refine ⟨_, [_, l], [_], _, _, _, _, rfl, Walks.tuple (A := A.in1) hh _ l (Nat.ne_of_lt hlt) (intItems xs),
    ⟨⟨_, Heap.get?_push_size _ rfl, rfl, rfl⟩, hl.push _⟩, fun c hc => ?_, by simpa [intItems] using hne, CmpOf.ints_gt (numAt xs) (fun _ _ => intItems_at), fun v h' tk hP hk => ?_⟩
  · show c < (s.heap.push _).objs.size
    rw [Heap.size_push]
    rcases List.mem_cons.mp hc with rfl | hc
    · exact Nat.lt_succ_self _
    · rcases List.mem_cons.mp hc with rfl | hc
      · exact Nat.lt_succ_of_lt hlt
      · cases hc
  · refine h v h' tk (by simpa [intItems] using hP) fun b o e => hk b o (fun hm => ?_) (Heap.get?_push_of_some _ e)
    rcases List.mem_cons.mp hm with e1 | hm
    · exact absurd (e1 ▸ Heap.lt_size e) (Nat.lt_irrefl _)
    · cases hm
theorem maxT_raw {l : Addr} {its : List Value} {ns : List Int} {Q : Value → Shared → Prop} (hh : A.handled = none) (hl : s.heap.IsTuple l its.toArray) (hi : IntsAre its ns) (hne : 0 < ns.length)
    (h : ∀ h' tk M t', (∀ b o, s.heap.get? b = some o → h'.get? b = some o) → M ∈ ns → (∀ a, a ∈ ns → a ≤ M) → Q (.int M t') { s with heap := h', toks := tk }) : wpAny (model prog w) A (call (.builtin "max") [.ref l]) Q E s := by
  obtain ⟨xs, e⟩ := hi.allInts.items
  have hn : numsOf (intItems xs).toList = ns := by rw [← e]; exact hi.numsOf
  rw [nums_intItems] at hn
  subst hn
  rw [e] at hl
  have hsz : 0 < xs.size := by simpa using hne
  refine max_intTup hh hl hsz fun v h' tk hv hk => ?_
  obtain ⟨t, rfl⟩ := intItems_at hv
  obtain ⟨h1, h2⟩ := argBest_gt (numAt xs) (xs.size - 1)
  refine h h' tk _ t hk ?_ fun a ha => ?_
  · rw [numAt_eq]; exact PySem.getD_mem (by rw [List.length_map, Array.length_toList]; omega)
  · obtain ⟨j, hj, rfl⟩ := mem_getD ha
    rw [List.length_map, Array.length_toList] at hj
    rw [← numAt_eq]; exact h2 j (by omega)
end
def rMaxT (K : PySem.W.Frag) : List V → Hp → VK → Prop := fun vs H Q => ∃ (a : Addr) (ns : List Int), vs = [V.ref a] ∧ SqT K H a (ns.map V.int) ∧ 0 < ns.length ∧ ∀ m, m ∈ ns → (∀ y, y ∈ ns → y ≤ m) → Q (.int m) H
theorem cr_maxT {X : Cx} (hc : X.calm = true) : CallR X (.builtin "max") (rMaxT X.K) := by
  intro pins s σ H vs us Q I r h
  obtain ⟨a, ns, rfl, hs, hne, q⟩ := h
  obtain ⟨its, rv, hl, _⟩ := I.tuple hs
  rw [Vals.ref1 r]
  exact maxT_raw (I.ok.hd hc) hl rv.ints hne fun h' tk m t' hk h1 h2 => ⟨.int _, H, I.kept hk, ⟨_, rfl⟩, q m h1 h2⟩
theorem c_maxTK {X : Cx} (K : PySem.W.Frag) (hc : X.calm = true) (hK : X.K = K := by rfl) : CallR X (.builtin "max") (rMaxT K) := by subst hK; exact cr_maxT hc
theorem x_maxT {H : Hp} {Q : VK} {K : PySem.W.Frag} {p : Addr} {ns : List Int} (h : SqT K H p (ns.map V.int)) (h0 : 0 < ns.length) (k : ∀ m, m ∈ ns → (∀ y ∈ ns, y ≤ m) → Q (.int m) H) : rMaxT K [.ref p] H Q := ⟨p, ns, rfl, h, h0, k⟩
end Ch
/-! ### xs[i] op= e -/
namespace Ch
open PySem PySem.Spec PyProof.Rows L2
def rGetL (K : PySem.W.Frag) : V → V → Hp → VK → Prop := fun x y H Q => ∃ p xs i v, x = .ref p ∧ y = .int i ∧ SqL K H p xs ∧ 0 ≤ i ∧ atI xs i = some v ∧ Q v H
theorem get_list {X : Cx} : PGet X (rGetL X.K) := by
  intro pins s σ H x y v u Q I rx ry h
  obtain ⟨p, xs, i, z, rfl, rfl, hq, h0, he, q⟩ := h
  cases rx
  obtain ⟨t, rfl⟩ := ry
  obtain ⟨its, r, pl, hz⟩ := I.list hq
  obtain ⟨j, h1, h2, h3, h4, h5⟩ := atI_get he
  obtain ⟨w, ew, rw'⟩ := r.get h2
  have hl := r.length
  have hn := line63
  have hj : i.toNat = j := by
    rw [seqIndex_of h0 h5] at h1
    exact Option.some.inj h1
  exact wpAny_getItem_list pl.isList h0 (by omega) (by rw [hj]; simpa using ew) ⟨z, H, I, rw', q⟩
theorem get_listK {X : Cx} (K : PySem.W.Frag) (hK : X.K = K := by rfl) : PGet X (rGetL K) := by subst hK; exact get_list
section
variable {σ : L2.St} {H : Hp} {D : Ends} {K : PySem.W.Frag} {p : Addr} {xs : List V} {i : Int} {v : V} {Q : VK}
theorem x_augS {to ti te : TE} {tget : V → V → Hp → VK → Prop} {tip : TIp} {tset : TSet} (k : to σ H fun o H1 => ti σ H1 fun i H2 => tget o i H2 fun x H3 => te σ H3 fun y H4 => tip x y H4 fun z H5 => tset o i z H5 fun H6 => D.nx σ H6) : tAugS to ti te tget tip tset D σ H := k
theorem x_getL (h : SqL K H p xs) (h0 : 0 ≤ i) (e : atI xs i = some v) (k : Q v H) : rGetL K (.ref p) (.int i) H Q := ⟨p, xs, i, v, rfl, rfl, h, h0, e, k⟩
end
end Ch
/-! ### cls(*e), cls a local name -/
namespace Ch
open PySem PySem.Spec PyProof.Rows L2
def tMkV (i : Nat) (C : Addr) (sp : Sp) (E : XK) (t : TA) : TE := fun σ H Q => σ[i]? = some (some (.ref C)) ∧ tMk C sp E t σ H Q
theorem pe_mkSV {X : Cx} {CX : CXT} {k i : Nat} {f C : Addr} {sp : Sp} {E : XK} {x : Str} {np pos sp_ : Pos} {e : Expr} {ta : TE} (M : Mk X.K C f) (F : FnR X.prog X.w X.K X.mg X.base CX k f sp) (hr : Room (k + 1) X.A) (hx : Passes CX X E) (hN : X.N[i]? = some x) (hv : Vis X.env.scope x) (he : PE X e ta)
    (hd : (x == ("__debug__" : Str)) = false := by decide) (hcd : (x == ("__classdict__" : Str)) = false := by decide)
    (hst : starEach [.Starred e sp_] X.env = [(true, eval e X.env)] := by rfl) : PE X (.Call (.Name x np) [.Starred e sp_] [] pos) (tMkV i C sp E (tStarA X.K ta)) := by
  refine ⟨fun pins s σ H Q I h => ?_⟩
  obtain ⟨hs, h⟩ := h
  refine wpAny_Call_Name_kw (thn ((pe_var (pos := np) (i := i) hN hv hd hcd).run pins s σ H (fun v H1 => v = .ref C ∧ H1 = H) I ⟨.ref C, hs, rfl, rfl⟩) fun u s1 ⟨v, H1, I1, r1, ev, eH⟩ => ?_)
  subst ev
  rw [eH] at I1
  cases r1
  refine PySem.W.callWith_S (h₀ := X.base) I1.ok.mod.kin M.kp (thn (he.run pins s1 σ H _ I1 h) fun v s1 ⟨y, H1, I1, ry, a, xs, ey, hxs, q⟩ => ?_) hst
  subst ey
  obtain rfl : v = Value.ref a := ry
  exact StX.star_any I1 hxs fun us s2 I2 rv => ⟨I2.kIn, StX.run_makeR M F hr hx I2 rv q⟩
end Ch

set_option Elab.async false
set_option linter.all false
set_option autoImplicit false
set_option maxRecDepth 100000
set_option maxHeartbeats 4000000
/-! ### tuples and lists of the same plain values -/
namespace Ch
open PySem PySem.Spec PyProof.Rows L2 ChM
def pdV : V → PyData
  | .bl b => .bool b
  | .int i => .int i
  | .str z => .str z
  | _ => .none
def plV : V → Bool
  | .non => true
  | .bl _ => true
  | .int _ => true
  | .str z => PyData.strOk z
  | _ => false
theorem pdV_dp {K : PySem.W.Frag} {H : Hp} {v : V} (h : plV v = true) : Dp K H v (pdV v) := by
  cases v <;> first | exact .non | exact .bl _ | exact .int _ | exact .str _ | exact nomatch (show false = true from h)
theorem pdV_lay {v : V} (h : plV v = true) (n : Nat) : Lay n (pdV v) := by
  cases v <;> first | exact lay_none n | exact lay_bool n _ | exact lay_int n _ | exact lay_str n _ h | exact nomatch (show false = true from h)
theorem pdV_all {K : PySem.W.Frag} {H : Hp} : ∀ {vs : List V}, vs.all plV = true → DpAll K H vs (vs.map pdV)
  | [], _ => .nil
  | v :: vs, h => by
    rw [List.all_cons, Bool.and_eq_true] at h
    exact .cons (pdV_dp h.1) (pdV_all h.2)
theorem pdV_lays {vs : List V} (h : vs.all plV = true) : ∀ d ∈ vs.map pdV, Lay 0 d := fun d hd => by
  obtain ⟨v, hv, rfl⟩ := List.mem_map.mp hd
  exact pdV_lay (List.all_eq_true.mp h v hv) 0
theorem goalV_pl (g : Option Int) : plV (goalV g) = true := by cases g <;> rfl
section
variable {H : Hp} {Q : VK} {K : PySem.W.Frag} {p q : Addr} {vs : List V}
theorem x_neSame (h1 : SqT K H p vs) (h2 : SqT K H q vs) (hv : vs.all plV = true) (k : Q (.bl false) H) : rNeU K (.ref p) (.ref q) H Q := by
  have l := lay_tup (pdV_lays hv)
  refine x_neDp (.tup h1 (pdV_all hv)) (.tup h2 (pdV_all hv)) l.shaped l.shaped ?_
  rw [PySem.SeqAt.eqv_refl _ l.1]
  exact k
theorem x_neSameL (h1 : SqL K H p vs) (h2 : SqL K H q vs) (hv : vs.all plV = true) (k : Q (.bl false) H) : rNeU K (.ref p) (.ref q) H Q := by
  have l := lay_list (pdV_lays hv)
  refine x_neDp (.lst h1 (pdV_all hv)) (.lst h2 (pdV_all hv)) l.shaped l.shaped ?_
  rw [PySem.SeqAt.eqv_refl _ l.1]
  exact k
end
theorem x_cmeth {σ : L2.St} {H : Hp} {Q : VK} {C : Addr} {sp : Sp} {E : XK} {t : TA} (k : t σ H fun vs H1 => sp (.ref C :: vs) H1 Q E) : ClX.tCMeth C sp E (tC (.ref C)) t σ H Q := ⟨rfl, k⟩
end Ch

set_option Elab.async false
set_option linter.all false
set_option autoImplicit false
set_option maxRecDepth 100000
set_option maxHeartbeats 4000000
namespace ChH
open PySem PySem.Spec PyProof.Rows L2 He
/-! ### the facts of a head: Fa's, further Bools, defs at any address -/
abbrev Fx : Type := PySem.W.Frag → Bool
def obsC (fa : List Fa) (xs : List Fx) (fn : List He5.DefA) (K : PySem.W.Frag) : AlD := ((fa.all fun f => f.ok K) && (xs.all fun x => x K) && fn.all fun d => d.ok K, fn.map fun d => He5.fnA K (d.at_ K))
def SaysC (fa : List Fa) (xs : List Fx) (fn : List He5.DefA) (K : PySem.W.Frag) : Prop := obsC fa xs fn K = He5.valA fn
def obsCG (n : Nat) (fa : List Fa) (xs : List Fx) (fn : List He5.DefA) (g : Addr → Option Obj) : AlD := obsC fa xs fn (frG g (He5.asA g n))
def hookC (n : Nat) (fa : List Fa) (xs : List Fx) (fn : List He5.DefA) : PySem.W.Hook where
  α := AlD
  obs := fun s => obsCG n fa xs fn s.heap.get?
  val := fun _ => He5.valA fn
  says := fun _ h => ∃ K : PySem.W.Frag, K.In h ∧ SaysC fa xs fn K
  of := fun _ _ e => ⟨_, frG_in, e⟩
  keeps := fun _ _ _ ⟨K, hK, c⟩ k => ⟨K, hK.keeps k, c⟩
theorem obsCG_eq {n : Nat} {fa : List Fa} {xs : List Fx} {fn : List He5.DefA} {g : Addr → Option Obj} {s : Shared} (h : ∀ a, g a = s.heap.get? a) : obsCG n fa xs fn g = (hookC n fa xs fn).obs s := by
  rw [show g = s.heap.get? from funext h]
  rfl
def fdOf (K : PySem.W.Frag) (a : Addr) : FuncData := match K.lookup a with
  | some ⟨_, _, .func fd, _⟩ => fd
  | _ => default
section
variable {fa : List Fa} {xs : List Fx} {fn : List He5.DefA} {K : PySem.W.Frag}
theorem says_1 (c : SaysC fa xs fn K) : ((fa.all fun f => f.ok K) && (xs.all fun x => x K) && fn.all fun d => d.ok K) = true := congrArg (fun z : AlD => z.1) c
theorem SaysC.fact (c : SaysC fa xs fn K) (i : Nat) {f : Fa} (h : fa[i]? = some f := by rfl) : f.ok K = true :=
  List.all_eq_true.mp (ba (ba (says_1 c)).1).1 f (List.mem_of_getElem? h)
theorem SaysC.ex (c : SaysC fa xs fn K) (i : Nat) {x : Fx} (h : xs[i]? = some x := by rfl) : x K = true :=
  List.all_eq_true.mp (ba (ba (says_1 c)).1).2 x (List.mem_of_getElem? h)
theorem SaysC.df (c : SaysC fa xs fn K) (i : Nat) {d : He5.DefA} (h : fn[i]? = some d := by rfl) : FunD K d.name d.qual d.params d.body d.scope (d.dvs K) (d.kws K) (d.at_ K) (fdOf K (d.at_ K)) := by
  have e : fn.map (fun d => He5.fnA K (d.at_ K)) = fn.map He5.DefA.val := congrArg (fun z : AlD => z.2) c
  have e2 : (fn.map fun d => He5.fnA K (d.at_ K))[i]? = (fn.map He5.DefA.val)[i]? := by rw [e]
  rw [List.getElem?_map, List.getElem?_map, h] at e2
  obtain ⟨fd, F⟩ := He5.DefA.funD (Option.some.inj e2) (List.all_eq_true.mp (ba (says_1 c)).2 d (List.mem_of_getElem? h))
  have ed : fdOf K (d.at_ K) = fd := by
    obtain ⟨oc, od, dV, kV, doc, pm, an, cdv, ct, osl, e, l, _⟩ := F.ex
    unfold fdOf
    rw [l]
  rw [ed]
  exact F
end
/-! ### a property, a class's constant, a class read -/
def prB (C m : Str) (K : PySem.W.Frag) : Bool := eqO (PySem.W.findIn K (.ref (ga K C)) m) (some (some (.ref (ma K (ga K C) m)))) && (eqO (PySem.W.specialIn K (.ref (ma K (ga K C) m)) "__get__") (some (some (.builtin "property.__get__"))) &&
  (decide (PySem.W.takesIn K (.ref (ma K (ga K C) m)) = some true) && (match PySem.W.recIn K (ma K (ga K C) m) "property" with
    | some (.ref _ :: _) => true
    | _ => false)))
abbrev gp (C m : Str) (K : PySem.W.Frag) : Addr := He5.wf K (ga K C) "property" m
theorem pr_ok {K : PySem.W.Frag} {C m : Str} (h : prB C m K = true) : PropOf K (ga K C) m (ma K (ga K C) m) (gp C m K) := by
  obtain ⟨h1, h⟩ := ba h
  obtain ⟨h2, h⟩ := ba h
  obtain ⟨h3, h4⟩ := ba h
  refine ⟨eqO_ok h1, eqO_ok h2, of_decide_eq_true h3, ?_⟩
  unfold gp He5.wf
  split at h4
  · rename_i f r e
    exact ⟨r, by rw [e]⟩
  · cases h4
def rdB (C : Str) (K : PySem.W.Frag) : Bool := PySem.W.readsIn K (ga K C) (.type "type") && eqO (PySem.W.specialIn K (.ref (ga K C)) "__getattribute__") (some (some (.builtin "type.__getattribute__")))
theorem rd_ok {K : PySem.W.Frag} {C : Str} (h : rdB C K = true) : ClX.CRead K (ga K C) (.type "type") := by
  obtain ⟨h1, h2⟩ := ba h
  exact ⟨h1, eqO_ok h2⟩
def cvB (C f : Str) (v : Dv) (K : PySem.W.Frag) : Bool := match PySem.W.findCls K (.ref (ga K C)) (.type "type") f with
  | some (.val u) => relB (v.v K) u
  | _ => false
theorem cv_ok {K : PySem.W.Frag} {C f : Str} {v : Dv} (h : cvB C f v K = true) : ∃ u, ClX.CVal K (ga K C) (.type "type") f (v.v K) u := by
  unfold cvB at h
  split at h
  · rename_i u e
    exact ⟨u, e, relB_ok h⟩
  · cases h
/-- a def's function object is that of its def (a class's method, by name) -/
def keB (C : Str) (K : PySem.W.Frag) : Bool := PySem.W.keepIn K (.ref (ga K C))
end ChH
/-! ### a classmethod -/
namespace ChH
open PySem PySem.Spec PyProof.Rows L2 He
abbrev gc (C m : Str) (K : PySem.W.Frag) : Addr := He5.wf K (ga K C) "classmethod" m
def cmB (C m : Str) (K : PySem.W.Frag) : Bool := (match PySem.W.findCls K (.ref (ga K C)) (.type "type") m with
  | some (.get (.builtin b) (.ref p) .none (.ref c)) => decide (b = "classmethod.__get__") && (decide (p = ma K (ga K C) m) && decide (c = ga K C))
  | _ => false) && ((match PySem.W.recIn K (ma K (ga K C) m) "classmethod" with
    | some (.ref _ :: _) => true
    | _ => false) && PySem.W.fnIn K (gc C m K))
theorem cm_ok {K : PySem.W.Frag} {C m : Str} (h : cmB C m K = true) : ClX.CMet K (ga K C) (.type "type") m (ma K (ga K C) m) (gc C m K) := by
  obtain ⟨h1, h⟩ := ba h
  obtain ⟨h2, h3⟩ := ba h
  refine ⟨?_, ?_, h3⟩
  · split at h1
    · rename_i b p c e
      obtain ⟨a1, h1⟩ := ba h1
      obtain ⟨a2, a3⟩ := ba h1
      rw [e, of_decide_eq_true a1, of_decide_eq_true a2, of_decide_eq_true a3]
    · cases h1
  · unfold gc He5.wf
    split at h2
    · rename_i f r e
      exact ⟨r, by rw [e]⟩
    · cases h2
end ChH

set_option Elab.async false
set_option linter.all false
set_option autoImplicit false
set_option maxRecDepth 100000
set_option pp.maxSteps 1500
set_option maxHeartbeats 4000000
namespace K14
open PySem PySem.Spec PyProof.Rows L2 He ChH
/-! ### the text by places -/
def top (i : Nat) : Stmt := PySem.Challenge.pw_chaircarry_k14_known_houses.main.body.getD i (.Pass ⟨0, 0, 0, 0⟩)
abbrev s_is_number : Stmt := top 10
abbrev s_is_step : Stmt := top 11
abbrev s_Plan_init : Stmt := inClass (top 12) 2
abbrev s_Plan_alternating : Stmt := inClass (top 12) 3
abbrev s_Plan_steps : Stmt := inClass (top 12) 4
abbrev s_Plan_is_turning : Stmt := inClass (top 12) 5
abbrev s_Plan_joined : Stmt := inClass (top 12) 6
abbrev s_sides_of : Stmt := top 13
abbrev s_validate_house : Stmt := top 14
abbrev s_validate_number : Stmt := top 15
abbrev s_Effect_init : Stmt := inClass (top 18) 0
abbrev s_Effect_at_least : Stmt := inClass (top 18) 1
abbrev s_Effect_at_most : Stmt := inClass (top 18) 2
abbrev s_Effect_mirrored : Stmt := inClass (top 18) 3
abbrev s_Effect_followed : Stmt := inClass (top 18) 4
abbrev s_Effect_carried : Stmt := inClass (top 18) 5
abbrev s_Effect_place : Stmt := inClass (top 18) 6
abbrev s_Effect_end : Stmt := inClass (top 18) 7
abbrev s_nothing : Stmt := top 19
abbrev s_effect_of : Stmt := top 20
abbrev s_power : Stmt := top 21
abbrev s_validate_start : Stmt := top 22
abbrev s_total_carried : Stmt := top 23
abbrev s_red_chairs : Stmt := top 24
abbrev s_summary : Stmt := top 25
abbrev s_first_difference : Stmt := top 26
abbrev s_moved : Stmt := top 27
abbrev s_needs_of : Stmt := top 31
abbrev s_carried_in_two_rounds : Stmt := top 32
abbrev s_halves : Stmt := top 33
abbrev s_long_run : Stmt := top 34
abbrev s_saving : Stmt := top 35
abbrev s_fewest_chairs : Stmt := top 36
abbrev s_sparing_chairs : Stmt := top 37
abbrev s_best_chairs : Stmt := top 38
abbrev s_find_evidence : Stmt := top 40
abbrev s_judge_evidence : Stmt := top 41
abbrev s_longest_way : Stmt := top 43
abbrev s_places_of : Stmt := top 44
abbrev s_shortened : Stmt := top 45
abbrev s_is_possible : Stmt := top 46
abbrev s_way_of : Stmt := top 47
abbrev s_step_to : Stmt := top 48
abbrev s_simple_steps : Stmt := top 49
abbrev s_simple_plan : Stmt := top 50
abbrev s__law_start : Stmt := top 52
abbrev s__law_drawn : Stmt := top 53
abbrev s__law_two_meetings : Stmt := top 55
abbrev s__law_all_chairs : Stmt := top 56
abbrev s__law_turning : Stmt := top 57
abbrev s_law : Stmt := top 58
/-! ### what the head tells -/
def faL : List Fa := [.glo "InvalidPlan", .glo "TooFewChairs", .glo "InvalidNumber", .glo "InvalidEvidence", .str "RED" "red", .str "BLUE" "blue", .str "TURN" "turn", .glo "is_number", .glo "is_step", .glo "Plan", .glo "sides_of", .glo "validate_house", .glo "validate_number", .int "MAX_ROUNDS_effects" 1000000000000000000, .glo "Effect", .glo "nothing", .glo "effect_of", .glo "power", .glo "validate_start", .glo "total_carried", .glo "red_chairs", .glo "summary", .glo "first_difference", .glo "moved", .int "MAX_PRICE" 1000000000, .int "MAX_ROUNDS_chairs" 1000000000, .glo "needs_of", .glo "carried_in_two_rounds", .glo "halves", .glo "long_run", .glo "saving", .glo "fewest_chairs", .glo "sparing_chairs", .glo "best_chairs", .glo "find_evidence", .glo "judge_evidence", .glo "longest_way", .glo "places_of", .glo "shortened", .glo "is_possible", .glo "way_of", .glo "step_to", .glo "simple_steps", .glo "simple_plan", .glo "_law_start", .glo "_law_drawn", .glo "_law_two_meetings", .glo "_law_all_chairs", .glo "_law_turning", .glo "law", .free "abs", .free "bool", .free "classmethod", .free "enumerate", .free "int", .free "isinstance", .free "len", .free "list", .free "max", .free "min", .free "property", .free "range", .free "sorted", .cls "Plan", .noat "Plan" "parts", .mkr "Plan", .meth "Plan" "joined", .cls "Effect", .noat "Effect" "chairs", .noat "Effect" "low", .noat "Effect" "high", .noat "Effect" "extra", .noat "Effect" "goal", .noat "Effect" "turned", .mkr "Effect", .meth "Effect" "at_least", .meth "Effect" "at_most", .meth "Effect" "mirrored", .meth "Effect" "followed", .meth "Effect" "carried", .meth "Effect" "place", .meth "Effect" "end"]
def xsL : List ChH.Fx := [prB "Plan" "steps", prB "Plan" "is_turning", cmB "Plan" "alternating", rdB "Plan", cvB "Plan" "MAX_STEPS" (.int 60), cvB "Plan" "MAX_CHAIRS" (.int 1000000000000000000)]
def d_is_number : He5.DefA := ⟨fun K => ga K "is_number", "is_number", "is_number", defArgs s_is_number, defBody s_is_number, defScope s_is_number, [], []⟩
def d_is_step : He5.DefA := ⟨fun K => ga K "is_step", "is_step", "is_step", defArgs s_is_step, defBody s_is_step, defScope s_is_step, [], []⟩
def d_Plan_init : He5.DefA := ⟨fun K => ma K (ga K "Plan") "__init__", "__init__", "Plan.__init__", defArgs s_Plan_init, defBody s_Plan_init, defScope s_Plan_init, [], []⟩
def d_Plan_alternating : He5.DefA := ⟨fun K => gc "Plan" "alternating" K, "alternating", "Plan.alternating", defArgs s_Plan_alternating, defBody s_Plan_alternating, defScope s_Plan_alternating, [], []⟩
def d_Plan_steps : He5.DefA := ⟨fun K => gp "Plan" "steps" K, "steps", "Plan.steps", defArgs s_Plan_steps, defBody s_Plan_steps, defScope s_Plan_steps, [], []⟩
def d_Plan_is_turning : He5.DefA := ⟨fun K => gp "Plan" "is_turning" K, "is_turning", "Plan.is_turning", defArgs s_Plan_is_turning, defBody s_Plan_is_turning, defScope s_Plan_is_turning, [], []⟩
def d_Plan_joined : He5.DefA := ⟨fun K => ma K (ga K "Plan") "joined", "joined", "Plan.joined", defArgs s_Plan_joined, defBody s_Plan_joined, defScope s_Plan_joined, [], []⟩
def d_sides_of : He5.DefA := ⟨fun K => ga K "sides_of", "sides_of", "sides_of", defArgs s_sides_of, defBody s_sides_of, defScope s_sides_of, [], []⟩
def d_validate_house : He5.DefA := ⟨fun K => ga K "validate_house", "validate_house", "validate_house", defArgs s_validate_house, defBody s_validate_house, defScope s_validate_house, [], []⟩
def d_validate_number : He5.DefA := ⟨fun K => ga K "validate_number", "validate_number", "validate_number", defArgs s_validate_number, defBody s_validate_number, defScope s_validate_number, [], []⟩
def d_Effect_init : He5.DefA := ⟨fun K => ma K (ga K "Effect") "__init__", "__init__", "Effect.__init__", defArgs s_Effect_init, defBody s_Effect_init, defScope s_Effect_init, [], []⟩
def d_Effect_at_least : He5.DefA := ⟨fun K => ma K (ga K "Effect") "at_least", "at_least", "Effect.at_least", defArgs s_Effect_at_least, defBody s_Effect_at_least, defScope s_Effect_at_least, [], []⟩
def d_Effect_at_most : He5.DefA := ⟨fun K => ma K (ga K "Effect") "at_most", "at_most", "Effect.at_most", defArgs s_Effect_at_most, defBody s_Effect_at_most, defScope s_Effect_at_most, [], []⟩
def d_Effect_mirrored : He5.DefA := ⟨fun K => ma K (ga K "Effect") "mirrored", "mirrored", "Effect.mirrored", defArgs s_Effect_mirrored, defBody s_Effect_mirrored, defScope s_Effect_mirrored, [], []⟩
def d_Effect_followed : He5.DefA := ⟨fun K => ma K (ga K "Effect") "followed", "followed", "Effect.followed", defArgs s_Effect_followed, defBody s_Effect_followed, defScope s_Effect_followed, [], []⟩
def d_Effect_carried : He5.DefA := ⟨fun K => ma K (ga K "Effect") "carried", "carried", "Effect.carried", defArgs s_Effect_carried, defBody s_Effect_carried, defScope s_Effect_carried, [], []⟩
def d_Effect_place : He5.DefA := ⟨fun K => ma K (ga K "Effect") "place", "place", "Effect.place", defArgs s_Effect_place, defBody s_Effect_place, defScope s_Effect_place, [], []⟩
def d_Effect_end : He5.DefA := ⟨fun K => ma K (ga K "Effect") "end", "end", "Effect.end", defArgs s_Effect_end, defBody s_Effect_end, defScope s_Effect_end, [], []⟩
def d_nothing : He5.DefA := ⟨fun K => ga K "nothing", "nothing", "nothing", defArgs s_nothing, defBody s_nothing, defScope s_nothing, [], []⟩
def d_effect_of : He5.DefA := ⟨fun K => ga K "effect_of", "effect_of", "effect_of", defArgs s_effect_of, defBody s_effect_of, defScope s_effect_of, [], []⟩
def d_power : He5.DefA := ⟨fun K => ga K "power", "power", "power", defArgs s_power, defBody s_power, defScope s_power, [], []⟩
def d_validate_start : He5.DefA := ⟨fun K => ga K "validate_start", "validate_start", "validate_start", defArgs s_validate_start, defBody s_validate_start, defScope s_validate_start, [], []⟩
def d_total_carried : He5.DefA := ⟨fun K => ga K "total_carried", "total_carried", "total_carried", defArgs s_total_carried, defBody s_total_carried, defScope s_total_carried, [], []⟩
def d_red_chairs : He5.DefA := ⟨fun K => ga K "red_chairs", "red_chairs", "red_chairs", defArgs s_red_chairs, defBody s_red_chairs, defScope s_red_chairs, [], []⟩
def d_summary : He5.DefA := ⟨fun K => ga K "summary", "summary", "summary", defArgs s_summary, defBody s_summary, defScope s_summary, [], []⟩
def d_first_difference : He5.DefA := ⟨fun K => ga K "first_difference", "first_difference", "first_difference", defArgs s_first_difference, defBody s_first_difference, defScope s_first_difference, [], []⟩
def d_moved : He5.DefA := ⟨fun K => ga K "moved", "moved", "moved", defArgs s_moved, defBody s_moved, defScope s_moved, [], []⟩
def d_needs_of : He5.DefA := ⟨fun K => ga K "needs_of", "needs_of", "needs_of", defArgs s_needs_of, defBody s_needs_of, defScope s_needs_of, [], []⟩
def d_carried_in_two_rounds : He5.DefA := ⟨fun K => ga K "carried_in_two_rounds", "carried_in_two_rounds", "carried_in_two_rounds", defArgs s_carried_in_two_rounds, defBody s_carried_in_two_rounds, defScope s_carried_in_two_rounds, [], []⟩
def d_halves : He5.DefA := ⟨fun K => ga K "halves", "halves", "halves", defArgs s_halves, defBody s_halves, defScope s_halves, [], []⟩
def d_long_run : He5.DefA := ⟨fun K => ga K "long_run", "long_run", "long_run", defArgs s_long_run, defBody s_long_run, defScope s_long_run, [], []⟩
def d_saving : He5.DefA := ⟨fun K => ga K "saving", "saving", "saving", defArgs s_saving, defBody s_saving, defScope s_saving, [], []⟩
def d_fewest_chairs : He5.DefA := ⟨fun K => ga K "fewest_chairs", "fewest_chairs", "fewest_chairs", defArgs s_fewest_chairs, defBody s_fewest_chairs, defScope s_fewest_chairs, [], []⟩
def d_sparing_chairs : He5.DefA := ⟨fun K => ga K "sparing_chairs", "sparing_chairs", "sparing_chairs", defArgs s_sparing_chairs, defBody s_sparing_chairs, defScope s_sparing_chairs, [], []⟩
def d_best_chairs : He5.DefA := ⟨fun K => ga K "best_chairs", "best_chairs", "best_chairs", defArgs s_best_chairs, defBody s_best_chairs, defScope s_best_chairs, [], []⟩
def d_find_evidence : He5.DefA := ⟨fun K => ga K "find_evidence", "find_evidence", "find_evidence", defArgs s_find_evidence, defBody s_find_evidence, defScope s_find_evidence, [], []⟩
def d_judge_evidence : He5.DefA := ⟨fun K => ga K "judge_evidence", "judge_evidence", "judge_evidence", defArgs s_judge_evidence, defBody s_judge_evidence, defScope s_judge_evidence, [], []⟩
def d_longest_way : He5.DefA := ⟨fun K => ga K "longest_way", "longest_way", "longest_way", defArgs s_longest_way, defBody s_longest_way, defScope s_longest_way, [], []⟩
def d_places_of : He5.DefA := ⟨fun K => ga K "places_of", "places_of", "places_of", defArgs s_places_of, defBody s_places_of, defScope s_places_of, [], []⟩
def d_shortened : He5.DefA := ⟨fun K => ga K "shortened", "shortened", "shortened", defArgs s_shortened, defBody s_shortened, defScope s_shortened, [], []⟩
def d_is_possible : He5.DefA := ⟨fun K => ga K "is_possible", "is_possible", "is_possible", defArgs s_is_possible, defBody s_is_possible, defScope s_is_possible, [], []⟩
def d_way_of : He5.DefA := ⟨fun K => ga K "way_of", "way_of", "way_of", defArgs s_way_of, defBody s_way_of, defScope s_way_of, [], []⟩
def d_step_to : He5.DefA := ⟨fun K => ga K "step_to", "step_to", "step_to", defArgs s_step_to, defBody s_step_to, defScope s_step_to, [], []⟩
def d_simple_steps : He5.DefA := ⟨fun K => ga K "simple_steps", "simple_steps", "simple_steps", defArgs s_simple_steps, defBody s_simple_steps, defScope s_simple_steps, [], []⟩
def d_simple_plan : He5.DefA := ⟨fun K => ga K "simple_plan", "simple_plan", "simple_plan", defArgs s_simple_plan, defBody s_simple_plan, defScope s_simple_plan, [], []⟩
def d__law_start : He5.DefA := ⟨fun K => ga K "_law_start", "_law_start", "_law_start", defArgs s__law_start, defBody s__law_start, defScope s__law_start, [], []⟩
def d__law_drawn : He5.DefA := ⟨fun K => ga K "_law_drawn", "_law_drawn", "_law_drawn", defArgs s__law_drawn, defBody s__law_drawn, defScope s__law_drawn, [], []⟩
def d__law_two_meetings : He5.DefA := ⟨fun K => ga K "_law_two_meetings", "_law_two_meetings", "_law_two_meetings", defArgs s__law_two_meetings, defBody s__law_two_meetings, defScope s__law_two_meetings, [], []⟩
def d__law_all_chairs : He5.DefA := ⟨fun K => ga K "_law_all_chairs", "_law_all_chairs", "_law_all_chairs", defArgs s__law_all_chairs, defBody s__law_all_chairs, defScope s__law_all_chairs, [], []⟩
def d__law_turning : He5.DefA := ⟨fun K => ga K "_law_turning", "_law_turning", "_law_turning", defArgs s__law_turning, defBody s__law_turning, defScope s__law_turning, [], []⟩
def d_law : He5.DefA := ⟨fun K => ga K "law", "law", "law", defArgs s_law, defBody s_law, defScope s_law, [], []⟩
def dfL : List He5.DefA := [d_is_number, d_is_step, d_Plan_init, d_Plan_alternating, d_Plan_steps, d_Plan_is_turning, d_Plan_joined, d_sides_of, d_validate_house, d_validate_number, d_Effect_init, d_Effect_at_least, d_Effect_at_most, d_Effect_mirrored, d_Effect_followed, d_Effect_carried, d_Effect_place, d_Effect_end, d_nothing, d_effect_of, d_power, d_validate_start, d_total_carried, d_red_chairs, d_summary, d_first_difference, d_moved, d_needs_of, d_carried_in_two_rounds, d_halves, d_long_run, d_saving, d_fewest_chairs, d_sparing_chairs, d_best_chairs, d_find_evidence, d_judge_evidence, d_longest_way, d_places_of, d_shortened, d_is_possible, d_way_of, d_step_to, d_simple_steps, d_simple_plan, d__law_start, d__law_drawn, d__law_two_meetings, d__law_all_chairs, d__law_turning, d_law]
structure Wd (K : PySem.W.Frag) (mg : Str → Option Value) : Prop where
  kin : ∃ h : Heap, K.In h ∧ h.Ns mainGlobals mg
  s : ChH.SaysC faL xsL dfL K
section
variable {K : PySem.W.Frag} {mg : Str → Option Value}
theorem Wd.glo (W : Wd K mg) {x : Str} (c : (Fa.glo x).ok K = true) : mg x = some (.ref (ga K x)) := let ⟨_, X, G⟩ := W.kin; He.glo_ok X G c
theorem Wd.free (W : Wd K mg) {x : Str} (c : (Fa.free x).ok K = true) : mg x = none := let ⟨_, X, G⟩ := W.kin; He.free_ok X G c
theorem Wd.str (W : Wd K mg) {x z : Str} (c : (Fa.str x z).ok K = true) : ∃ t, mg x = some (.str z t) := let ⟨_, X, G⟩ := W.kin; He.str_ok X G c
theorem Wd.int (W : Wd K mg) {x : Str} {z : Int} (c : (Fa.int x z).ok K = true) : ∃ t, mg x = some (.int z t) := let ⟨_, X, G⟩ := W.kin; He.int_ok X G c
theorem Wd.g_InvalidPlan (W : Wd K mg) : mg "InvalidPlan" = some (.ref (ga K "InvalidPlan")) := W.glo (W.s.fact 0)
theorem Wd.g_TooFewChairs (W : Wd K mg) : mg "TooFewChairs" = some (.ref (ga K "TooFewChairs")) := W.glo (W.s.fact 1)
theorem Wd.g_InvalidNumber (W : Wd K mg) : mg "InvalidNumber" = some (.ref (ga K "InvalidNumber")) := W.glo (W.s.fact 2)
theorem Wd.g_InvalidEvidence (W : Wd K mg) : mg "InvalidEvidence" = some (.ref (ga K "InvalidEvidence")) := W.glo (W.s.fact 3)
theorem Wd.t_RED (W : Wd K mg) : ∃ t, mg "RED" = some (.str "red" t) := W.str (W.s.fact 4)
theorem Wd.t_BLUE (W : Wd K mg) : ∃ t, mg "BLUE" = some (.str "blue" t) := W.str (W.s.fact 5)
theorem Wd.t_TURN (W : Wd K mg) : ∃ t, mg "TURN" = some (.str "turn" t) := W.str (W.s.fact 6)
theorem Wd.g_is_number (W : Wd K mg) : mg "is_number" = some (.ref (ga K "is_number")) := W.glo (W.s.fact 7)
theorem Wd.g_is_step (W : Wd K mg) : mg "is_step" = some (.ref (ga K "is_step")) := W.glo (W.s.fact 8)
theorem Wd.g_Plan (W : Wd K mg) : mg "Plan" = some (.ref (ga K "Plan")) := W.glo (W.s.fact 9)
theorem Wd.g_sides_of (W : Wd K mg) : mg "sides_of" = some (.ref (ga K "sides_of")) := W.glo (W.s.fact 10)
theorem Wd.g_validate_house (W : Wd K mg) : mg "validate_house" = some (.ref (ga K "validate_house")) := W.glo (W.s.fact 11)
theorem Wd.g_validate_number (W : Wd K mg) : mg "validate_number" = some (.ref (ga K "validate_number")) := W.glo (W.s.fact 12)
theorem Wd.i_MAX_ROUNDS_effects (W : Wd K mg) : ∃ t, mg "MAX_ROUNDS_effects" = some (.int 1000000000000000000 t) := W.int (W.s.fact 13)
theorem Wd.g_Effect (W : Wd K mg) : mg "Effect" = some (.ref (ga K "Effect")) := W.glo (W.s.fact 14)
theorem Wd.g_nothing (W : Wd K mg) : mg "nothing" = some (.ref (ga K "nothing")) := W.glo (W.s.fact 15)
theorem Wd.g_effect_of (W : Wd K mg) : mg "effect_of" = some (.ref (ga K "effect_of")) := W.glo (W.s.fact 16)
theorem Wd.g_power (W : Wd K mg) : mg "power" = some (.ref (ga K "power")) := W.glo (W.s.fact 17)
theorem Wd.g_validate_start (W : Wd K mg) : mg "validate_start" = some (.ref (ga K "validate_start")) := W.glo (W.s.fact 18)
theorem Wd.g_total_carried (W : Wd K mg) : mg "total_carried" = some (.ref (ga K "total_carried")) := W.glo (W.s.fact 19)
theorem Wd.g_red_chairs (W : Wd K mg) : mg "red_chairs" = some (.ref (ga K "red_chairs")) := W.glo (W.s.fact 20)
theorem Wd.g_summary (W : Wd K mg) : mg "summary" = some (.ref (ga K "summary")) := W.glo (W.s.fact 21)
theorem Wd.g_first_difference (W : Wd K mg) : mg "first_difference" = some (.ref (ga K "first_difference")) := W.glo (W.s.fact 22)
theorem Wd.g_moved (W : Wd K mg) : mg "moved" = some (.ref (ga K "moved")) := W.glo (W.s.fact 23)
theorem Wd.i_MAX_PRICE (W : Wd K mg) : ∃ t, mg "MAX_PRICE" = some (.int 1000000000 t) := W.int (W.s.fact 24)
theorem Wd.i_MAX_ROUNDS_chairs (W : Wd K mg) : ∃ t, mg "MAX_ROUNDS_chairs" = some (.int 1000000000 t) := W.int (W.s.fact 25)
theorem Wd.g_needs_of (W : Wd K mg) : mg "needs_of" = some (.ref (ga K "needs_of")) := W.glo (W.s.fact 26)
theorem Wd.g_carried_in_two_rounds (W : Wd K mg) : mg "carried_in_two_rounds" = some (.ref (ga K "carried_in_two_rounds")) := W.glo (W.s.fact 27)
theorem Wd.g_halves (W : Wd K mg) : mg "halves" = some (.ref (ga K "halves")) := W.glo (W.s.fact 28)
theorem Wd.g_long_run (W : Wd K mg) : mg "long_run" = some (.ref (ga K "long_run")) := W.glo (W.s.fact 29)
theorem Wd.g_saving (W : Wd K mg) : mg "saving" = some (.ref (ga K "saving")) := W.glo (W.s.fact 30)
theorem Wd.g_fewest_chairs (W : Wd K mg) : mg "fewest_chairs" = some (.ref (ga K "fewest_chairs")) := W.glo (W.s.fact 31)
theorem Wd.g_sparing_chairs (W : Wd K mg) : mg "sparing_chairs" = some (.ref (ga K "sparing_chairs")) := W.glo (W.s.fact 32)
theorem Wd.g_best_chairs (W : Wd K mg) : mg "best_chairs" = some (.ref (ga K "best_chairs")) := W.glo (W.s.fact 33)
theorem Wd.g_find_evidence (W : Wd K mg) : mg "find_evidence" = some (.ref (ga K "find_evidence")) := W.glo (W.s.fact 34)
theorem Wd.g_judge_evidence (W : Wd K mg) : mg "judge_evidence" = some (.ref (ga K "judge_evidence")) := W.glo (W.s.fact 35)
theorem Wd.g_longest_way (W : Wd K mg) : mg "longest_way" = some (.ref (ga K "longest_way")) := W.glo (W.s.fact 36)
theorem Wd.g_places_of (W : Wd K mg) : mg "places_of" = some (.ref (ga K "places_of")) := W.glo (W.s.fact 37)
theorem Wd.g_shortened (W : Wd K mg) : mg "shortened" = some (.ref (ga K "shortened")) := W.glo (W.s.fact 38)
theorem Wd.g_is_possible (W : Wd K mg) : mg "is_possible" = some (.ref (ga K "is_possible")) := W.glo (W.s.fact 39)
theorem Wd.g_way_of (W : Wd K mg) : mg "way_of" = some (.ref (ga K "way_of")) := W.glo (W.s.fact 40)
theorem Wd.g_step_to (W : Wd K mg) : mg "step_to" = some (.ref (ga K "step_to")) := W.glo (W.s.fact 41)
theorem Wd.g_simple_steps (W : Wd K mg) : mg "simple_steps" = some (.ref (ga K "simple_steps")) := W.glo (W.s.fact 42)
theorem Wd.g_simple_plan (W : Wd K mg) : mg "simple_plan" = some (.ref (ga K "simple_plan")) := W.glo (W.s.fact 43)
theorem Wd.g__law_start (W : Wd K mg) : mg "_law_start" = some (.ref (ga K "_law_start")) := W.glo (W.s.fact 44)
theorem Wd.g__law_drawn (W : Wd K mg) : mg "_law_drawn" = some (.ref (ga K "_law_drawn")) := W.glo (W.s.fact 45)
theorem Wd.g__law_two_meetings (W : Wd K mg) : mg "_law_two_meetings" = some (.ref (ga K "_law_two_meetings")) := W.glo (W.s.fact 46)
theorem Wd.g__law_all_chairs (W : Wd K mg) : mg "_law_all_chairs" = some (.ref (ga K "_law_all_chairs")) := W.glo (W.s.fact 47)
theorem Wd.g__law_turning (W : Wd K mg) : mg "_law_turning" = some (.ref (ga K "_law_turning")) := W.glo (W.s.fact 48)
theorem Wd.g_law (W : Wd K mg) : mg "law" = some (.ref (ga K "law")) := W.glo (W.s.fact 49)
theorem Wd.f_abs (W : Wd K mg) : mg "abs" = none := W.free (W.s.fact 50)
theorem Wd.f_bool (W : Wd K mg) : mg "bool" = none := W.free (W.s.fact 51)
theorem Wd.f_classmethod (W : Wd K mg) : mg "classmethod" = none := W.free (W.s.fact 52)
theorem Wd.f_enumerate (W : Wd K mg) : mg "enumerate" = none := W.free (W.s.fact 53)
theorem Wd.f_int (W : Wd K mg) : mg "int" = none := W.free (W.s.fact 54)
theorem Wd.f_isinstance (W : Wd K mg) : mg "isinstance" = none := W.free (W.s.fact 55)
theorem Wd.f_len (W : Wd K mg) : mg "len" = none := W.free (W.s.fact 56)
theorem Wd.f_list (W : Wd K mg) : mg "list" = none := W.free (W.s.fact 57)
theorem Wd.f_max (W : Wd K mg) : mg "max" = none := W.free (W.s.fact 58)
theorem Wd.f_min (W : Wd K mg) : mg "min" = none := W.free (W.s.fact 59)
theorem Wd.f_property (W : Wd K mg) : mg "property" = none := W.free (W.s.fact 60)
theorem Wd.f_range (W : Wd K mg) : mg "range" = none := W.free (W.s.fact 61)
theorem Wd.f_sorted (W : Wd K mg) : mg "sorted" = none := W.free (W.s.fact 62)
theorem Wd.c_Plan (W : Wd K mg) : Cls K (ga K "Plan") := He.cls_ok (W.s.fact 63)
theorem Wd.n_Plan_parts (W : Wd K mg) : NoAttr K (ga K "Plan") "parts" := He.noat_ok (W.s.fact 64)
theorem Wd.mk_Plan (W : Wd K mg) : Mk K (ga K "Plan") (ma K (ga K "Plan") "__init__") := He.mkr_ok (W.s.fact 65)
theorem Wd.m_Plan_joined (W : Wd K mg) : Meth K (ga K "Plan") "joined" (ma K (ga K "Plan") "joined") := He.meth_ok (W.s.fact 66)
theorem Wd.p_Plan_steps (W : Wd K mg) : PropOf K (ga K "Plan") "steps" (ma K (ga K "Plan") "steps") (gp "Plan" "steps" K) := pr_ok (W.s.ex 0)
theorem Wd.p_Plan_is_turning (W : Wd K mg) : PropOf K (ga K "Plan") "is_turning" (ma K (ga K "Plan") "is_turning") (gp "Plan" "is_turning" K) := pr_ok (W.s.ex 1)
theorem Wd.cm_Plan_alternating (W : Wd K mg) : ClX.CMet K (ga K "Plan") (.type "type") "alternating" (ma K (ga K "Plan") "alternating") (gc "Plan" "alternating" K) := cm_ok (W.s.ex 2)
theorem Wd.r_Plan (W : Wd K mg) : ClX.CRead K (ga K "Plan") (.type "type") := rd_ok (W.s.ex 3)
theorem Wd.v_Plan_MAX_STEPS (W : Wd K mg) : ∃ u, ClX.CVal K (ga K "Plan") (.type "type") "MAX_STEPS" (.int 60) u := cv_ok (W.s.ex 4)
theorem Wd.v_Plan_MAX_CHAIRS (W : Wd K mg) : ∃ u, ClX.CVal K (ga K "Plan") (.type "type") "MAX_CHAIRS" (.int 1000000000000000000) u := cv_ok (W.s.ex 5)
theorem Wd.c_Effect (W : Wd K mg) : Cls K (ga K "Effect") := He.cls_ok (W.s.fact 67)
theorem Wd.n_Effect_chairs (W : Wd K mg) : NoAttr K (ga K "Effect") "chairs" := He.noat_ok (W.s.fact 68)
theorem Wd.n_Effect_low (W : Wd K mg) : NoAttr K (ga K "Effect") "low" := He.noat_ok (W.s.fact 69)
theorem Wd.n_Effect_high (W : Wd K mg) : NoAttr K (ga K "Effect") "high" := He.noat_ok (W.s.fact 70)
theorem Wd.n_Effect_extra (W : Wd K mg) : NoAttr K (ga K "Effect") "extra" := He.noat_ok (W.s.fact 71)
theorem Wd.n_Effect_goal (W : Wd K mg) : NoAttr K (ga K "Effect") "goal" := He.noat_ok (W.s.fact 72)
theorem Wd.n_Effect_turned (W : Wd K mg) : NoAttr K (ga K "Effect") "turned" := He.noat_ok (W.s.fact 73)
theorem Wd.mk_Effect (W : Wd K mg) : Mk K (ga K "Effect") (ma K (ga K "Effect") "__init__") := He.mkr_ok (W.s.fact 74)
theorem Wd.m_Effect_at_least (W : Wd K mg) : Meth K (ga K "Effect") "at_least" (ma K (ga K "Effect") "at_least") := He.meth_ok (W.s.fact 75)
theorem Wd.m_Effect_at_most (W : Wd K mg) : Meth K (ga K "Effect") "at_most" (ma K (ga K "Effect") "at_most") := He.meth_ok (W.s.fact 76)
theorem Wd.m_Effect_mirrored (W : Wd K mg) : Meth K (ga K "Effect") "mirrored" (ma K (ga K "Effect") "mirrored") := He.meth_ok (W.s.fact 77)
theorem Wd.m_Effect_followed (W : Wd K mg) : Meth K (ga K "Effect") "followed" (ma K (ga K "Effect") "followed") := He.meth_ok (W.s.fact 78)
theorem Wd.m_Effect_carried (W : Wd K mg) : Meth K (ga K "Effect") "carried" (ma K (ga K "Effect") "carried") := He.meth_ok (W.s.fact 79)
theorem Wd.m_Effect_place (W : Wd K mg) : Meth K (ga K "Effect") "place" (ma K (ga K "Effect") "place") := He.meth_ok (W.s.fact 80)
theorem Wd.m_Effect_end (W : Wd K mg) : Meth K (ga K "Effect") "end" (ma K (ga K "Effect") "end") := He.meth_ok (W.s.fact 81)
theorem Wd.F_is_number (W : Wd K mg) : FunD K "is_number" "is_number" (defArgs s_is_number) (defBody s_is_number) (defScope s_is_number) [] [] (ga K "is_number") (ChH.fdOf K (ga K "is_number")) := W.s.df 0 (d := d_is_number)
theorem Wd.k_is_number (W : Wd K mg) : PySem.W.keepIn K (.ref (ga K "is_number")) = true := W.F_is_number.kp
theorem Wd.F_is_step (W : Wd K mg) : FunD K "is_step" "is_step" (defArgs s_is_step) (defBody s_is_step) (defScope s_is_step) [] [] (ga K "is_step") (ChH.fdOf K (ga K "is_step")) := W.s.df 1 (d := d_is_step)
theorem Wd.k_is_step (W : Wd K mg) : PySem.W.keepIn K (.ref (ga K "is_step")) = true := W.F_is_step.kp
theorem Wd.F_Plan_init (W : Wd K mg) : FunD K "__init__" "Plan.__init__" (defArgs s_Plan_init) (defBody s_Plan_init) (defScope s_Plan_init) [] [] (ma K (ga K "Plan") "__init__") (ChH.fdOf K (ma K (ga K "Plan") "__init__")) := W.s.df 2 (d := d_Plan_init)
theorem Wd.F_Plan_alternating (W : Wd K mg) : FunD K "alternating" "Plan.alternating" (defArgs s_Plan_alternating) (defBody s_Plan_alternating) (defScope s_Plan_alternating) [] [] (gc "Plan" "alternating" K) (ChH.fdOf K (gc "Plan" "alternating" K)) := W.s.df 3 (d := d_Plan_alternating)
theorem Wd.F_Plan_steps (W : Wd K mg) : FunD K "steps" "Plan.steps" (defArgs s_Plan_steps) (defBody s_Plan_steps) (defScope s_Plan_steps) [] [] (gp "Plan" "steps" K) (ChH.fdOf K (gp "Plan" "steps" K)) := W.s.df 4 (d := d_Plan_steps)
theorem Wd.F_Plan_is_turning (W : Wd K mg) : FunD K "is_turning" "Plan.is_turning" (defArgs s_Plan_is_turning) (defBody s_Plan_is_turning) (defScope s_Plan_is_turning) [] [] (gp "Plan" "is_turning" K) (ChH.fdOf K (gp "Plan" "is_turning" K)) := W.s.df 5 (d := d_Plan_is_turning)
theorem Wd.F_Plan_joined (W : Wd K mg) : FunD K "joined" "Plan.joined" (defArgs s_Plan_joined) (defBody s_Plan_joined) (defScope s_Plan_joined) [] [] (ma K (ga K "Plan") "joined") (ChH.fdOf K (ma K (ga K "Plan") "joined")) := W.s.df 6 (d := d_Plan_joined)
theorem Wd.F_sides_of (W : Wd K mg) : FunD K "sides_of" "sides_of" (defArgs s_sides_of) (defBody s_sides_of) (defScope s_sides_of) [] [] (ga K "sides_of") (ChH.fdOf K (ga K "sides_of")) := W.s.df 7 (d := d_sides_of)
theorem Wd.k_sides_of (W : Wd K mg) : PySem.W.keepIn K (.ref (ga K "sides_of")) = true := W.F_sides_of.kp
theorem Wd.F_validate_house (W : Wd K mg) : FunD K "validate_house" "validate_house" (defArgs s_validate_house) (defBody s_validate_house) (defScope s_validate_house) [] [] (ga K "validate_house") (ChH.fdOf K (ga K "validate_house")) := W.s.df 8 (d := d_validate_house)
theorem Wd.k_validate_house (W : Wd K mg) : PySem.W.keepIn K (.ref (ga K "validate_house")) = true := W.F_validate_house.kp
theorem Wd.F_validate_number (W : Wd K mg) : FunD K "validate_number" "validate_number" (defArgs s_validate_number) (defBody s_validate_number) (defScope s_validate_number) [] [] (ga K "validate_number") (ChH.fdOf K (ga K "validate_number")) := W.s.df 9 (d := d_validate_number)
theorem Wd.k_validate_number (W : Wd K mg) : PySem.W.keepIn K (.ref (ga K "validate_number")) = true := W.F_validate_number.kp
theorem Wd.F_Effect_init (W : Wd K mg) : FunD K "__init__" "Effect.__init__" (defArgs s_Effect_init) (defBody s_Effect_init) (defScope s_Effect_init) [] [] (ma K (ga K "Effect") "__init__") (ChH.fdOf K (ma K (ga K "Effect") "__init__")) := W.s.df 10 (d := d_Effect_init)
theorem Wd.F_Effect_at_least (W : Wd K mg) : FunD K "at_least" "Effect.at_least" (defArgs s_Effect_at_least) (defBody s_Effect_at_least) (defScope s_Effect_at_least) [] [] (ma K (ga K "Effect") "at_least") (ChH.fdOf K (ma K (ga K "Effect") "at_least")) := W.s.df 11 (d := d_Effect_at_least)
theorem Wd.F_Effect_at_most (W : Wd K mg) : FunD K "at_most" "Effect.at_most" (defArgs s_Effect_at_most) (defBody s_Effect_at_most) (defScope s_Effect_at_most) [] [] (ma K (ga K "Effect") "at_most") (ChH.fdOf K (ma K (ga K "Effect") "at_most")) := W.s.df 12 (d := d_Effect_at_most)
theorem Wd.F_Effect_mirrored (W : Wd K mg) : FunD K "mirrored" "Effect.mirrored" (defArgs s_Effect_mirrored) (defBody s_Effect_mirrored) (defScope s_Effect_mirrored) [] [] (ma K (ga K "Effect") "mirrored") (ChH.fdOf K (ma K (ga K "Effect") "mirrored")) := W.s.df 13 (d := d_Effect_mirrored)
theorem Wd.F_Effect_followed (W : Wd K mg) : FunD K "followed" "Effect.followed" (defArgs s_Effect_followed) (defBody s_Effect_followed) (defScope s_Effect_followed) [] [] (ma K (ga K "Effect") "followed") (ChH.fdOf K (ma K (ga K "Effect") "followed")) := W.s.df 14 (d := d_Effect_followed)
theorem Wd.F_Effect_carried (W : Wd K mg) : FunD K "carried" "Effect.carried" (defArgs s_Effect_carried) (defBody s_Effect_carried) (defScope s_Effect_carried) [] [] (ma K (ga K "Effect") "carried") (ChH.fdOf K (ma K (ga K "Effect") "carried")) := W.s.df 15 (d := d_Effect_carried)
theorem Wd.F_Effect_place (W : Wd K mg) : FunD K "place" "Effect.place" (defArgs s_Effect_place) (defBody s_Effect_place) (defScope s_Effect_place) [] [] (ma K (ga K "Effect") "place") (ChH.fdOf K (ma K (ga K "Effect") "place")) := W.s.df 16 (d := d_Effect_place)
theorem Wd.F_Effect_end (W : Wd K mg) : FunD K "end" "Effect.end" (defArgs s_Effect_end) (defBody s_Effect_end) (defScope s_Effect_end) [] [] (ma K (ga K "Effect") "end") (ChH.fdOf K (ma K (ga K "Effect") "end")) := W.s.df 17 (d := d_Effect_end)
theorem Wd.F_nothing (W : Wd K mg) : FunD K "nothing" "nothing" (defArgs s_nothing) (defBody s_nothing) (defScope s_nothing) [] [] (ga K "nothing") (ChH.fdOf K (ga K "nothing")) := W.s.df 18 (d := d_nothing)
theorem Wd.k_nothing (W : Wd K mg) : PySem.W.keepIn K (.ref (ga K "nothing")) = true := W.F_nothing.kp
theorem Wd.F_effect_of (W : Wd K mg) : FunD K "effect_of" "effect_of" (defArgs s_effect_of) (defBody s_effect_of) (defScope s_effect_of) [] [] (ga K "effect_of") (ChH.fdOf K (ga K "effect_of")) := W.s.df 19 (d := d_effect_of)
theorem Wd.k_effect_of (W : Wd K mg) : PySem.W.keepIn K (.ref (ga K "effect_of")) = true := W.F_effect_of.kp
theorem Wd.F_power (W : Wd K mg) : FunD K "power" "power" (defArgs s_power) (defBody s_power) (defScope s_power) [] [] (ga K "power") (ChH.fdOf K (ga K "power")) := W.s.df 20 (d := d_power)
theorem Wd.k_power (W : Wd K mg) : PySem.W.keepIn K (.ref (ga K "power")) = true := W.F_power.kp
theorem Wd.F_validate_start (W : Wd K mg) : FunD K "validate_start" "validate_start" (defArgs s_validate_start) (defBody s_validate_start) (defScope s_validate_start) [] [] (ga K "validate_start") (ChH.fdOf K (ga K "validate_start")) := W.s.df 21 (d := d_validate_start)
theorem Wd.k_validate_start (W : Wd K mg) : PySem.W.keepIn K (.ref (ga K "validate_start")) = true := W.F_validate_start.kp
theorem Wd.F_total_carried (W : Wd K mg) : FunD K "total_carried" "total_carried" (defArgs s_total_carried) (defBody s_total_carried) (defScope s_total_carried) [] [] (ga K "total_carried") (ChH.fdOf K (ga K "total_carried")) := W.s.df 22 (d := d_total_carried)
theorem Wd.k_total_carried (W : Wd K mg) : PySem.W.keepIn K (.ref (ga K "total_carried")) = true := W.F_total_carried.kp
theorem Wd.F_red_chairs (W : Wd K mg) : FunD K "red_chairs" "red_chairs" (defArgs s_red_chairs) (defBody s_red_chairs) (defScope s_red_chairs) [] [] (ga K "red_chairs") (ChH.fdOf K (ga K "red_chairs")) := W.s.df 23 (d := d_red_chairs)
theorem Wd.k_red_chairs (W : Wd K mg) : PySem.W.keepIn K (.ref (ga K "red_chairs")) = true := W.F_red_chairs.kp
theorem Wd.F_summary (W : Wd K mg) : FunD K "summary" "summary" (defArgs s_summary) (defBody s_summary) (defScope s_summary) [] [] (ga K "summary") (ChH.fdOf K (ga K "summary")) := W.s.df 24 (d := d_summary)
theorem Wd.k_summary (W : Wd K mg) : PySem.W.keepIn K (.ref (ga K "summary")) = true := W.F_summary.kp
theorem Wd.F_first_difference (W : Wd K mg) : FunD K "first_difference" "first_difference" (defArgs s_first_difference) (defBody s_first_difference) (defScope s_first_difference) [] [] (ga K "first_difference") (ChH.fdOf K (ga K "first_difference")) := W.s.df 25 (d := d_first_difference)
theorem Wd.k_first_difference (W : Wd K mg) : PySem.W.keepIn K (.ref (ga K "first_difference")) = true := W.F_first_difference.kp
theorem Wd.F_moved (W : Wd K mg) : FunD K "moved" "moved" (defArgs s_moved) (defBody s_moved) (defScope s_moved) [] [] (ga K "moved") (ChH.fdOf K (ga K "moved")) := W.s.df 26 (d := d_moved)
theorem Wd.k_moved (W : Wd K mg) : PySem.W.keepIn K (.ref (ga K "moved")) = true := W.F_moved.kp
theorem Wd.F_needs_of (W : Wd K mg) : FunD K "needs_of" "needs_of" (defArgs s_needs_of) (defBody s_needs_of) (defScope s_needs_of) [] [] (ga K "needs_of") (ChH.fdOf K (ga K "needs_of")) := W.s.df 27 (d := d_needs_of)
theorem Wd.k_needs_of (W : Wd K mg) : PySem.W.keepIn K (.ref (ga K "needs_of")) = true := W.F_needs_of.kp
theorem Wd.F_carried_in_two_rounds (W : Wd K mg) : FunD K "carried_in_two_rounds" "carried_in_two_rounds" (defArgs s_carried_in_two_rounds) (defBody s_carried_in_two_rounds) (defScope s_carried_in_two_rounds) [] [] (ga K "carried_in_two_rounds") (ChH.fdOf K (ga K "carried_in_two_rounds")) := W.s.df 28 (d := d_carried_in_two_rounds)
theorem Wd.k_carried_in_two_rounds (W : Wd K mg) : PySem.W.keepIn K (.ref (ga K "carried_in_two_rounds")) = true := W.F_carried_in_two_rounds.kp
theorem Wd.F_halves (W : Wd K mg) : FunD K "halves" "halves" (defArgs s_halves) (defBody s_halves) (defScope s_halves) [] [] (ga K "halves") (ChH.fdOf K (ga K "halves")) := W.s.df 29 (d := d_halves)
theorem Wd.k_halves (W : Wd K mg) : PySem.W.keepIn K (.ref (ga K "halves")) = true := W.F_halves.kp
theorem Wd.F_long_run (W : Wd K mg) : FunD K "long_run" "long_run" (defArgs s_long_run) (defBody s_long_run) (defScope s_long_run) [] [] (ga K "long_run") (ChH.fdOf K (ga K "long_run")) := W.s.df 30 (d := d_long_run)
theorem Wd.k_long_run (W : Wd K mg) : PySem.W.keepIn K (.ref (ga K "long_run")) = true := W.F_long_run.kp
theorem Wd.F_saving (W : Wd K mg) : FunD K "saving" "saving" (defArgs s_saving) (defBody s_saving) (defScope s_saving) [] [] (ga K "saving") (ChH.fdOf K (ga K "saving")) := W.s.df 31 (d := d_saving)
theorem Wd.k_saving (W : Wd K mg) : PySem.W.keepIn K (.ref (ga K "saving")) = true := W.F_saving.kp
theorem Wd.F_fewest_chairs (W : Wd K mg) : FunD K "fewest_chairs" "fewest_chairs" (defArgs s_fewest_chairs) (defBody s_fewest_chairs) (defScope s_fewest_chairs) [] [] (ga K "fewest_chairs") (ChH.fdOf K (ga K "fewest_chairs")) := W.s.df 32 (d := d_fewest_chairs)
theorem Wd.k_fewest_chairs (W : Wd K mg) : PySem.W.keepIn K (.ref (ga K "fewest_chairs")) = true := W.F_fewest_chairs.kp
theorem Wd.F_sparing_chairs (W : Wd K mg) : FunD K "sparing_chairs" "sparing_chairs" (defArgs s_sparing_chairs) (defBody s_sparing_chairs) (defScope s_sparing_chairs) [] [] (ga K "sparing_chairs") (ChH.fdOf K (ga K "sparing_chairs")) := W.s.df 33 (d := d_sparing_chairs)
theorem Wd.k_sparing_chairs (W : Wd K mg) : PySem.W.keepIn K (.ref (ga K "sparing_chairs")) = true := W.F_sparing_chairs.kp
theorem Wd.F_best_chairs (W : Wd K mg) : FunD K "best_chairs" "best_chairs" (defArgs s_best_chairs) (defBody s_best_chairs) (defScope s_best_chairs) [] [] (ga K "best_chairs") (ChH.fdOf K (ga K "best_chairs")) := W.s.df 34 (d := d_best_chairs)
theorem Wd.k_best_chairs (W : Wd K mg) : PySem.W.keepIn K (.ref (ga K "best_chairs")) = true := W.F_best_chairs.kp
theorem Wd.F_find_evidence (W : Wd K mg) : FunD K "find_evidence" "find_evidence" (defArgs s_find_evidence) (defBody s_find_evidence) (defScope s_find_evidence) [] [] (ga K "find_evidence") (ChH.fdOf K (ga K "find_evidence")) := W.s.df 35 (d := d_find_evidence)
theorem Wd.k_find_evidence (W : Wd K mg) : PySem.W.keepIn K (.ref (ga K "find_evidence")) = true := W.F_find_evidence.kp
theorem Wd.F_judge_evidence (W : Wd K mg) : FunD K "judge_evidence" "judge_evidence" (defArgs s_judge_evidence) (defBody s_judge_evidence) (defScope s_judge_evidence) [] [] (ga K "judge_evidence") (ChH.fdOf K (ga K "judge_evidence")) := W.s.df 36 (d := d_judge_evidence)
theorem Wd.k_judge_evidence (W : Wd K mg) : PySem.W.keepIn K (.ref (ga K "judge_evidence")) = true := W.F_judge_evidence.kp
theorem Wd.F_longest_way (W : Wd K mg) : FunD K "longest_way" "longest_way" (defArgs s_longest_way) (defBody s_longest_way) (defScope s_longest_way) [] [] (ga K "longest_way") (ChH.fdOf K (ga K "longest_way")) := W.s.df 37 (d := d_longest_way)
theorem Wd.k_longest_way (W : Wd K mg) : PySem.W.keepIn K (.ref (ga K "longest_way")) = true := W.F_longest_way.kp
theorem Wd.F_places_of (W : Wd K mg) : FunD K "places_of" "places_of" (defArgs s_places_of) (defBody s_places_of) (defScope s_places_of) [] [] (ga K "places_of") (ChH.fdOf K (ga K "places_of")) := W.s.df 38 (d := d_places_of)
theorem Wd.k_places_of (W : Wd K mg) : PySem.W.keepIn K (.ref (ga K "places_of")) = true := W.F_places_of.kp
theorem Wd.F_shortened (W : Wd K mg) : FunD K "shortened" "shortened" (defArgs s_shortened) (defBody s_shortened) (defScope s_shortened) [] [] (ga K "shortened") (ChH.fdOf K (ga K "shortened")) := W.s.df 39 (d := d_shortened)
theorem Wd.k_shortened (W : Wd K mg) : PySem.W.keepIn K (.ref (ga K "shortened")) = true := W.F_shortened.kp
theorem Wd.F_is_possible (W : Wd K mg) : FunD K "is_possible" "is_possible" (defArgs s_is_possible) (defBody s_is_possible) (defScope s_is_possible) [] [] (ga K "is_possible") (ChH.fdOf K (ga K "is_possible")) := W.s.df 40 (d := d_is_possible)
theorem Wd.k_is_possible (W : Wd K mg) : PySem.W.keepIn K (.ref (ga K "is_possible")) = true := W.F_is_possible.kp
theorem Wd.F_way_of (W : Wd K mg) : FunD K "way_of" "way_of" (defArgs s_way_of) (defBody s_way_of) (defScope s_way_of) [] [] (ga K "way_of") (ChH.fdOf K (ga K "way_of")) := W.s.df 41 (d := d_way_of)
theorem Wd.k_way_of (W : Wd K mg) : PySem.W.keepIn K (.ref (ga K "way_of")) = true := W.F_way_of.kp
theorem Wd.F_step_to (W : Wd K mg) : FunD K "step_to" "step_to" (defArgs s_step_to) (defBody s_step_to) (defScope s_step_to) [] [] (ga K "step_to") (ChH.fdOf K (ga K "step_to")) := W.s.df 42 (d := d_step_to)
theorem Wd.k_step_to (W : Wd K mg) : PySem.W.keepIn K (.ref (ga K "step_to")) = true := W.F_step_to.kp
theorem Wd.F_simple_steps (W : Wd K mg) : FunD K "simple_steps" "simple_steps" (defArgs s_simple_steps) (defBody s_simple_steps) (defScope s_simple_steps) [] [] (ga K "simple_steps") (ChH.fdOf K (ga K "simple_steps")) := W.s.df 43 (d := d_simple_steps)
theorem Wd.k_simple_steps (W : Wd K mg) : PySem.W.keepIn K (.ref (ga K "simple_steps")) = true := W.F_simple_steps.kp
theorem Wd.F_simple_plan (W : Wd K mg) : FunD K "simple_plan" "simple_plan" (defArgs s_simple_plan) (defBody s_simple_plan) (defScope s_simple_plan) [] [] (ga K "simple_plan") (ChH.fdOf K (ga K "simple_plan")) := W.s.df 44 (d := d_simple_plan)
theorem Wd.k_simple_plan (W : Wd K mg) : PySem.W.keepIn K (.ref (ga K "simple_plan")) = true := W.F_simple_plan.kp
theorem Wd.F__law_start (W : Wd K mg) : FunD K "_law_start" "_law_start" (defArgs s__law_start) (defBody s__law_start) (defScope s__law_start) [] [] (ga K "_law_start") (ChH.fdOf K (ga K "_law_start")) := W.s.df 45 (d := d__law_start)
theorem Wd.k__law_start (W : Wd K mg) : PySem.W.keepIn K (.ref (ga K "_law_start")) = true := W.F__law_start.kp
theorem Wd.F__law_drawn (W : Wd K mg) : FunD K "_law_drawn" "_law_drawn" (defArgs s__law_drawn) (defBody s__law_drawn) (defScope s__law_drawn) [] [] (ga K "_law_drawn") (ChH.fdOf K (ga K "_law_drawn")) := W.s.df 46 (d := d__law_drawn)
theorem Wd.k__law_drawn (W : Wd K mg) : PySem.W.keepIn K (.ref (ga K "_law_drawn")) = true := W.F__law_drawn.kp
theorem Wd.F__law_two_meetings (W : Wd K mg) : FunD K "_law_two_meetings" "_law_two_meetings" (defArgs s__law_two_meetings) (defBody s__law_two_meetings) (defScope s__law_two_meetings) [] [] (ga K "_law_two_meetings") (ChH.fdOf K (ga K "_law_two_meetings")) := W.s.df 47 (d := d__law_two_meetings)
theorem Wd.k__law_two_meetings (W : Wd K mg) : PySem.W.keepIn K (.ref (ga K "_law_two_meetings")) = true := W.F__law_two_meetings.kp
theorem Wd.F__law_all_chairs (W : Wd K mg) : FunD K "_law_all_chairs" "_law_all_chairs" (defArgs s__law_all_chairs) (defBody s__law_all_chairs) (defScope s__law_all_chairs) [] [] (ga K "_law_all_chairs") (ChH.fdOf K (ga K "_law_all_chairs")) := W.s.df 48 (d := d__law_all_chairs)
theorem Wd.k__law_all_chairs (W : Wd K mg) : PySem.W.keepIn K (.ref (ga K "_law_all_chairs")) = true := W.F__law_all_chairs.kp
theorem Wd.F__law_turning (W : Wd K mg) : FunD K "_law_turning" "_law_turning" (defArgs s__law_turning) (defBody s__law_turning) (defScope s__law_turning) [] [] (ga K "_law_turning") (ChH.fdOf K (ga K "_law_turning")) := W.s.df 49 (d := d__law_turning)
theorem Wd.k__law_turning (W : Wd K mg) : PySem.W.keepIn K (.ref (ga K "_law_turning")) = true := W.F__law_turning.kp
theorem Wd.F_law (W : Wd K mg) : FunD K "law" "law" (defArgs s_law) (defBody s_law) (defScope s_law) [] [] (ga K "law") (ChH.fdOf K (ga K "law")) := W.s.df 50 (d := d_law)
theorem Wd.k_law (W : Wd K mg) : PySem.W.keepIn K (.ref (ga K "law")) = true := W.F_law.kp
end
/-! ### names -/
abbrev N_is_number : List Str := ["value"]
theorem sc_is_number : FnScope N_is_number ["value"] (defScope s_is_number) := ⟨rfl, rfl, rfl, by decide +kernel, rfl, by decide +kernel, by decide +kernel⟩
abbrev N_is_step : List Str := ["step"]
theorem sc_is_step : FnScope N_is_step ["step"] (defScope s_is_step) := ⟨rfl, rfl, rfl, by decide +kernel, rfl, by decide +kernel, by decide +kernel⟩
abbrev N_Plan_init : List Str := ["self", "steps", "index", "step"]
theorem sc_Plan_init : FnScope N_Plan_init ["self", "steps"] (defScope s_Plan_init) := ⟨rfl, rfl, rfl, by decide +kernel, rfl, by decide +kernel, by decide +kernel⟩
abbrev N_Plan_alternating : List Str := ["cls", "needs", "steps", "index", "need"]
theorem sc_Plan_alternating : FnScope N_Plan_alternating ["cls", "needs"] (defScope s_Plan_alternating) := ⟨rfl, rfl, rfl, by decide +kernel, rfl, by decide +kernel, by decide +kernel⟩
abbrev N_Plan_steps : List Str := ["self"]
theorem sc_Plan_steps : FnScope N_Plan_steps ["self"] (defScope s_Plan_steps) := ⟨rfl, rfl, rfl, by decide +kernel, rfl, by decide +kernel, by decide +kernel⟩
abbrev N_Plan_is_turning : List Str := ["self", "step"]
theorem sc_Plan_is_turning : FnScope N_Plan_is_turning ["self"] (defScope s_Plan_is_turning) := ⟨rfl, rfl, rfl, by decide +kernel, rfl, by decide +kernel, by decide +kernel⟩
abbrev N_Plan_joined : List Str := ["self", "others", "steps", "other"]
theorem sc_Plan_joined : FnScope N_Plan_joined ["self", "others"] (defScope s_Plan_joined) := ⟨rfl, rfl, rfl, by decide +kernel, rfl, by decide +kernel, by decide +kernel⟩
abbrev N_sides_of : List Str := ["plan", "found", "side", "word", "needs"]
theorem sc_sides_of : FnScope N_sides_of ["plan"] (defScope s_sides_of) := ⟨rfl, rfl, rfl, by decide +kernel, rfl, by decide +kernel, by decide +kernel⟩
abbrev N_validate_house : List Str := ["plan", "chairs", "index", "side", "need"]
theorem sc_validate_house : FnScope N_validate_house ["plan", "chairs"] (defScope s_validate_house) := ⟨rfl, rfl, rfl, by decide +kernel, rfl, by decide +kernel, by decide +kernel⟩
abbrev N_validate_number : List Str := ["number", "smallest", "largest"]
theorem sc_validate_number : FnScope N_validate_number ["number", "smallest", "largest"] (defScope s_validate_number) := ⟨rfl, rfl, rfl, by decide +kernel, rfl, by decide +kernel, by decide +kernel⟩
abbrev N_Effect_init : List Str := ["self", "chairs", "low", "high", "extra", "goal", "turned"]
theorem sc_Effect_init : FnScope N_Effect_init ["self", "chairs", "low", "high", "extra", "goal", "turned"] (defScope s_Effect_init) := ⟨rfl, rfl, rfl, by decide +kernel, rfl, by decide +kernel, by decide +kernel⟩
abbrev N_Effect_at_least : List Str := ["self", "need"]
theorem sc_Effect_at_least : FnScope N_Effect_at_least ["self", "need"] (defScope s_Effect_at_least) := ⟨rfl, rfl, rfl, by decide +kernel, rfl, by decide +kernel, by decide +kernel⟩
abbrev N_Effect_at_most : List Str := ["self", "most"]
theorem sc_Effect_at_most : FnScope N_Effect_at_most ["self", "most"] (defScope s_Effect_at_most) := ⟨rfl, rfl, rfl, by decide +kernel, rfl, by decide +kernel, by decide +kernel⟩
abbrev N_Effect_mirrored : List Str := ["self", "goal"]
theorem sc_Effect_mirrored : FnScope N_Effect_mirrored ["self"] (defScope s_Effect_mirrored) := ⟨rfl, rfl, rfl, by decide +kernel, rfl, by decide +kernel, by decide +kernel⟩
abbrev N_Effect_followed : List Str := ["self", "other", "later", "found", "goal", "turned"]
theorem sc_Effect_followed : FnScope N_Effect_followed ["self", "other"] (defScope s_Effect_followed) := ⟨rfl, rfl, rfl, by decide +kernel, rfl, by decide +kernel, by decide +kernel⟩
abbrev N_Effect_carried : List Str := ["self", "start"]
theorem sc_Effect_carried : FnScope N_Effect_carried ["self", "start"] (defScope s_Effect_carried) := ⟨rfl, rfl, rfl, by decide +kernel, rfl, by decide +kernel, by decide +kernel⟩
abbrev N_Effect_place : List Str := ["self", "start"]
theorem sc_Effect_place : FnScope N_Effect_place ["self", "start"] (defScope s_Effect_place) := ⟨rfl, rfl, rfl, by decide +kernel, rfl, by decide +kernel, by decide +kernel⟩
abbrev N_Effect_end : List Str := ["self", "start", "place"]
theorem sc_Effect_end : FnScope N_Effect_end ["self", "start"] (defScope s_Effect_end) := ⟨rfl, rfl, rfl, by decide +kernel, rfl, by decide +kernel, by decide +kernel⟩
abbrev N_nothing : List Str := ["chairs"]
theorem sc_nothing : FnScope N_nothing ["chairs"] (defScope s_nothing) := ⟨rfl, rfl, rfl, by decide +kernel, rfl, by decide +kernel, by decide +kernel⟩
abbrev N_effect_of : List Str := ["plan", "chairs", "found", "side", "need"]
theorem sc_effect_of : FnScope N_effect_of ["plan", "chairs"] (defScope s_effect_of) := ⟨rfl, rfl, rfl, by decide +kernel, rfl, by decide +kernel, by decide +kernel⟩
abbrev N_power : List Str := ["effect", "times", "found", "square"]
theorem sc_power : FnScope N_power ["effect", "times"] (defScope s_power) := ⟨rfl, rfl, rfl, by decide +kernel, rfl, by decide +kernel, by decide +kernel⟩
abbrev N_validate_start : List Str := ["chairs", "start"]
theorem sc_validate_start : FnScope N_validate_start ["chairs", "start"] (defScope s_validate_start) := ⟨rfl, rfl, rfl, by decide +kernel, rfl, by decide +kernel, by decide +kernel⟩
abbrev N_total_carried : List Str := ["plan", "chairs", "start", "rounds"]
theorem sc_total_carried : FnScope N_total_carried ["plan", "chairs", "start", "rounds"] (defScope s_total_carried) := ⟨rfl, rfl, rfl, by decide +kernel, rfl, by decide +kernel, by decide +kernel⟩
abbrev N_red_chairs : List Str := ["plan", "chairs", "start", "rounds"]
theorem sc_red_chairs : FnScope N_red_chairs ["plan", "chairs", "start", "rounds"] (defScope s_red_chairs) := ⟨rfl, rfl, rfl, by decide +kernel, rfl, by decide +kernel, by decide +kernel⟩
abbrev N_summary : List Str := ["plan", "chairs", "found"]
theorem sc_summary : FnScope N_summary ["plan", "chairs"] (defScope s_summary) := ⟨rfl, rfl, rfl, by decide +kernel, rfl, by decide +kernel, by decide +kernel⟩
abbrev N_first_difference : List Str := ["plan", "other", "chairs", "one", "two", "places", "bend", "start"]
theorem sc_first_difference : FnScope N_first_difference ["plan", "other", "chairs"] (defScope s_first_difference) := ⟨rfl, rfl, rfl, by decide +kernel, rfl, by decide +kernel, by decide +kernel⟩
abbrev N_moved : List Str := ["chairs", "place", "side", "need"]
theorem sc_moved : FnScope N_moved ["chairs", "place", "side", "need"] (defScope s_moved) := ⟨rfl, rfl, rfl, by decide +kernel, rfl, by decide +kernel, by decide +kernel⟩
abbrev N_needs_of : List Str := ["plan", "first", "other", "side", "need"]
theorem sc_needs_of : FnScope N_needs_of ["plan"] (defScope s_needs_of) := ⟨rfl, rfl, rfl, by decide +kernel, rfl, by decide +kernel, by decide +kernel⟩
abbrev N_carried_in_two_rounds : List Str := ["plan", "chairs", "effect"]
theorem sc_carried_in_two_rounds : FnScope N_carried_in_two_rounds ["plan", "chairs"] (defScope s_carried_in_two_rounds) := ⟨rfl, rfl, rfl, by decide +kernel, rfl, by decide +kernel, by decide +kernel⟩
abbrev N_halves : List Str := ["number"]
theorem sc_halves : FnScope N_halves ["number"] (defScope s_halves) := ⟨rfl, rfl, rfl, by decide +kernel, rfl, by decide +kernel, by decide +kernel⟩
abbrev N_long_run : List Str := ["plan", "chairs"]
theorem sc_long_run : FnScope N_long_run ["plan", "chairs"] (defScope s_long_run) := ⟨rfl, rfl, rfl, by decide +kernel, rfl, by decide +kernel, by decide +kernel⟩
abbrev N_saving : List Str := ["plan", "chairs"]
theorem sc_saving : FnScope N_saving ["plan", "chairs"] (defScope s_saving) := ⟨rfl, rfl, rfl, by decide +kernel, rfl, by decide +kernel, by decide +kernel⟩
abbrev N_fewest_chairs : List Str := ["plan"]
theorem sc_fewest_chairs : FnScope N_fewest_chairs ["plan"] (defScope s_fewest_chairs) := ⟨rfl, rfl, rfl, by decide +kernel, rfl, by decide +kernel, by decide +kernel⟩
abbrev N_sparing_chairs : List Str := ["plan", "first", "other"]
theorem sc_sparing_chairs : FnScope N_sparing_chairs ["plan"] (defScope s_sparing_chairs) := ⟨rfl, rfl, rfl, by decide +kernel, rfl, by decide +kernel, by decide +kernel⟩
abbrev N_best_chairs : List Str := ["plan", "price", "carry_price", "rounds", "low", "high", "middle", "spared"]
theorem sc_best_chairs : FnScope N_best_chairs ["plan", "price", "carry_price", "rounds"] (defScope s_best_chairs) := ⟨rfl, rfl, rfl, by decide +kernel, rfl, by decide +kernel, by decide +kernel⟩
abbrev N_find_evidence : List Str := ["plan", "chairs", "start", "found", "place", "last", "index", "side", "need", "later"]
theorem sc_find_evidence : FnScope N_find_evidence ["plan", "chairs", "start"] (defScope s_find_evidence) := ⟨rfl, rfl, rfl, by decide +kernel, rfl, by decide +kernel, by decide +kernel⟩
abbrev N_judge_evidence : List Str := ["plan", "chairs", "start", "indexes", "sides", "total", "before", "last", "position", "index", "is_good", "side", "need", "bound"]
theorem sc_judge_evidence : FnScope N_judge_evidence ["plan", "chairs", "start", "indexes"] (defScope s_judge_evidence) := ⟨rfl, rfl, rfl, by decide +kernel, rfl, by decide +kernel, by decide +kernel⟩
abbrev N_longest_way : List Str := ["chairs", "begin", "goal", "moves", "up", "last"]
theorem sc_longest_way : FnScope N_longest_way ["chairs", "begin", "goal", "moves", "up"] (defScope s_longest_way) := ⟨rfl, rfl, rfl, by decide +kernel, rfl, by decide +kernel, by decide +kernel⟩
abbrev N_places_of : List Str := ["chairs", "begin", "goal", "moves", "up", "found", "move"]
theorem sc_places_of : FnScope N_places_of ["chairs", "begin", "goal", "moves", "up"] (defScope s_places_of) := ⟨rfl, rfl, rfl, by decide +kernel, rfl, by decide +kernel, by decide +kernel⟩
abbrev N_shortened : List Str := ["begin", "places", "slack", "found", "index", "step", "nearest", "less"]
theorem sc_shortened : FnScope N_shortened ["begin", "places", "slack"] (defScope s_shortened) := ⟨rfl, rfl, rfl, by decide +kernel, rfl, by decide +kernel, by decide +kernel⟩
abbrev N_is_possible : List Str := ["chairs", "begin", "goal", "moves", "up", "last_free"]
theorem sc_is_possible : FnScope N_is_possible ["chairs", "begin", "goal", "moves", "up"] (defScope s_is_possible) := ⟨rfl, rfl, rfl, by decide +kernel, rfl, by decide +kernel, by decide +kernel⟩
abbrev N_way_of : List Str := ["chairs", "begin", "goal", "length", "moves", "up", "longest"]
theorem sc_way_of : FnScope N_way_of ["chairs", "begin", "goal", "length"] (defScope s_way_of) := ⟨rfl, rfl, rfl, by decide +kernel, rfl, by decide +kernel, by decide +kernel⟩
abbrev N_step_to : List Str := ["chairs", "place", "up"]
theorem sc_step_to : FnScope N_step_to ["chairs", "place", "up"] (defScope s_step_to) := ⟨rfl, rfl, rfl, by decide +kernel, rfl, by decide +kernel, by decide +kernel⟩
abbrev N_simple_steps : List Str := ["effect", "chairs", "steps", "up", "places", "place"]
theorem sc_simple_steps : FnScope N_simple_steps ["effect"] (defScope s_simple_steps) := ⟨rfl, rfl, rfl, by decide +kernel, rfl, by decide +kernel, by decide +kernel⟩
abbrev N_simple_plan : List Str := ["plan", "chairs", "effect", "steps"]
theorem sc_simple_plan : FnScope N_simple_plan ["plan", "chairs"] (defScope s_simple_plan) := ⟨rfl, rfl, rfl, by decide +kernel, rfl, by decide +kernel, by decide +kernel⟩
abbrev N__law_start : List Str := ["_law_script", "_law_mixed", "_law_cell"]
theorem sc__law_start : FnScope N__law_start ["_law_script"] (defScope s__law_start) := ⟨rfl, rfl, rfl, by decide +kernel, rfl, by decide +kernel, by decide +kernel⟩
abbrev N__law_drawn : List Str := ["_law_state", "_law_count", "_law_result", "_law_cell"]
theorem sc__law_drawn : FnScope N__law_drawn ["_law_state", "_law_count"] (defScope s__law_drawn) := ⟨rfl, rfl, rfl, by decide +kernel, rfl, by decide +kernel, by decide +kernel⟩
abbrev N__law_two_meetings : List Str := ["_law_a", "_law_b", "_law_short", "_law_rounds", "_law_plan", "_law_chairs"]
theorem sc__law_two_meetings : FnScope N__law_two_meetings ["_law_a", "_law_b", "_law_short", "_law_rounds"] (defScope s__law_two_meetings) := ⟨rfl, rfl, rfl, by decide +kernel, rfl, by decide +kernel, by decide +kernel⟩
abbrev N__law_all_chairs : List Str := ["_law_chairs", "_law_many", "_law_plan", "_law_k"]
theorem sc__law_all_chairs : FnScope N__law_all_chairs ["_law_chairs", "_law_many"] (defScope s__law_all_chairs) := ⟨rfl, rfl, rfl, by decide +kernel, rfl, by decide +kernel, by decide +kernel⟩
abbrev N__law_turning : List Str := ["_law_a", "_law_short", "_law_plan", "_law_chairs"]
theorem sc__law_turning : FnScope N__law_turning ["_law_a", "_law_short"] (defScope s__law_turning) := ⟨rfl, rfl, rfl, by decide +kernel, rfl, by decide +kernel, by decide +kernel⟩
abbrev N_law : List Str := ["_law_script", "_law_state", "_law_turn", "_law_high", "_law_a", "_law_b", "_law_short"]
theorem sc_law : FnScope N_law ["_law_script"] (defScope s_law) := ⟨rfl, rfl, rfl, by decide +kernel, rfl, by decide +kernel, by decide +kernel⟩

end K14

set_option Elab.async false
set_option linter.all false
set_option autoImplicit false
set_option maxRecDepth 100000
set_option pp.maxSteps 1500
set_option maxHeartbeats 0
namespace K14
open PySem PySem.Spec PyProof.Rows L2 He ChH
abbrev R : PySem.W.OpenRow := PySem.W.OpenLaw.row PySem.Challenge.rw_chaircarry_k14_known_houses
abbrev hk : PySem.W.Hook := hookC 5 faL xsL dfL
def ob (s : PySem.W.SharedT) : He.AlD := obsCG 5 faL xsL dfL (HandSHeadRun.getT s)
theorem ob_eq (s : PySem.W.SharedT) : ob s = hk.obs s.abs := obsCG_eq (HandSHeadRun.getT_eq s)
def loose : List Str := (["_wall", "__name__", "ChairError", "InvalidPlan", "TooFewChairs", "InvalidNumber", "InvalidEvidence", "RED", "BLUE", "TURN", "is_number", "is_step", "Plan", "sides_of", "validate_house", "validate_number", "MAX_ROUNDS_effects", "Effect", "nothing", "effect_of"] : List Str) ++ (["power", "validate_start", "total_carried", "red_chairs", "summary", "first_difference", "moved", "MAX_PRICE", "MAX_ROUNDS_chairs", "needs_of", "carried_in_two_rounds", "halves", "long_run", "saving", "fewest_chairs", "sparing_chairs", "best_chairs", "find_evidence", "judge_evidence", "longest_way"] : List Str) ++ (["places_of", "shortened", "is_possible", "way_of", "step_to", "simple_steps", "simple_plan", "_law_start", "_law_drawn", "_law_same", "_law_two_meetings", "_law_all_chairs", "_law_turning"] : List Str)
theorem run (w : World) : HandSHeadRun.RunEq R (PySem.W.view R.prog [58]) hk ob 8000 loose w := by
  intro os
  kernel_rfl
end K14

set_option Elab.async false
set_option linter.all false
set_option autoImplicit false
set_option maxRecDepth 100000
set_option pp.maxSteps 1500
set_option maxHeartbeats 4000000


namespace K14
open PySem PySem.Spec PyProof.Rows L2 He ChH Ch ChM
local macro_rules | `(tactic| walk_at "x1") => `(tactic| first
  | ((with_reducible apply x_var); exact rfl)
  | with_reducible refine x_c ?_
  | with_reducible refine x_op ?_
  | with_reducible refine x_seq ?_
  | with_reducible refine x_asg ?_
  | with_reducible refine x_gname ?_
  | with_reducible refine x_cons ?_
  | with_reducible refine x_nil ?_
  | with_reducible refine x_fld ?_
  | with_reducible refine x_ret ?_
  | with_reducible refine x_ifS ?_
  | with_reducible refine x_test ?_
  | with_reducible refine x_ex ?_
  | with_reducible refine x_call ?_
  | with_reducible refine x_mk ?_
  | with_reducible refine x_meth ?_
  | with_reducible refine x_prop ?_
  | with_reducible refine x_cb ?_
  | with_reducible refine x_tup ?_
  | with_reducible refine x_lst ?_
  | with_reducible refine x_drop ?_
  | with_reducible refine x_for ?_
  | with_reducible refine x_iL ?_
  | with_reducible refine x_iT ?_
  | with_reducible refine x_iE ?_
  | with_reducible refine x_iU ?_
  | with_reducible refine x_iR1 ?_
  | with_reducible refine x_iR2 ?_
  | with_reducible refine x_gcons ?_
  | with_reducible refine x_gnil ?_
  | with_reducible refine x_par ?_
  | with_reducible refine x_lstRg ?_
  | with_reducible refine x_rg1 ?_
  | with_reducible refine x_rg1At ?_
  | with_reducible refine x_par3 ?_
  | with_reducible refine x_bm ?_
  | with_reducible refine x_bm0 ?_
  | with_reducible refine x_gSub ?_
  | with_reducible refine x_lc ?_
  | with_reducible refine x_yes ?_
  | with_reducible refine x_setf ?_
  | with_reducible refine x_next ?_
  | with_reducible refine x_B ?_
  | with_reducible refine x_and ?_
  | with_reducible refine x_or ?_
  | with_reducible refine x_not ?_
  | with_reducible refine x_andV ?_
  | with_reducible refine x_orV ?_
  | with_reducible refine x_notV ?_
  | with_reducible refine x_ifE ?_
  | with_reducible refine x_chain ?_
  | with_reducible refine x_chain3 ?_
  | with_reducible refine x_un ?_
  | with_reducible refine x_isNe ?_
  | with_reducible refine x_notNe ?_
  | with_reducible refine x_starA ?_
  | with_reducible refine x_plusI ?_
  | with_reducible refine x_minus ?_
  | with_reducible refine x_lt ?_
  | with_reducible refine x_le ?_
  | with_reducible refine x_gt ?_
  | with_reducible refine x_ge ?_
  | with_reducible refine x_eqI ?_
  | with_reducible refine x_neI ?_
  | with_reducible refine x_eqS ?_
  | with_reducible refine x_eqB ?_
  | with_reducible refine x_neB ?_
  | with_reducible refine x_int ?_
  | with_reducible refine x_intB ?_
  | with_reducible refine x_max2 ?_
  | with_reducible refine x_min2 ?_
  | with_reducible refine x_max3 ?_
  | with_reducible refine x_abs ?_
  | with_reducible refine x_neg ?_
  | with_reducible refine x_isi_ii ?_
  | with_reducible refine x_isi_ib ?_
  | with_reducible refine x_T ?_
  | with_reducible refine x_nT ?_
  | with_reducible refine x_nF ?_
  | with_reducible refine x_F ?_)
local macro_rules | `(tactic| walk_at "x") => `(tactic| repeat walk_at "x1")

section
variable {P : Program} {w : World} {K : PySem.W.Frag} {mg : Str → Option Value} {base : Heap}
def spNum : Sp := fun vs H Q _ => ∃ n : Int, vs = [.int n] ∧ Q (.bl (decide (0 ≤ n ∧ n ≤ 1000000000000000000))) H
theorem ok_is_number (W : Wd K mg) : FnR P w K mg base CX0 1 (ga K "is_number") spNum := by
  refine (def_ok W.F_is_number sc_is_number (fun _ _ _ _ _ _ us hl => match us, hl with | [_], _ => rfl) (fun vs H Q E ⟨n, e, _⟩ => by rw [e]; rfl) fun cdv A outer s H vs Q E hr ⟨n, e, k⟩ => ?_).2
  subst e
  refine ⟨_, PSs.nox (pss_one (ps_ret (pe_and (pe_callB (c_isiK K) (by rfl) W.f_isinstance (by decide +kernel) (pa_cons (pv 0) (pa_cons (pe_bltn (v := .ty "int") (by rfl) W.f_int (by decide +kernel) rfl) pa_nil))) (pe_and (pe_not (pe_callB (c_isiK K) (by rfl) W.f_isinstance (by decide +kernel) (pa_cons (pv 0) (pa_cons (pe_bltn (v := .ty "bool") (by rfl) W.f_bool (by decide +kernel) rfl) pa_nil)))) (pe_one (pe_chain op_leI op_leI pe_int (pv 0) (pe_cv W.g_Plan W.r_Plan W.v_Plan_MAX_CHAIRS rfl))))))), ?_⟩
  walk_at "x"
  refine x_ifd (fun h => ?_) fun h => ?_
  · walk_at "x"
    rw [show decide (n ≤ 1000000000000000000) = decide (0 ≤ n ∧ n ≤ 1000000000000000000) by simp [h]]
    exact k
  · rw [show decide (0 ≤ n ∧ n ≤ 1000000000000000000) = false by simp [h]] at k
    exact k
def spStep : Sp := fun vs H Q _ => ∃ (p : Addr) (s : Stp), vs = [.ref p] ∧ H p = some (.tup (stepV s)) ∧ goodS s ∧ ∀ H', Same H H' → Q (.bl true) H'
theorem ok_is_step (W : Wd K mg) : FnR P w K mg base CX0 2 (ga K "is_step") spStep := by
  refine (def_ok W.F_is_step sc_is_step (fun _ _ _ _ _ _ us hl => match us, hl with | [_], _ => rfl) (fun vs H Q E ⟨p, s, e, _⟩ => by rw [e]; rfl) fun cdv A outer s H vs Q E hr ⟨p, st, e, hp, hg, k⟩ => ?_).2
  subst e
  refine ⟨_, PSs.nox (pss_cons (ps_if (pt_cmpR (op_eqK K hr.units) (pv 0) (pe_tup (pa_cons (pe_gs W.t_TURN rfl) pa_nil)) (nomark _)) (pss_one (ps_ret pe_bl)) pss_nil) (pss_one (ps_ret (pe_and (pe_cmpR (op_eqK K hr.units) (pe_callB (c_lenK K) (by rfl) W.f_len (by decide +kernel) (pa_cons (pv 0) pa_nil)) pe_int (nomark _)) (pe_and (pe_cmpR (op_inK K) (pe_ix (ix_K K) (pv 0) pe_int (fun _ _ => rfl)) (pe_tup (pa_cons (pe_gs W.t_RED rfl) (pa_cons (pe_gs W.t_BLUE rfl) pa_nil))) rfl) (pe_one (pe_callR (ok_is_number W) (hr.mono (by decide)) W.g_is_number W.k_is_number pass0 rfl (pa_cons (pe_ix (ix_K K) (pv 0) pe_int (fun _ _ => rfl)) pa_nil)))))))), ?_⟩
  walk_at "x"
  refine ⟨sz rfl, fun t ht => eq_turn (up hp ht) upd_same ?_⟩
  walk_at "x"
  refine x_ifd (fun e => ?_) fun e => ?_
  · walk_at "x"
    exact k _ (Same.new ht)
  · walk_at "x"
    cases st with
    | turn => exact absurd rfl e
    | mt b n =>
      obtain ⟨n0, n1⟩ := hg b n rfl
      refine x_lenT (SqT.of (up hp ht)) ?_
      walk_at "x"
      refine x_T ?_
      walk_at "x"
      refine x_ixT (SqT.of (up hp ht)) (i := 0) rfl ?_
      walk_at "x"
      refine ⟨sz rfl, fun u hu => x_inT (SqT.of upd_same) rfl rfl ?_⟩
      rw [show inV (V.str (roomS b)) [V.str "red", V.str "blue"] = true by cases b <;> decide +kernel]
      walk_at "x"
      refine x_ixT (SqT.of (up (up hp ht) hu)) (i := 1) rfl ?_
      walk_at "x"
      refine ⟨n, rfl, ?_⟩
      rw [decide_eq_true ⟨n0, n1⟩]
      exact k _ ((Same.new ht).trans (Same.new hu))
/-! ### Plan -/
abbrev CP (K : PySem.W.Frag) : Addr := ga K "Plan"
theorem ok_Plan_steps (W : Wd K mg) : FnR P w K mg base CX0 1 (gp "Plan" "steps" K) (fun vs H Q _ => ∃ p dx fs v, vs = [.ref p] ∧ H p = some (.ins (CP K) dx fs) ∧ fs.lookup ("parts" : Str) = some v ∧ Q v H) := by
  refine (def_ok W.F_Plan_steps sc_Plan_steps (fun _ _ _ _ _ _ us hl => match us, hl with | [_], _ => rfl) (fun vs H Q E ⟨p, dx, fs, v, e, _⟩ => by rw [e]; rfl) fun cdv A outer s H vs Q E hr ⟨p, dx, fs, v, e, hp, l, k⟩ => ?_).2
  subst e
  refine ⟨_, PSs.nox (pss_one (ps_ret (pe_fldK K (pv 0)))), ?_⟩
  walk_at "x"
  exact x_fldAt hp W.c_Plan W.n_Plan_parts l k
/-- __init__ on the tuple of the steps -/
def spPI (K : PySem.W.Frag) : Sp := fun vs H Q _ => ∃ (x t dx : Addr) (ps : List V) (l : List Stp), vs = [.ref x, .ref t] ∧ H x = some (.ins (CP K) dx []) ∧ H t = some (.tup ps) ∧ StepsAt H ps l ∧ goodP l ∧
  ∀ H', (∀ b o, b ≠ x → H b = some o → H' b = some o) → H' x = some (.ins (CP K) dx [("parts", .ref t)]) → Q .non H'
theorem ok_Plan_init (W : Wd K mg) : FnR P w K mg base CX0 3 (ma K (ga K "Plan") "__init__") (fun vs H Q E => ∃ ws rest, vs = ws ++ rest ∧ ws.length = ["self"].length ∧ rest.length ≤ sizeLine ∧ ∀ p, H p = none → spPI K (ws ++ [V.ref p]) (upd H p (.tup rest)) Q E) := by
  refine star_ok (ps := ["self"]) (pv := "steps") (sp := spPI K) W.F_Plan_init sc_Plan_init StX.cxUp_none (fun _ _ _ _ _ _ us rest hl => match us, rest, hl with | [_], [], _ => rfl | [_], _ :: _, _ => rfl) fun cdv A outer s H vs Q E hr ⟨x, t, dx, ps, l, e, hx, ht, hs, hg, k⟩ => ?_
  subst e
  have hl : ps.length = l.length := pr_len hs
  have h60 := hg.2
  refine ⟨_, PSs.nox (pss_cons (ps_for PassesOwn.never rfl (pi_enumTK K W.f_enumerate (pa_cons (pv 1) pa_nil)) (pg_tupK (n := 2) K rfl (pgs_cons (pg_name (i := 2) sc_Plan_init.nd rfl (Or.inl rfl)) (pgs_cons (pg_name (i := 3) sc_Plan_init.nd rfl (Or.inl rfl)) pgs_nil))) (pss_one (ps_if (PW.pt (pw_or (pt_cmpR (op_eqK K hr.units) (pv 2) (pe_cv W.g_Plan W.r_Plan W.v_Plan_MAX_STEPS rfl) (nomark _)) (pw_or1 (pt_not (pt_val (pe_callR (ok_is_step W) (hr.mono (by decide)) W.g_is_step W.k_is_step pass0 rfl (pa_cons (pv 3) pa_nil))))))) (pss_one ps_never) pss_nil))) (pss_one (ps_fldK K (pv 0) (pv 1)))), ?_⟩
  walk_at "x"
  refine x_iUAt (SqT.of ht) (x_loop walk_enumT (fun i σ H2 => (∃ a b, σ = [some (.ref x), some (.ref t), a, b]) ∧ Same H H2) ⟨⟨_, _, rfl⟩, Same.refl H⟩ (fun i σ H2 _ ⟨_, s2⟩ => SqT.of (s2 _ _ ht)) ?_ ?_)
  · rintro i y σ H2 H3 hi ⟨⟨a, b, rfl⟩, s2⟩ ⟨T, v1, v2, rfl, hT, rfl, e1, e2⟩
    cases e1
    have hi' : i < 60 := by omega
    obtain ⟨st, hst, p, rfl, hp⟩ := pr_at hs e2
    refine x_gTup upd_same rfl ?_
    walk_at "x"
    refine x_ifd (fun e => ?_) fun e => ?_
    · omega
    walk_at "x"
    have hp2 := up (u := .tup [.int (i : Nat), .ref p]) (s2 _ _ hp) hT
    refine ⟨p, st, rfl, hp2, hg.1 st (List.mem_of_getElem? hst), fun H4 s4 => ?_⟩
    walk_at "x"
    exact ⟨⟨_, _, rfl⟩, (s2.trans (Same.new hT)).trans s4⟩
  · rintro σ H2 ⟨⟨a, b, rfl⟩, s2⟩
    walk_at "x"
    refine x_setAt (s2 _ _ hx) W.c_Plan W.n_Plan_parts (by decide) ?_
    refine k _ (fun b o hb e => by rw [upd_ne hb]; exact s2 _ _ e) ?_
    rw [upd_same]
    rfl
/-- Plan(..) made -/
theorem mk_plan {vs : List V} {l : List Stp} {H : Hp} {kk : Addr → Hp → Prop} {E : XK} (hs : StepsAt H vs l) (hg : goodP l) (k : ∀ x H', H x = none → Same H H' → PlanAt (CP K) H' x l → kk x H') :
    ∀ x dx, H x = none → H dx = none → dx ≠ x → ∃ ws rest, V.ref x :: vs = ws ++ rest ∧ ws.length = ["self"].length ∧ rest.length ≤ sizeLine ∧
      ∀ p, (upd (upd H dx (.own x)) x (.ins (CP K) dx [])) p = none → spPI K (ws ++ [V.ref p]) (upd (upd (upd H dx (.own x)) x (.ins (CP K) dx [])) p (.tup rest)) (fun v H2 => v = .non ∧ kk x H2) E := by
  intro x dx hx hdx hne
  have hl : vs.length = l.length := pr_len hs
  have h60 := hg.2
  refine ⟨[.ref x], vs, rfl, rfl, sz5 (by omega), fun p hp => ?_⟩
  have s1 : Same H (upd (upd H dx (.own x)) x (.ins (CP K) dx [])) := Same.mut (Same.new hdx) hx
  have s2 := s1.trans (Same.new (o := .tup vs) hp)
  refine ⟨x, p, dx, vs, l, rfl, up upd_same hp, upd_same, hs.mono s2, hg, fun H' kp hx' => ⟨rfl, ?_⟩⟩
  have hpx : p ≠ x := by
    intro e
    rw [e, upd_same] at hp
    cases hp
  refine k x H' hx (fun b o e => kp b o (ne_of_none e hx) (s2 b o e)) ⟨dx, p, vs, hx', kp p _ hpx upd_same, ?_⟩
  refine pr_im ?_ (hs.mono s2)
  rintro v st ⟨q, e1, e2⟩
  refine ⟨q, e1, kp q _ ?_ e2⟩
  rintro rfl
  rw [upd_ne hpx.symm, upd_same] at e2
  cases e2
theorem ok_Plan_is_turning (W : Wd K mg) : FnR P w K mg base CX0 2 (gp "Plan" "is_turning" K) (fun vs H Q _ => ∃ p l, vs = [.ref p] ∧ PlanAt (CP K) H p l ∧ l.length ≤ 60 ∧ ∀ H', Same H H' → Q (.bl (turning l)) H') := by
  refine (def_ok W.F_Plan_is_turning sc_Plan_is_turning (fun _ _ _ _ _ _ us hl => match us, hl with | [_], _ => rfl) (fun vs H Q E ⟨p, l, e, _⟩ => by rw [e]; rfl) fun cdv A outer s H vs Q E hr ⟨p, l, e, hp, h60, k⟩ => ?_).2
  subst e
  obtain ⟨dx, t, vs, h1, h2, h3⟩ := hp.ex
  have hl : vs.length = l.length := pr_len h3
  refine ⟨_, PSs.nox (pss_one (ps_ret (pe_cmpR (op_eqK K hr.units) (pe_op op_modP (pe_callTy c_int (by rfl) W.f_int (by decide +kernel) (pa_cons (pe_callB (c_lenK K) (by rfl) W.f_len (by decide +kernel) (pa_cons (pe_lc (own := [("step", 1)]) (g := gName 1) rfl sc_Plan_is_turning.nd (pi_tupK K (pe_fldK K (pv 0))) (blkOk_by (own := [("step", 1)]) (N := N_Plan_is_turning) (sc := defScope s_Plan_is_turning) (by decide +kernel)) (fun _ _ _ _ _ => (pg_name (i := 1) sc_Plan_is_turning.nd rfl (Or.inl rfl))) (fun _ _ _ _ _ => (pts_one (pt_cmpR (op_eqK K hr.units) (pv 1) (pe_tup (pa_cons (pe_gs W.t_TURN rfl) pa_nil)) (nomark _)))) (fun _ _ _ _ _ => (pv 1))) pa_nil)) pa_nil)) pe_int) pe_int (nomark _)))), ?_⟩
  walk_at "x"
  refine x_fldAt h1 W.c_Plan W.n_Plan_parts rfl (x_iTAt (SqT.of h2) ?_)
  refine x_lcA walk_tup (fun i acc _ => acc.length = turns (l.take i)) (fun _ _ _ _ _ _ _ h => h) (fun _ _ => rfl) (by omega) (fun H' s1 => SqT.of (s1 _ _ h2)) ?_ ?_
  · rintro i x acc H1 H' NT NF hT hF hi s1 a1 ⟨rfl, e⟩
    obtain ⟨st, hst, q, rfl, hq⟩ := pr_at h3 e
    walk_at "x"
    refine ⟨rfl, ?_⟩
    walk_at "x"
    refine ⟨sz rfl, fun u hu => eq_turn (up (s1 _ _ hq) hu) upd_same ?_⟩
    walk_at "x"
    refine x_ifd (fun e => ?_) fun e => ?_
    · walk_at "x"
      refine hT _ _ (Same.new hu) ?_
      rw [turns_step hst, if_pos e, List.length_append, a1]
      rfl
    · refine hF _ (Same.new hu) ?_
      rw [turns_step hst, if_neg e, a1]
      rfl
  · rintro D acc H' hD s1 hD' a1 _
    walk_at "x"
    refine x_lenL (SqL.of hD') ?_
    walk_at "x"
    refine x_mod (by decide) ?_
    walk_at "x"
    rw [hl, List.take_length] at a1
    have e : decide ((acc.length : Int) % 2 = 1) = turning l := by
      rw [a1]
      unfold turning
      by_cases z : turns l % 2 = 1
      · rw [z, decide_eq_true (by omega)]
        rfl
      · rw [decide_eq_false (by omega)]
        symm
        exact beq_false_of_ne z
    rw [e]
    exact k _ s1
def spSides (K : PySem.W.Frag) : Sp := fun vs H Q _ => ∃ p l, vs = [.ref p] ∧ PlanAt (CP K) H p l ∧ l.length ≤ 60 ∧ ∀ r ps H', H r = none → Same H H' → H' r = some (.lst ps) → PairsAt H' ps (sides 1 l) → Q (.ref r) H'
theorem ok_sides_of (W : Wd K mg) : FnR P w K mg base CX0 3 (ga K "sides_of") (spSides K) := by
  refine (def_ok W.F_sides_of sc_sides_of (fun _ _ _ _ _ _ us hl => match us, hl with | [_], _ => rfl) (fun vs H Q E ⟨p, l, e, _⟩ => by rw [e]; rfl) fun cdv A outer s H vs Q E hr ⟨p, l, e, hp, h60, k⟩ => ?_).2
  subst e
  obtain ⟨dx, t, vs, h1, h2, h3⟩ := hp.ex
  have hl : vs.length = l.length := pr_len h3
  refine ⟨_, PSs.nox (pss_cons (ps_par (i := 1) (j := 2) (by rfl) sc_sides_of.nd rfl rfl (by decide) rfl rfl (pa_cons (pe_lst pa_nil) (pa_cons pe_int pa_nil)) (by rfl)) (pss_cons (ps_for PassesOwn.never rfl (pi_tupK K (pe_propR W.c_Plan W.p_Plan_steps (ok_Plan_steps W) (hr.mono (by decide)) (pv 0))) (pg_starK (n := 2) (i := 1) K rfl (pgs_cons (pg_name (i := 3) sc_sides_of.nd rfl (Or.inl rfl)) (pgs_star (pg_name (i := 4) sc_sides_of.nd rfl (Or.inl rfl)) pgs_nil))) (pss_one (ps_if (pt_cmpR (op_eqK K hr.units) (pv 3) (pe_gs W.t_TURN rfl) (nomark _)) (pss_cons (ps_set (i := 2) sc_sides_of.nd rfl (Or.inl rfl) (pe_op op_minus pe_int (pv 2))) (pss_one (ps_expr (pe_bmK K PySem.F.plainAttrs_list PySem.F.slot_list_append PySem.F.type_list_append mt_append (pv 1) (pa_cons (pe_tup (pa_cons pe_int (pa_cons pe_int pa_nil))) pa_nil))))) (pss_one (ps_expr (pe_bmK K PySem.F.plainAttrs_list PySem.F.slot_list_append PySem.F.type_list_append mt_append (pv 1) (pa_cons (pe_tup (pa_cons (pe_ifExp (pt_cmpR (op_eqK K hr.units) (pv 3) (pe_gs W.t_RED rfl) (nomark _)) (pv 2) (pe_op op_minus pe_int (pv 2))) (pa_cons (pe_ix (ix_K K) (pv 4) pe_int (fun _ _ => rfl)) pa_nil))) pa_nil))))))) (pss_one (ps_ret (pv 1))))), ?_⟩
  walk_at "x"
  refine ⟨sz rfl, fun r hr0 => ?_⟩
  walk_at "x"
  refine ⟨_, _, rfl, ?_⟩
  walk_at "x"
  refine x_propAt (up h1 hr0) ⟨p, dx, _, _, rfl, up h1 hr0, rfl, ?_⟩
  refine x_iTAt (SqT.of (up h2 hr0)) (x_loop walk_tup (fun i σ H2 => (∃ a b, σ = [some (.ref p), some (.ref r), some (.int (sideAt 1 (l.take i))), a, b]) ∧ Same H H2 ∧ ∃ ps, H2 r = some (.lst ps) ∧ PairsAt H2 ps (sides 1 (l.take i))) ⟨⟨_, _, rfl⟩, Same.new hr0, [], upd_same, .nil⟩ (fun i σ H2 _ ⟨_, s2, _⟩ => SqT.of (s2 _ _ h2)) ?_ ?_)
  · rintro i y σ H2 H3 hi ⟨⟨a, b, rfl⟩, s2, ps, hps, hpp⟩ ⟨rfl, ey⟩
    obtain ⟨st, hst, q, rfl, hq⟩ := pr_at h3 ey
    have hq2 := s2 _ _ hq
    have tk : l.take (i + 1) = l.take i ++ [st] := by rw [List.take_add_one, hst]; rfl
    have lps : ps.length = (sides 1 (l.take i)).length := pr_len hpp
    rw [sides_len, List.length_take] at lps
    cases st with
    | turn =>
      refine x_star1 hq2 fun d hd => ?_
      walk_at "x"
      refine x_T ?_
      walk_at "x"
      refine ⟨ty_lst (up hps hd), ?_⟩
      walk_at "x"
      refine ⟨sz rfl, fun u hu => ?_⟩
      walk_at "x"
      refine x_app (up (up hps hd) hu) (sz5' (by omega)) ?_
      have s3 : Same H3 (upd (upd H3 d (.lst [])) u (.tup (pairV (0, 0)))) := (Same.new hd).trans (Same.new hu)
      walk_at "x"
      refine ⟨?_, ?_, _, upd_same, ?_⟩
      · rw [tk, sideAt_snoc]
        exact ⟨_, _, rfl⟩
      · exact Same.mut (s2.trans s3) hr0
      · rw [tk, sides_snoc]
        refine pr_snoc ?_ ⟨u, rfl, ?_⟩
        · exact hpp.mono2 s3 (s3 _ _ hps)
        · rw [upd_ne (ne_of upd_same (s3 _ _ hps) (by intro z; cases z))]
          exact upd_same
    | mt c n =>
      refine x_star2 hq2 fun d hd => ?_
      walk_at "x"
      rw [show decide (roomS c = ("turn" : Str)) = false by cases c <;> decide +kernel]
      walk_at "x"
      refine ⟨ty_lst (up hps hd), ?_⟩
      walk_at "x"
      rw [show decide (roomS c = ("red" : Str)) = c by cases c <;> decide +kernel]
      have fin : ∀ (z : Int), z = (if c then sideAt 1 (l.take i) else 0 - sideAt 1 (l.take i)) → ∀ u, (upd H3 d (.lst [.int n])) u = none →
          (∃ a b, [some (V.ref p), some (.ref r), some (.int (sideAt 1 (l.take i))), some (.str (roomS c)), some (.ref d)] = [some (.ref p), some (.ref r), some (.int (sideAt 1 (l.take (i + 1)))), a, b]) ∧
          Same H (upd (upd (upd H3 d (.lst [.int n])) u (.tup [.int z, .int n])) r (.lst (ps ++ [.ref u]))) ∧
          ∃ qs, upd (upd (upd H3 d (.lst [.int n])) u (.tup [.int z, .int n])) r (.lst (ps ++ [.ref u])) r = some (.lst qs) ∧
            PairsAt (upd (upd (upd H3 d (.lst [.int n])) u (.tup [.int z, .int n])) r (.lst (ps ++ [.ref u]))) qs (sides 1 (l.take (i + 1))) := by
        intro z ez u hu
        have s3 : Same H3 (upd (upd H3 d (.lst [.int n])) u (.tup [.int z, .int n])) := (Same.new hd).trans (Same.new hu)
        refine ⟨?_, Same.mut (s2.trans s3) hr0, _, upd_same, ?_⟩
        · rw [tk, sideAt_snoc]
          exact ⟨_, _, rfl⟩
        · rw [tk, sides_snoc]
          refine pr_snoc (hpp.mono2 s3 (s3 _ _ hps)) ⟨u, rfl, ?_⟩
          rw [upd_ne (ne_of upd_same (s3 _ _ hps) (by intro z; cases z)), ez]
          exact upd_same
      have ix : ∀ (H4 : Hp), Same (upd H3 d (.lst [.int n])) H4 → SqL K H4 d [.int n] := fun H4 e => SqL.of (e _ _ upd_same)
      cases c with
      | true =>
        walk_at "x"
        refine x_ixL (ix _ (Same.refl _)) (i := 0) rfl ?_
        walk_at "x"
        refine ⟨sz rfl, fun u hu => ?_⟩
        walk_at "x"
        refine x_app (up (up hps hd) hu) (sz5' (by omega)) ?_
        walk_at "x"
        exact fin _ rfl u hu
      | false =>
        walk_at "x"
        refine x_ixL (ix _ (Same.refl _)) (i := 0) rfl ?_
        walk_at "x"
        refine ⟨sz rfl, fun u hu => ?_⟩
        walk_at "x"
        refine x_app (up (up hps hd) hu) (sz5' (by omega)) ?_
        walk_at "x"
        exact fin _ rfl u hu
  · rintro σ H2 ⟨⟨a, b, rfl⟩, s2, ps, hps, hpp⟩
    walk_at "x"
    rw [hl, List.take_length] at hpp
    exact k r ps _ hr0 s2 hps hpp
def spVH (K : PySem.W.Frag) : Sp := fun vs H Q _ => ∃ (p : Addr) (c : Int) (l : List Stp), vs = [.ref p, .int c] ∧ PlanAt (CP K) H p l ∧ l.length ≤ 60 ∧ 0 ≤ c ∧ c ≤ 1000000000000000000 ∧ fitsS c l ∧ ∀ H', Same H H' → Q .non H'
theorem ok_validate_house (W : Wd K mg) : FnR P w K mg base CX0 4 (ga K "validate_house") (spVH K) := by
  refine (def_ok W.F_validate_house sc_validate_house (fun _ _ _ _ _ _ us hl => match us, hl with | [_, _], _ => rfl) (fun vs H Q E ⟨p, c, l, e, _⟩ => by rw [e]; rfl) fun cdv A outer s H vs Q E hr ⟨p, c, l, e, hp, h60, c0, c1, hf, k⟩ => ?_).2
  subst e
  refine ⟨_, PSs.nox (pss_cons (ps_if (pt_not (pt_chain op_leI op_leI pe_int (pv 1) (pe_cv W.g_Plan W.r_Plan W.v_Plan_MAX_CHAIRS rfl))) (pss_one ps_never) pss_nil) (pss_one (ps_for PassesOwn.never rfl (pi_enumK K W.f_enumerate (pa_cons (pe_callR (ok_sides_of W) (hr.mono (by decide)) W.g_sides_of W.k_sides_of pass0 rfl (pa_cons (pv 0) pa_nil)) pa_nil)) (pg_tupK (n := 2) K rfl (pgs_cons (pg_name (i := 2) sc_validate_house.nd rfl (Or.inl rfl)) (pgs_cons (pg_tupK (n := 2) K rfl (pgs_cons (pg_name (i := 3) sc_validate_house.nd rfl (Or.inl rfl)) (pgs_cons (pg_name (i := 4) sc_validate_house.nd rfl (Or.inl rfl)) pgs_nil))) pgs_nil))) (pss_one (ps_if (pt_cmpR op_gtI (pv 4) (pv 1) (nomark _)) (pss_one ps_never) pss_nil))))), ?_⟩
  walk_at "x"
  rw [decide_eq_true c0]
  walk_at "x"
  rw [decide_eq_true c1]
  walk_at "x"
  refine ⟨p, l, rfl, hp, h60, fun r ps H1 hr0 s1 hps hpp => ?_⟩
  walk_at "x"
  have fp : fits c (sides 1 l) := sides_fits l 1 (.inl rfl) c0 hf
  refine x_iEAt (SqL.of hps) (x_loop walk_enum (fun i σ H2 => (∃ a b d, σ = [some (.ref p), some (.int c), a, b, d]) ∧ Same H1 H2) ⟨⟨_, _, _, rfl⟩, Same.refl _⟩ (fun i σ H2 _ ⟨_, s2⟩ => SqL.of (s2 _ _ hps)) ?_ ?_)
  · rintro i y σ H2 H3 hi ⟨⟨a, b, d, rfl⟩, s2⟩ ⟨T, v1, v2, rfl, hT, rfl, e1, e2⟩
    cases e1
    obtain ⟨⟨sd, n⟩, hst, q, rfl, hq⟩ := pr_at hpp e2
    have hf2 := (fp _ (List.mem_of_getElem? hst)).2.2
    refine x_gTup upd_same rfl ?_
    walk_at "x"
    refine x_gTup (up (s2 _ _ hq) hT) rfl ?_
    unfold pairV
    walk_at "x"
    refine x_ifd (fun e => ?_) fun e => ?_
    · exact absurd hf2 (by show ¬ n ≤ c; omega)
    walk_at "x"
    exact ⟨⟨_, _, _, rfl⟩, s2.trans (Same.new hT)⟩
  · rintro σ H2 ⟨⟨a, b, d, rfl⟩, s2⟩
    exact k _ (s1.trans s2)
/-- joined with one other plan -/
def spJ (K : PySem.W.Frag) : Sp := fun vs H Q _ => ∃ (p q t : Addr) (l m : List Stp), vs = [.ref p, .ref t] ∧ PlanAt (CP K) H p l ∧ PlanAt (CP K) H q m ∧ H t = some (.tup [.ref q]) ∧ goodP (l ++ m) ∧ ∀ x H', H x = none → Same H H' → PlanAt (CP K) H' x (l ++ m) → Q (.ref x) H'
theorem ok_Plan_joined (W : Wd K mg) : FnR P w K mg base CX0 5 (ma K (ga K "Plan") "joined") (fun vs H Q E => ∃ ws rest, vs = ws ++ rest ∧ ws.length = ["self"].length ∧ rest.length ≤ sizeLine ∧ ∀ p, H p = none → spJ K (ws ++ [V.ref p]) (upd H p (.tup rest)) Q E) := by
  refine star_ok (ps := ["self"]) (pv := "others") (sp := spJ K) W.F_Plan_joined sc_Plan_joined StX.cxUp_none (fun _ _ _ _ _ _ us rest hl => match us, rest, hl with | [_], [], _ => rfl | [_], _ :: _, _ => rfl) fun cdv A outer s H vs Q E hr ⟨p, q, t, l, m, e, hp, hq, ht, hg, k⟩ => ?_
  subst e
  obtain ⟨dx, tp, ps, h1, h2, h3⟩ := hp.ex
  obtain ⟨dy, tq, qs, g1, g2, g3⟩ := hq.ex
  have l1 : ps.length = l.length := pr_len h3
  have l2 : qs.length = m.length := pr_len g3
  have h60 := hg.2
  rw [List.length_append] at h60
  refine ⟨_, PSs.nox (pss_cons (ps_set (i := 2) sc_Plan_joined.nd rfl (Or.inl rfl) (pe_callTy (c_listK K) (by rfl) W.f_list (by decide +kernel) (pa_cons (pe_fldK K (pv 0)) pa_nil))) (pss_cons (ps_for PassesOwn.never rfl (pi_tupK K (pv 1)) (pg_name (i := 3) sc_Plan_joined.nd rfl (Or.inl rfl)) (pss_one (ps_expr (pe_bmK K PySem.F.plainAttrs_list PySem.F.slot_list_extend PySem.F.type_list_extend mt_extend (pv 2) (pa_cons (pe_callTy (c_listK K) (by rfl) W.f_list (by decide +kernel) (pa_cons (pe_propR W.c_Plan W.p_Plan_steps (ok_Plan_steps W) (hr.mono (by decide)) (pv 3)) pa_nil)) pa_nil))))) (pss_one (ps_ret (pe_mkS W.mk_Plan (ok_Plan_init W) (hr.mono (by decide)) W.g_Plan pass0 rfl (pv 2)))))), ?_⟩
  walk_at "x"
  refine x_fldAt h1 W.c_Plan W.n_Plan_parts rfl ?_
  walk_at "x"
  refine x_listT (SqT.of h2) fun r hr0 => ?_
  walk_at "x"
  refine x_iTAt (SqT.of (up ht hr0)) (x_loop walk_tup (fun i σ H2 => (∃ a, σ = [some (.ref p), some (.ref t), some (.ref r), a]) ∧ Same H H2 ∧ H2 r = some (.lst (if i = 0 then ps else ps ++ qs))) ⟨⟨_, rfl⟩, Same.new hr0, upd_same⟩ (fun i σ H2 _ ⟨_, s2, _⟩ => SqT.of (s2 _ _ ht)) ?_ ?_)
  · rintro i y σ H2 H3 hi ⟨⟨a, rfl⟩, s2, hrr⟩ ⟨rfl, ey⟩
    have i0 : i = 0 := by
      have : i < 1 := hi
      omega
    subst i0
    cases ey
    rw [if_pos rfl] at hrr
    walk_at "x"
    refine ⟨ty_lst hrr, ?_⟩
    walk_at "x"
    refine x_propAt (s2 _ _ g1) ⟨q, dy, _, _, rfl, s2 _ _ g1, rfl, ?_⟩
    walk_at "x"
    refine x_listT (SqT.of (s2 _ _ g2)) fun u hu => ?_
    walk_at "x"
    refine ⟨r, u, ps, qs, rfl, rfl, up hrr hu, upd_same, sz5 (by omega), ?_⟩
    walk_at "x"
    exact ⟨⟨_, rfl⟩, Same.mut (s2.trans (Same.new hu)) hr0, upd_same⟩
  · rintro σ H2 ⟨⟨a, rfl⟩, s2, hrr⟩
    walk_at "x"
    refine ⟨r, _, rfl, .inr (SqL.of hrr), ?_⟩
    refine mk_plan (l := l ++ m) (pr_app (h3.mono s2) (g3.mono s2)) hg fun x H' hx s3 hP => ?_
    exact k x H' (s2.free hx) (s2.trans s3) hP
def altL : Bool → List Int → List Stp
  | _, [] => []
  | b, n :: r => .mt b n :: altL (!b) r
theorem altL_snoc : ∀ (l : List Int) (b : Bool) (n : Int), altL b (l ++ [n]) = altL b l ++ [.mt (if l.length % 2 = 0 then b else !b) n]
  | [], _, _ => rfl
  | m :: r, b, n => by
    show Stp.mt b m :: altL (!b) (r ++ [n]) = Stp.mt b m :: (altL (!b) r ++ _)
    rw [altL_snoc r (!b) n]
    congr 3
    show _ = Stp.mt (if (r.length + 1) % 2 = 0 then b else !b) n
    congr 1
    by_cases h : r.length % 2 = 0
    · rw [if_pos h, if_neg (by omega)]
    · rw [if_neg h, if_pos (by omega), Bool.not_not]
theorem altL_len : ∀ (l : List Int) (b : Bool), (altL b l).length = l.length
  | [], _ => rfl
  | m :: r, b => congrArg (· + 1) (altL_len r (!b))
def spAl (K : PySem.W.Frag) : Sp := fun vs H Q _ => ∃ (t : Addr) (ns : List Int), vs = [.ref (CP K), .ref t] ∧ H t = some (.tup (ns.map V.int)) ∧ goodP (altL true ns) ∧ ∀ x H', H x = none → Same H H' → PlanAt (CP K) H' x (altL true ns) → Q (.ref x) H'
theorem ok_Plan_alternating (W : Wd K mg) : FnR P w K mg base CX0 5 (gc "Plan" "alternating" K) (fun vs H Q E => ∃ ws rest, vs = ws ++ rest ∧ ws.length = ["cls"].length ∧ rest.length ≤ sizeLine ∧ ∀ p, H p = none → spAl K (ws ++ [V.ref p]) (upd H p (.tup rest)) Q E) := by
  refine star_ok (ps := ["cls"]) (pv := "needs") (sp := spAl K) W.F_Plan_alternating sc_Plan_alternating StX.cxUp_none (fun _ _ _ _ _ _ us rest hl => match us, rest, hl with | [_], [], _ => rfl | [_], _ :: _, _ => rfl) fun cdv A outer s H vs Q E hr ⟨t, ns, e, ht, hg, k⟩ => ?_
  subst e
  have l60 : ns.length ≤ 60 := by have := hg.2; rw [altL_len] at this; exact this
  refine ⟨_, PSs.nox (pss_cons (ps_setLc (i := 2) (own := [("index", 3), ("need", 4)]) (tt := tYes) rfl sc_Plan_alternating.nd rfl rfl (sw_true rfl rfl rfl (by decide +kernel)) (pi_enumTK K W.f_enumerate (pa_cons (pv 1) pa_nil)) (blkOk_by (own := [("index", 3), ("need", 4)]) (N := N_Plan_alternating) (sc := defScope s_Plan_alternating) (by decide +kernel)) (fun _ _ _ _ _ => (pg_tupK (n := 2) K rfl (pgs_cons (pg_name (i := 3) sc_Plan_alternating.nd rfl (Or.inl rfl)) (pgs_cons (pg_name (i := 4) sc_Plan_alternating.nd rfl (Or.inl rfl)) pgs_nil)))) (fun _ _ _ _ _ => pts_nil) (fun _ _ _ _ _ => (pe_tup (pa_cons (pe_ix (ix_K K) (pe_tup (pa_cons (pe_gs W.t_RED rfl) (pa_cons (pe_gs W.t_BLUE rfl) pa_nil))) (pe_op op_modP (pe_callTy c_int (by rfl) W.f_int (by decide +kernel) (pa_cons (pv 3) pa_nil)) pe_int) (fun _ _ => rfl)) (pa_cons (pv 4) pa_nil))))) (pss_one (ps_ret (pe_mkSV (i := 0) W.mk_Plan (ok_Plan_init W) (hr.mono (by decide)) pass0 rfl (by first | exact .inl rfl | exact .inr (.inl rfl)) (pv 2))))), ?_⟩
  walk_at "x"
  refine x_iUAt (SqT.of ht) ?_
  refine x_lcA walk_enumT (fun i acc H1 => StepsAt H1 acc (altL true (ns.take i))) (fun i acc H1 D xs ys h a => StepsAt.mono2 a (Same.refl _) h) (fun _ _ => .nil) (by rw [List.length_map]; omega) (fun H1 s1 => SqT.of (s1 _ _ ht)) ?_ ?_
  · rintro i y acc H1 H2 NT NF hT hF hi s1 a1 ⟨T, v1, v2, rfl, hTn, rfl, e1, e2⟩
    cases e1
    dsimp only at e2
    rw [List.getElem?_map] at e2
    obtain ⟨n, hn, rfl⟩ := Option.map_eq_some_iff.mp e2
    have tk : ns.take (i + 1) = ns.take i ++ [n] := by rw [List.take_add_one, hn]; rfl
    have hil : i < ns.length := (List.getElem?_eq_some_iff.mp hn).1
    have sT : Same H1 (upd H1 T (.tup [.int (i : Nat), .int n])) := Same.new hTn
    refine x_gTup upd_same rfl ?_
    walk_at "x"
    refine ⟨rfl, ?_⟩
    walk_at "x"
    refine ⟨sz rfl, fun u hu => ?_⟩
    walk_at "x"
    refine x_mod (by decide) ?_
    have hb : ∃ b : Bool, atI [V.str "red", V.str "blue"] ((i : Int) % 2) = some (.str (roomS b)) ∧ b = (if i % 2 = 0 then true else !true) := by
      by_cases q : i % 2 = 0
      · rw [show (i : Int) % 2 = 0 by omega, if_pos q]
        exact ⟨true, rfl, rfl⟩
      · rw [show (i : Int) % 2 = 1 by omega, if_neg q]
        exact ⟨false, rfl, rfl⟩
    obtain ⟨b, hb1, hb2⟩ := hb
    refine x_ixT (SqT.of upd_same) hb1 ?_
    walk_at "x"
    refine ⟨sz rfl, fun z hz => ?_⟩
    have s3 := (sT.trans (Same.new (o := .tup [V.str "red", V.str "blue"]) hu)).trans (Same.new (o := .tup (stepV (.mt b n))) hz)
    refine hT _ _ s3 ?_
    rw [tk, altL_snoc, List.length_take, Nat.min_eq_left (by omega), ← hb2]
    exact pr_snoc (StepsAt.mono s3 a1) ⟨z, rfl, upd_same⟩
  · rintro D acc H1 hD s1 hD1 a1 _
    rw [List.length_map, List.take_length] at a1
    walk_at "x"
    refine ⟨rfl, ?_⟩
    walk_at "x"
    refine ⟨D, _, rfl, .inr (SqL.of hD1), ?_⟩
    refine mk_plan (l := altL true ns) a1 hg fun x H' hx s3 hP => ?_
    exact k x H' (s1.free hx) (s1.trans s3) hP
end
end K14

set_option Elab.async false
set_option linter.all false
set_option autoImplicit false
set_option maxRecDepth 100000
set_option pp.maxSteps 1500
set_option maxHeartbeats 4000000
namespace K14
open PySem PySem.Spec PyProof.Rows L2 He ChH Ch ChM
local macro_rules | `(tactic| walk_at "x1") => `(tactic| first
  | ((with_reducible apply x_var); exact rfl)
  | with_reducible refine x_c ?_
  | with_reducible refine x_op ?_
  | with_reducible refine x_seq ?_
  | with_reducible refine x_asg ?_
  | with_reducible refine x_gname ?_
  | with_reducible refine x_cons ?_
  | with_reducible refine x_nil ?_
  | with_reducible refine x_fld ?_
  | with_reducible refine x_ret ?_
  | with_reducible refine x_ifS ?_
  | with_reducible refine x_test ?_
  | with_reducible refine x_ex ?_
  | with_reducible refine x_call ?_
  | with_reducible refine x_mk ?_
  | with_reducible refine x_meth ?_
  | with_reducible refine x_prop ?_
  | with_reducible refine x_cb ?_
  | with_reducible refine x_tup ?_
  | with_reducible refine x_lst ?_
  | with_reducible refine x_drop ?_
  | with_reducible refine x_for ?_
  | with_reducible refine x_iL ?_
  | with_reducible refine x_iT ?_
  | with_reducible refine x_iE ?_
  | with_reducible refine x_iU ?_
  | with_reducible refine x_iR1 ?_
  | with_reducible refine x_iR2 ?_
  | with_reducible refine x_gcons ?_
  | with_reducible refine x_gnil ?_
  | with_reducible refine x_par ?_
  | with_reducible refine x_lstRg ?_
  | with_reducible refine x_rg1 ?_
  | with_reducible refine x_rg1At ?_
  | with_reducible refine x_par3 ?_
  | with_reducible refine x_bm ?_
  | with_reducible refine x_bm0 ?_
  | with_reducible refine x_gSub ?_
  | with_reducible refine x_lc ?_
  | with_reducible refine x_yes ?_
  | with_reducible refine x_setf ?_
  | with_reducible refine x_next ?_
  | with_reducible refine x_B ?_
  | with_reducible refine x_and ?_
  | with_reducible refine x_or ?_
  | with_reducible refine x_not ?_
  | with_reducible refine x_andV ?_
  | with_reducible refine x_orV ?_
  | with_reducible refine x_notV ?_
  | with_reducible refine x_ifE ?_
  | with_reducible refine x_chain ?_
  | with_reducible refine x_chain3 ?_
  | with_reducible refine x_un ?_
  | with_reducible refine x_isNe ?_
  | with_reducible refine x_notNe ?_
  | with_reducible refine x_starA ?_
  | with_reducible refine x_plusI ?_
  | with_reducible refine x_minus ?_
  | with_reducible refine x_lt ?_
  | with_reducible refine x_le ?_
  | with_reducible refine x_gt ?_
  | with_reducible refine x_ge ?_
  | with_reducible refine x_eqI ?_
  | with_reducible refine x_neI ?_
  | with_reducible refine x_eqS ?_
  | with_reducible refine x_eqB ?_
  | with_reducible refine x_neB ?_
  | with_reducible refine x_int ?_
  | with_reducible refine x_intB ?_
  | with_reducible refine x_max2 ?_
  | with_reducible refine x_min2 ?_
  | with_reducible refine x_max3 ?_
  | with_reducible refine x_abs ?_
  | with_reducible refine x_neg ?_
  | with_reducible refine x_isi_ii ?_
  | with_reducible refine x_isi_ib ?_
  | with_reducible refine x_T ?_
  | with_reducible refine x_nT ?_
  | with_reducible refine x_nF ?_
  | with_reducible refine x_F ?_)
local macro_rules | `(tactic| walk_at "x") => `(tactic| repeat walk_at "x1")

local macro_rules | `(tactic| walk_at "eff") => `(tactic| first
  | refine x_eff (by assumption) (Wd.c_Effect (by assumption)) (Wd.n_Effect_chairs (by assumption)) eff_chairs ?_
  | refine x_eff (by assumption) (Wd.c_Effect (by assumption)) (Wd.n_Effect_low (by assumption)) eff_low ?_
  | refine x_eff (by assumption) (Wd.c_Effect (by assumption)) (Wd.n_Effect_high (by assumption)) eff_high ?_
  | refine x_eff (by assumption) (Wd.c_Effect (by assumption)) (Wd.n_Effect_extra (by assumption)) eff_extra ?_
  | refine x_eff (by assumption) (Wd.c_Effect (by assumption)) (Wd.n_Effect_goal (by assumption)) eff_goal ?_
  | refine x_eff (by assumption) (Wd.c_Effect (by assumption)) (Wd.n_Effect_turned (by assumption)) eff_turned ?_)
local macro_rules | `(tactic| walk_at "y") => `(tactic| repeat (first | walk_at "x1" | walk_at "eff"))

section
variable {P : Program} {w : World} {K : PySem.W.Frag} {mg : Str → Option Value} {base : Heap}
abbrev CE (K : PySem.W.Frag) : Addr := ga K "Effect"
theorem x_effM {C : Addr} {H : Hp} {p : Addr} {e : Eff} {m : Str} {kk : Addr → Hp → Prop} (h : EffAt C H p e) (l : (effF e).lookup m = none) (k : kk p H) : rMeth C m kk (.ref p) H := let ⟨_, q⟩ := h; x_methAt q l k
def spEI (K : PySem.W.Frag) : Sp := fun vs H Q _ => ∃ (x dx : Addr) (c lo hi ex : Int) (g : Option Int) (t : Bool), vs = [.ref x, .int c, .int lo, .int hi, .int ex, goalV g, .bl t] ∧ H x = some (.ins (CE K) dx []) ∧
  Q .non (upd H x (.ins (CE K) dx (effF (mkE c lo hi ex g t))))
theorem goal_non {g : Option Int} : decide (goalV g = V.non) = decide (g = none) := by
  cases g <;> rfl
theorem ok_Effect_init (W : Wd K mg) : FnR P w K mg base CX0 1 (ma K (ga K "Effect") "__init__") (spEI K) := by
  refine (def_ok W.F_Effect_init sc_Effect_init (fun _ _ _ _ _ _ us hl => match us, hl with | [_, _, _, _, _, _, _], _ => rfl) (fun vs H Q E ⟨x, dx, c, lo, hi, ex, g, t, e, _⟩ => by rw [e]; rfl) fun cdv A outer s H vs Q E hr ⟨x, dx, c, lo, hi, ex, g, t, e, hx, k⟩ => ?_).2
  subst e
  refine ⟨_, PSs.nox (pss_cons (ps_fldK K (pv 0) (pv 1)) (pss_cons (ps_fldK K (pv 0) (pv 2)) (pss_cons (ps_fldK K (pv 0) (pv 3)) (pss_cons (ps_fldK K (pv 0) (pv 4)) (pss_cons (ps_fldK K (pv 0) (pe_ifExp (PW.pt (pw_and (pt_cmp (pc_isN (pv 5))) (pw_and1 (pt_cmpR (op_eqK K hr.units) (pv 2) (pv 3) (nomark _))))) (pv 2) (pv 5))) (pss_one (ps_fldK K (pv 0) (pv 6)))))))), ?_⟩
  walk_at "x"
  refine x_setAt hx W.c_Effect W.n_Effect_chairs (by decide) ?_
  walk_at "x"
  refine x_setAt upd_same W.c_Effect W.n_Effect_low (of_decide_eq_true (by kernel_rfl)) ?_
  rw [upd_upd]
  walk_at "x"
  refine x_setAt upd_same W.c_Effect W.n_Effect_high (of_decide_eq_true (by kernel_rfl)) ?_
  rw [upd_upd]
  walk_at "x"
  refine x_setAt upd_same W.c_Effect W.n_Effect_extra (of_decide_eq_true (by kernel_rfl)) ?_
  rw [upd_upd]
  walk_at "x"
  rw [goal_non]
  have fin : ∀ g2 : Option Int, g2 = (if g = none ∧ lo = hi then some lo else g) → sFld K (tVar 0) (tVar 6) "turned" { nx := fun _ H' => Q .non H', rt := Q } [some (.ref x), some (.int c), some (.int lo), some (.int hi), some (.int ex), some (goalV g), some (.bl t)]
      (upd H x (.ins (CE K) dx (putF "goal" (goalV g2) (putF "extra" (.int ex) (putF "high" (.int hi) (putF "low" (.int lo) (putF "chairs" (.int c) []))))))) := by
    intro g2 e
    walk_at "x"
    refine x_setAt upd_same W.c_Effect W.n_Effect_turned (of_decide_eq_true (by kernel_rfl)) ?_
    rw [upd_upd]
    have ee : putF "turned" (.bl t) (putF "goal" (goalV g2) (putF "extra" (.int ex) (putF "high" (.int hi) (putF "low" (.int lo) (putF "chairs" (.int c) []))))) = effF (mkE c lo hi ex g t) := by
      unfold mkE
      rw [← e]
      kernel_rfl
    rw [ee]
    exact k
  refine x_ifd (fun e1 => ?_) fun e1 => ?_
  · walk_at "x"
    refine x_ifd (fun e2 => ?_) fun e2 => ?_
    · walk_at "x"
      refine x_setAt upd_same W.c_Effect W.n_Effect_goal (of_decide_eq_true (by kernel_rfl)) ?_
      rw [upd_upd]
      exact fin (some lo) (by rw [if_pos ⟨e1, e2⟩])
    · walk_at "x"
      refine x_setAt upd_same W.c_Effect W.n_Effect_goal (of_decide_eq_true (by kernel_rfl)) ?_
      rw [upd_upd]
      exact fin g (by rw [if_neg (fun z => e2 z.2)])
  · walk_at "x"
    refine x_setAt upd_same W.c_Effect W.n_Effect_goal (of_decide_eq_true (by kernel_rfl)) ?_
    rw [upd_upd]
    exact fin g (by rw [if_neg (fun z => e1 z.1)])
theorem mk_eff {c lo hi ex : Int} {g : Option Int} {gv : V} {t : Bool} {H : Hp} {kk : Addr → Hp → Prop} {E : XK} (eg : gv = goalV g) (k : ∀ x H', H x = none → Same H H' → EffAt (CE K) H' x (mkE c lo hi ex g t) → kk x H') :
    ∀ x dx, H x = none → H dx = none → dx ≠ x → spEI K [.ref x, .int c, .int lo, .int hi, .int ex, gv, .bl t] (upd (upd H dx (.own x)) x (.ins (CE K) dx [])) (fun v H2 => v = .non ∧ kk x H2) E := by
  intro x dx hx hdx hne
  refine ⟨x, dx, c, lo, hi, ex, g, t, by rw [eg], upd_same, rfl, ?_⟩
  rw [upd_upd]
  exact k x _ hx (Same.mut (Same.new hdx) hx) ⟨dx, upd_same⟩
def spE1 (K : PySem.W.Frag) (f : Eff → Int → Eff) : Sp := fun vs H Q _ => ∃ (p : Addr) (e : Eff) (n : Int), vs = [.ref p, .int n] ∧ EffAt (CE K) H p e ∧ ∀ x H', Same H H' → EffAt (CE K) H' x (f e n) → Q (.ref x) H'
theorem ok_Effect_at_least (W : Wd K mg) : FnR P w K mg base CX0 3 (ma K (ga K "Effect") "at_least") (spE1 K Eff.atLeast) := by
  refine (def_ok W.F_Effect_at_least sc_Effect_at_least (fun _ _ _ _ _ _ us hl => match us, hl with | [_, _], _ => rfl) (fun vs H Q E ⟨p, e, n, ev, _⟩ => by rw [ev]; rfl) fun cdv A outer s H vs Q E hr ⟨p, e, n, ev, hp, k⟩ => ?_).2
  subst ev
  refine ⟨_, PSs.nox (pss_cons (ps_if (pt_cmp (pc_isN (pe_fldK K (pv 0)))) (pss_cons (ps_if (pt_cmpR op_leI (pv 1) (pe_fldK K (pv 0)) (nomark _)) (pss_one (ps_ret (pe_mk W.mk_Effect (ok_Effect_init W) (hr.mono (by decide)) W.g_Effect pass0 rfl (pa_cons (pe_fldK K (pv 0)) (pa_cons (pe_callB (c_max2 rfl) (by rfl) W.f_max (by decide +kernel) (pa_cons (pe_fldK K (pv 0)) (pa_cons (pv 1) pa_nil))) (pa_cons (pe_fldK K (pv 0)) (pa_cons pe_int (pa_cons pe_non (pa_cons (pe_fldK K (pv 0)) pa_nil))))))))) pss_nil) (pss_one (ps_ret (pe_mk W.mk_Effect (ok_Effect_init W) (hr.mono (by decide)) W.g_Effect pass0 rfl (pa_cons (pe_fldK K (pv 0)) (pa_cons (pe_fldK K (pv 0)) (pa_cons (pe_fldK K (pv 0)) (pa_cons (pe_op op_minus (pv 1) (pe_fldK K (pv 0))) (pa_cons (pv 1) (pa_cons (pe_fldK K (pv 0)) pa_nil)))))))))) pss_nil) (pss_cons (ps_if (pt_cmpR op_leI (pv 1) (pe_fldK K (pv 0)) (nomark _)) (pss_one (ps_ret (pv 0))) pss_nil) (pss_one (ps_ret (pe_mk W.mk_Effect (ok_Effect_init W) (hr.mono (by decide)) W.g_Effect pass0 rfl (pa_cons (pe_fldK K (pv 0)) (pa_cons (pe_fldK K (pv 0)) (pa_cons (pe_fldK K (pv 0)) (pa_cons (pe_op op_minus (pe_op op_plus (pe_fldK K (pv 0)) (pv 1)) (pe_fldK K (pv 0))) (pa_cons (pv 1) (pa_cons (pe_fldK K (pv 0)) pa_nil))))))))))), ?_⟩
  unfold Eff.atLeast at k
  walk_at "y"
  rw [goal_non]
  cases g : e.goal with
  | none =>
    rw [g] at k
    dsimp only at k
    refine x_T ?_
    walk_at "y"
    refine x_ifd (fun h => ?_) fun h => ?_
    · rw [if_pos h] at k
      walk_at "y"
      exact mk_eff (g := none) rfl fun x H' _ s1 he => k x H' s1 he
    · rw [if_neg h] at k
      walk_at "y"
      exact mk_eff (g := some n) rfl fun x H' _ s1 he => k x H' s1 he
  | some y =>
    rw [g] at k
    dsimp only at k
    refine x_F ?_
    walk_at "y"
    rw [g]
    refine x_le ?_
    walk_at "y"
    refine x_ifd (fun h => ?_) fun h => ?_
    · rw [if_pos h] at k
      walk_at "y"
      exact k p H (Same.refl H) hp
    · rw [if_neg h] at k
      walk_at "y"
      rw [g]
      refine x_minus ?_
      walk_at "y"
      exact mk_eff (g := some n) rfl fun x H' _ s1 he => k x H' s1 he
theorem ok_Effect_mirrored (W : Wd K mg) : FnR P w K mg base CX0 3 (ma K (ga K "Effect") "mirrored") (fun vs H Q _ => ∃ (p : Addr) (e : Eff), vs = [.ref p] ∧ EffAt (CE K) H p e ∧ ∀ x H', Same H H' → EffAt (CE K) H' x e.mir → Q (.ref x) H') := by
  refine (def_ok W.F_Effect_mirrored sc_Effect_mirrored (fun _ _ _ _ _ _ us hl => match us, hl with | [_], _ => rfl) (fun vs H Q E ⟨p, e, ev, _⟩ => by rw [ev]; rfl) fun cdv A outer s H vs Q E hr ⟨p, e, ev, hp, k⟩ => ?_).2
  subst ev
  refine ⟨_, PSs.nox (pss_cons (ps_set (i := 1) sc_Effect_mirrored.nd rfl (Or.inl rfl) (pe_ifExp (pt_cmp (pc_isN (pe_fldK K (pv 0)))) pe_non (pe_op op_minus (pe_fldK K (pv 0)) (pe_fldK K (pv 0))))) (pss_one (ps_ret (pe_mk W.mk_Effect (ok_Effect_init W) (hr.mono (by decide)) W.g_Effect pass0 rfl (pa_cons (pe_fldK K (pv 0)) (pa_cons (pe_op op_minus (pe_fldK K (pv 0)) (pe_fldK K (pv 0))) (pa_cons (pe_op op_minus (pe_fldK K (pv 0)) (pe_fldK K (pv 0))) (pa_cons (pe_fldK K (pv 0)) (pa_cons (pv 1) (pa_cons (pe_fldK K (pv 0)) pa_nil)))))))))), ?_⟩
  unfold Eff.mir at k
  walk_at "y"
  rw [goal_non]
  cases g : e.goal with
  | none =>
    rw [g] at k
    refine x_T ?_
    walk_at "y"
    exact mk_eff (g := none) rfl fun x H' _ s1 he => k x H' s1 he
  | some y =>
    rw [g] at k
    refine x_F ?_
    walk_at "y"
    rw [g]
    refine x_minus ?_
    walk_at "y"
    exact mk_eff (g := some (e.c - y)) rfl fun x H' _ s1 he => k x H' s1 he
theorem ok_Effect_at_most (W : Wd K mg) : FnR P w K mg base CX0 4 (ma K (ga K "Effect") "at_most") (spE1 K Eff.atMost) := by
  refine (def_ok W.F_Effect_at_most sc_Effect_at_most (fun _ _ _ _ _ _ us hl => match us, hl with | [_, _], _ => rfl) (fun vs H Q E ⟨p, e, n, ev, _⟩ => by rw [ev]; rfl) fun cdv A outer s H vs Q E hr ⟨p, e, n, ev, hp, k⟩ => ?_).2
  subst ev
  refine ⟨_, PSs.nox (pss_one (ps_ret (pe_methR0 W.c_Effect W.m_Effect_mirrored (ok_Effect_mirrored W) (hr.mono (by decide)) pass0 (pe_methR W.c_Effect W.m_Effect_at_least (ok_Effect_at_least W) (hr.mono (by decide)) pass0 (pe_methR0 W.c_Effect W.m_Effect_mirrored (ok_Effect_mirrored W) (hr.mono (by decide)) pass0 (pv 0)) (pa_cons (pe_op op_minus (pe_fldK K (pv 0)) (pv 1)) pa_nil))))), ?_⟩
  walk_at "y"
  refine x_effM hp (by kernel_rfl) ?_
  walk_at "y"
  refine ⟨p, e, rfl, hp, fun x1 H1 s1 h1 => ?_⟩
  refine x_effM h1 (by kernel_rfl) ?_
  have hp1 := hp.mono s1
  walk_at "y"
  refine ⟨x1, e.mir, e.c - n, rfl, h1, fun x2 H2 s2 h2 => ?_⟩
  refine x_effM h2 (by kernel_rfl) ?_
  walk_at "y"
  exact ⟨x2, _, rfl, h2, fun x3 H3 s3 h3 => k x3 H3 ((s1.trans s2).trans s3) h3⟩
theorem ok_nothing (W : Wd K mg) : FnR P w K mg base CX0 3 (ga K "nothing") (fun vs H Q _ => ∃ c : Int, vs = [.int c] ∧ ∀ x H', Same H H' → EffAt (CE K) H' x (nothing c) → Q (.ref x) H') := by
  refine (def_ok W.F_nothing sc_nothing (fun _ _ _ _ _ _ us hl => match us, hl with | [_], _ => rfl) (fun vs H Q E ⟨c, ev, _⟩ => by rw [ev]; rfl) fun cdv A outer s H vs Q E hr ⟨c, ev, k⟩ => ?_).2
  subst ev
  refine ⟨_, PSs.nox (pss_one (ps_ret (pe_mk W.mk_Effect (ok_Effect_init W) (hr.mono (by decide)) W.g_Effect pass0 rfl (pa_cons (pv 0) (pa_cons pe_int (pa_cons (pv 0) (pa_cons pe_int (pa_cons pe_non (pa_cons pe_bl pa_nil))))))))), ?_⟩
  walk_at "y"
  exact mk_eff (g := none) rfl fun x H' _ s1 he => k x H' s1 he
def spEO (K : PySem.W.Frag) : Sp := fun vs H Q _ => ∃ (p : Addr) (c : Int) (l : List Stp), vs = [.ref p, .int c] ∧ PlanAt (CP K) H p l ∧ l.length ≤ 60 ∧ ∀ x H', Same H H' → EffAt (CE K) H' x (effOf c l) → Q (.ref x) H'
theorem ok_effect_of (W : Wd K mg) : FnR P w K mg base CX0 5 (ga K "effect_of") (spEO K) := by
  refine (def_ok W.F_effect_of sc_effect_of (fun _ _ _ _ _ _ us hl => match us, hl with | [_, _], _ => rfl) (fun vs H Q E ⟨p, c, l, ev, _⟩ => by rw [ev]; rfl) fun cdv A outer s H vs Q E hr ⟨p, c, l, ev, hp, h60, k⟩ => ?_).2
  subst ev
  refine ⟨_, PSs.nox (pss_cons (ps_set (i := 2) sc_effect_of.nd rfl (Or.inl rfl) (pe_callR (ok_nothing W) (hr.mono (by decide)) W.g_nothing W.k_nothing pass0 rfl (pa_cons (pv 1) pa_nil))) (pss_cons (ps_for PassesOwn.never rfl (pi_listK K (pe_callR (ok_sides_of W) (hr.mono (by decide)) W.g_sides_of W.k_sides_of pass0 rfl (pa_cons (pv 0) pa_nil))) (pg_tupK (n := 2) K rfl (pgs_cons (pg_name (i := 3) sc_effect_of.nd rfl (Or.inl rfl)) (pgs_cons (pg_name (i := 4) sc_effect_of.nd rfl (Or.inl rfl)) pgs_nil))) (pss_one (ps_if (pt_cmpR (op_eqK K hr.units) (pv 3) pe_int (nomark _)) (pss_one (ps_set (i := 2) sc_effect_of.nd rfl (Or.inl rfl) (pe_methR W.c_Effect W.m_Effect_at_least (ok_Effect_at_least W) (hr.mono (by decide)) pass0 (pv 2) (pa_cons (pv 4) pa_nil)))) (pss_one (ps_if (pt_cmpR (op_eqK K hr.units) (pv 3) (pe_un un_neg pe_int) (nomark _)) (pss_one (ps_set (i := 2) sc_effect_of.nd rfl (Or.inl rfl) (pe_methR W.c_Effect W.m_Effect_at_most (ok_Effect_at_most W) (hr.mono (by decide)) pass0 (pv 2) (pa_cons (pe_op op_minus (pv 1) (pv 4)) pa_nil)))) pss_nil))))) (pss_one (ps_ret (pe_mk W.mk_Effect (ok_Effect_init W) (hr.mono (by decide)) W.g_Effect pass0 rfl (pa_cons (pv 1) (pa_cons (pe_fldK K (pv 2)) (pa_cons (pe_fldK K (pv 2)) (pa_cons (pe_fldK K (pv 2)) (pa_cons (pe_fldK K (pv 2)) (pa_cons (pe_propR W.c_Plan W.p_Plan_is_turning (ok_Plan_is_turning W) (hr.mono (by decide)) (pv 0)) pa_nil))))))))))), ?_⟩
  walk_at "y"
  refine ⟨c, rfl, fun x0 H0 s0 h0 => ?_⟩
  walk_at "y"
  refine ⟨p, l, rfl, hp.mono s0, h60, fun r ps H1 hr0 s1 hps hpp => ?_⟩
  refine x_iLAt (SqL.of hps) (x_loop walk_list (fun i σ H2 => Same H1 H2 ∧ ∃ x a b, σ = [some (.ref p), some (.int c), some (.ref x), a, b] ∧ EffAt (CE K) H2 x (((sides 1 l).take i).foldl (effStep c) (nothing c))) ⟨Same.refl _, x0, _, _, rfl, h0.mono s1⟩ (fun i σ H2 _ ⟨s2, _⟩ => SqL.of (s2 _ _ hps)) ?_ ?_)
  · rintro i y σ H2 H3 hi ⟨s2, x, a, b, rfl, hx⟩ ⟨rfl, ey⟩
    obtain ⟨⟨sd, n⟩, hst, q, rfl, hq⟩ := pr_at hpp ey
    have tk : ((sides 1 l).take (i + 1)).foldl (effStep c) (nothing c) = effStep c (((sides 1 l).take i).foldl (effStep c) (nothing c)) (sd, n) := by
      rw [List.take_add_one, hst, List.foldl_append]
      rfl
    rw [tk]
    unfold effStep
    refine x_gTup (s2 _ _ hq) rfl ?_
    unfold pairV
    walk_at "y"
    refine x_ifd (fun e => ?_) fun e => ?_
    · rw [if_pos e]
      walk_at "y"
      refine x_effM hx (by kernel_rfl) ?_
      walk_at "y"
      refine ⟨x, _, n, rfl, hx, fun x2 H4 s4 h4 => ?_⟩
      walk_at "y"
      exact ⟨s2.trans s4, x2, _, _, rfl, h4⟩
    · rw [if_neg e]
      walk_at "y"
      refine x_ifd (fun e2 => ?_) fun e2 => ?_
      · rw [if_pos e2]
        walk_at "y"
        refine x_effM hx (by kernel_rfl) ?_
        walk_at "y"
        refine ⟨x, _, c - n, rfl, hx, fun x2 H4 s4 h4 => ?_⟩
        walk_at "y"
        exact ⟨s2.trans s4, x2, _, _, rfl, h4⟩
      · rw [if_neg e2]
        walk_at "y"
        exact ⟨s2, x, _, _, rfl, hx⟩
  · rintro σ H2 ⟨s2, x, a, b, rfl, hx⟩
    have hl : ps.length = (sides 1 l).length := pr_len hpp
    rw [hl, List.take_length] at hx
    have hp2 := ((hp.mono s0).mono s1).mono s2
    walk_at "y"
    obtain ⟨dx, t, vs, g1, g2, g3⟩ := hp2.ex
    refine x_propAt g1 ⟨p, l, rfl, hp2, h60, fun H3 s3 => ?_⟩
    walk_at "y"
    exact mk_eff rfl fun x3 H4 _ s4 he => k x3 H4 ((s0.trans s1).trans ((s2.trans s3).trans s4)) he
end
end K14

set_option Elab.async false
set_option linter.all false
set_option autoImplicit false
set_option maxRecDepth 100000
set_option pp.maxSteps 1500
set_option maxHeartbeats 4000000
namespace K14
open PySem PySem.Spec PyProof.Rows L2 He ChH Ch ChM
local macro_rules | `(tactic| walk_at "x1") => `(tactic| first
  | ((with_reducible apply x_var); exact rfl)
  | with_reducible refine x_c ?_
  | with_reducible refine x_op ?_
  | with_reducible refine x_seq ?_
  | with_reducible refine x_asg ?_
  | with_reducible refine x_gname ?_
  | with_reducible refine x_cons ?_
  | with_reducible refine x_nil ?_
  | with_reducible refine x_fld ?_
  | with_reducible refine x_ret ?_
  | with_reducible refine x_ifS ?_
  | with_reducible refine x_test ?_
  | with_reducible refine x_ex ?_
  | with_reducible refine x_call ?_
  | with_reducible refine x_mk ?_
  | with_reducible refine x_meth ?_
  | with_reducible refine x_prop ?_
  | with_reducible refine x_cb ?_
  | with_reducible refine x_tup ?_
  | with_reducible refine x_lst ?_
  | with_reducible refine x_drop ?_
  | with_reducible refine x_for ?_
  | with_reducible refine x_iL ?_
  | with_reducible refine x_iT ?_
  | with_reducible refine x_iE ?_
  | with_reducible refine x_iU ?_
  | with_reducible refine x_iR1 ?_
  | with_reducible refine x_iR2 ?_
  | with_reducible refine x_gcons ?_
  | with_reducible refine x_gnil ?_
  | with_reducible refine x_par ?_
  | with_reducible refine x_lstRg ?_
  | with_reducible refine x_rg1 ?_
  | with_reducible refine x_rg1At ?_
  | with_reducible refine x_par3 ?_
  | with_reducible refine x_bm ?_
  | with_reducible refine x_bm0 ?_
  | with_reducible refine x_gSub ?_
  | with_reducible refine x_lc ?_
  | with_reducible refine x_yes ?_
  | with_reducible refine x_setf ?_
  | with_reducible refine x_next ?_
  | with_reducible refine x_B ?_
  | with_reducible refine x_and ?_
  | with_reducible refine x_or ?_
  | with_reducible refine x_not ?_
  | with_reducible refine x_andV ?_
  | with_reducible refine x_orV ?_
  | with_reducible refine x_notV ?_
  | with_reducible refine x_ifE ?_
  | with_reducible refine x_chain ?_
  | with_reducible refine x_chain3 ?_
  | with_reducible refine x_un ?_
  | with_reducible refine x_isNe ?_
  | with_reducible refine x_notNe ?_
  | with_reducible refine x_starA ?_
  | with_reducible refine x_plusI ?_
  | with_reducible refine x_minus ?_
  | with_reducible refine x_lt ?_
  | with_reducible refine x_le ?_
  | with_reducible refine x_gt ?_
  | with_reducible refine x_ge ?_
  | with_reducible refine x_eqI ?_
  | with_reducible refine x_neI ?_
  | with_reducible refine x_eqS ?_
  | with_reducible refine x_eqB ?_
  | with_reducible refine x_neB ?_
  | with_reducible refine x_int ?_
  | with_reducible refine x_intB ?_
  | with_reducible refine x_max2 ?_
  | with_reducible refine x_min2 ?_
  | with_reducible refine x_max3 ?_
  | with_reducible refine x_abs ?_
  | with_reducible refine x_neg ?_
  | with_reducible refine x_isi_ii ?_
  | with_reducible refine x_isi_ib ?_
  | with_reducible refine x_T ?_
  | with_reducible refine x_nT ?_
  | with_reducible refine x_nF ?_
  | with_reducible refine x_F ?_)
local macro_rules | `(tactic| walk_at "x") => `(tactic| repeat walk_at "x1")

local macro_rules | `(tactic| walk_at "eff") => `(tactic| first
  | refine x_eff (by assumption) (Wd.c_Effect (by assumption)) (Wd.n_Effect_chairs (by assumption)) eff_chairs ?_
  | refine x_eff (by assumption) (Wd.c_Effect (by assumption)) (Wd.n_Effect_low (by assumption)) eff_low ?_
  | refine x_eff (by assumption) (Wd.c_Effect (by assumption)) (Wd.n_Effect_high (by assumption)) eff_high ?_
  | refine x_eff (by assumption) (Wd.c_Effect (by assumption)) (Wd.n_Effect_extra (by assumption)) eff_extra ?_
  | refine x_eff (by assumption) (Wd.c_Effect (by assumption)) (Wd.n_Effect_goal (by assumption)) eff_goal ?_
  | refine x_eff (by assumption) (Wd.c_Effect (by assumption)) (Wd.n_Effect_turned (by assumption)) eff_turned ?_)
local macro_rules | `(tactic| walk_at "y") => `(tactic| repeat (first | walk_at "x1" | walk_at "eff"))

section
variable {P : Program} {w : World} {K : PySem.W.Frag} {mg : Str → Option Value} {base : Heap}
theorem divF {i j : Int} (h : 0 < j) (h2 : j ≤ 2000000000000000000) : CDivW i j := wide_div (b := 62) h (by omega) (by decide) (by decide)
theorem ok_Effect_followed (W : Wd K mg) : FnR P w K mg base CX0 5 (ma K (ga K "Effect") "followed") (fun vs H Q _ => ∃ (p q : Addr) (a b : Eff), vs = [.ref p, .ref q] ∧ EffAt (CE K) H p a ∧ EffAt (CE K) H q b ∧ ∀ x H', Same H H' → EffAt (CE K) H' x (a.followed b) → Q (.ref x) H') := by
  refine (def_ok W.F_Effect_followed sc_Effect_followed (fun _ _ _ _ _ _ us hl => match us, hl with | [_, _], _ => rfl) (fun vs H Q E ⟨p, q, a, b, ev, _⟩ => by rw [ev]; rfl) fun cdv A outer s H vs Q E hr ⟨p, q, a, b, ev, hp, hq, k⟩ => ?_).2
  subst ev
  refine ⟨_, PSs.nox (pss_cons (ps_set (i := 2) sc_Effect_followed.nd rfl (Or.inl rfl) (pe_ifExp (pt_val (pe_fldK K (pv 0))) (pe_methR0 W.c_Effect W.m_Effect_mirrored (ok_Effect_mirrored W) (hr.mono (by decide)) pass0 (pv 1)) (pv 1))) (pss_cons (ps_set (i := 3) sc_Effect_followed.nd rfl (Or.inl rfl) (pe_methR W.c_Effect W.m_Effect_at_most (ok_Effect_at_most W) (hr.mono (by decide)) pass0 (pe_methR W.c_Effect W.m_Effect_at_least (ok_Effect_at_least W) (hr.mono (by decide)) pass0 (pv 0) (pa_cons (pe_fldK K (pv 2)) pa_nil)) (pa_cons (pe_fldK K (pv 2)) pa_nil))) (pss_cons (ps_set (i := 4) sc_Effect_followed.nd rfl (Or.inl rfl) (pe_ifExp (pt_cmp (pc_isN (pe_fldK K (pv 2)))) (pe_fldK K (pv 3)) (pe_fldK K (pv 2)))) (pss_cons (ps_set (i := 5) sc_Effect_followed.nd rfl (Or.inl rfl) (pe_cmpR (op_neK K hr.units) (pe_fldK K (pv 0)) (pe_fldK K (pv 1)) (nomark _))) (pss_one (ps_ret (pe_mk W.mk_Effect (ok_Effect_init W) (hr.mono (by decide)) W.g_Effect pass0 rfl (pa_cons (pe_fldK K (pv 0)) (pa_cons (pe_fldK K (pv 3)) (pa_cons (pe_fldK K (pv 3)) (pa_cons (pe_op op_plus (pe_fldK K (pv 3)) (pe_fldK K (pv 2))) (pa_cons (pv 4) (pa_cons (pv 5) pa_nil))))))))))))), ?_⟩
  walk_at "y"
  refine x_ifSet (fun v H2 => ∃ r, v = .ref r ∧ Same H H2 ∧ EffAt (CE K) H2 r (a.later b)) (fun ht Q' kQ => ?T) (fun ht Q' kQ => ?F) ?rest
  case T =>
    walk_at "y"
    refine x_effM hq (by kernel_rfl) ?_
    walk_at "y"
    refine ⟨q, b, rfl, hq, fun x1 H1 s1 h1 => ?_⟩
    exact kQ _ _ ⟨x1, rfl, s1, by unfold Eff.later; rw [if_pos ht]; exact h1⟩
  case F =>
    walk_at "y"
    exact kQ _ _ ⟨q, rfl, Same.refl H, by unfold Eff.later; rw [if_neg (by rw [ht]; decide)]; exact hq⟩
  case rest =>
    rintro _ H2 ⟨r, rfl, s2, hL⟩
    have hp2 := hp.mono s2
    have hq2 := hq.mono s2
    walk_at "y"
    refine x_effM hp2 (by kernel_rfl) ?_
    walk_at "y"
    refine ⟨p, a, _, rfl, hp2, fun x3 H3 s3 h3 => ?_⟩
    have hL3 := hL.mono s3
    refine x_effM h3 (by kernel_rfl) ?_
    walk_at "y"
    refine ⟨x3, _, _, rfl, h3, fun x4 H4 s4 h4 => ?_⟩
    have hL4 := hL3.mono s4
    have hp4 := (hp2.mono s3).mono s4
    have hq4 := (hq2.mono s3).mono s4
    have s04 := s2.trans (s3.trans s4)
    walk_at "y"
    rw [goal_non]
    cases g : (a.later b).goal with
    | none =>
      refine x_T ?_
      walk_at "y"
      exact mk_eff (g := goal2 ((a.atLeast (a.later b).lo).atMost (a.later b).hi).goal (a.later b).goal) (by rw [g]; rfl) fun x H' _ s1 he => k x H' (s04.trans s1) he
    | some y =>
      refine x_F ?_
      walk_at "y"
      exact mk_eff (g := goal2 ((a.atLeast (a.later b).lo).atMost (a.later b).hi).goal (a.later b).goal) (by rw [g]; rfl) fun x H' _ s1 he => k x H' (s04.trans s1) he
theorem ok_Effect_carried (W : Wd K mg) : FnR P w K mg base CX0 1 (ma K (ga K "Effect") "carried") (fun vs H Q _ => ∃ (p : Addr) (e : Eff) (x : Int), vs = [.ref p, .int x] ∧ EffAt (CE K) H p e ∧ Q (.int (e.carried x)) H) := by
  refine (def_ok W.F_Effect_carried sc_Effect_carried (fun _ _ _ _ _ _ us hl => match us, hl with | [_, _], _ => rfl) (fun vs H Q E ⟨p, e, x, ev, _⟩ => by rw [ev]; rfl) fun cdv A outer s H vs Q E hr ⟨p, e, x, ev, hp, k⟩ => ?_).2
  subst ev
  refine ⟨_, PSs.nox (pss_one (ps_ret (pe_op op_plus (pe_callB (c_max3 rfl) (by rfl) W.f_max (by decide +kernel) (pa_cons (pe_op op_minus (pe_fldK K (pv 0)) (pv 1)) (pa_cons (pe_op op_minus (pv 1) (pe_fldK K (pv 0))) (pa_cons pe_int pa_nil)))) (pe_fldK K (pv 0))))), ?_⟩
  walk_at "y"
  exact k
theorem ok_Effect_place (W : Wd K mg) : FnR P w K mg base CX0 1 (ma K (ga K "Effect") "place") (fun vs H Q _ => ∃ (p : Addr) (e : Eff) (x : Int), vs = [.ref p, .int x] ∧ EffAt (CE K) H p e ∧ Q (.int (e.place x)) H) := by
  refine (def_ok W.F_Effect_place sc_Effect_place (fun _ _ _ _ _ _ us hl => match us, hl with | [_, _], _ => rfl) (fun vs H Q E ⟨p, e, x, ev, _⟩ => by rw [ev]; rfl) fun cdv A outer s H vs Q E hr ⟨p, e, x, ev, hp, k⟩ => ?_).2
  subst ev
  refine ⟨_, PSs.nox (pss_one (ps_ret (pe_ifExp (pt_cmp (pc_isN (pe_fldK K (pv 0)))) (pe_callB (c_min2 rfl) (by rfl) W.f_min (by decide +kernel) (pa_cons (pe_callB (c_max2 rfl) (by rfl) W.f_max (by decide +kernel) (pa_cons (pv 1) (pa_cons (pe_fldK K (pv 0)) pa_nil))) (pa_cons (pe_fldK K (pv 0)) pa_nil))) (pe_fldK K (pv 0))))), ?_⟩
  unfold Eff.place at k
  walk_at "y"
  rw [goal_non]
  cases g : e.goal with
  | none =>
    rw [g] at k
    refine x_T ?_
    walk_at "y"
    exact k
  | some y =>
    rw [g] at k
    refine x_F ?_
    walk_at "y"
    rw [g]
    exact k
theorem ok_Effect_end (W : Wd K mg) : FnR P w K mg base CX0 2 (ma K (ga K "Effect") "end") (fun vs H Q _ => ∃ (p : Addr) (e : Eff) (x : Int), vs = [.ref p, .int x] ∧ EffAt (CE K) H p e ∧ Q (.int (e.fin x)) H) := by
  refine (def_ok W.F_Effect_end sc_Effect_end (fun _ _ _ _ _ _ us hl => match us, hl with | [_, _], _ => rfl) (fun vs H Q E ⟨p, e, x, ev, _⟩ => by rw [ev]; rfl) fun cdv A outer s H vs Q E hr ⟨p, e, x, ev, hp, k⟩ => ?_).2
  subst ev
  refine ⟨_, PSs.nox (pss_cons (ps_set (i := 2) sc_Effect_end.nd rfl (Or.inl rfl) (pe_methR W.c_Effect W.m_Effect_place (ok_Effect_place W) (hr.mono (by decide)) pass0 (pv 0) (pa_cons (pv 1) pa_nil))) (pss_one (ps_ret (pe_ifExp (pt_val (pe_fldK K (pv 0))) (pe_op op_minus (pe_fldK K (pv 0)) (pv 2)) (pv 2))))), ?_⟩
  walk_at "y"
  refine x_effM hp (by kernel_rfl) ?_
  walk_at "y"
  refine ⟨p, e, x, rfl, hp, ?_⟩
  walk_at "y"
  unfold Eff.fin at k
  refine x_if (fun ht => ?_) fun ht => ?_
  · rw [if_pos ht] at k
    walk_at "y"
    exact k
  · rw [if_neg (by rw [ht]; decide)] at k
    walk_at "y"
    exact k
theorem ok_power (W : Wd K mg) : FnR P w K mg base CX0 6 (ga K "power") (fun vs H Q _ => ∃ (p : Addr) (e : Eff) (n : Int), vs = [.ref p, .int n] ∧ EffAt (CE K) H p e ∧ e.Ok ∧ 0 ≤ n ∧ ∀ x H' f, Same H H' → EffAt (CE K) H' x f → IsPow e n.toNat f → Q (.ref x) H') := by
  refine (def_ok W.F_power sc_power (fun _ _ _ _ _ _ us hl => match us, hl with | [_, _], _ => rfl) (fun vs H Q E ⟨p, e, n, ev, _⟩ => by rw [ev]; rfl) fun cdv A outer s H vs Q E hr ⟨p, e, n, ev, hp, he, hn, k⟩ => ?_).2
  subst ev
  refine ⟨_, PSs.nox (pss_cons (ps_par (i := 2) (j := 3) (by rfl) sc_power.nd rfl rfl (by decide) rfl rfl (pa_cons (pe_callR (ok_nothing W) (hr.mono (by decide)) W.g_nothing W.k_nothing pass0 rfl (pa_cons (pe_fldK K (pv 0)) pa_nil)) (pa_cons (pv 0) pa_nil)) (by rfl)) (pss_cons (ps_while PassesOwn.never (pt_cmpR op_gtI (pv 1) pe_int (nomark _)) (pss_cons (ps_if (pt_cmpR (op_eqK K hr.units) (pe_op op_modP (pe_callTy c_int (by rfl) W.f_int (by decide +kernel) (pa_cons (pv 1) pa_nil)) pe_int) pe_int (nomark _)) (pss_one (ps_set (i := 2) sc_power.nd rfl (Or.inl rfl) (pe_methR W.c_Effect W.m_Effect_followed (ok_Effect_followed W) (hr.mono (by decide)) pass0 (pv 2) (pa_cons (pv 3) pa_nil)))) pss_nil) (pss_cons (ps_set (i := 3) sc_power.nd rfl (Or.inl rfl) (pe_methR W.c_Effect W.m_Effect_followed (ok_Effect_followed W) (hr.mono (by decide)) pass0 (pv 3) (pa_cons (pv 3) pa_nil))) (pss_one (ps_set (i := 1) sc_power.nd rfl (Or.inl rfl) (pe_op op_divP (pv 1) pe_int)))))) (pss_one (ps_ret (pv 2))))), ?_⟩
  walk_at "y"
  refine ⟨e.c, rfl, fun x0 H0 s0 h0 => ?_⟩
  walk_at "y"
  refine ⟨_, _, rfl, ?_⟩
  walk_at "y"
  refine x_while (fun m σ H1 => ∃ (q r : Addr) (t : Int) (f g : Eff) (i j : Nat), σ = [some (.ref p), some (.int t), some (.ref q), some (.ref r)] ∧ m = t.toNat ∧ 0 ≤ t ∧ Same H H1 ∧ EffAt (CE K) H1 q f ∧ EffAt (CE K) H1 r g ∧ IsPow e i f ∧ IsPow e j g ∧ i + j * t.toNat = n.toNat) n.toNat
    ⟨x0, p, n, _, e, 0, 1, rfl, rfl, hn, s0, h0, hp.mono s0, isPow_zero he, isPow_one he, by omega⟩ ?_
  rintro m σ H1 ⟨q, r, t, f, g, i, j, rfl, rfl, t0, s1, hq, hg, pf, pg, hs⟩
  walk_at "y"
  refine x_ifd (fun ht => x_turn ?_) fun ht => ?_
  · walk_at "y"
    refine x_mod (by decide) ?_
    walk_at "y"
    have key : t.toNat = 2 * (t / 2).toNat + (t % 2).toNat := by omega
    refine x_whenSet' (fun v H2 => ∃ q2 f2 i2, v = .ref q2 ∧ Same H1 H2 ∧ EffAt (CE K) H2 q2 f2 ∧ IsPow e i2 f2 ∧ i2 = i + j * (t % 2).toNat) (.ref q) rfl (fun hne => ⟨q, f, i, rfl, Same.refl _, hq, pf, ?_⟩) (fun hodd Q' kQ => ?odd) ?rest
    case odd =>
      walk_at "y"
      refine x_effM hq (by kernel_rfl) ?_
      walk_at "y"
      refine ⟨q, r, f, g, rfl, hq, hg, fun x2 H2 s2 h2 => kQ _ _ ⟨x2, _, _, rfl, s2, h2, isPow_add he pf pg, ?_⟩⟩
      rw [hodd]
      show i + j = i + j * 1
      omega
    · rw [show (t % 2).toNat = 0 by omega]
      rfl
    case rest =>
      rintro _ H2 ⟨q2, f2, i2, rfl, s2, h2, p2, ei⟩
      have hg2 := hg.mono s2
      walk_at "y"
      refine x_effM hg2 (by kernel_rfl) ?_
      walk_at "y"
      refine ⟨r, r, g, g, rfl, hg2, hg2, fun x3 H3 s3 h3 => ?_⟩
      walk_at "y"
      refine x_div (divF (by decide) (by decide)) ?_
      walk_at "y"
      refine ⟨_, ?_, q2, x3, t / 2, f2, _, i2, j + j, rfl, rfl, by omega, s1.trans (s2.trans s3), h2.mono s3, h3, p2, isPow_add he pg pg, ?_⟩
      · omega
      · rw [ei, ← hs]
        rw [key, Nat.mul_add, ← Nat.two_mul, Nat.mul_comm 2 j, Nat.mul_assoc]
        have : ((2 * (t / 2).toNat + (t % 2).toNat : Nat) : Nat) = t.toNat := key.symm
        omega
  · have t00 : t = 0 := by omega
    subst t00
    walk_at "y"
    refine k q H1 f s1 hq ?_
    have : i = n.toNat := by
      rw [← hs]
      show i = i + j * 0
      omega
    rw [← this]
    exact pf
theorem ok_validate_number (W : Wd K mg) : FnR P w K mg base CX0 1 (ga K "validate_number") (fun vs H Q _ => ∃ a b c : Int, vs = [.int a, .int b, .int c] ∧ b ≤ a ∧ a ≤ c ∧ Q .non H) := by
  refine (def_ok W.F_validate_number sc_validate_number (fun _ _ _ _ _ _ us hl => match us, hl with | [_, _, _], _ => rfl) (fun vs H Q E ⟨a, b, c, ev, _⟩ => by rw [ev]; rfl) fun cdv A outer s H vs Q E hr ⟨a, b, c, ev, h1, h2, k⟩ => ?_).2
  subst ev
  refine ⟨_, PSs.nox (pss_one (ps_if (pt_not (pt_chain op_leI op_leI (pv 1) (pv 0) (pv 2))) (pss_one ps_never) pss_nil)), ?_⟩
  walk_at "x"
  rw [decide_eq_true h1]
  walk_at "x"
  rw [decide_eq_true h2]
  walk_at "x"
  exact k
theorem ok_validate_start (W : Wd K mg) : FnR P w K mg base CX0 2 (ga K "validate_start") (fun vs H Q _ => ∃ c x : Int, vs = [.int c, .int x] ∧ 0 ≤ x ∧ x ≤ c ∧ Q .non H) := by
  refine (def_ok W.F_validate_start sc_validate_start (fun _ _ _ _ _ _ us hl => match us, hl with | [_, _], _ => rfl) (fun vs H Q E ⟨c, x, ev, _⟩ => by rw [ev]; rfl) fun cdv A outer s H vs Q E hr ⟨c, x, ev, h1, h2, k⟩ => ?_).2
  subst ev
  refine ⟨_, PSs.nox (pss_one (ps_expr (pe_callR (ok_validate_number W) (hr.mono (by decide)) W.g_validate_number W.k_validate_number pass0 rfl (pa_cons (pv 1) (pa_cons pe_int (pa_cons (pv 0) pa_nil)))))), ?_⟩
  walk_at "x"
  refine ⟨x, 0, c, rfl, h1, h2, ?_⟩
  walk_at "x"
  exact k
def spTC (K : PySem.W.Frag) (f : Eff → Nat → Int → Int) : Sp := fun vs H Q _ => ∃ (p : Addr) (c x n : Int) (l : List Stp), vs = [.ref p, .int c, .int x, .int n] ∧ PlanAt (CP K) H p l ∧ l.length ≤ 60 ∧ 0 ≤ c ∧ c ≤ 1000000000000000000 ∧ fitsS c l ∧ 0 ≤ x ∧ x ≤ c ∧ 0 ≤ n ∧ n ≤ 1000000000000000000 ∧
  ∀ H', Same H H' → Q (.int (f (effOf c l) n.toNat x)) H'
theorem ok_total_carried (W : Wd K mg) : FnR P w K mg base CX0 7 (ga K "total_carried") (spTC K runC) := by
  refine (def_ok W.F_total_carried sc_total_carried (fun _ _ _ _ _ _ us hl => match us, hl with | [_, _, _, _], _ => rfl) (fun vs H Q E ⟨p, c, x, n, l, ev, _⟩ => by rw [ev]; rfl) fun cdv A outer s H vs Q E hr ⟨p, c, x, n, l, ev, hp, h60, c0, c1, hf, x0, x1, n0, n1, k⟩ => ?_).2
  subst ev
  obtain ⟨eo, ec, _, _⟩ := effOf_ok c0 hf
  refine ⟨_, PSs.nox (pss_cons (ps_expr (pe_callR (ok_validate_house W) (hr.mono (by decide)) W.g_validate_house W.k_validate_house pass0 rfl (pa_cons (pv 0) (pa_cons (pv 1) pa_nil)))) (pss_cons (ps_expr (pe_callR (ok_validate_start W) (hr.mono (by decide)) W.g_validate_start W.k_validate_start pass0 rfl (pa_cons (pv 1) (pa_cons (pv 2) pa_nil)))) (pss_cons (ps_expr (pe_callR (ok_validate_number W) (hr.mono (by decide)) W.g_validate_number W.k_validate_number pass0 rfl (pa_cons (pv 3) (pa_cons pe_int (pa_cons (pe_gi W.i_MAX_ROUNDS_effects rfl) pa_nil))))) (pss_one (ps_ret (pe_methR W.c_Effect W.m_Effect_carried (ok_Effect_carried W) (hr.mono (by decide)) pass0 (pe_callR (ok_power W) (hr.mono (by decide)) W.g_power W.k_power pass0 rfl (pa_cons (pe_callR (ok_effect_of W) (hr.mono (by decide)) W.g_effect_of W.k_effect_of pass0 rfl (pa_cons (pv 0) (pa_cons (pv 1) pa_nil))) (pa_cons (pv 3) pa_nil))) (pa_cons (pv 2) pa_nil))))))), ?_⟩
  walk_at "y"
  refine ⟨p, c, l, rfl, hp, h60, c0, c1, hf, fun H1 s1 => ?_⟩
  walk_at "y"
  refine ⟨c, x, rfl, x0, x1, ?_⟩
  walk_at "y"
  refine ⟨n, 0, _, rfl, n0, n1, ?_⟩
  walk_at "y"
  refine ⟨p, c, l, rfl, hp.mono s1, h60, fun y H2 s2 he => ?_⟩
  walk_at "y"
  refine ⟨y, _, n, rfl, he, eo, n0, fun z H3 f s3 hf3 ip => ?_⟩
  refine x_effM hf3 (by kernel_rfl) ?_
  walk_at "y"
  refine ⟨z, f, x, rfl, hf3, ?_⟩
  rw [ip.car x x0 (by rw [ec]; exact x1)]
  exact k H3 (s1.trans (s2.trans s3))
theorem ok_red_chairs (W : Wd K mg) : FnR P w K mg base CX0 7 (ga K "red_chairs") (spTC K runF) := by
  refine (def_ok W.F_red_chairs sc_red_chairs (fun _ _ _ _ _ _ us hl => match us, hl with | [_, _, _, _], _ => rfl) (fun vs H Q E ⟨p, c, x, n, l, ev, _⟩ => by rw [ev]; rfl) fun cdv A outer s H vs Q E hr ⟨p, c, x, n, l, ev, hp, h60, c0, c1, hf, x0, x1, n0, n1, k⟩ => ?_).2
  subst ev
  obtain ⟨eo, ec, _, _⟩ := effOf_ok c0 hf
  refine ⟨_, PSs.nox (pss_cons (ps_expr (pe_callR (ok_validate_house W) (hr.mono (by decide)) W.g_validate_house W.k_validate_house pass0 rfl (pa_cons (pv 0) (pa_cons (pv 1) pa_nil)))) (pss_cons (ps_expr (pe_callR (ok_validate_start W) (hr.mono (by decide)) W.g_validate_start W.k_validate_start pass0 rfl (pa_cons (pv 1) (pa_cons (pv 2) pa_nil)))) (pss_cons (ps_expr (pe_callR (ok_validate_number W) (hr.mono (by decide)) W.g_validate_number W.k_validate_number pass0 rfl (pa_cons (pv 3) (pa_cons pe_int (pa_cons (pe_gi W.i_MAX_ROUNDS_effects rfl) pa_nil))))) (pss_one (ps_ret (pe_methR W.c_Effect W.m_Effect_end (ok_Effect_end W) (hr.mono (by decide)) pass0 (pe_callR (ok_power W) (hr.mono (by decide)) W.g_power W.k_power pass0 rfl (pa_cons (pe_callR (ok_effect_of W) (hr.mono (by decide)) W.g_effect_of W.k_effect_of pass0 rfl (pa_cons (pv 0) (pa_cons (pv 1) pa_nil))) (pa_cons (pv 3) pa_nil))) (pa_cons (pv 2) pa_nil))))))), ?_⟩
  walk_at "y"
  refine ⟨p, c, l, rfl, hp, h60, c0, c1, hf, fun H1 s1 => ?_⟩
  walk_at "y"
  refine ⟨c, x, rfl, x0, x1, ?_⟩
  walk_at "y"
  refine ⟨n, 0, _, rfl, n0, n1, ?_⟩
  walk_at "y"
  refine ⟨p, c, l, rfl, hp.mono s1, h60, fun y H2 s2 he => ?_⟩
  walk_at "y"
  refine ⟨y, _, n, rfl, he, eo, n0, fun z H3 f s3 hf3 ip => ?_⟩
  refine x_effM hf3 (by kernel_rfl) ?_
  walk_at "y"
  refine ⟨z, f, x, rfl, hf3, ?_⟩
  rw [ip.fin x x0 (by rw [ec]; exact x1)]
  exact k H3 (s1.trans (s2.trans s3))
def effT (e : Eff) : List V := [.int e.lo, .int e.hi, .int e.ex, goalV e.goal, .bl e.tu]
def spSu (K : PySem.W.Frag) : Sp := fun vs H Q _ => ∃ (p : Addr) (c : Int) (l : List Stp), vs = [.ref p, .int c] ∧ PlanAt (CP K) H p l ∧ l.length ≤ 60 ∧ 0 ≤ c ∧ c ≤ 1000000000000000000 ∧ fitsS c l ∧
  ∀ t H', H t = none → Same H H' → H' t = some (.tup (effT (effOf c l))) → Q (.ref t) H'
theorem ok_summary (W : Wd K mg) : FnR P w K mg base CX0 6 (ga K "summary") (spSu K) := by
  refine (def_ok W.F_summary sc_summary (fun _ _ _ _ _ _ us hl => match us, hl with | [_, _], _ => rfl) (fun vs H Q E ⟨p, c, l, ev, _⟩ => by rw [ev]; rfl) fun cdv A outer s H vs Q E hr ⟨p, c, l, ev, hp, h60, c0, c1, hf, k⟩ => ?_).2
  subst ev
  refine ⟨_, PSs.nox (pss_cons (ps_expr (pe_callR (ok_validate_house W) (hr.mono (by decide)) W.g_validate_house W.k_validate_house pass0 rfl (pa_cons (pv 0) (pa_cons (pv 1) pa_nil)))) (pss_cons (ps_set (i := 2) sc_summary.nd rfl (Or.inl rfl) (pe_callR (ok_effect_of W) (hr.mono (by decide)) W.g_effect_of W.k_effect_of pass0 rfl (pa_cons (pv 0) (pa_cons (pv 1) pa_nil)))) (pss_one (ps_ret (pe_tup (pa_cons (pe_fldK K (pv 2)) (pa_cons (pe_fldK K (pv 2)) (pa_cons (pe_fldK K (pv 2)) (pa_cons (pe_fldK K (pv 2)) (pa_cons (pe_fldK K (pv 2)) pa_nil)))))))))), ?_⟩
  walk_at "y"
  refine ⟨p, c, l, rfl, hp, h60, c0, c1, hf, fun H1 s1 => ?_⟩
  walk_at "y"
  refine ⟨p, c, l, rfl, hp.mono s1, h60, fun x H2 s2 he => ?_⟩
  walk_at "y"
  exact ⟨sz rfl, fun t ht => k t _ ((s1.trans s2).free ht) ((s1.trans s2).trans (Same.new ht)) upd_same⟩
end
end K14

set_option Elab.async false
set_option linter.all false
set_option autoImplicit false
set_option maxRecDepth 100000
set_option pp.maxSteps 1500
set_option maxHeartbeats 4000000
namespace K14
open PySem PySem.Spec PyProof.Rows L2 He ChH Ch ChM
local macro_rules | `(tactic| walk_at "x1") => `(tactic| first
  | ((with_reducible apply x_var); exact rfl)
  | with_reducible refine x_c ?_
  | with_reducible refine x_op ?_
  | with_reducible refine x_seq ?_
  | with_reducible refine x_asg ?_
  | with_reducible refine x_gname ?_
  | with_reducible refine x_cons ?_
  | with_reducible refine x_nil ?_
  | with_reducible refine x_fld ?_
  | with_reducible refine x_ret ?_
  | with_reducible refine x_ifS ?_
  | with_reducible refine x_test ?_
  | with_reducible refine x_ex ?_
  | with_reducible refine x_call ?_
  | with_reducible refine x_mk ?_
  | with_reducible refine x_meth ?_
  | with_reducible refine x_prop ?_
  | with_reducible refine x_cb ?_
  | with_reducible refine x_tup ?_
  | with_reducible refine x_lst ?_
  | with_reducible refine x_drop ?_
  | with_reducible refine x_for ?_
  | with_reducible refine x_iL ?_
  | with_reducible refine x_iT ?_
  | with_reducible refine x_iE ?_
  | with_reducible refine x_iU ?_
  | with_reducible refine x_iR1 ?_
  | with_reducible refine x_iR2 ?_
  | with_reducible refine x_gcons ?_
  | with_reducible refine x_gnil ?_
  | with_reducible refine x_par ?_
  | with_reducible refine x_lstRg ?_
  | with_reducible refine x_rg1 ?_
  | with_reducible refine x_rg1At ?_
  | with_reducible refine x_par3 ?_
  | with_reducible refine x_bm ?_
  | with_reducible refine x_bm0 ?_
  | with_reducible refine x_gSub ?_
  | with_reducible refine x_lc ?_
  | with_reducible refine x_yes ?_
  | with_reducible refine x_setf ?_
  | with_reducible refine x_next ?_
  | with_reducible refine x_B ?_
  | with_reducible refine x_and ?_
  | with_reducible refine x_or ?_
  | with_reducible refine x_not ?_
  | with_reducible refine x_andV ?_
  | with_reducible refine x_orV ?_
  | with_reducible refine x_notV ?_
  | with_reducible refine x_ifE ?_
  | with_reducible refine x_chain ?_
  | with_reducible refine x_chain3 ?_
  | with_reducible refine x_un ?_
  | with_reducible refine x_isNe ?_
  | with_reducible refine x_notNe ?_
  | with_reducible refine x_starA ?_
  | with_reducible refine x_plusI ?_
  | with_reducible refine x_minus ?_
  | with_reducible refine x_lt ?_
  | with_reducible refine x_le ?_
  | with_reducible refine x_gt ?_
  | with_reducible refine x_ge ?_
  | with_reducible refine x_eqI ?_
  | with_reducible refine x_neI ?_
  | with_reducible refine x_eqS ?_
  | with_reducible refine x_eqB ?_
  | with_reducible refine x_neB ?_
  | with_reducible refine x_int ?_
  | with_reducible refine x_intB ?_
  | with_reducible refine x_max2 ?_
  | with_reducible refine x_min2 ?_
  | with_reducible refine x_max3 ?_
  | with_reducible refine x_abs ?_
  | with_reducible refine x_neg ?_
  | with_reducible refine x_isi_ii ?_
  | with_reducible refine x_isi_ib ?_
  | with_reducible refine x_T ?_
  | with_reducible refine x_nT ?_
  | with_reducible refine x_nF ?_
  | with_reducible refine x_F ?_)
local macro_rules | `(tactic| walk_at "x") => `(tactic| repeat walk_at "x1")

local macro_rules | `(tactic| walk_at "eff") => `(tactic| first
  | refine x_eff (by assumption) (Wd.c_Effect (by assumption)) (Wd.n_Effect_chairs (by assumption)) eff_chairs ?_
  | refine x_eff (by assumption) (Wd.c_Effect (by assumption)) (Wd.n_Effect_low (by assumption)) eff_low ?_
  | refine x_eff (by assumption) (Wd.c_Effect (by assumption)) (Wd.n_Effect_high (by assumption)) eff_high ?_
  | refine x_eff (by assumption) (Wd.c_Effect (by assumption)) (Wd.n_Effect_extra (by assumption)) eff_extra ?_
  | refine x_eff (by assumption) (Wd.c_Effect (by assumption)) (Wd.n_Effect_goal (by assumption)) eff_goal ?_
  | refine x_eff (by assumption) (Wd.c_Effect (by assumption)) (Wd.n_Effect_turned (by assumption)) eff_turned ?_)
local macro_rules | `(tactic| walk_at "y") => `(tactic| repeat (first | walk_at "x1" | walk_at "eff"))

local macro_rules | `(tactic| walk_at "q1") => `(tactic| first
  | walk_at "x1"
  | with_reducible refine x_sl ?_
  | with_reducible refine x_noPart ?_
  | with_reducible refine x_part ?_
  | with_reducible refine x_partI ?_)
local macro_rules | `(tactic| walk_at "q") => `(tactic| repeat walk_at "q1")

section
variable {P : Program} {w : World} {K : PySem.W.Frag} {mg : Str → Option Value} {base : Heap}
theorem ok_needs_of (W : Wd K mg) : FnR P w K mg base CX0 4 (ga K "needs_of") (fun vs H Q _ => ∃ p l, vs = [.ref p] ∧ PlanAt (CP K) H p l ∧ l.length ≤ 60 ∧ ∀ t H', H t = none → Same H H' → H' t = some (.tup [.int (needsOf l).1, .int (needsOf l).2]) → Q (.ref t) H') := by
  refine (def_ok W.F_needs_of sc_needs_of (fun _ _ _ _ _ _ us hl => match us, hl with | [_], _ => rfl) (fun vs H Q E ⟨p, l, e, _⟩ => by rw [e]; rfl) fun cdv A outer s H vs Q E hr ⟨p, l, e, hp, h60, k⟩ => ?_).2
  subst e
  refine ⟨_, PSs.nox (pss_cons (ps_set (i := 1) sc_needs_of.nd rfl (Or.inl rfl) (pe_callB (c_maxLK K rfl) (by rfl) W.f_max (by decide +kernel) (pa_cons (pe_op op_plus (pe_lc (own := [("side", 3), ("need", 4)]) rfl sc_needs_of.nd (pi_listK K (pe_callR (ok_sides_of W) (hr.mono (by decide)) W.g_sides_of W.k_sides_of pass0 rfl (pa_cons (pv 0) pa_nil))) (blkOk_by (own := [("side", 3), ("need", 4)]) (N := N_needs_of) (sc := defScope s_needs_of) (by decide +kernel)) (fun _ _ _ _ _ => (pg_tupK (n := 2) K rfl (pgs_cons (pg_name (i := 3) sc_needs_of.nd rfl (Or.inl rfl)) (pgs_cons (pg_name (i := 4) sc_needs_of.nd rfl (Or.inl rfl)) pgs_nil)))) (fun _ _ _ _ _ => (pts_one (pt_cmpR (op_eqK K hr.units) (pv 3) pe_int (nomark _)))) (fun _ _ _ _ _ => (pv 4))) (pe_lst (pa_cons pe_int pa_nil))) pa_nil))) (pss_cons (ps_set (i := 2) sc_needs_of.nd rfl (Or.inl rfl) (pe_callB (c_maxLK K rfl) (by rfl) W.f_max (by decide +kernel) (pa_cons (pe_op op_plus (pe_lc (own := [("side", 3), ("need", 4)]) rfl sc_needs_of.nd (pi_listK K (pe_callR (ok_sides_of W) (hr.mono (by decide)) W.g_sides_of W.k_sides_of pass0 rfl (pa_cons (pv 0) pa_nil))) (blkOk_by (own := [("side", 3), ("need", 4)]) (N := N_needs_of) (sc := defScope s_needs_of) (by decide +kernel)) (fun _ _ _ _ _ => (pg_tupK (n := 2) K rfl (pgs_cons (pg_name (i := 3) sc_needs_of.nd rfl (Or.inl rfl)) (pgs_cons (pg_name (i := 4) sc_needs_of.nd rfl (Or.inl rfl)) pgs_nil)))) (fun _ _ _ _ _ => (pts_one (pt_cmpR (op_eqK K hr.units) (pv 3) (pe_un un_neg pe_int) (nomark _)))) (fun _ _ _ _ _ => (pv 4))) (pe_lst (pa_cons pe_int pa_nil))) pa_nil))) (pss_cons (ps_if (pt_val (pe_propR W.c_Plan W.p_Plan_is_turning (ok_Plan_is_turning W) (hr.mono (by decide)) (pv 0))) (pss_one (ps_ret (pe_tup (pa_cons (pe_callB (c_max2 rfl) (by rfl) W.f_max (by decide +kernel) (pa_cons (pv 1) (pa_cons (pv 2) pa_nil))) (pa_cons (pe_callB (c_max2 rfl) (by rfl) W.f_max (by decide +kernel) (pa_cons (pv 1) (pa_cons (pv 2) pa_nil))) pa_nil))))) pss_nil) (pss_one (ps_ret (pe_tup (pa_cons (pv 1) (pa_cons (pv 2) pa_nil)))))))), ?_⟩
  have one : ∀ (sd : Int) (r : Addr) (ps : List V) (H1 : Hp) (σ0 : L2.St), True := fun _ _ _ _ _ => trivial
  walk_at "q"
  refine ⟨p, l, rfl, hp, h60, fun r ps H1 hr0 s1 hps hpp => ?_⟩
  have lps : ps.length = (sides 1 l).length := pr_len hpp
  have ll : (sides 1 l).length ≤ 60 := by rw [sides_len]; exact h60
  refine x_iLAt (SqL.of hps) ?_
  refine x_lcA walk_list (fun i acc _ => acc = (needL 1 ((sides 1 l).take i)).map V.int) (fun _ _ _ _ _ _ _ h => h) (fun _ _ => rfl) (by omega) (fun H' s' => SqL.of (s' _ _ hps)) ?_ ?_
  · rintro i y acc H2 H3 NT NF hT hF hi s2 rfl ⟨rfl, ey⟩
    obtain ⟨⟨sd, n⟩, hst, q, rfl, hq⟩ := pr_at hpp ey
    have tk : (sides 1 l).take (i + 1) = (sides 1 l).take i ++ [(sd, n)] := by rw [List.take_add_one, hst]; rfl
    refine x_gTup (s2 _ _ hq) rfl ?_
    unfold pairV
    walk_at "q"
    refine ⟨rfl, ?_⟩
    walk_at "q"
    refine x_ifd (fun e => ?_) fun e => ?_
    · walk_at "q"
      refine hT _ _ (Same.refl _) ?_
      rw [tk, needL_snoc, if_pos e, List.map_append]
      rfl
    · refine hF _ (Same.refl _) ?_
      rw [tk, needL_snoc, if_neg e, List.append_nil]
  rintro D acc H2 hD s2 hD2 rfl hdl
  rw [lps, List.take_length] at hD2
  walk_at "q"
  refine ⟨sz rfl, fun z hz => ?_⟩; generalize hNz : upd _ z _ = H3; obtain ⟨s3, e3⟩ := nws hNz hz
  refine n_plusL (s3 _ _ hD2) e3 (sz5 (by rw [lps, List.take_length] at hdl; show _ + 1 ≤ _; omega)) fun y H4 hy s4 e4 => ?_
  have e4' : H4 y = some (.lst ((needL 1 (sides 1 l) ++ [0]).map V.int)) := by rw [e4, List.map_append]; rfl
  walk_at "q"
  refine x_maxL (SqL.of e4') (by rw [List.length_append]; exact Nat.succ_pos _) fun m hm hmx => ?_
  obtain rfl := mxL_one hm hmx
  have s14 : Same H H4 := s1.trans (s2.trans (s3.trans s4))
  walk_at "q"
  refine ⟨p, l, rfl, hp.mono s14, h60, fun r ps H5 hr0 s5 hps hpp => ?_⟩
  have lps : ps.length = (sides 1 l).length := pr_len hpp
  refine x_iLAt (SqL.of hps) ?_
  refine x_lcA walk_list (fun i acc _ => acc = (needL (-1) ((sides 1 l).take i)).map V.int) (fun _ _ _ _ _ _ _ h => h) (fun _ _ => rfl) (by omega) (fun H' s' => SqL.of (s' _ _ hps)) ?_ ?_
  · rintro i y acc H2 H3 NT NF hT hF hi s2 rfl ⟨rfl, ey⟩
    obtain ⟨⟨sd, n⟩, hst, q, rfl, hq⟩ := pr_at hpp ey
    have tk : (sides 1 l).take (i + 1) = (sides 1 l).take i ++ [(sd, n)] := by rw [List.take_add_one, hst]; rfl
    refine x_gTup (s2 _ _ hq) rfl ?_
    unfold pairV
    walk_at "q"
    refine ⟨rfl, ?_⟩
    walk_at "q"
    refine x_ifd (fun e => ?_) fun e => ?_
    · walk_at "q"
      refine hT _ _ (Same.refl _) ?_
      rw [tk, needL_snoc, if_pos e, List.map_append]
      rfl
    · refine hF _ (Same.refl _) ?_
      rw [tk, needL_snoc, if_neg e, List.append_nil]
  rintro D acc H6 hD s6 hD2 rfl hdl
  rw [lps, List.take_length] at hD2
  walk_at "q"
  refine ⟨sz rfl, fun z hz => ?_⟩; generalize hNz : upd _ z _ = H7; obtain ⟨s7, e7⟩ := nws hNz hz
  refine n_plusL (s7 _ _ hD2) e7 (sz5 (by rw [lps, List.take_length] at hdl; show _ + 1 ≤ _; omega)) fun y H8 hy s8 e8 => ?_
  have e8' : H8 y = some (.lst ((needL (-1) (sides 1 l) ++ [0]).map V.int)) := by rw [e8, List.map_append]; rfl
  walk_at "q"
  refine x_maxL (SqL.of e8') (by rw [List.length_append]; exact Nat.succ_pos _) fun m hm hmx => ?_
  obtain rfl := mxL_one hm hmx
  have s18 : Same H H8 := s14.trans (s5.trans (s6.trans (s7.trans s8)))
  have hp8 := hp.mono s18
  walk_at "q"
  obtain ⟨dx, t, ws, g1, g2, g3⟩ := id hp8.ex
  refine x_propAt g1 ⟨p, l, rfl, hp8, h60, fun H9 s9 => ?_⟩
  walk_at "q"
  unfold needsOf at k
  refine x_if (fun ht => ?_) fun ht => ?_
  · rw [if_pos ht] at k
    walk_at "q"
    refine ⟨sz rfl, fun t ht => ?_⟩
    exact k t _ ((s18.trans s9).free ht) ((s18.trans s9).trans (Same.new ht)) upd_same
  · rw [if_neg (by rw [ht]; decide)] at k
    walk_at "q"
    refine ⟨sz rfl, fun t ht => ?_⟩
    exact k t _ ((s18.trans s9).free ht) ((s18.trans s9).trans (Same.new ht)) upd_same
theorem ok_carried_in_two_rounds (W : Wd K mg) : FnR P w K mg base CX0 7 (ga K "carried_in_two_rounds") (fun vs H Q _ => ∃ (p : Addr) (c : Int) (l : List Stp), vs = [.ref p, .int c] ∧ PlanAt (CP K) H p l ∧ l.length ≤ 60 ∧ 0 ≤ c ∧ fitsS c l ∧ ∀ H', Same H H' → Q (.int (twoR c l)) H') := by
  refine (def_ok W.F_carried_in_two_rounds sc_carried_in_two_rounds (fun _ _ _ _ _ _ us hl => match us, hl with | [_, _], _ => rfl) (fun vs H Q E ⟨p, c, l, e, _⟩ => by rw [e]; rfl) fun cdv A outer s H vs Q E hr ⟨p, c, l, e, hp, h60, c0, hf, k⟩ => ?_).2
  subst e
  obtain ⟨eo, ec, _, _⟩ := effOf_ok c0 hf
  refine ⟨_, PSs.nox (pss_cons (ps_set (i := 2) sc_carried_in_two_rounds.nd rfl (Or.inl rfl) (pe_callR (ok_power W) (hr.mono (by decide)) W.g_power W.k_power pass0 rfl (pa_cons (pe_callR (ok_effect_of W) (hr.mono (by decide)) W.g_effect_of W.k_effect_of pass0 rfl (pa_cons (pv 0) (pa_cons (pv 1) pa_nil))) (pa_cons pe_int pa_nil)))) (pss_one (ps_ret (pe_ifExp (pt_cmp (pc_isN (pe_fldK K (pv 2)))) pe_int (pe_methR W.c_Effect W.m_Effect_carried (ok_Effect_carried W) (hr.mono (by decide)) pass0 (pv 2) (pa_cons (pe_fldK K (pv 2)) pa_nil)))))), ?_⟩
  walk_at "y"
  refine ⟨p, c, l, rfl, hp, h60, fun y H2 s2 he => ?_⟩
  walk_at "y"
  refine ⟨y, _, 2, rfl, he, eo, by decide, fun z H3 f s3 hf3 ip => ?_⟩
  have tw := two_any eo (ip : IsPow (effOf c l) 2 f) (Int.le_refl 0) (by rw [ec]; exact c0)
  walk_at "y"
  rw [goal_non]
  cases g : f.goal with
  | none =>
    rw [g] at tw
    refine x_T ?_
    walk_at "y"
    have := k H3 (s2.trans s3)
    rw [show twoR c l = 0 from tw.symm] at this
    exact this
  | some v =>
    rw [g] at tw
    refine x_F ?_
    walk_at "y"
    refine x_effM hf3 (by kernel_rfl) ?_
    walk_at "y"
    rw [g]
    refine ⟨z, f, v, rfl, hf3, ?_⟩
    have := k H3 (s2.trans s3)
    rw [show twoR c l = f.carried v from tw.symm] at this
    exact this
theorem ok_halves (W : Wd K mg) : FnR P w K mg base CX0 1 (ga K "halves") (fun vs H Q _ => ∃ n : Int, vs = [.int n] ∧ ∀ t H', H t = none → Same H H' → H' t = some (.tup [.int (halvesV n).1, .int (halvesV n).2]) → Q (.ref t) H') := by
  refine (def_ok W.F_halves sc_halves (fun _ _ _ _ _ _ us hl => match us, hl with | [_], _ => rfl) (fun vs H Q E ⟨n, e, _⟩ => by rw [e]; rfl) fun cdv A outer s H vs Q E hr ⟨n, e, k⟩ => ?_).2
  subst e
  refine ⟨_, PSs.nox (pss_one (ps_ret (pe_ifExp (pt_cmpR (op_eqK K hr.units) (pe_op op_modP (pe_callTy c_int (by rfl) W.f_int (by decide +kernel) (pa_cons (pv 0) pa_nil)) pe_int) pe_int (nomark _)) (pe_tup (pa_cons (pv 0) (pa_cons pe_int pa_nil))) (pe_tup (pa_cons (pe_op op_divP (pv 0) pe_int) (pa_cons pe_int pa_nil)))))), ?_⟩
  unfold halvesV at k
  walk_at "q"
  refine x_mod (by decide) ?_
  walk_at "q"
  refine x_ifd (fun h => ?_) fun h => ?_
  · rw [if_pos h] at k
    walk_at "q"
    exact ⟨sz rfl, fun t ht => k t _ ht (Same.new ht) upd_same⟩
  · rw [if_neg h] at k
    walk_at "q"
    refine x_div (divF (by decide) (by decide)) ?_
    walk_at "q"
    exact ⟨sz rfl, fun t ht => k t _ ht (Same.new ht) upd_same⟩
def spLR (K : PySem.W.Frag) : Sp := fun vs H Q _ => ∃ (p : Addr) (c : Int) (l : List Stp), vs = [.ref p, .int c] ∧ PlanAt (CP K) H p l ∧ l.length ≤ 60 ∧ 0 ≤ c ∧ c ≤ 1000000000000000000 ∧ fitsS c l ∧ ∀ t H', H t = none → Same H H' → H' t = some (.tup [.int (halvesV (twoR c l)).1, .int (halvesV (twoR c l)).2]) → Q (.ref t) H'
theorem ok_long_run (W : Wd K mg) : FnR P w K mg base CX0 8 (ga K "long_run") (spLR K) := by
  refine (def_ok W.F_long_run sc_long_run (fun _ _ _ _ _ _ us hl => match us, hl with | [_, _], _ => rfl) (fun vs H Q E ⟨p, c, l, e, _⟩ => by rw [e]; rfl) fun cdv A outer s H vs Q E hr ⟨p, c, l, e, hp, h60, c0, c1, hf, k⟩ => ?_).2
  subst e
  refine ⟨_, PSs.nox (pss_cons (ps_expr (pe_callR (ok_validate_house W) (hr.mono (by decide)) W.g_validate_house W.k_validate_house pass0 rfl (pa_cons (pv 0) (pa_cons (pv 1) pa_nil)))) (pss_one (ps_ret (pe_callR (ok_halves W) (hr.mono (by decide)) W.g_halves W.k_halves pass0 rfl (pa_cons (pe_callR (ok_carried_in_two_rounds W) (hr.mono (by decide)) W.g_carried_in_two_rounds W.k_carried_in_two_rounds pass0 rfl (pa_cons (pv 0) (pa_cons (pv 1) pa_nil))) pa_nil))))), ?_⟩
  walk_at "q"
  refine ⟨p, c, l, rfl, hp, h60, c0, c1, hf, fun H1 s1 => ?_⟩
  walk_at "q"
  refine ⟨p, c, l, rfl, hp.mono s1, h60, c0, hf, fun H2 s2 => ?_⟩
  walk_at "q"
  exact ⟨_, rfl, fun t H3 ht s3 e3 => k t H3 ((s1.trans s2).free ht) (s1.trans (s2.trans s3)) e3⟩
def spSv (K : PySem.W.Frag) : Sp := fun vs H Q _ => ∃ (p : Addr) (c : Int) (l : List Stp), vs = [.ref p, .int c] ∧ PlanAt (CP K) H p l ∧ l.length ≤ 60 ∧ 0 ≤ c ∧ c < 1000000000000000000 ∧ fitsS c l ∧ ∀ t H', H t = none → Same H H' → H' t = some (.tup [.int (halvesV (twoR c l - twoR (c + 1) l)).1, .int (halvesV (twoR c l - twoR (c + 1) l)).2]) → Q (.ref t) H'
theorem fits_le {c d : Int} {l : List Stp} (h : fitsS c l) (e : c ≤ d) : fitsS d l := fun b n hm => ⟨(h b n hm).1, Int.le_trans (h b n hm).2 e⟩
theorem ok_saving (W : Wd K mg) : FnR P w K mg base CX0 8 (ga K "saving") (spSv K) := by
  refine (def_ok W.F_saving sc_saving (fun _ _ _ _ _ _ us hl => match us, hl with | [_, _], _ => rfl) (fun vs H Q E ⟨p, c, l, e, _⟩ => by rw [e]; rfl) fun cdv A outer s H vs Q E hr ⟨p, c, l, e, hp, h60, c0, c1, hf, k⟩ => ?_).2
  subst e
  refine ⟨_, PSs.nox (pss_cons (ps_expr (pe_callR (ok_validate_house W) (hr.mono (by decide)) W.g_validate_house W.k_validate_house pass0 rfl (pa_cons (pv 0) (pa_cons (pv 1) pa_nil)))) (pss_cons (ps_expr (pe_callR (ok_validate_number W) (hr.mono (by decide)) W.g_validate_number W.k_validate_number pass0 rfl (pa_cons (pv 1) (pa_cons pe_int (pa_cons (pe_op op_minus (pe_cv W.g_Plan W.r_Plan W.v_Plan_MAX_CHAIRS rfl) pe_int) pa_nil))))) (pss_one (ps_ret (pe_callR (ok_halves W) (hr.mono (by decide)) W.g_halves W.k_halves pass0 rfl (pa_cons (pe_op op_minus (pe_callR (ok_carried_in_two_rounds W) (hr.mono (by decide)) W.g_carried_in_two_rounds W.k_carried_in_two_rounds pass0 rfl (pa_cons (pv 0) (pa_cons (pv 1) pa_nil))) (pe_callR (ok_carried_in_two_rounds W) (hr.mono (by decide)) W.g_carried_in_two_rounds W.k_carried_in_two_rounds pass0 rfl (pa_cons (pv 0) (pa_cons (pe_op op_plus (pv 1) pe_int) pa_nil)))) pa_nil)))))), ?_⟩
  walk_at "q"
  refine ⟨p, c, l, rfl, hp, h60, c0, by omega, hf, fun H1 s1 => ?_⟩
  walk_at "q"
  refine ⟨c, 0, _, rfl, c0, by omega, ?_⟩
  walk_at "q"
  refine ⟨p, c, l, rfl, hp.mono s1, h60, c0, hf, fun H2 s2 => ?_⟩
  walk_at "q"
  refine ⟨p, c + 1, l, rfl, (hp.mono s1).mono s2, h60, by omega, fits_le hf (by omega), fun H3 s3 => ?_⟩
  walk_at "q"
  exact ⟨_, rfl, fun t H4 ht s4 e4 => k t H4 ((s1.trans (s2.trans s3)).free ht) (s1.trans (s2.trans (s3.trans s4))) e4⟩
theorem ok_fewest_chairs (W : Wd K mg) : FnR P w K mg base CX0 5 (ga K "fewest_chairs") (fun vs H Q _ => ∃ p l, vs = [.ref p] ∧ PlanAt (CP K) H p l ∧ l.length ≤ 60 ∧ ∀ H', Same H H' → Q (.int (fewest l)) H') := by
  refine (def_ok W.F_fewest_chairs sc_fewest_chairs (fun _ _ _ _ _ _ us hl => match us, hl with | [_], _ => rfl) (fun vs H Q E ⟨p, l, e, _⟩ => by rw [e]; rfl) fun cdv A outer s H vs Q E hr ⟨p, l, e, hp, h60, k⟩ => ?_).2
  subst e
  refine ⟨_, PSs.nox (pss_one (ps_ret (pe_callB (c_maxTK K rfl) (by rfl) W.f_max (by decide +kernel) (pa_cons (pe_callR (ok_needs_of W) (hr.mono (by decide)) W.g_needs_of W.k_needs_of pass0 rfl (pa_cons (pv 0) pa_nil)) pa_nil)))), ?_⟩
  walk_at "q"
  refine ⟨p, l, rfl, hp, h60, fun t H1 ht s1 e1 => ?_⟩
  walk_at "q"
  refine x_maxT (ns := [(needsOf l).1, (needsOf l).2]) (SqT.of e1) (by show 0 < 2; decide) fun m hm hmx => ?_
  have : m = fewest l := by
    have a := hmx (needsOf l).1 List.mem_cons_self
    have b := hmx (needsOf l).2 (List.mem_cons_of_mem _ List.mem_cons_self)
    have := mx_def (needsOf l).1 (needsOf l).2
    unfold fewest
    rcases List.mem_cons.mp hm with z | z
    · omega
    · have := List.mem_singleton.mp z
      omega
  rw [this]
  exact k H1 s1
theorem ok_sparing_chairs (W : Wd K mg) : FnR P w K mg base CX0 5 (ga K "sparing_chairs") (fun vs H Q _ => ∃ p l, vs = [.ref p] ∧ PlanAt (CP K) H p l ∧ l.length ≤ 60 ∧ ∀ H', Same H H' → Q (.int (sparing l)) H') := by
  refine (def_ok W.F_sparing_chairs sc_sparing_chairs (fun _ _ _ _ _ _ us hl => match us, hl with | [_], _ => rfl) (fun vs H Q E ⟨p, l, e, _⟩ => by rw [e]; rfl) fun cdv A outer s H vs Q E hr ⟨p, l, e, hp, h60, k⟩ => ?_).2
  subst e
  refine ⟨_, PSs.nox (pss_cons (ps_asg (pe_callR (ok_needs_of W) (hr.mono (by decide)) W.g_needs_of W.k_needs_of pass0 rfl (pa_cons (pv 0) pa_nil)) (pg_tupK (n := 2) K rfl (pgs_cons (pg_name (i := 1) sc_sparing_chairs.nd rfl (Or.inl rfl)) (pgs_cons (pg_name (i := 2) sc_sparing_chairs.nd rfl (Or.inl rfl)) pgs_nil)))) (pss_one (ps_ret (pe_op op_plus (pv 1) (pv 2))))), ?_⟩
  walk_at "q"
  refine ⟨p, l, rfl, hp, h60, fun t H1 ht s1 e1 => ?_⟩
  walk_at "q"
  refine x_gTup e1 rfl ?_
  walk_at "q"
  exact k H1 s1
def sparesC (l : List Stp) (pr cp rr m : Int) : Prop := (twoR m l - twoR (m + 1) l) * cp * rr > 2 * pr
def spBC (K : PySem.W.Frag) : Sp := fun vs H Q _ => ∃ (p : Addr) (l : List Stp) (pr cp rr : Int), vs = [.ref p, .int pr, .int cp, .int rr] ∧ PlanAt (CP K) H p l ∧ l.length ≤ 60 ∧ (∀ b n, Stp.mt b n ∈ l → 0 ≤ n) ∧ 0 ≤ pr ∧ pr ≤ 1000000000 ∧ 0 ≤ cp ∧ cp ≤ 1000000000 ∧ 0 ≤ rr ∧ rr ≤ 1000000000 ∧
  ∀ b H', Same H H' → fewest l ≤ b → b ≤ sparing l → (b = fewest l ∨ sparesC l pr cp rr (b - 1)) → (b = sparing l ∨ ¬ sparesC l pr cp rr b) → Q (.int b) H'
theorem few_le_spare (l : List Stp) : fewest l ≤ sparing l := by
  obtain ⟨a0, _⟩ := mxL_ge (needL 1 (sides 1 l))
  obtain ⟨b0, _⟩ := mxL_ge (needL (-1) (sides 1 l))
  unfold fewest sparing needsOf
  generalize mxL (needL 1 (sides 1 l)) = a at *
  generalize mxL (needL (-1) (sides 1 l)) = b at *
  have := mx_def a b
  split
  · have := mx_def (mx a b) (mx a b)
    show mx (mx a b) (mx a b) ≤ mx a b + mx a b
    omega
  · show mx a b ≤ a + b
    omega
theorem ok_best_chairs (W : Wd K mg) : FnR P w K mg base CX0 8 (ga K "best_chairs") (spBC K) := by
  refine (def_ok W.F_best_chairs sc_best_chairs (fun _ _ _ _ _ _ us hl => match us, hl with | [_, _, _, _], _ => rfl) (fun vs H Q E ⟨p, l, pr, cp, rr, e, _⟩ => by rw [e]; rfl) fun cdv A outer s H vs Q E hr ⟨p, l, pr, cp, rr, e, hp, h60, hg, p0, p1, q0, q1, r0, r1, k⟩ => ?_).2
  subst e
  refine ⟨_, PSs.nox (pss_cons (ps_expr (pe_callR (ok_validate_number W) (hr.mono (by decide)) W.g_validate_number W.k_validate_number pass0 rfl (pa_cons (pv 1) (pa_cons pe_int (pa_cons (pe_gi W.i_MAX_PRICE rfl) pa_nil))))) (pss_cons (ps_expr (pe_callR (ok_validate_number W) (hr.mono (by decide)) W.g_validate_number W.k_validate_number pass0 rfl (pa_cons (pv 2) (pa_cons pe_int (pa_cons (pe_gi W.i_MAX_PRICE rfl) pa_nil))))) (pss_cons (ps_expr (pe_callR (ok_validate_number W) (hr.mono (by decide)) W.g_validate_number W.k_validate_number pass0 rfl (pa_cons (pv 3) (pa_cons pe_int (pa_cons (pe_gi W.i_MAX_ROUNDS_chairs rfl) pa_nil))))) (pss_cons (ps_par (i := 4) (j := 5) (by rfl) sc_best_chairs.nd rfl rfl (by decide) rfl rfl (pa_cons (pe_callR (ok_fewest_chairs W) (hr.mono (by decide)) W.g_fewest_chairs W.k_fewest_chairs pass0 rfl (pa_cons (pv 0) pa_nil)) (pa_cons (pe_callR (ok_sparing_chairs W) (hr.mono (by decide)) W.g_sparing_chairs W.k_sparing_chairs pass0 rfl (pa_cons (pv 0) pa_nil)) pa_nil)) (by rfl)) (pss_cons (ps_while PassesOwn.never (pt_cmpR op_ltI (pv 4) (pv 5) (nomark _)) (pss_cons (ps_set (i := 6) sc_best_chairs.nd rfl (Or.inl rfl) (pe_op op_divP (pe_op op_plus (pv 4) (pv 5)) pe_int)) (pss_cons (ps_set (i := 7) sc_best_chairs.nd rfl (Or.inl rfl) (pe_op op_minus (pe_callR (ok_carried_in_two_rounds W) (hr.mono (by decide)) W.g_carried_in_two_rounds W.k_carried_in_two_rounds pass0 rfl (pa_cons (pv 0) (pa_cons (pv 6) pa_nil))) (pe_callR (ok_carried_in_two_rounds W) (hr.mono (by decide)) W.g_carried_in_two_rounds W.k_carried_in_two_rounds pass0 rfl (pa_cons (pv 0) (pa_cons (pe_op op_plus (pv 6) pe_int) pa_nil))))) (pss_one (ps_if (pt_cmpR op_gtI (pe_op op_times (pe_op op_times (pv 7) (pv 2)) (pv 3)) (pe_op op_times pe_int (pv 1)) (nomark _)) (pss_one (ps_set (i := 4) sc_best_chairs.nd rfl (Or.inl rfl) (pe_op op_plus (pv 6) pe_int))) (pss_one (ps_set (i := 5) sc_best_chairs.nd rfl (Or.inl rfl) (pv 6)))))))) (pss_one (ps_ret (pv 4)))))))), ?_⟩
  walk_at "q"
  refine ⟨pr, 0, _, rfl, p0, p1, ?_⟩
  walk_at "q"
  refine ⟨cp, 0, _, rfl, q0, q1, ?_⟩
  walk_at "q"
  refine ⟨rr, 0, _, rfl, r0, r1, ?_⟩
  walk_at "q"
  refine ⟨p, l, rfl, hp, h60, fun H1 s1 => ?_⟩
  walk_at "q"
  refine ⟨p, l, rfl, hp.mono s1, h60, fun H2 s2 => ?_⟩
  walk_at "q"
  refine ⟨_, _, rfl, ?_⟩
  have fs := few_le_spare l
  walk_at "q"
  refine x_while (fun m σ H3 => Same H H3 ∧ ∃ lo hi a b, σ = [some (.ref p), some (.int pr), some (.int cp), some (.int rr), some (.int lo), some (.int hi), a, b] ∧ m = (hi - lo).toNat ∧ fewest l ≤ lo ∧ lo ≤ hi ∧ hi ≤ sparing l ∧ (lo = fewest l ∨ sparesC l pr cp rr (lo - 1)) ∧ (hi = sparing l ∨ ¬ sparesC l pr cp rr hi)) _
    ⟨s1.trans s2, _, _, _, _, rfl, rfl, Int.le_refl _, fs, Int.le_refl _, .inl rfl, .inl rfl⟩ ?_
  rintro m σ H3 ⟨s3, lo, hi, a, b, rfl, rfl, h1, h2, h3, h4, h5⟩
  have hf0 := (fewest_ge l).2.2
  walk_at "q"
  refine x_ifd (fun hlt => x_turn ?_) fun hge => ?_
  · walk_at "q"
    refine x_div (divF (by decide) (by decide)) ?_
    walk_at "q"
    refine ⟨p, (lo + hi) / 2, l, rfl, hp.mono s3, h60, by omega, fits_fewest hg (by omega), fun H4 s4 => ?_⟩
    walk_at "q"
    refine ⟨p, (lo + hi) / 2 + 1, l, rfl, (hp.mono s3).mono s4, h60, by omega, fits_fewest hg (by omega), fun H5 s5 => ?_⟩
    walk_at "q"
    refine x_timesI (.inr ⟨by omega, by omega⟩) ?_
    walk_at "q"
    refine x_timesI (.inr ⟨by omega, by omega⟩) ?_
    walk_at "q"
    refine x_timesI (.inl ⟨by decide, by decide⟩) ?_
    walk_at "q"
    refine x_ifd (fun hs => ?_) fun hs => ?_
    · walk_at "q"
      exact ⟨_, by omega, s3.trans (s4.trans s5), _, _, _, _, rfl, rfl, by omega, by omega, h3, .inr (by rw [show (lo + hi) / 2 + 1 - 1 = (lo + hi) / 2 by omega]; exact hs), h5⟩
    · walk_at "q"
      exact ⟨_, by omega, s3.trans (s4.trans s5), _, _, _, _, rfl, rfl, h1, by omega, by omega, h4, .inr hs⟩
  · have : lo = hi := by omega
    subst this
    walk_at "q"
    exact k lo H3 s3 h1 h3 h4 h5
end
end K14

set_option Elab.async false
set_option linter.all false
set_option autoImplicit false
set_option maxRecDepth 100000
set_option pp.maxSteps 1500
set_option maxHeartbeats 4000000
namespace K14
open PySem PySem.Spec PyProof.Rows L2 He ChH Ch ChM
/-! ### evidence, in plain -/
structure Ev where
  found : List Int
  place : Int
  last : Int
def evStep (c : Int) (e : Ev) (i : Nat) (p : Int × Int) : Ev :=
  if moved c e.place p.1 p.2 = e.place then e else ⟨(if p.1 = e.last then e.found.dropLast else e.found) ++ [(i : Int)], moved c e.place p.1 p.2, p.1⟩
def evN (c x : Int) (ps : List (Int × Int)) : Nat → Ev
  | 0 => ⟨[], x, 0⟩
  | n + 1 => match ps[n]? with
    | none => evN c x ps n
    | some p => evStep c (evN c x ps n) n p
def evF (c x : Int) (l : List Stp) : List Int := (evN c x (sides 1 l) l.length).found
theorem evN_ne (c x : Int) (ps : List (Int × Int)) : ∀ n, (evN c x ps n).found.length ≤ n ∧ ((evN c x ps n).last ≠ 0 → (evN c x ps n).found ≠ [])
  | 0 => ⟨Nat.le_refl _, fun h => absurd rfl h⟩
  | n + 1 => by
    obtain ⟨h1, h2⟩ := evN_ne c x ps n
    have e : evN c x ps (n + 1) = match ps[n]? with | none => evN c x ps n | some p => evStep c (evN c x ps n) n p := rfl
    rw [e]
    cases ps[n]? with
    | none => exact ⟨Nat.le_succ_of_le h1, h2⟩
    | some p =>
      dsimp only
      unfold evStep
      split
      · exact ⟨Nat.le_succ_of_le h1, h2⟩
      · refine ⟨?_, fun _ z => ?_⟩
        · show ((if p.1 = (evN c x ps n).last then (evN c x ps n).found.dropLast else (evN c x ps n).found) ++ [(n : Int)]).length ≤ n + 1
          rw [List.length_append]
          show _ + 1 ≤ n + 1
          have : (if p.1 = (evN c x ps n).last then (evN c x ps n).found.dropLast else (evN c x ps n).found).length ≤ n := by
            split
            · rw [List.length_dropLast]; omega
            · exact h1
          omega
        · exact absurd z (by simp)
/-! ### evidence judged, in plain -/
structure Jd where
  total : Int
  before : Int
  last : Int
def jdB (c : Int) (p : Int × Int) : Int := if p.1 = 1 then p.2 else c - p.2
def jdStep (c : Int) (e : Jd) (p : Int × Int) : Jd := ⟨e.total + (jdB c p - e.before) * p.1, jdB c p, p.1⟩
def jdN (c x : Int) (ps : List (Int × Int)) (idx : List Int) : Nat → Jd
  | 0 => ⟨0, x, 0⟩
  | n + 1 => match idx[n]? with
    | none => jdN c x ps idx n
    | some i => match ps[i.toNat]? with
      | none => jdN c x ps idx n
      | some p => jdStep c (jdN c x ps idx n) p
/-- the item at a position is right -/
def jdOk (c x : Int) (ps : List (Int × Int)) (idx : List Int) (k : Nat) (i : Int) : Prop :=
  0 ≤ i ∧ i < ps.length ∧ (∀ j, k ≠ 0 → idx[k - 1]? = some j → j < i) ∧ ∀ p, ps[i.toNat]? = some p → p.1 ≠ 0 ∧ p.1 ≠ (jdN c x ps idx k).last
local macro_rules | `(tactic| walk_at "x1") => `(tactic| first
  | ((with_reducible apply x_var); exact rfl)
  | with_reducible refine x_c ?_
  | with_reducible refine x_op ?_
  | with_reducible refine x_seq ?_
  | with_reducible refine x_asg ?_
  | with_reducible refine x_gname ?_
  | with_reducible refine x_cons ?_
  | with_reducible refine x_nil ?_
  | with_reducible refine x_fld ?_
  | with_reducible refine x_ret ?_
  | with_reducible refine x_ifS ?_
  | with_reducible refine x_test ?_
  | with_reducible refine x_ex ?_
  | with_reducible refine x_call ?_
  | with_reducible refine x_mk ?_
  | with_reducible refine x_meth ?_
  | with_reducible refine x_prop ?_
  | with_reducible refine x_cb ?_
  | with_reducible refine x_tup ?_
  | with_reducible refine x_lst ?_
  | with_reducible refine x_drop ?_
  | with_reducible refine x_for ?_
  | with_reducible refine x_iL ?_
  | with_reducible refine x_iT ?_
  | with_reducible refine x_iE ?_
  | with_reducible refine x_iU ?_
  | with_reducible refine x_iR1 ?_
  | with_reducible refine x_iR2 ?_
  | with_reducible refine x_gcons ?_
  | with_reducible refine x_gnil ?_
  | with_reducible refine x_par ?_
  | with_reducible refine x_lstRg ?_
  | with_reducible refine x_rg1 ?_
  | with_reducible refine x_rg1At ?_
  | with_reducible refine x_par3 ?_
  | with_reducible refine x_bm ?_
  | with_reducible refine x_bm0 ?_
  | with_reducible refine x_gSub ?_
  | with_reducible refine x_lc ?_
  | with_reducible refine x_yes ?_
  | with_reducible refine x_setf ?_
  | with_reducible refine x_next ?_
  | with_reducible refine x_B ?_
  | with_reducible refine x_and ?_
  | with_reducible refine x_or ?_
  | with_reducible refine x_not ?_
  | with_reducible refine x_andV ?_
  | with_reducible refine x_orV ?_
  | with_reducible refine x_notV ?_
  | with_reducible refine x_ifE ?_
  | with_reducible refine x_chain ?_
  | with_reducible refine x_chain3 ?_
  | with_reducible refine x_un ?_
  | with_reducible refine x_isNe ?_
  | with_reducible refine x_notNe ?_
  | with_reducible refine x_starA ?_
  | with_reducible refine x_plusI ?_
  | with_reducible refine x_minus ?_
  | with_reducible refine x_lt ?_
  | with_reducible refine x_le ?_
  | with_reducible refine x_gt ?_
  | with_reducible refine x_ge ?_
  | with_reducible refine x_eqI ?_
  | with_reducible refine x_neI ?_
  | with_reducible refine x_eqS ?_
  | with_reducible refine x_eqB ?_
  | with_reducible refine x_neB ?_
  | with_reducible refine x_int ?_
  | with_reducible refine x_intB ?_
  | with_reducible refine x_max2 ?_
  | with_reducible refine x_min2 ?_
  | with_reducible refine x_max3 ?_
  | with_reducible refine x_abs ?_
  | with_reducible refine x_neg ?_
  | with_reducible refine x_isi_ii ?_
  | with_reducible refine x_isi_ib ?_
  | with_reducible refine x_T ?_
  | with_reducible refine x_nT ?_
  | with_reducible refine x_nF ?_
  | with_reducible refine x_F ?_)
local macro_rules | `(tactic| walk_at "x") => `(tactic| repeat walk_at "x1")

local macro_rules | `(tactic| walk_at "q1") => `(tactic| first
  | walk_at "x1"
  | with_reducible refine x_sl ?_
  | with_reducible refine x_noPart ?_
  | with_reducible refine x_part ?_
  | with_reducible refine x_partI ?_)
local macro_rules | `(tactic| walk_at "q") => `(tactic| repeat walk_at "q1")

section
variable {P : Program} {w : World} {K : PySem.W.Frag} {mg : Str → Option Value} {base : Heap}
theorem ok_moved (W : Wd K mg) : FnR P w K mg base CX0 1 (ga K "moved") (fun vs H Q _ => ∃ c x s n : Int, vs = [.int c, .int x, .int s, .int n] ∧ Q (.int (moved c x s n)) H) := by
  refine (def_ok W.F_moved sc_moved (fun _ _ _ _ _ _ us hl => match us, hl with | [_, _, _, _], _ => rfl) (fun vs H Q E ⟨c, x, s, n, e, _⟩ => by rw [e]; rfl) fun cdv A outer s' H vs Q E hr ⟨c, x, s, n, e, k⟩ => ?_).2
  subst e
  refine ⟨_, PSs.nox (pss_cons (ps_if (pt_cmpR (op_eqK K hr.units) (pv 2) pe_int (nomark _)) (pss_one (ps_ret (pe_callB (c_max2 rfl) (by rfl) W.f_max (by decide +kernel) (pa_cons (pv 1) (pa_cons (pv 3) pa_nil))))) pss_nil) (pss_one (ps_ret (pe_ifExp (pt_cmpR (op_eqK K hr.units) (pv 2) (pe_un un_neg pe_int) (nomark _)) (pe_callB (c_min2 rfl) (by rfl) W.f_min (by decide +kernel) (pa_cons (pv 1) (pa_cons (pe_op op_minus (pv 0) (pv 3)) pa_nil))) (pv 1))))), ?_⟩
  unfold moved at k
  walk_at "q"
  refine x_ifd (fun h => ?_) fun h => ?_
  · rw [if_pos h] at k
    walk_at "q"
    exact k
  · rw [if_neg h] at k
    walk_at "q"
    refine x_ifd (fun h => ?_) fun h => ?_
    · rw [if_pos h] at k
      walk_at "q"
      exact k
    · rw [if_neg h] at k
      walk_at "q"
      exact k
def spFE (K : PySem.W.Frag) : Sp := fun vs H Q _ => ∃ (p : Addr) (c x : Int) (l : List Stp), vs = [.ref p, .int c, .int x] ∧ PlanAt (CP K) H p l ∧ l.length ≤ 60 ∧ 0 ≤ c ∧ c ≤ 1000000000000000000 ∧ fitsS c l ∧ 0 ≤ x ∧ x ≤ c ∧
  ∀ r H', H r = none → Same H H' → H' r = some (.lst ((evF c x l).map V.int)) → Q (.ref r) H'
theorem ok_find_evidence (W : Wd K mg) : FnR P w K mg base CX0 5 (ga K "find_evidence") (spFE K) := by
  refine (def_ok W.F_find_evidence sc_find_evidence (fun _ _ _ _ _ _ us hl => match us, hl with | [_, _, _], _ => rfl) (fun vs H Q E ⟨p, c, x, l, e, _⟩ => by rw [e]; rfl) fun cdv A outer s H vs Q E hr ⟨p, c, x, l, e, hp, h60, c0, c1, hf, x0, x1, k⟩ => ?_).2
  subst e
  refine ⟨_, PSs.nox (pss_cons (ps_expr (pe_callR (ok_validate_house W) (hr.mono (by decide)) W.g_validate_house W.k_validate_house pass0 rfl (pa_cons (pv 0) (pa_cons (pv 1) pa_nil)))) (pss_cons (ps_expr (pe_callR (ok_validate_start W) (hr.mono (by decide)) W.g_validate_start W.k_validate_start pass0 rfl (pa_cons (pv 1) (pa_cons (pv 2) pa_nil)))) (pss_cons (ps_par3 (i := 3) (j := 4) (l := 5) (by rfl) sc_find_evidence.nd rfl rfl rfl (by decide) (by decide) (by decide) rfl rfl rfl (pa_cons (pe_lst pa_nil) (pa_cons (pv 2) (pa_cons pe_int pa_nil))) (by rfl)) (pss_cons (ps_for PassesOwn.never rfl (pi_enumK K W.f_enumerate (pa_cons (pe_callR (ok_sides_of W) (hr.mono (by decide)) W.g_sides_of W.k_sides_of pass0 rfl (pa_cons (pv 0) pa_nil)) pa_nil)) (pg_tupK (n := 2) K rfl (pgs_cons (pg_name (i := 6) sc_find_evidence.nd rfl (Or.inl rfl)) (pgs_cons (pg_tupK (n := 2) K rfl (pgs_cons (pg_name (i := 7) sc_find_evidence.nd rfl (Or.inl rfl)) (pgs_cons (pg_name (i := 8) sc_find_evidence.nd rfl (Or.inl rfl)) pgs_nil))) pgs_nil))) (pss_cons (ps_set (i := 9) sc_find_evidence.nd rfl (Or.inl rfl) (pe_callR (ok_moved W) (hr.mono (by decide)) W.g_moved W.k_moved pass0 rfl (pa_cons (pv 1) (pa_cons (pv 4) (pa_cons (pv 7) (pa_cons (pv 8) pa_nil)))))) (pss_cons (ps_if (pt_cmpR (op_neK K hr.units) (pv 9) (pv 4) (nomark _)) (pss_cons (ps_if (pt_cmpR (op_eqK K hr.units) (pv 7) (pv 5) (nomark _)) (pss_one (ps_expr (pe_bm0K K PySem.F.plainAttrs_list PySem.F.slot_list_pop PySem.F.type_list_pop mt_pop (pv 3)))) pss_nil) (pss_cons (ps_expr (pe_bmK K PySem.F.plainAttrs_list PySem.F.slot_list_append PySem.F.type_list_append mt_append (pv 3) (pa_cons (pv 6) pa_nil))) (pss_one (ps_set (i := 5) sc_find_evidence.nd rfl (Or.inl rfl) (pv 7))))) pss_nil) (pss_one (ps_set (i := 4) sc_find_evidence.nd rfl (Or.inl rfl) (pv 9)))))) (pss_one (ps_ret (pv 3))))))), ?_⟩
  walk_at "q"
  refine ⟨p, c, l, rfl, hp, h60, c0, c1, hf, fun H1 s1 => ?_⟩
  walk_at "q"
  refine ⟨c, x, rfl, x0, x1, ?_⟩
  walk_at "q"
  refine ⟨sz rfl, fun r hr1 => ?_⟩; generalize hNr : upd _ r _ = H2; obtain ⟨s2, e2⟩ := nws hNr hr1
  walk_at "q"
  refine ⟨_, _, _, rfl, ?_⟩
  walk_at "q"
  refine ⟨p, l, rfl, (hp.mono s1).mono s2, h60, fun t ps H3 ht s3 hps hpp => ?_⟩
  have lps : ps.length = (sides 1 l).length := pr_len hpp
  have hr3 := s3 _ _ e2
  have ntr : t ≠ r := (ne_of_none e2 ht).symm
  have ll : (sides 1 l).length ≤ 60 := by rw [sides_len]; exact h60
  walk_at "q"
  refine x_iEAt (SqL.of hps) (x_loop walk_enum (fun i σ H4 => (∃ a b d f, σ = [some (.ref p), some (.int c), some (.int x), some (.ref r), some (.int (evN c x (sides 1 l) i).place), some (.int (evN c x (sides 1 l) i).last), a, b, d, f]) ∧ (∀ b o, b ≠ r → H3 b = some o → H4 b = some o) ∧ H4 r = some (.lst ((evN c x (sides 1 l) i).found.map V.int))) ⟨⟨_, _, _, _, rfl⟩, fun _ _ _ h => h, hr3⟩ (fun i σ H4 _ ⟨_, s4, _⟩ => SqL.of (s4 _ _ ntr hps)) ?_ ?_)
  · rintro i y σ H4 H5 hi ⟨⟨a, b, d, f, rfl⟩, s4, hr4⟩ ⟨T, v1, v2, rfl, hT, rfl, e1, e2⟩
    cases e1
    obtain ⟨⟨sd, n⟩, hst, q, rfl, hq⟩ := pr_at hpp e2
    have hq4 : H4 q = some (.tup (pairV (sd, n))) := s4 _ _ (ne_of hq hr3 (by intro z; cases z)) hq
    have en : evN c x (sides 1 l) (i + 1) = evStep c (evN c x (sides 1 l) i) i (sd, n) := by
      show (match (sides 1 l)[i]? with | none => evN c x (sides 1 l) i | some p => evStep c (evN c x (sides 1 l) i) i p) = _
      rw [hst]
    obtain ⟨fl, fne⟩ := evN_ne c x (sides 1 l) i
    rw [en]
    generalize evN c x (sides 1 l) i = e at fl fne hr4 ⊢
    obtain ⟨fd, pl, la⟩ := e
    refine x_gTup upd_same rfl ?_
    walk_at "q"
    refine x_gTup (up hq4 hT) rfl ?_
    unfold pairV
    walk_at "q"
    refine ⟨c, pl, sd, n, rfl, ?_⟩
    have s45 : ∀ b o, b ≠ r → H3 b = some o → (upd H4 T (.tup [.int (i : Nat), .ref q])) b = some o := fun b o hb e => up (s4 b o hb e) hT
    have hr5 : (upd H4 T (.tup [.int (i : Nat), .ref q])) r = some (.lst (fd.map V.int)) := up hr4 hT
    walk_at "q"
    unfold evStep
    dsimp only
    by_cases hm : moved c pl sd n = pl
    · rw [if_pos hm, hm, decide_eq_true (rfl : pl = pl)]
      walk_at "q"
      exact ⟨⟨_, _, _, _, rfl⟩, s45, hr5⟩
    · rw [if_neg hm, decide_eq_false hm]
      walk_at "q"
      have fin : ∀ (gs : List Int) (H6 : Hp) (D : Ends), gs.length ≤ i → (∀ b o, b ≠ r → H3 b = some o → H6 b = some o) → H6 r = some (.lst (gs.map V.int)) → (∀ b o, b ≠ r → H3 b = some o → (upd H6 r (.lst (gs.map V.int ++ [.int (i : Nat)]))) b = some o) ∧ (upd H6 r (.lst (gs.map V.int ++ [.int (i : Nat)]))) r = some (.lst ((gs ++ [(i : Int)]).map V.int)) := by
        intro gs H6 D gl s6 h6
        refine ⟨fun b o hb e => by rw [upd_ne hb]; exact s6 b o hb e, ?_⟩
        rw [upd_same, List.map_append]
        rfl
      refine x_ifMd (fun σ' H6 => ∃ gs : List Int, σ' = [some (.ref p), some (.int c), some (.int x), some (.ref r), some (.int pl), some (.int la), some (.int (i : Nat)), some (.int sd), some (.int n), some (.int (moved c pl sd n))] ∧ gs.length ≤ i ∧ gs = (if sd = la then fd.dropLast else fd) ∧ (∀ b o, b ≠ r → H3 b = some o → H6 b = some o) ∧ H6 r = some (.lst (gs.map V.int))) (fun he N kN => ?pop) (fun hn N kN => ?keep) ?rest
      case pop =>
        walk_at "q"
        refine ⟨ty_lst hr5, ?_⟩
        have sd0 : sd ≠ 0 := by
          rintro rfl
          refine hm ?_
          unfold moved
          rw [if_neg (by decide), if_neg (by decide)]
        have fn : fd ≠ [] := fne (by rw [← he]; exact sd0)
        have fp : 0 < fd.length := List.length_pos_iff.mpr fn
        refine ⟨r, fd.map V.int, .int (fd[fd.length - 1]'(by omega)), rfl, rfl, hr5, ?_, ?_⟩
        · rw [List.length_map, List.getElem?_map, List.getElem?_eq_getElem (by omega)]
          rfl
        · refine kN _ _ ⟨fd.dropLast, rfl, ?_, by rw [if_pos he], fun b o hb e => by rw [upd_ne hb]; exact s45 b o hb e, ?_⟩
          · rw [List.length_dropLast]
            have : fd.length ≤ i := fl
            omega
          · rw [upd_same, List.map_dropLast]
      case keep =>
        exact kN _ _ ⟨fd, rfl, fl, by rw [if_neg hn], s45, hr5⟩
      case rest =>
        rintro σ' H6 ⟨gs, rfl, gl, rfl, s6, h6⟩
        walk_at "q"
        refine ⟨ty_lst h6, ?_⟩
        walk_at "q"
        have ll' : i < 60 := by have : i < ps.length := hi; omega
        refine x_app h6 (sz5' (by rw [List.length_map]; omega)) ?_
        walk_at "q"
        obtain ⟨f1, f2⟩ := fin _ H6 ⟨fun _ _ => True, fun _ _ => True, fun _ _ => True, fun _ _ => True⟩ gl s6 h6
        exact ⟨⟨_, _, _, _, rfl⟩, f1, f2⟩
  · rintro σ H4 ⟨⟨a, b, d, f, rfl⟩, s4, hr4⟩
    rw [lps, sides_len] at hr4
    walk_at "q"
    refine k r H4 (s1.free hr1) (fun b o e => ?_) hr4
    have e3 : H3 b = some o := s3 _ _ (s2 _ _ (s1 _ _ e))
    exact s4 b o (ne_of_none e (s1.free hr1)) e3
def spJE (K : PySem.W.Frag) : Sp := fun vs H Q _ => ∃ (p r : Addr) (c x : Int) (l : List Stp) (idx : List Int), vs = [.ref p, .int c, .int x, .ref r] ∧ PlanAt (CP K) H p l ∧ l.length ≤ 60 ∧ 0 ≤ c ∧ c ≤ 1000000000000000000 ∧ fitsS c l ∧ 0 ≤ x ∧ x ≤ c ∧ H r = some (.lst (idx.map V.int)) ∧
  (∀ k i, idx[k]? = some i → jdOk c x (sides 1 l) idx k i) ∧ ∀ H', Same H H' → Q (.int (mx 0 (jdN c x (sides 1 l) idx idx.length).total)) H'
theorem ok_judge_evidence (W : Wd K mg) : FnR P w K mg base CX0 5 (ga K "judge_evidence") (spJE K) := by
  refine (def_ok W.F_judge_evidence sc_judge_evidence (fun _ _ _ _ _ _ us hl => match us, hl with | [_, _, _, _], _ => rfl) (fun vs H Q E ⟨p, r, c, x, l, idx, e, _⟩ => by rw [e]; rfl) fun cdv A outer s H vs Q E hr ⟨p, r, c, x, l, idx, e, hp, h60, c0, c1, hf, x0, x1, hir, hok, k⟩ => ?_).2
  subst e
  refine ⟨_, PSs.nox (pss_cons (ps_expr (pe_callR (ok_validate_house W) (hr.mono (by decide)) W.g_validate_house W.k_validate_house pass0 rfl (pa_cons (pv 0) (pa_cons (pv 1) pa_nil)))) (pss_cons (ps_expr (pe_callR (ok_validate_start W) (hr.mono (by decide)) W.g_validate_start W.k_validate_start pass0 rfl (pa_cons (pv 1) (pa_cons (pv 2) pa_nil)))) (pss_cons (ps_asg (pe_tup (pa_cons (pe_callR (ok_sides_of W) (hr.mono (by decide)) W.g_sides_of W.k_sides_of pass0 rfl (pa_cons (pv 0) pa_nil)) (pa_cons pe_int (pa_cons (pv 2) (pa_cons pe_int pa_nil))))) (pg_tupK (n := 4) K rfl (pgs_cons (pg_name (i := 4) sc_judge_evidence.nd rfl (Or.inl rfl)) (pgs_cons (pg_name (i := 5) sc_judge_evidence.nd rfl (Or.inl rfl)) (pgs_cons (pg_name (i := 6) sc_judge_evidence.nd rfl (Or.inl rfl)) (pgs_cons (pg_name (i := 7) sc_judge_evidence.nd rfl (Or.inl rfl)) pgs_nil)))))) (pss_cons (ps_for PassesOwn.never rfl (pi_enumK K W.f_enumerate (pa_cons (pv 3) pa_nil)) (pg_tupK (n := 2) K rfl (pgs_cons (pg_name (i := 8) sc_judge_evidence.nd rfl (Or.inl rfl)) (pgs_cons (pg_name (i := 9) sc_judge_evidence.nd rfl (Or.inl rfl)) pgs_nil))) (pss_cons (ps_set (i := 10) sc_judge_evidence.nd rfl (Or.inl rfl) (pe_and (pe_chain op_leI op_ltI pe_int (pv 9) (pe_callB (c_lenK K) (by rfl) W.f_len (by decide +kernel) (pa_cons (pv 4) pa_nil))) (pe_one (pe_or (pe_cmpR (op_eqK K hr.units) (pv 8) pe_int (nomark _)) (pe_one (pe_cmpR op_gtI (pv 9) (pe_ix (ix_K K) (pv 3) (pe_op op_minus (pv 8) pe_int) (fun _ _ => rfl)) (nomark _))))))) (pss_cons (ps_if (PW.pt (pw_or (pt_not (pt_val (pv 10))) (pw_or (pt_cmpR (op_eqK K hr.units) (pe_ix (ix_K K) (pe_ix (ix_K K) (pv 4) (pv 9) (fun _ _ => rfl)) pe_int (fun _ _ => rfl)) pe_int (nomark _)) (pw_or1 (pt_cmpR (op_eqK K hr.units) (pe_ix (ix_K K) (pe_ix (ix_K K) (pv 4) (pv 9) (fun _ _ => rfl)) pe_int (fun _ _ => rfl)) (pv 7) (nomark _)))))) (pss_one ps_never) pss_nil) (pss_cons (ps_asg (pe_ix (ix_K K) (pv 4) (pv 9) (fun _ _ => rfl)) (pg_tupK (n := 2) K rfl (pgs_cons (pg_name (i := 11) sc_judge_evidence.nd rfl (Or.inl rfl)) (pgs_cons (pg_name (i := 12) sc_judge_evidence.nd rfl (Or.inl rfl)) pgs_nil)))) (pss_cons (ps_set (i := 13) sc_judge_evidence.nd rfl (Or.inl rfl) (pe_ifExp (pt_cmpR (op_eqK K hr.units) (pv 11) pe_int (nomark _)) (pv 12) (pe_op op_minus (pv 1) (pv 12)))) (pss_cons (ps_aug (i := 5) sc_judge_evidence.nd rfl (Or.inl rfl) (pe_op op_times (pe_op op_minus (pv 13) (pv 6)) (pv 11)) ip_add) (pss_one (ps_par (i := 6) (j := 7) (by rfl) sc_judge_evidence.nd rfl rfl (by decide) rfl rfl (pa_cons (pv 13) (pa_cons (pv 11) pa_nil)) (by rfl))))))))) (pss_one (ps_ret (pe_callB (c_max2 rfl) (by rfl) W.f_max (by decide +kernel) (pa_cons pe_int (pa_cons (pv 5) pa_nil))))))))), ?_⟩
  walk_at "q"
  refine ⟨p, c, l, rfl, hp, h60, c0, c1, hf, fun H1 s1 => ?_⟩
  walk_at "q"
  refine ⟨c, x, rfl, x0, x1, ?_⟩
  walk_at "q"
  refine ⟨p, l, rfl, hp.mono s1, h60, fun t ps H1' ht s2' hps' hpp' => ?_⟩
  walk_at "q"
  refine ⟨sz rfl, fun tt htt => ?_⟩; generalize hNtt : upd _ tt _ = H2; obtain ⟨stt, ett⟩ := nws hNtt htt
  have s2 := s2'.trans stt
  have hps := stt _ _ hps'
  have hpp := hpp'.mono stt
  refine x_gTup ett rfl ?_
  have lps : ps.length = (sides 1 l).length := pr_len hpp
  have ll : (sides 1 l).length ≤ 60 := by rw [sides_len]; exact h60
  have fp : fits c (sides 1 l) := sides_fits l 1 (.inl rfl) c0 hf
  walk_at "q"
  refine x_iEAt (SqL.of (s2 _ _ (s1 _ _ hir))) (x_loop walk_enum (fun i σ H3 => (∃ a b d f g j, σ = [some (.ref p), some (.int c), some (.int x), some (.ref r), some (.ref t), some (.int (jdN c x (sides 1 l) idx i).total), some (.int (jdN c x (sides 1 l) idx i).before), some (.int (jdN c x (sides 1 l) idx i).last), a, b, d, f, g, j]) ∧ Same H2 H3) ⟨⟨_, _, _, _, _, _, rfl⟩, Same.refl _⟩ (fun i σ H3 _ ⟨_, s3⟩ => SqL.of (s3 _ _ (s2 _ _ (s1 _ _ hir)))) ?_ ?_)
  · rintro i y σ H3 H4 hi ⟨⟨a, b, d, f, g, j, rfl⟩, s3⟩ ⟨T, v1, v2, rfl, hT, rfl, e1, e2⟩
    cases e1
    dsimp only at e2
    rw [List.getElem?_map] at e2
    obtain ⟨ix, hix, rfl⟩ := Option.map_eq_some_iff.mp e2
    obtain ⟨i0, i1, i2, i3⟩ := hok i ix hix
    obtain ⟨pq, hpq⟩ : ∃ pq, (sides 1 l)[ix.toNat]? = some pq := ⟨_, List.getElem?_eq_getElem (by omega)⟩
    obtain ⟨n0, nl⟩ := i3 pq hpq
    obtain ⟨fs, _, _⟩ := fp pq (List.mem_of_getElem? hpq)
    obtain ⟨v, hv, q, rfl, hq⟩ := pr_atR hpp hpq
    have en : jdN c x (sides 1 l) idx (i + 1) = jdStep c (jdN c x (sides 1 l) idx i) pq := by
      show (match idx[i]? with | none => jdN c x (sides 1 l) idx i | some i' => (match (sides 1 l)[i'.toNat]? with | none => jdN c x (sides 1 l) idx i | some p => jdStep c (jdN c x (sides 1 l) idx i) p)) = _
      rw [hix]
      dsimp only
      rw [hpq]
    have hat : atI ps ix = some (.ref q) := by
      have := atI_nat (xs := ps) (j := ix.toNat) hv
      rw [Int.toNat_of_nonneg i0] at this
      exact this
    rw [en]
    generalize jdN c x (sides 1 l) idx i = e at nl ⊢
    obtain ⟨to, be, la⟩ := e
    obtain ⟨sd, n⟩ := pq
    have sT : Same H2 (upd H3 T (.tup [.int (i : Nat), .int ix])) := s3.trans (Same.new hT)
    have hT4 : (upd H3 T (.tup [.int (i : Nat), .int ix])) T = some (.tup [.int (i : Nat), .int ix]) := upd_same
    show gTup K 2 _ _ _ (upd H3 T (.tup [.int (i : Nat), .int ix])) _
    generalize upd H3 T (.tup [.int (i : Nat), .int ix]) = H4 at sT hT4 ⊢
    have hps4 := sT _ _ hps
    have hq4 := sT _ _ hq
    have hir4 := sT _ _ (s2 _ _ (s1 _ _ hir))
    refine x_gTup hT4 rfl ?_
    walk_at "q"
    rw [decide_eq_true i0]
    walk_at "q"
    refine x_lenL (SqL.of hps4) ?_
    walk_at "q"
    rw [decide_eq_true (show ix < (ps.length : Int) by omega)]
    walk_at "q"
    refine x_orK (fun hz Q' kQ => ?_) ?_
    · walk_at "q"
      have iz : i ≠ 0 := fun z => hz (by rw [z]; rfl)
      have il : i - 1 < idx.length := by
        have := (List.getElem?_eq_some_iff.mp hix).1
        omega
      obtain ⟨pv, hpv⟩ : ∃ pv, idx[i - 1]? = some pv := ⟨_, List.getElem?_eq_getElem il⟩
      have hat2 : atI (idx.map V.int) ((i : Int) - 1) = some (.int pv) := by
        have := atI_nat (xs := idx.map V.int) (j := i - 1) (v := .int pv) (by rw [List.getElem?_map, hpv]; rfl)
        rw [show ((i - 1 : Nat) : Int) = (i : Int) - 1 by omega] at this
        exact this
      refine x_ixL (SqL.of hir4) hat2 ?_
      walk_at "q"
      rw [decide_eq_true (i2 pv iz hpv)]
      exact kQ
    walk_at "q"
    refine x_ixL (SqL.of hps4) hat ?_
    walk_at "q"
    refine x_ixT (SqT.of hq4) (i := 0) rfl ?_
    walk_at "q"
    rw [decide_eq_false n0]
    walk_at "q"
    refine x_ixL (SqL.of hps4) hat ?_
    walk_at "q"
    refine x_ixT (SqT.of hq4) (i := 0) rfl ?_
    walk_at "q"
    rw [decide_eq_false nl]
    walk_at "q"
    refine x_ixL (SqL.of hps4) hat ?_
    refine x_gTup hq4 rfl ?_
    unfold pairV
    walk_at "q"
    unfold jdStep jdB
    refine x_ifd (fun h1 => ?_) fun h1 => ?_
    · walk_at "q"
      refine x_aug rfl ?_
      walk_at "q"
      have h1' : sd = 1 := h1
      refine x_timesI (.inr ⟨by show -(2 ^ 64) < sd; omega, by show sd < 2 ^ 64; omega⟩) (x_ipI ?_)
      walk_at "q"
      refine ⟨_, _, rfl, ?_⟩
      rw [if_pos h1]
      exact ⟨⟨_, _, _, _, _, _, rfl⟩, sT⟩
    · walk_at "q"
      refine x_aug rfl ?_
      walk_at "q"
      have h1' : sd = -1 := by
        have a : ¬ sd = 1 := h1
        have b : sd ≠ 0 := n0
        have := fs
        dsimp only at this
        omega
      refine x_timesI (.inr ⟨by show -(2 ^ 64) < sd; omega, by show sd < 2 ^ 64; omega⟩) (x_ipI ?_)
      walk_at "q"
      refine ⟨_, _, rfl, ?_⟩
      rw [if_neg h1]
      exact ⟨⟨_, _, _, _, _, _, rfl⟩, sT⟩
  · rintro σ H3 ⟨⟨a, b, d, f, g, j, rfl⟩, s3⟩
    rw [List.length_map]
    walk_at "q"
    exact k _ (s1.trans (s2.trans s3))
end
end K14

set_option Elab.async false
set_option linter.all false
set_option autoImplicit false
set_option maxRecDepth 100000
set_option pp.maxSteps 1500
set_option maxHeartbeats 4000000
namespace K14
open PySem PySem.Spec PyProof.Rows L2 He ChH Ch ChM
local macro_rules | `(tactic| walk_at "x1") => `(tactic| first
  | ((with_reducible apply x_var); exact rfl)
  | with_reducible refine x_c ?_
  | with_reducible refine x_op ?_
  | with_reducible refine x_seq ?_
  | with_reducible refine x_asg ?_
  | with_reducible refine x_gname ?_
  | with_reducible refine x_cons ?_
  | with_reducible refine x_nil ?_
  | with_reducible refine x_fld ?_
  | with_reducible refine x_ret ?_
  | with_reducible refine x_ifS ?_
  | with_reducible refine x_test ?_
  | with_reducible refine x_ex ?_
  | with_reducible refine x_call ?_
  | with_reducible refine x_mk ?_
  | with_reducible refine x_meth ?_
  | with_reducible refine x_prop ?_
  | with_reducible refine x_cb ?_
  | with_reducible refine x_tup ?_
  | with_reducible refine x_lst ?_
  | with_reducible refine x_drop ?_
  | with_reducible refine x_for ?_
  | with_reducible refine x_iL ?_
  | with_reducible refine x_iT ?_
  | with_reducible refine x_iE ?_
  | with_reducible refine x_iU ?_
  | with_reducible refine x_iR1 ?_
  | with_reducible refine x_iR2 ?_
  | with_reducible refine x_gcons ?_
  | with_reducible refine x_gnil ?_
  | with_reducible refine x_par ?_
  | with_reducible refine x_lstRg ?_
  | with_reducible refine x_rg1 ?_
  | with_reducible refine x_rg1At ?_
  | with_reducible refine x_par3 ?_
  | with_reducible refine x_bm ?_
  | with_reducible refine x_bm0 ?_
  | with_reducible refine x_gSub ?_
  | with_reducible refine x_lc ?_
  | with_reducible refine x_yes ?_
  | with_reducible refine x_setf ?_
  | with_reducible refine x_next ?_
  | with_reducible refine x_B ?_
  | with_reducible refine x_and ?_
  | with_reducible refine x_or ?_
  | with_reducible refine x_not ?_
  | with_reducible refine x_andV ?_
  | with_reducible refine x_orV ?_
  | with_reducible refine x_notV ?_
  | with_reducible refine x_ifE ?_
  | with_reducible refine x_chain ?_
  | with_reducible refine x_chain3 ?_
  | with_reducible refine x_un ?_
  | with_reducible refine x_isNe ?_
  | with_reducible refine x_notNe ?_
  | with_reducible refine x_starA ?_
  | with_reducible refine x_plusI ?_
  | with_reducible refine x_minus ?_
  | with_reducible refine x_lt ?_
  | with_reducible refine x_le ?_
  | with_reducible refine x_gt ?_
  | with_reducible refine x_ge ?_
  | with_reducible refine x_eqI ?_
  | with_reducible refine x_neI ?_
  | with_reducible refine x_eqS ?_
  | with_reducible refine x_eqB ?_
  | with_reducible refine x_neB ?_
  | with_reducible refine x_int ?_
  | with_reducible refine x_intB ?_
  | with_reducible refine x_max2 ?_
  | with_reducible refine x_min2 ?_
  | with_reducible refine x_max3 ?_
  | with_reducible refine x_abs ?_
  | with_reducible refine x_neg ?_
  | with_reducible refine x_isi_ii ?_
  | with_reducible refine x_isi_ib ?_
  | with_reducible refine x_T ?_
  | with_reducible refine x_nT ?_
  | with_reducible refine x_nF ?_
  | with_reducible refine x_F ?_)
local macro_rules | `(tactic| walk_at "x") => `(tactic| repeat walk_at "x1")

local macro_rules | `(tactic| walk_at "eff") => `(tactic| first
  | refine x_eff (by assumption) (Wd.c_Effect (by assumption)) (Wd.n_Effect_chairs (by assumption)) eff_chairs ?_
  | refine x_eff (by assumption) (Wd.c_Effect (by assumption)) (Wd.n_Effect_low (by assumption)) eff_low ?_
  | refine x_eff (by assumption) (Wd.c_Effect (by assumption)) (Wd.n_Effect_high (by assumption)) eff_high ?_
  | refine x_eff (by assumption) (Wd.c_Effect (by assumption)) (Wd.n_Effect_extra (by assumption)) eff_extra ?_
  | refine x_eff (by assumption) (Wd.c_Effect (by assumption)) (Wd.n_Effect_goal (by assumption)) eff_goal ?_
  | refine x_eff (by assumption) (Wd.c_Effect (by assumption)) (Wd.n_Effect_turned (by assumption)) eff_turned ?_)
local macro_rules | `(tactic| walk_at "y") => `(tactic| repeat (first | walk_at "x1" | walk_at "eff"))

local macro_rules | `(tactic| walk_at "q1") => `(tactic| first
  | walk_at "x1"
  | with_reducible refine x_sl ?_
  | with_reducible refine x_noPart ?_
  | with_reducible refine x_part ?_
  | with_reducible refine x_partI ?_)
local macro_rules | `(tactic| walk_at "q") => `(tactic| repeat walk_at "q1")

section
variable {P : Program} {w : World} {K : PySem.W.Frag} {mg : Str → Option Value} {base : Heap}
theorem ok_longest_way (W : Wd K mg) : FnR P w K mg base CX0 1 (ga K "longest_way") (fun vs H Q _ => ∃ (c b g : Int) (m : Nat) (up : Bool), vs = [.int c, .int b, .int g, .int m, .bl up] ∧ (m : Int) ≤ 1000000000000000000 ∧ Q (.int (longW c b g m up)) H) := by
  refine (def_ok W.F_longest_way sc_longest_way (fun _ _ _ _ _ _ us hl => match us, hl with | [_, _, _, _, _], _ => rfl) (fun vs H Q E ⟨c, b, g, m, up, e, _⟩ => by rw [e]; rfl) fun cdv A outer s' H vs Q E hr ⟨c, b, g, m, up, e, hm, k⟩ => ?_).2
  subst e
  refine ⟨_, PSs.nox (pss_cons (ps_if (pt_not (pt_val (pv 4))) (pss_one (ps_par (i := 1) (j := 2) (by rfl) sc_longest_way.nd rfl rfl (by decide) rfl rfl (pa_cons (pe_op op_minus (pv 0) (pv 1)) (pa_cons (pe_op op_minus (pv 0) (pv 2)) pa_nil)) (by rfl))) pss_nil) (pss_cons (ps_set (i := 5) sc_longest_way.nd rfl (Or.inl rfl) (pe_ifExp (pt_cmpR (op_eqK K hr.units) (pe_op op_modP (pe_callTy c_int (by rfl) W.f_int (by decide +kernel) (pa_cons (pv 3) pa_nil)) pe_int) pe_int (nomark _)) (pe_op op_minus (pv 0) (pv 2)) (pv 2))) (pss_one (ps_ret (pe_op op_plus (pe_op op_plus (pe_op op_minus (pv 0) (pv 1)) (pe_op op_times (pv 0) (pe_op op_minus (pv 3) pe_int))) (pv 5)))))), ?_⟩
  unfold longW lastW at k
  have e2 : ((m : Int) % 2 = 0) ↔ (m % 2 = 0) := by omega
  cases up with
  | true =>
    rw [if_pos rfl] at k
    walk_at "q"
    refine x_mod (by decide) ?_
    walk_at "q"
    refine x_ifd (fun h => ?_) fun h => ?_
    · rw [if_pos (e2.mp h)] at k
      walk_at "q"
      refine x_timesI (.inr ⟨by omega, by omega⟩) ?_
      walk_at "q"
      exact k
    · rw [if_neg (fun z => h (e2.mpr z))] at k
      walk_at "q"
      refine x_timesI (.inr ⟨by omega, by omega⟩) ?_
      walk_at "q"
      exact k
  | false =>
    rw [if_neg (by decide)] at k
    walk_at "q"
    refine ⟨_, _, rfl, ?_⟩
    walk_at "q"
    refine x_mod (by decide) ?_
    walk_at "q"
    refine x_ifd (fun h => ?_) fun h => ?_
    · rw [if_pos (e2.mp h)] at k
      walk_at "q"
      refine x_timesI (.inr ⟨by omega, by omega⟩) ?_
      walk_at "q"
      exact k
    · rw [if_neg (fun z => h (e2.mpr z))] at k
      walk_at "q"
      refine x_timesI (.inr ⟨by omega, by omega⟩) ?_
      walk_at "q"
      exact k
theorem ok_is_possible (W : Wd K mg) : FnR P w K mg base CX0 1 (ga K "is_possible") (fun vs H Q _ => ∃ (c b g : Int) (m : Nat) (up : Bool), vs = [.int c, .int b, .int g, .int m, .bl up] ∧ Q (.bl (possW c b g m up)) H) := by
  refine (def_ok W.F_is_possible sc_is_possible (fun _ _ _ _ _ _ us hl => match us, hl with | [_, _, _, _, _], _ => rfl) (fun vs H Q E ⟨c, b, g, m, up, e, _⟩ => by rw [e]; rfl) fun cdv A outer s' H vs Q E hr ⟨c, b, g, m, up, e, k⟩ => ?_).2
  subst e
  refine ⟨_, PSs.nox (pss_cons (ps_if (pt_val (pv 4)) (pss_cons (ps_set (i := 5) sc_is_possible.nd rfl (Or.inl rfl) (pe_ifExp (pt_cmpR (op_eqK K hr.units) (pe_op op_modP (pe_callTy c_int (by rfl) W.f_int (by decide +kernel) (pa_cons (pv 3) pa_nil)) pe_int) pe_int (nomark _)) (pe_cmpR op_ltI (pv 2) (pv 0) (nomark _)) (pe_cmpR op_gtI (pv 2) pe_int (nomark _)))) (pss_one (ps_ret (pe_and (pe_cmpR op_ltI (pv 1) (pv 0) (nomark _)) (pe_one (pv 5)))))) pss_nil) (pss_cons (ps_set (i := 5) sc_is_possible.nd rfl (Or.inl rfl) (pe_ifExp (pt_cmpR (op_eqK K hr.units) (pe_op op_modP (pe_callTy c_int (by rfl) W.f_int (by decide +kernel) (pa_cons (pv 3) pa_nil)) pe_int) pe_int (nomark _)) (pe_cmpR op_gtI (pv 2) pe_int (nomark _)) (pe_cmpR op_ltI (pv 2) (pv 0) (nomark _)))) (pss_one (ps_ret (pe_and (pe_cmpR op_gtI (pv 1) pe_int (nomark _)) (pe_one (pv 5))))))), ?_⟩
  unfold possW at k
  have e2 : ((m : Int) % 2 = 0) ↔ (m % 2 = 0) := by omega
  have an : ∀ (a : Prop) [Decidable a] (b : Bool), (if decide a = true then Q (.bl b) H else Q (.bl false) H) ↔ Q (.bl (decide a && b)) H := by
    intro a _ b
    by_cases h : a
    · rw [decide_eq_true h, Bool.true_and, if_pos rfl]
    · rw [decide_eq_false h, Bool.false_and, if_neg (by decide)]
  cases up with
  | true =>
    rw [if_pos rfl] at k
    walk_at "q"
    refine x_mod (by decide) ?_
    walk_at "q"
    refine x_ifd (fun h => ?_) fun h => ?_
    · rw [if_pos (e2.mp h)] at k
      walk_at "q"
      refine x_ifd (fun h => ?_) fun h => ?_
      · walk_at "q"
        rw [decide_eq_true h, Bool.true_and] at k
        exact k
      · rw [decide_eq_false h, Bool.false_and] at k
        exact k
    · rw [if_neg (fun z => h (e2.mpr z))] at k
      walk_at "q"
      refine x_ifd (fun h => ?_) fun h => ?_
      · walk_at "q"
        rw [decide_eq_true h, Bool.true_and] at k
        exact k
      · rw [decide_eq_false h, Bool.false_and] at k
        exact k
  | false =>
    rw [if_neg (by decide)] at k
    walk_at "q"
    refine x_mod (by decide) ?_
    walk_at "q"
    refine x_ifd (fun h => ?_) fun h => ?_
    · rw [if_pos (e2.mp h)] at k
      walk_at "q"
      refine x_ifd (fun h => ?_) fun h => ?_
      · walk_at "q"
        rw [decide_eq_true h, Bool.true_and] at k
        exact k
      · rw [decide_eq_false h, Bool.false_and] at k
        exact k
    · rw [if_neg (fun z => h (e2.mpr z))] at k
      walk_at "q"
      refine x_ifd (fun h => ?_) fun h => ?_
      · walk_at "q"
        rw [decide_eq_true h, Bool.true_and] at k
        exact k
      · rw [decide_eq_false h, Bool.false_and] at k
        exact k
theorem ok_step_to (W : Wd K mg) : FnR P w K mg base CX0 1 (ga K "step_to") (fun vs H Q _ => ∃ (c z : Int) (up : Bool), vs = [.int c, .int z, .bl up] ∧ ∀ t H', H t = none → Same H H' → H' t = some (.tup (stepV (stepTo c z up))) → Q (.ref t) H') := by
  refine (def_ok W.F_step_to sc_step_to (fun _ _ _ _ _ _ us hl => match us, hl with | [_, _, _], _ => rfl) (fun vs H Q E ⟨c, z, up, e, _⟩ => by rw [e]; rfl) fun cdv A outer s' H vs Q E hr ⟨c, z, up, e, k⟩ => ?_).2
  subst e
  refine ⟨_, PSs.nox (pss_one (ps_ret (pe_ifExp (pt_val (pv 2)) (pe_tup (pa_cons (pe_gs W.t_RED rfl) (pa_cons (pv 1) pa_nil))) (pe_tup (pa_cons (pe_gs W.t_BLUE rfl) (pa_cons (pe_op op_minus (pv 0) (pv 1)) pa_nil)))))), ?_⟩
  cases up with
  | true =>
    walk_at "q"
    exact ⟨sz rfl, fun t ht => k t _ ht (Same.new ht) upd_same⟩
  | false =>
    walk_at "q"
    exact ⟨sz rfl, fun t ht => k t _ ht (Same.new ht) upd_same⟩
theorem ok_places_of (W : Wd K mg) : FnR P w K mg base CX0 1 (ga K "places_of") (fun vs H Q _ => ∃ (c b g : Int) (m : Nat) (up : Bool), vs = [.int c, .int b, .int g, .int m, .bl up] ∧ 1 ≤ m ∧ m ≤ 10000 ∧ ∀ r H', H r = none → Same H H' → H' r = some (.lst ((placesL c g m up).map V.int)) → Q (.ref r) H') := by
  refine (def_ok W.F_places_of sc_places_of (fun _ _ _ _ _ _ us hl => match us, hl with | [_, _, _, _, _], _ => rfl) (fun vs H Q E ⟨c, b, g, m, up, e, _⟩ => by rw [e]; rfl) fun cdv A outer s' H vs Q E hr ⟨c, b, g, m, up, e, m1, m2, k⟩ => ?_).2
  subst e
  refine ⟨_, PSs.nox (pss_cons (ps_set (i := 5) sc_places_of.nd rfl (Or.inl rfl) (pe_lst pa_nil)) (pss_cons (ps_for PassesOwn.never rfl (pi_range1 (by rfl) W.f_range (pa_cons (pe_op op_minus (pv 3) pe_int) pa_nil)) (pg_name (i := 6) sc_places_of.nd rfl (Or.inl rfl)) (pss_one (ps_expr (pe_bmK K PySem.F.plainAttrs_list PySem.F.slot_list_append PySem.F.type_list_append mt_append (pv 5) (pa_cons (pe_ifExp (pt_cmpR (op_eqK K hr.units) (pe_cmpR (op_eqK K hr.units) (pe_op op_modP (pe_callTy c_int (by rfl) W.f_int (by decide +kernel) (pa_cons (pv 6) pa_nil)) pe_int) pe_int (nomark _)) (pv 4) (nomark _)) (pv 0) pe_int) pa_nil))))) (pss_one (ps_ret (pe_op op_plus (pv 5) (pe_lst (pa_cons (pv 2) pa_nil))))))), ?_⟩
  walk_at "q"
  refine ⟨sz rfl, fun r hr0 => ?_⟩; generalize hNr : upd _ r _ = H1; obtain ⟨s1, e1⟩ := nws hNr hr0
  walk_at "q"
  refine x_iR1At (by omega) (by omega) ?_
  refine x_loop walk_range (fun i σ H2 => (∃ a, σ = [some (.int c), some (.int b), some (.int g), some (.int m), some (.bl up), some (.ref r), a]) ∧ Same H H2 ∧ H2 r = some (.lst ((rgI (fun j => if decide (decide (j % 2 = 0) = up) then c else 0) i).map V.int))) ⟨⟨_, rfl⟩, s1, e1⟩ (fun _ _ _ _ _ => trivial) ?_ ?_
  · rintro i y σ H3 H2 hi ⟨⟨a, rfl⟩, s2, hr2⟩ ⟨rfl, rfl⟩
    walk_at "q"
    refine ⟨ty_lst hr2, ?_⟩
    walk_at "q"
    refine x_mod (by decide) ?_
    walk_at "q"
    have fin : ∀ v : Int, v = (if decide (decide ((i : Int) % 2 = 0) = up) then c else 0) → Same H (upd H2 r (.lst ((rgI (fun j => if decide (decide (j % 2 = 0) = up) then c else 0) i).map V.int ++ [.int v]))) ∧
        (upd H2 r (.lst ((rgI (fun j => if decide (decide (j % 2 = 0) = up) then c else 0) i).map V.int ++ [.int v]))) r = some (.lst ((rgI (fun j => if decide (decide (j % 2 = 0) = up) then c else 0) (i + 1)).map V.int)) := by
      intro v ev
      refine ⟨Same.mut s2 hr0, ?_⟩
      rw [upd_same, rgI_snoc, List.map_append, ev]
      rfl
    refine x_ifd (fun h => ?_) fun h => ?_
    · walk_at "q"
      refine x_app hr2 (sz5' (by rw [List.length_map, rgI_len]; omega)) ?_
      walk_at "q"
      exact ⟨⟨_, rfl⟩, fin c (by rw [Int.zero_add] at h; rw [decide_eq_true h]; rfl)⟩
    · walk_at "q"
      refine x_app hr2 (sz5' (by rw [List.length_map, rgI_len]; omega)) ?_
      walk_at "q"
      exact ⟨⟨_, rfl⟩, fin 0 (by rw [Int.zero_add] at h; rw [decide_eq_false h]; rfl)⟩
  · rintro σ H2 ⟨⟨a, rfl⟩, s2, hr2⟩
    walk_at "q"
    refine ⟨sz rfl, fun q hq => ?_⟩; generalize hNq : upd _ q _ = H3; obtain ⟨s3, e3⟩ := nws hNq hq
    refine n_plusL (s3 _ _ hr2) e3 (sz5 (by rw [List.length_map, rgI_len]; show _ + 1 ≤ _; omega)) fun t H4 ht s4 e4 => ?_
    refine k t H4 ((s2.trans s3).free ht) (s2.trans (s3.trans s4)) ?_
    rw [e4]
    have em : ((m : Int) - 1).toNat = m - 1 := by omega
    unfold placesL
    rw [List.map_append, em]
    rfl
theorem at_i {xs : List Int} {k : Nat} {j v : Int} (h : xs[k]? = some v) (e : j = (k : Int)) : atI (xs.map V.int) j = some (.int v) := by
  subst e
  exact atI_nat (by rw [List.getElem?_map, h]; rfl)
theorem cut_tail (xs : List V) (h : 1 ≤ xs.length) : cutV xs (some 1) none = xs.tail := by
  cases xs with
  | nil => cases h
  | cons x r =>
    unfold cutV
    simp [HT.sIx]
def spSh (K : PySem.W.Frag) : Sp := fun vs H Q _ => ∃ (q : Addr) (b sl : Int) (zs : List Int), vs = [.int b, .ref q, .int sl] ∧ H q = some (.lst (zs.map V.int)) ∧ 1 ≤ zs.length ∧ zs.length ≤ 10000 ∧ ∀ r H', H r = none → Same H H' → H' r = some (.lst ((shortGo b zs sl).map V.int)) → Q (.ref r) H'
theorem ok_shortened (W : Wd K mg) : FnR P w K mg base CX0 1 (ga K "shortened") (spSh K) := by
  refine (def_ok W.F_shortened sc_shortened (fun _ _ _ _ _ _ us hl => match us, hl with | [_, _, _], _ => rfl) (fun vs H Q E ⟨q, b, sl, zs, e, _⟩ => by rw [e]; rfl) fun cdv A outer s' H vs Q E hr ⟨q, b, sl0, zs, e, hq, z1, z2, k⟩ => ?_).2
  subst e
  refine ⟨_, PSs.nox (pss_cons (ps_set (i := 3) sc_shortened.nd rfl (Or.inl rfl) (pe_op op_plus (pe_lst (pa_cons (pv 0) pa_nil)) (pv 1))) (pss_cons (ps_for PassesOwn.never rfl (pi_range2 (by rfl) W.f_range (pa_cons pe_int (pa_cons (pe_op op_minus (pe_callB (c_lenK K) (by rfl) W.f_len (by decide +kernel) (pa_cons (pv 3) pa_nil)) pe_int) pa_nil))) (pg_name (i := 4) sc_shortened.nd rfl (Or.inl rfl)) (pss_cons (ps_set (i := 5) sc_shortened.nd rfl (Or.inl rfl) (pe_ifExp (pt_cmpR op_gtI (pe_ix (ix_K K) (pv 3) (pv 4) (fun _ _ => rfl)) (pe_ix (ix_K K) (pv 3) (pe_op op_minus (pv 4) pe_int) (fun _ _ => rfl)) (nomark _)) pe_int (pe_un un_neg pe_int))) (pss_cons (ps_set (i := 6) sc_shortened.nd rfl (Or.inl rfl) (pe_op op_times (pe_callB (c_max2 rfl) (by rfl) W.f_max (by decide +kernel) (pa_cons (pe_op op_times (pe_ix (ix_K K) (pv 3) (pe_op op_minus (pv 4) pe_int) (fun _ _ => rfl)) (pv 5)) (pa_cons (pe_op op_times (pe_ix (ix_K K) (pv 3) (pe_op op_plus (pv 4) pe_int) (fun _ _ => rfl)) (pv 5)) pa_nil))) (pv 5))) (pss_cons (ps_set (i := 7) sc_shortened.nd rfl (Or.inl rfl) (pe_callB (c_min2 rfl) (by rfl) W.f_min (by decide +kernel) (pa_cons (pv 2) (pa_cons (pe_op op_minus (pe_callB c_abs (by rfl) W.f_abs (by decide +kernel) (pa_cons (pe_op op_minus (pe_ix (ix_K K) (pv 3) (pv 4) (fun _ _ => rfl)) (pv 6)) pa_nil)) pe_int) pa_nil)))) (pss_cons (ps_augS (pv 3) (pv 4) (get_listK K) (pe_op op_times (pv 7) (pv 5)) ip_sub set_list) (pss_one (ps_aug (i := 2) sc_shortened.nd rfl (Or.inl rfl) (pv 7) ip_sub))))))) (pss_one (ps_ret (pe_slice (sl_listK K) (pv 3) (po_some pe_int) po_none))))), ?_⟩
  walk_at "q"
  refine ⟨sz rfl, fun t ht0 => ?_⟩; generalize hNt : upd _ t _ = H1; obtain ⟨s1, e1⟩ := nws hNt ht0
  walk_at "q"
  refine n_plusL e1 (s1 _ _ hq) (sz5 (by rw [List.length_map]; show 1 + _ ≤ _; omega)) fun r H2 hr1 s2 e2 => ?_
  have e2' : H2 r = some (.lst ((b :: zs).map V.int)) := e2
  have hr0 : H r = none := s1.free hr1
  walk_at "q"
  refine x_lenL (SqL.of e2') ?_
  walk_at "q"
  have ln : ((b :: zs).map V.int).length = zs.length + 1 := by rw [List.length_map]; rfl
  refine x_iR2At ⟨by decide, by decide, by rw [ln]; omega, by rw [ln]; omega⟩ ?_
  have cnt : ((((b :: zs).map V.int).length : Int) - 1 - 1).toNat = zs.length - 1 := by rw [ln]; omega
  rw [cnt]
  refine x_loop walk_range (fun i σ H3 => Same H H3 ∧ ∃ (dn rest : List Int) (pv sl : Int), (∃ a b' c d, σ = [some (.int b), some (.ref q), some (.int sl), some (.ref r), a, b', c, d]) ∧ H3 r = some (.lst ((dn ++ rest).map V.int)) ∧ dn.length = i + 1 ∧ rest.length + i = zs.length ∧ dn[i]? = some pv ∧ shortGo b zs sl0 = dn.tail ++ shortGo pv rest sl)
    ⟨s1.trans s2, [b], zs, b, sl0, ⟨_, _, _, _, rfl⟩, e2', rfl, rfl, rfl, rfl⟩ (fun _ _ _ _ _ => trivial) ?_ ?_
  · rintro i y σ H4 H3 hi ⟨s3, dn, rest, pv, sl, ⟨a, b', c, d, rfl⟩, h3, dl, rl, dp, hg⟩ ⟨rfl, rfl⟩
    obtain ⟨z, nx, r', rfl⟩ : ∃ z nx r', rest = z :: nx :: r' := by
      match rest, rl with
      | [], rl => exfalso; simp at rl; omega
      | [_], rl => exfalso; simp at rl; omega
      | z :: nx :: r', _ => exact ⟨z, nx, r', rfl⟩
    have a0 : (dn ++ z :: nx :: r')[i]? = some pv := by rw [List.getElem?_append_left (by omega)]; exact dp
    have a1 : (dn ++ z :: nx :: r')[i + 1]? = some z := by rw [List.getElem?_append_right (by omega), dl]; simp
    have a2 : (dn ++ z :: nx :: r')[i + 2]? = some nx := by rw [List.getElem?_append_right (by omega), dl, show i + 2 - (i + 1) = 1 by omega]; rfl
    walk_at "q"
    refine x_ixL (SqL.of h3) (at_i a1 (by omega)) ?_
    walk_at "q"
    refine x_ixL (SqL.of h3) (at_i a0 (by omega)) ?_
    walk_at "q"
    refine x_ifSetd (fun v H' => v = .int (if z > pv then 1 else -1) ∧ H3 = H') (fun hz Q' kQ => ?up) (fun hz Q' kQ => ?down) ?rest
    case up =>
      walk_at "q"
      exact kQ _ _ ⟨by rw [if_pos hz], rfl⟩
    case down =>
      walk_at "q"
      exact kQ _ _ ⟨by rw [if_neg hz], rfl⟩
    case rest =>
      rintro _ _ ⟨rfl, rfl⟩
      have eg : shortGo pv (z :: nx :: r') sl = (z - mn sl (absI (z - mx (pv * (if z > pv then 1 else -1)) (nx * (if z > pv then 1 else -1)) * (if z > pv then 1 else -1)) - 1) * (if z > pv then 1 else -1)) :: shortGo (z - mn sl (absI (z - mx (pv * (if z > pv then 1 else -1)) (nx * (if z > pv then 1 else -1)) * (if z > pv then 1 else -1)) - 1) * (if z > pv then 1 else -1)) (nx :: r') (sl - mn sl (absI (z - mx (pv * (if z > pv then 1 else -1)) (nx * (if z > pv then 1 else -1)) * (if z > pv then 1 else -1)) - 1)) := rfl
      rw [eg] at hg
      have hst : (if z > pv then (1 : Int) else -1) = 1 ∨ (if z > pv then (1 : Int) else -1) = -1 := by
        split
        · exact .inl rfl
        · exact .inr rfl
      generalize (if z > pv then (1 : Int) else -1) = st at hst hg ⊢
      have cm : ∀ u : Int, CMul u st := fun u => .inr ⟨by omega, by omega⟩
      walk_at "q"
      refine x_ixL (SqL.of h3) (at_i a0 (by omega)) ?_
      walk_at "q"
      refine x_timesI (cm _) ?_
      walk_at "q"
      refine x_ixL (SqL.of h3) (at_i a2 (by omega)) ?_
      walk_at "q"
      refine x_timesI (cm _) ?_
      walk_at "q"
      refine x_timesI (cm _) ?_
      walk_at "q"
      refine x_ixL (SqL.of h3) (at_i a1 (by omega)) ?_
      walk_at "q"
      refine x_augS ?_
      walk_at "q"
      refine x_getL (SqL.of h3) (by omega) (at_i a1 (by omega)) ?_
      walk_at "q"
      refine x_timesI (cm _) ?_
      refine x_ipI ?_
      have ix : ixN ((dn ++ z :: nx :: r').map V.int).length (1 + (i : Int)) = some (i + 1) := by
        have ll : ((dn ++ z :: nx :: r').map V.int).length = i + 1 + (r'.length + 2) := by rw [List.length_map, List.length_append, dl]; rfl
        rw [ll, show (1 : Int) + (i : Int) = ((i + 1 : Nat) : Int) by omega]
        unfold ixN
        rw [if_pos (by omega), if_pos (by omega), Int.toNat_natCast]
      refine x_setL h3 ix ?_
      refine x_aug rfl ?_
      walk_at "q"
      refine x_ipI ?_
      refine ⟨Same.mut s3 hr0, dn ++ [z - mn sl (absI (z - mx (pv * st) (nx * st) * st) - 1) * st], nx :: r', z - mn sl (absI (z - mx (pv * st) (nx * st) * st) - 1) * st, sl - mn sl (absI (z - mx (pv * st) (nx * st) * st) - 1), ⟨_, _, _, _, rfl⟩, ?_, by rw [List.length_append, dl]; rfl, by simp at rl ⊢; omega, by rw [List.getElem?_append_right (by omega), dl]; simp, ?_⟩
      · rw [upd_same, ← List.map_set]
        rw [List.set_append_right _ _ (by omega), dl]
        simp
        rfl
      · rw [hg]
        cases dn with
        | nil => simp at dl
        | cons d0 dr => simp
  · rintro σ H3 ⟨s3, dn, rest, pv, sl, ⟨a, b', c, d, rfl⟩, h3, dl, rl, dp, hg⟩
    obtain ⟨z, rfl⟩ : ∃ z, rest = [z] := by
      match rest, rl with
      | [], rl => exfalso; simp at rl; omega
      | [z], _ => exact ⟨z, rfl⟩
      | _ :: _ :: _, rl => exfalso; simp at rl; omega
    walk_at "q"
    refine n_slL (SqL.of h3) fun u H4 hu s4 e4 => ?_
    refine k u H4 (s3.free hu) (s3.trans s4) ?_
    rw [e4, cut_tail _ (by rw [List.length_map, List.length_append, dl]; omega), hg]
    cases dn with
    | nil => simp at dl
    | cons d0 dr => simp [shortGo]
def spWO (K : PySem.W.Frag) : Sp := fun vs H Q _ => ∃ (c b g L : Int), vs = [.int c, .int b, .int g, .int L] ∧ (L ≠ absI (g - b) → ∃ m0 u, 2 ≤ m0 ∧ m0 ≤ 9000 ∧ doesW c b g L m0 u) ∧
  ∀ t r H' up zs, H t = none → Same H H' → WayOf c b g L up zs → zs.length ≤ 10000 → H' t = some (.tup [.bl up, .ref r]) → H' r = some (.lst (zs.map V.int)) → Q (.ref t) H'
theorem ok_way_of (W : Wd K mg) : FnR P w K mg base CX0 2 (ga K "way_of") (spWO K) := by
  refine (def_ok W.F_way_of sc_way_of (fun _ _ _ _ _ _ us hl => match us, hl with | [_, _, _, _], _ => rfl) (fun vs H Q E ⟨c, b, g, L, e, _⟩ => by rw [e]; rfl) fun cdv A outer s' H vs Q E hr ⟨c, b, g, L, e, hex, k⟩ => ?_).2
  subst e
  refine ⟨_, PSs.nox (pss_cons (ps_if (pt_cmpR (op_eqK K hr.units) (pv 3) (pe_callB c_abs (by rfl) W.f_abs (by decide +kernel) (pa_cons (pe_op op_minus (pv 2) (pv 1)) pa_nil)) (nomark _)) (pss_one (ps_ret (pe_tup (pa_cons (pe_cmpR op_gtI (pv 2) (pv 1) (nomark _)) (pa_cons (pe_lst (pa_cons (pv 2) pa_nil)) pa_nil))))) pss_nil) (pss_cons (ps_set (i := 4) sc_way_of.nd rfl (Or.inl rfl) pe_int) (pss_one (ps_while PassesOwn.never (pt_val pe_bl) (pss_cons (ps_for PassesOwn.never rfl (pi_tupK K (pe_tup (pa_cons pe_bl (pa_cons pe_bl pa_nil)))) (pg_name (i := 5) sc_way_of.nd rfl (Or.inl rfl)) (pss_cons (ps_set (i := 6) sc_way_of.nd rfl (Or.inl rfl) (pe_callR (ok_longest_way W) (hr.mono (by decide)) W.g_longest_way W.k_longest_way pass0 rfl (pa_cons (pv 0) (pa_cons (pv 1) (pa_cons (pv 2) (pa_cons (pv 4) (pa_cons (pv 5) pa_nil))))))) (pss_one (ps_if (PW.pt (pw_and (pt_val (pe_callR (ok_is_possible W) (hr.mono (by decide)) W.g_is_possible W.k_is_possible pass0 rfl (pa_cons (pv 0) (pa_cons (pv 1) (pa_cons (pv 2) (pa_cons (pv 4) (pa_cons (pv 5) pa_nil))))))) (pw_and1 (pt_cmpR op_geI (pv 6) (pv 3) (nomark _))))) (pss_one (ps_ret (pe_tup (pa_cons (pv 5) (pa_cons (pe_callR (ok_shortened W) (hr.mono (by decide)) W.g_shortened W.k_shortened pass0 rfl (pa_cons (pv 1) (pa_cons (pe_callR (ok_places_of W) (hr.mono (by decide)) W.g_places_of W.k_places_of pass0 rfl (pa_cons (pv 0) (pa_cons (pv 1) (pa_cons (pv 2) (pa_cons (pv 4) (pa_cons (pv 5) pa_nil)))))) (pa_cons (pe_op op_divP (pe_op op_minus (pv 6) (pv 3)) pe_int) pa_nil)))) pa_nil))))) pss_nil)))) (pss_one (ps_aug (i := 4) sc_way_of.nd rfl (Or.inl rfl) pe_int ip_add))))))), ?_⟩
  walk_at "q"
  refine x_ifd (fun h => ?_) fun h => ?_
  · walk_at "q"
    refine ⟨sz rfl, fun r hr0 => ?_⟩; generalize hNr : upd _ r _ = H1; obtain ⟨s1, e1⟩ := nws hNr hr0
    walk_at "q"
    refine ⟨sz rfl, fun t ht => ?_⟩; generalize hNt : upd _ t _ = H2; obtain ⟨s2, e2⟩ := nws hNt ht
    exact k t r H2 (decide (b < g)) [g] (s1.free ht) (s1.trans s2) (.inl ⟨h, rfl, rfl⟩) (by show 1 ≤ 10000; decide) e2 (s2 _ _ e1)
  · have h' : L ≠ absI (g - b) := h
    obtain ⟨m0, u0, m02, m09, hd0⟩ := hex h'
    walk_at "q"
    refine x_while (fun n σ H1 => ∃ (m : Nat), n = m0 + 1 - m ∧ 2 ≤ m ∧ m ≤ m0 ∧ (∀ m' u, 2 ≤ m' → m' < m → ¬ doesW c b g L m' u) ∧ Same H H1 ∧ ∃ a d, σ = [some (.int c), some (.int b), some (.int g), some (.int L), some (.int m), a, d]) (m0 + 1 - 2) ⟨2, rfl, Nat.le_refl _, m02, fun m' u h1 h2 => by omega, Same.refl _, _, _, rfl⟩ ?_
    rintro n σ H1 ⟨m, rfl, m2, mm, hno, s1, a, d, rfl⟩
    walk_at "q"
    refine x_turn ?_
    walk_at "q"
    refine ⟨sz rfl, fun tu htu => ?_⟩; generalize hNtu : upd _ tu _ = H2; obtain ⟨s2, e2⟩ := nws hNtu htu
    walk_at "q"
    refine x_iTAt (SqT.of e2) (x_loop walk_tup (fun i σ H3 => Same H2 H3 ∧ (∃ a d, σ = [some (.int c), some (.int b), some (.int g), some (.int L), some (.int m), a, d]) ∧ (1 ≤ i → ¬ doesW c b g L m true) ∧ (2 ≤ i → ¬ doesW c b g L m false)) ⟨Same.refl _, ⟨_, _, rfl⟩, fun z => by omega, fun z => by omega⟩ (fun i σ H3 _ ⟨s3, _⟩ => SqT.of (s3 _ _ e2)) ?_ ?_)
    · rintro i y σ H3 H4 hi ⟨s3, ⟨a, d, rfl⟩, n1, n2⟩ ⟨rfl, ey⟩
      have hi2 : i < 2 := hi
      obtain ⟨up, rfl, hup⟩ : ∃ up : Bool, y = .bl up ∧ ((i = 0 ∧ up = true) ∨ (i = 1 ∧ up = false)) := by
        have : i = 0 ∨ i = 1 := by omega
        rcases this with rfl | rfl
        · cases ey; exact ⟨true, rfl, .inl ⟨rfl, rfl⟩⟩
        · cases ey; exact ⟨false, rfl, .inr ⟨rfl, rfl⟩⟩
      walk_at "q"
      refine ⟨c, b, g, m, up, rfl, by omega, ?_⟩
      walk_at "q"
      refine ⟨c, b, g, m, up, rfl, ?_⟩
      walk_at "q"
      have fail : ¬ doesW c b g L m up → (1 ≤ i + 1 → ¬ doesW c b g L m true) ∧ (2 ≤ i + 1 → ¬ doesW c b g L m false) := by
        intro hn
        rcases hup with ⟨rfl, rfl⟩ | ⟨rfl, rfl⟩
        · exact ⟨fun _ => hn, fun z => by omega⟩
        · exact ⟨fun _ => n1 (by omega), fun _ => hn⟩
      refine x_if (fun hp => ?_) fun hp => ?_
      · walk_at "q"
        refine x_ifd (fun hl => ?_) fun hl => ?_
        · walk_at "q"
          refine ⟨c, b, g, m, up, rfl, by omega, by omega, fun r H5 hr5 s5 e5 => ?_⟩
          walk_at "q"
          refine x_div (divF (by decide) (by decide)) ?_
          walk_at "q"
          have pl : (placesL c g m up).length = m := by unfold placesL; rw [List.length_append, rgI_len]; show m - 1 + 1 = m; omega
          refine ⟨r, b, (longW c b g m up - L) / 2, placesL c g m up, rfl, e5, by omega, by omega, fun z H6 hz s6 e6 => ?_⟩
          walk_at "q"
          refine ⟨sz rfl, fun t ht => ?_⟩; generalize hNt : upd _ t _ = H7; obtain ⟨s7, e7⟩ := nws hNt ht
          refine k t z H7 up _ ((s1.trans (s2.trans (s3.trans (s5.trans s6)))).free ht) (s1.trans (s2.trans (s3.trans (s5.trans (s6.trans s7))))) (.inr ⟨h', m, m2, ⟨hp, hl⟩, hno, fun hu => ?_, rfl⟩) ?_ e7 (s7 _ _ e6)
          · rcases hup with ⟨_, rfl⟩ | ⟨rfl, _⟩
            · cases hu
            · exact n1 (Nat.le_refl _)
          · rw [shortGo_len, pl]
            omega
        · walk_at "q"
          exact ⟨s3, ⟨_, _, rfl⟩, fail fun z => hl z.2⟩
      · walk_at "q"
        exact ⟨s3, ⟨_, _, rfl⟩, fail fun z => by have := z.1; rw [hp] at this; cases this⟩
    · rintro σ H3 ⟨s3, ⟨a, d, rfl⟩, n1, n2⟩
      have nm : ∀ u, ¬ doesW c b g L m u := fun u => by
        cases u
        · exact n2 (by show 2 ≤ 2; decide)
        · exact n1 (by show 1 ≤ 2; decide)
      have mlt : m < m0 := by
        rcases Nat.lt_or_ge m m0 with z | z
        · exact z
        · exfalso
          have : m = m0 := by omega
          subst this
          exact nm u0 hd0
      walk_at "q"
      refine x_aug rfl ?_
      walk_at "q"
      refine x_ipI ?_
      refine ⟨m0 + 1 - (m + 1), by omega, m + 1, rfl, by omega, by omega, fun m' u h1 h2 => ?_, s1.trans (s2.trans s3), _, _, rfl⟩
      by_cases q : m' = m
      · subst q
        exact nm u
      · exact hno m' u h1 (by omega)
def spSS (K : PySem.W.Frag) : Sp := fun vs H Q _ => ∃ (p : Addr) (e : Eff), vs = [.ref p] ∧ EffAt (CE K) H p e ∧ e.Ok ∧ (e.ex ≠ 0 → ∀ g, e.goal = some g → e.ex ≠ absI (g - e.lo) → ∃ m0 u, 2 ≤ m0 ∧ m0 ≤ 9000 ∧ doesW e.c e.lo g e.ex m0 u) ∧
  ∀ r H' ps l, H r = none → Same H H' → H' r = some (.lst ps) → StepsAt H' ps l → SimpleOf e l → l.length ≤ 20000 → Q (.ref r) H'
theorem ok_simple_steps (W : Wd K mg) : FnR P w K mg base CX0 3 (ga K "simple_steps") (spSS K) := by
  refine (def_ok W.F_simple_steps sc_simple_steps (fun _ _ _ _ _ _ us hl => match us, hl with | [_], _ => rfl) (fun vs H Q E ⟨p, e, ev, _⟩ => by rw [ev]; rfl) fun cdv A outer s' H vs Q E hr ⟨p, e, ev, hp, eo, hex, k⟩ => ?_).2
  subst ev
  refine ⟨_, PSs.nox (pss_cons (ps_set (i := 1) sc_simple_steps.nd rfl (Or.inl rfl) (pe_fldK K (pv 0))) (pss_cons (ps_if (pt_cmpR (op_eqK K hr.units) (pe_fldK K (pv 0)) pe_int (nomark _)) (pss_cons (ps_set (i := 2) sc_simple_steps.nd rfl (Or.inl rfl) (pe_ifExp (pt_cmpR op_gtI (pe_fldK K (pv 0)) pe_int (nomark _)) (pe_lst (pa_cons (pe_callR (ok_step_to W) (hr.mono (by decide)) W.g_step_to W.k_step_to pass0 rfl (pa_cons (pv 1) (pa_cons (pe_fldK K (pv 0)) (pa_cons pe_bl pa_nil)))) pa_nil)) (pe_lst pa_nil))) (pss_one (ps_ret (pe_op op_plus (pv 2) (pe_ifExp (pt_cmpR op_ltI (pe_fldK K (pv 0)) (pv 1) (nomark _)) (pe_lst (pa_cons (pe_callR (ok_step_to W) (hr.mono (by decide)) W.g_step_to W.k_step_to pass0 rfl (pa_cons (pv 1) (pa_cons (pe_fldK K (pv 0)) (pa_cons pe_bl pa_nil)))) pa_nil)) (pe_lst pa_nil)))))) pss_nil) (pss_cons (ps_asg (pe_callR (ok_way_of W) (hr.mono (by decide)) W.g_way_of W.k_way_of pass0 rfl (pa_cons (pv 1) (pa_cons (pe_fldK K (pv 0)) (pa_cons (pe_fldK K (pv 0)) (pa_cons (pe_fldK K (pv 0)) pa_nil))))) (pg_tupK (n := 2) K rfl (pgs_cons (pg_name (i := 3) sc_simple_steps.nd rfl (Or.inl rfl)) (pgs_cons (pg_name (i := 4) sc_simple_steps.nd rfl (Or.inl rfl)) pgs_nil)))) (pss_cons (ps_set (i := 2) sc_simple_steps.nd rfl (Or.inl rfl) (pe_lst (pa_cons (pe_callR (ok_step_to W) (hr.mono (by decide)) W.g_step_to W.k_step_to pass0 rfl (pa_cons (pv 1) (pa_cons (pe_fldK K (pv 0)) (pa_cons (pe_not (pv 3)) pa_nil)))) pa_nil))) (pss_cons (ps_for PassesOwn.never rfl (pi_listK K (pv 4)) (pg_name (i := 5) sc_simple_steps.nd rfl (Or.inl rfl)) (pss_cons (ps_expr (pe_bmK K PySem.F.plainAttrs_list PySem.F.slot_list_append PySem.F.type_list_append mt_append (pv 2) (pa_cons (pe_callR (ok_step_to W) (hr.mono (by decide)) W.g_step_to W.k_step_to pass0 rfl (pa_cons (pv 1) (pa_cons (pv 5) (pa_cons (pv 3) pa_nil)))) pa_nil))) (pss_one (ps_set (i := 3) sc_simple_steps.nd rfl (Or.inl rfl) (pe_not (pv 3)))))) (pss_one (ps_ret (pv 2)))))))), ?_⟩
  walk_at "y"
  refine x_ifd (fun h0 => ?_) fun h0 => ?_
  · walk_at "y"
    refine x_ifSetd (fun v H1 => ∃ r ps, v = .ref r ∧ Same H H1 ∧ H1 r = some (.lst ps) ∧ StepsAt H1 ps (if e.lo > 0 then [stepTo e.c e.lo true] else []) ∧ ps.length ≤ 1) (fun hl Q' kQ => ?A) (fun hl Q' kQ => ?B) ?C
    case A =>
      walk_at "y"
      refine ⟨_, _, _, rfl, fun t H1 ht s1 e1 => ?_⟩
      walk_at "y"
      refine ⟨sz rfl, fun r hr1 => ?_⟩; generalize hNr : upd _ r _ = H2; obtain ⟨s2, e2⟩ := nws hNr hr1
      exact kQ _ _ ⟨r, _, rfl, s1.trans s2, e2, by rw [if_pos hl]; exact StepsAt.put _ (s2 _ _ e1) .nil, Nat.le_refl _⟩
    case B =>
      walk_at "y"
      refine ⟨sz rfl, fun r hr1 => ?_⟩; generalize hNr : upd _ r _ = H2; obtain ⟨s2, e2⟩ := nws hNr hr1
      exact kQ _ _ ⟨r, _, rfl, s2, e2, by rw [if_neg hl]; exact .nil, Nat.zero_le _⟩
    case C =>
      rintro _ H1 ⟨r, ps, rfl, s1, hr1, hs1, hl1⟩
      have hp1 := hp.mono s1
      walk_at "y"
      refine x_ifSetd (fun v H2 => ∃ q qs, v = .ref q ∧ Same H1 H2 ∧ H2 q = some (.lst qs) ∧ StepsAt H2 qs (if e.hi < e.c then [stepTo e.c e.hi false] else []) ∧ qs.length ≤ 1) (fun hl Q' kQ => ?A) (fun hl Q' kQ => ?B) ?C
      case A =>
        walk_at "y"
        refine ⟨_, _, _, rfl, fun t H2 ht s2 e2 => ?_⟩
        walk_at "y"
        refine ⟨sz rfl, fun q hq1 => ?_⟩; generalize hNq : upd _ q _ = H3; obtain ⟨s3, e3⟩ := nws hNq hq1
        exact kQ _ _ ⟨q, _, rfl, s2.trans s3, e3, by rw [if_pos hl]; exact StepsAt.put _ (s3 _ _ e2) .nil, Nat.le_refl _⟩
      case B =>
        walk_at "y"
        refine ⟨sz rfl, fun q hq1 => ?_⟩; generalize hNq : upd _ q _ = H3; obtain ⟨s3, e3⟩ := nws hNq hq1
        exact kQ _ _ ⟨q, _, rfl, s3, e3, by rw [if_neg hl]; exact .nil, Nat.zero_le _⟩
      case C =>
        rintro _ H2 ⟨q, qs, rfl, s2, hq2, hs2, hl2⟩
        refine n_plusL (s2 _ _ hr1) hq2 (sz5 (by omega)) fun t H3 ht s3 e3 => ?_
        exact k t H3 _ _ ((s1.trans s2).free ht) (s1.trans (s2.trans s3)) e3 (pr_app (hs1.mono (s2.trans s3)) (hs2.mono s3)) (.inl ⟨h0, rfl⟩) (by rw [← pr_len (pr_app (hs1.mono (s2.trans s3)) (hs2.mono s3)), List.length_append]; omega)
  · obtain ⟨g, hg⟩ : ∃ g, e.goal = some g := by
      cases g : e.goal with
      | none => exact absurd (eo.no g).1 h0
      | some y => exact ⟨y, rfl⟩
    walk_at "y"
    rw [hg]
    refine ⟨e.c, e.lo, g, e.ex, rfl, hex h0 g hg, fun t z H1 up zs ht s1 hw hzl e1 e2 => ?_⟩
    refine x_gTup e1 rfl ?_
    have hp1 := hp.mono s1
    walk_at "y"
    refine ⟨e.c, e.lo, !up, rfl, fun t2 H2 ht2 s2 e3 => ?_⟩
    walk_at "y"
    refine ⟨sz rfl, fun r hr1 => ?_⟩; generalize hNr : upd _ r _ = H3; obtain ⟨s3, e4⟩ := nws hNr hr1
    have hr0 : H r = none := (s1.trans s2).free hr1
    have hz3 := s3 _ _ (s2 _ _ e2)
    have nzr : z ≠ r := ne_of_none (s2 _ _ e2) hr1
    walk_at "y"
    refine x_iLAt (SqL.of hz3) (x_loop walk_list (fun i σ H4 => (∃ b, σ = [some (.ref p), some (.int e.c), some (.ref r), some (.bl (if i % 2 = 0 then up else !up)), some (.ref z), b]) ∧ (∀ b o, b ≠ r → H3 b = some o → H4 b = some o) ∧ ∃ ps, H4 r = some (.lst ps) ∧ StepsAt H4 ps (stepTo e.c e.lo (!up) :: zsteps e.c up (zs.take i))) ⟨⟨_, rfl⟩, fun _ _ _ h => h, _, e4, StepsAt.put _ (s3 _ _ e3) .nil⟩ (fun i σ H4 _ ⟨_, s4, _⟩ => SqL.of (s4 _ _ nzr hz3)) ?_ ?_)
    · rintro i y σ H4 H5 hi ⟨⟨b, rfl⟩, s4, ps, hps, hpp⟩ ⟨rfl, ey⟩
      rw [List.getElem?_map] at ey
      obtain ⟨zi, hzi, rfl⟩ := Option.map_eq_some_iff.mp ey
      have hil : i < zs.length := (List.getElem?_eq_some_iff.mp hzi).1
      have tk : zs.take (i + 1) = zs.take i ++ [zi] := by rw [List.take_add_one, hzi]; rfl
      have lps : ps.length = i + 1 := by
        have := pr_len hpp
        rw [this]
        show (zsteps e.c up (zs.take i)).length + 1 = i + 1
        rw [zsteps_len, List.length_take]
        omega
      walk_at "y"
      refine ⟨ty_lst hps, ?_⟩
      walk_at "y"
      refine ⟨e.c, zi, _, rfl, fun t3 H6 ht3 s6 e6 => ?_⟩
      walk_at "y"
      refine x_app (s6 _ _ hps) (sz5' (by omega)) ?_
      walk_at "y"
      refine ⟨?_, fun b o hb eb => by rw [upd_ne hb]; exact s6 _ _ (s4 b o hb eb), _, upd_same, ?_⟩
      · by_cases q : i % 2 = 0
        · rw [if_pos q, if_neg (show ¬ (i + 1) % 2 = 0 by omega)]
          exact ⟨_, rfl⟩
        · rw [if_neg q, if_pos (show (i + 1) % 2 = 0 by omega), Bool.not_not]
          exact ⟨_, rfl⟩
      · rw [tk, zsteps_snoc, List.length_take, Nat.min_eq_left (by omega)]
        refine pr_snoc (hpp.mono2 s6 (s6 _ _ hps)) ⟨t3, rfl, ?_⟩
        rw [upd_ne (ne_of e6 (s6 _ _ hps) (by intro z; cases z))]
        exact e6
    · rintro σ H4 ⟨⟨b, rfl⟩, s4, ps, hps, hpp⟩
      rw [List.length_map, List.take_length] at hpp
      walk_at "y"
      refine k r H4 ps _ hr0 (fun b o eb => s4 b o (ne_of_none eb hr0) (s3 _ _ (s2 _ _ (s1 _ _ eb)))) hps hpp (.inr ⟨h0, g, up, zs, hg, hw, rfl⟩) ?_
      show (zsteps e.c up zs).length + 1 ≤ 20000
      rw [zsteps_len]
      omega
def spSP (K : PySem.W.Frag) : Sp := fun vs H Q _ => ∃ (p : Addr) (c : Int) (l : List Stp), vs = [.ref p, .int c] ∧ PlanAt (CP K) H p l ∧ l.length ≤ 60 ∧ 0 ≤ c ∧ c ≤ 1000000000000000000 ∧ fitsS c l ∧
  ∀ x H' l', H x = none → Same H H' → SimpleOf (effOf c l) l' → PlanAt (CP K) H' x (l' ++ turnL (turning l)) → Q (.ref x) H'
theorem ok_simple_plan (W : Wd K mg) : FnR P w K mg base CX0 6 (ga K "simple_plan") (spSP K) := by
  refine (def_ok W.F_simple_plan sc_simple_plan (fun _ _ _ _ _ _ us hl => match us, hl with | [_, _], _ => rfl) (fun vs H Q E ⟨p, c, l, ev, _⟩ => by rw [ev]; rfl) fun cdv A outer s' H vs Q E hr ⟨p, c, l, ev, hp, h60, c0, c1, hf, k⟩ => ?_).2
  subst ev
  have hex := simple_ex c0 hf h60
  have hgd := fun l' => simple_goodP (l' := l') c0 c1 hf h60
  obtain ⟨eo, ec, et, _⟩ := effOf_ok c0 hf
  refine ⟨_, PSs.nox (pss_cons (ps_expr (pe_callR (ok_validate_house W) (hr.mono (by decide)) W.g_validate_house W.k_validate_house pass0 rfl (pa_cons (pv 0) (pa_cons (pv 1) pa_nil)))) (pss_cons (ps_set (i := 2) sc_simple_plan.nd rfl (Or.inl rfl) (pe_callR (ok_effect_of W) (hr.mono (by decide)) W.g_effect_of W.k_effect_of pass0 rfl (pa_cons (pv 0) (pa_cons (pv 1) pa_nil)))) (pss_cons (ps_set (i := 3) sc_simple_plan.nd rfl (Or.inl rfl) (pe_op op_plus (pe_callR (ok_simple_steps W) (hr.mono (by decide)) W.g_simple_steps W.k_simple_steps pass0 rfl (pa_cons (pv 2) pa_nil)) (pe_ifExp (pt_val (pe_fldK K (pv 2))) (pe_lst (pa_cons (pe_tup (pa_cons (pe_gs W.t_TURN rfl) pa_nil)) pa_nil)) (pe_lst pa_nil)))) (pss_one (ps_ret (pe_mkS W.mk_Plan (ok_Plan_init W) (hr.mono (by decide)) W.g_Plan pass0 rfl (pv 3))))))), ?_⟩
  walk_at "y"
  refine ⟨p, c, l, rfl, hp, h60, c0, c1, hf, fun H1 s1 => ?_⟩
  walk_at "y"
  refine ⟨p, c, l, rfl, hp.mono s1, h60, fun x H2 s2 he => ?_⟩
  walk_at "y"
  refine ⟨x, _, rfl, he, eo, hex, fun r H3 ps l' hr2 s3 hps hpp hsl hll => ?_⟩
  have he3 := he.mono s3
  walk_at "y"
  rw [et]
  have hgd' := hgd l' hsl
  refine x_ifSet (fun v H4 => ∃ q qs, v = .ref q ∧ Same H3 H4 ∧ H4 q = some (.lst qs) ∧ StepsAt H4 qs (turnL (turning l)) ∧ qs.length ≤ 1) (fun ht Q' kQ => ?A) (fun ht Q' kQ => ?B) ?C
  case A =>
    walk_at "y"
    refine ⟨sz rfl, fun t ht3 => ?_⟩; generalize hNt : upd _ t _ = H4; obtain ⟨s4, e4⟩ := nws hNt ht3
    walk_at "y"
    refine ⟨sz rfl, fun q hq => ?_⟩; generalize hNq : upd _ q _ = H5; obtain ⟨s5, e5⟩ := nws hNq hq
    exact kQ _ _ ⟨q, _, rfl, s4.trans s5, e5, by rw [ht]; exact StepsAt.put .turn (s5 _ _ e4) .nil, Nat.le_refl _⟩
  case B =>
    walk_at "y"
    refine ⟨sz rfl, fun q hq => ?_⟩; generalize hNq : upd _ q _ = H5; obtain ⟨s5, e5⟩ := nws hNq hq
    exact kQ _ _ ⟨q, _, rfl, s5, e5, by rw [ht]; exact .nil, Nat.zero_le _⟩
  case C =>
    rintro _ H4 ⟨q, qs, rfl, s4, hq4, hq5, ql⟩
    have lps : ps.length = l'.length := pr_len hpp
    refine n_plusL (s4 _ _ hps) hq4 (sz5 (by omega)) fun t H5 ht s5 e5 => ?_
    walk_at "y"
    refine ⟨t, _, rfl, .inr (SqL.of e5), ?_⟩
    have s05 : Same H H5 := s1.trans (s2.trans (s3.trans (s4.trans s5)))
    refine mk_plan (l := l' ++ turnL (turning l)) (pr_app (hpp.mono (s4.trans s5)) (hq5.mono s5)) hgd' fun x H' hx s6 hP => ?_
    exact k x H' l' (s05.free hx) (s05.trans s6) hsl hP
end
end K14

set_option Elab.async false
set_option linter.all false
set_option autoImplicit false
set_option maxRecDepth 100000
set_option pp.maxSteps 1500
set_option maxHeartbeats 4000000
namespace K14
open PySem PySem.Spec PyProof.Rows L2 He ChH Ch ChM
local macro_rules | `(tactic| walk_at "x1") => `(tactic| first
  | ((with_reducible apply x_var); exact rfl)
  | with_reducible refine x_c ?_
  | with_reducible refine x_op ?_
  | with_reducible refine x_seq ?_
  | with_reducible refine x_asg ?_
  | with_reducible refine x_gname ?_
  | with_reducible refine x_cons ?_
  | with_reducible refine x_nil ?_
  | with_reducible refine x_fld ?_
  | with_reducible refine x_ret ?_
  | with_reducible refine x_ifS ?_
  | with_reducible refine x_test ?_
  | with_reducible refine x_ex ?_
  | with_reducible refine x_call ?_
  | with_reducible refine x_mk ?_
  | with_reducible refine x_meth ?_
  | with_reducible refine x_prop ?_
  | with_reducible refine x_cb ?_
  | with_reducible refine x_tup ?_
  | with_reducible refine x_lst ?_
  | with_reducible refine x_drop ?_
  | with_reducible refine x_for ?_
  | with_reducible refine x_iL ?_
  | with_reducible refine x_iT ?_
  | with_reducible refine x_iE ?_
  | with_reducible refine x_iU ?_
  | with_reducible refine x_iR1 ?_
  | with_reducible refine x_iR2 ?_
  | with_reducible refine x_gcons ?_
  | with_reducible refine x_gnil ?_
  | with_reducible refine x_par ?_
  | with_reducible refine x_lstRg ?_
  | with_reducible refine x_rg1 ?_
  | with_reducible refine x_rg1At ?_
  | with_reducible refine x_par3 ?_
  | with_reducible refine x_bm ?_
  | with_reducible refine x_bm0 ?_
  | with_reducible refine x_gSub ?_
  | with_reducible refine x_lc ?_
  | with_reducible refine x_yes ?_
  | with_reducible refine x_setf ?_
  | with_reducible refine x_next ?_
  | with_reducible refine x_B ?_
  | with_reducible refine x_and ?_
  | with_reducible refine x_or ?_
  | with_reducible refine x_not ?_
  | with_reducible refine x_andV ?_
  | with_reducible refine x_orV ?_
  | with_reducible refine x_notV ?_
  | with_reducible refine x_ifE ?_
  | with_reducible refine x_chain ?_
  | with_reducible refine x_chain3 ?_
  | with_reducible refine x_un ?_
  | with_reducible refine x_isNe ?_
  | with_reducible refine x_notNe ?_
  | with_reducible refine x_starA ?_
  | with_reducible refine x_plusI ?_
  | with_reducible refine x_minus ?_
  | with_reducible refine x_lt ?_
  | with_reducible refine x_le ?_
  | with_reducible refine x_gt ?_
  | with_reducible refine x_ge ?_
  | with_reducible refine x_eqI ?_
  | with_reducible refine x_neI ?_
  | with_reducible refine x_eqS ?_
  | with_reducible refine x_eqB ?_
  | with_reducible refine x_neB ?_
  | with_reducible refine x_int ?_
  | with_reducible refine x_intB ?_
  | with_reducible refine x_max2 ?_
  | with_reducible refine x_min2 ?_
  | with_reducible refine x_max3 ?_
  | with_reducible refine x_abs ?_
  | with_reducible refine x_neg ?_
  | with_reducible refine x_isi_ii ?_
  | with_reducible refine x_isi_ib ?_
  | with_reducible refine x_T ?_
  | with_reducible refine x_nT ?_
  | with_reducible refine x_nF ?_
  | with_reducible refine x_F ?_)
local macro_rules | `(tactic| walk_at "x") => `(tactic| repeat walk_at "x1")

section
variable {P : Program} {w : World} {K : PySem.W.Frag} {mg : Str → Option Value} {base : Heap}
def spLS (K : PySem.W.Frag) : Sp := fun vs H Q _ => ∃ (a : Addr) (ns : List Int), vs = [.ref a] ∧ SqL K H a (ns.map V.int) ∧ ∀ st H', H st = none → Same H H' → StAt K H' st a ns → Q (.ref st) H'
theorem ok__law_start (W : Wd K mg) : FnR P w K mg base CX0 1 (ga K "_law_start") (spLS K) := by
  refine (def_ok W.F__law_start sc__law_start (fun _ _ _ _ _ _ us hl => match us, hl with | [_], _ => rfl) (fun vs H Q E ⟨a, ns, ev, _⟩ => by rw [ev]; rfl) fun cdv A outer s H vs Q E hr ⟨a, ns, ev, hs, k⟩ => ?_).2
  subst ev
  refine ⟨_, PSs.nox (pss_cons (ps_set (i := 1) sc__law_start.nd rfl (Or.inl rfl) pe_int) (pss_cons (ps_for PassesOwn.never rfl (pi_listK K (pv 0)) (pg_name (i := 2) sc__law_start.nd rfl (Or.inl rfl)) (pss_one (ps_set (i := 1) sc__law_start.nd rfl (Or.inl rfl) (pe_op op_modP (pe_op op_plus (pe_op op_plus (pe_op op_times (pv 1) pe_int) (pv 2)) pe_int) pe_int)))) (pss_one (ps_ret (pe_lst (pa_cons (pv 0) (pa_cons pe_int (pa_cons (pv 1) (pa_cons pe_int pa_nil))))))))), ?_⟩
  walk_at "x"
  refine x_iLAt hs (x_loop walk_list (fun i σ H2 => H2 = H ∧ ∃ z b, σ = [some (.ref a), some (.int z), b]) ⟨rfl, _, _, rfl⟩ (fun i σ H2 _ ⟨e, _⟩ => by rw [e]; exact hs) ?_ ?_)
  · rintro i y σ H2 H3 hi ⟨rfl, z, b, rfl⟩ ⟨rfl, ey⟩
    rw [List.getElem?_map] at ey
    obtain ⟨n, _, rfl⟩ := Option.map_eq_some_iff.mp ey
    walk_at "x"
    refine x_timesI (.inr ⟨by decide, by decide⟩) ?_
    walk_at "x"
    refine x_mod (by decide) ?_
    walk_at "x"
    exact ⟨rfl, _, _, rfl⟩
  · rintro σ H2 ⟨rfl, z, b, rfl⟩
    walk_at "x"
    exact ⟨sz rfl, fun st hst => k st _ hst (Same.new hst) (StAt.new hs hst (Int.le_refl 0))⟩
theorem pick2 {u v : V} {z : Int} (h0 : 0 ≤ z) (h1 : z < 2) : ∃ y, atI [u, v] z = some y ∧ ((z = 0 ∧ y = u) ∨ (z = 1 ∧ y = v)) := by
  have : z = 0 ∨ z = 1 := by omega
  rcases this with rfl | rfl
  · exact ⟨u, rfl, .inl ⟨rfl, rfl⟩⟩
  · exact ⟨v, rfl, .inr ⟨rfl, rfl⟩⟩
def spLD (K : PySem.W.Frag) : Sp := fun vs H Q _ => ∃ (st a : Addr) (ns : List Int) (c : Int), vs = [.ref st, .int c] ∧ StAt K H st a ns ∧ 0 < c ∧ c ≤ 2000000000000000000 ∧ ∀ z H', 0 ≤ z → z < c → SameB st H H' → StAt K H' st a ns → Q (.int z) H'
theorem divW {i j : Int} (h : 0 < j) (h2 : j ≤ 2000000000000000000) : CDivW i j := wide_div (b := 62) h (by omega) (by decide) (by decide)
theorem ok__law_drawn (W : Wd K mg) : FnR P w K mg base CX0 1 (ga K "_law_drawn") (spLD K) := by
  refine (def_ok W.F__law_drawn sc__law_drawn (fun _ _ _ _ _ _ us hl => match us, hl with | [_, _], _ => rfl) (fun vs H Q E ⟨st, a, ns, c, ev, _⟩ => by rw [ev]; rfl) fun cdv A outer s H vs Q E hr ⟨st, a, ns, c, ev, hS, c0, c1, k⟩ => ?_).2
  subst ev
  obtain ⟨pos, m, r, hst, p0⟩ := hS.lst
  refine ⟨_, PSs.nox (pss_cons (ps_if (pt_cmpR op_gtI (pe_ix (ix_K K) (pv 0) pe_int (fun _ _ => rfl)) pe_int (nomark _)) (pss_cons (ps_set (i := 2) sc__law_drawn.nd rfl (Or.inl rfl) (pe_op op_modP (pe_ix (ix_K K) (pv 0) pe_int (fun _ _ => rfl)) (pv 1))) (pss_cons (ps_asg (pe_op op_divP (pe_ix (ix_K K) (pv 0) pe_int (fun _ _ => rfl)) (pv 1)) (pg_sub (pv 0) pe_int set_list)) (pss_one (ps_ret (pv 2))))) pss_nil) (pss_cons (ps_asg (pe_op op_plus (pe_ix (ix_K K) (pv 0) pe_int (fun _ _ => rfl)) pe_int) (pg_sub (pv 0) pe_int set_list)) (pss_cons (ps_if (pt_cmpR op_leI (pe_ix (ix_K K) (pv 0) pe_int (fun _ _ => rfl)) (pe_callB (c_lenK K) (by rfl) W.f_len (by decide +kernel) (pa_cons (pe_ix (ix_K K) (pv 0) pe_int (fun _ _ => rfl)) pa_nil)) (nomark _)) (pss_cons (ps_set (i := 3) sc__law_drawn.nd rfl (Or.inl rfl) (pe_ix (ix_K K) (pe_ix (ix_K K) (pv 0) pe_int (fun _ _ => rfl)) (pe_op op_minus (pe_ix (ix_K K) (pv 0) pe_int (fun _ _ => rfl)) pe_int) (fun _ _ => rfl))) (pss_cons (ps_asg (pe_ifExp (pt_cmpR op_geI (pv 3) (pe_op op_powP pe_int pe_int) (nomark _)) (pe_op op_divP (pv 3) (pv 1)) pe_int) (pg_sub (pv 0) pe_int set_list)) (pss_one (ps_ret (pe_op op_modP (pv 3) (pv 1)))))) pss_nil) (pss_cons (ps_asg (pe_op op_modP (pe_op op_plus (pe_op op_times (pe_ix (ix_K K) (pv 0) pe_int (fun _ _ => rfl)) pe_int) pe_int) pe_int) (pg_sub (pv 0) pe_int set_list)) (pss_one (ps_ret (pe_op op_modP (pe_op op_divP (pe_ix (ix_K K) (pv 0) pe_int (fun _ _ => rfl)) pe_int) (pv 1)))))))), ?_⟩
  walk_at "x"
  refine x_ixL (SqL.of hst) (i := 3) rfl ?_
  walk_at "x"
  refine x_ifd (fun hr => ?_) fun hr => ?_
  · walk_at "x"
    refine x_ixL (SqL.of hst) (i := 3) rfl ?_
    walk_at "x"
    refine x_mod c0 ?_
    walk_at "x"
    refine x_ixL (SqL.of hst) (i := 3) rfl ?_
    walk_at "x"
    refine x_div (divW c0 c1) ?_
    walk_at "x"
    refine x_setL hst rfl ?_
    walk_at "x"
    exact k _ _ (Int.emod_nonneg _ (by omega)) (Int.emod_lt_of_pos _ c0) SameB.upd (hS.put p0)
  · walk_at "x"
    refine x_ixL (SqL.of hst) (i := 1) rfl ?_
    walk_at "x"
    refine x_setL hst rfl ?_
    have hS1 : StAt K (upd H st (.lst [.ref a, .int (pos + 1), .int m, .int r])) st a ns := hS.put (by omega)
    have e1 : (upd H st (.lst [.ref a, .int (pos + 1), .int m, .int r])) st = some (.lst [.ref a, .int (pos + 1), .int m, .int r]) := upd_same
    have s1 : SameB st H (upd H st (.lst [.ref a, .int (pos + 1), .int m, .int r])) := SameB.upd
    show (tSeq _ _) _ _ (upd H st (.lst [.ref a, .int (pos + 1), .int m, .int r]))
    generalize upd H st (.lst [.ref a, .int (pos + 1), .int m, .int r]) = H1 at hS1 e1 s1
    walk_at "x"
    refine x_ixL (SqL.of e1) (i := 1) rfl ?_
    walk_at "x"
    refine x_ixL (SqL.of e1) (i := 0) rfl ?_
    walk_at "x"
    refine x_lenL hS1.scr0 ?_
    walk_at "x"
    refine x_ifd (fun hl => ?_) fun hl => ?_
    · walk_at "x"
      refine x_ixL (SqL.of e1) (i := 0) rfl ?_
      walk_at "x"
      refine x_ixL (SqL.of e1) (i := 1) rfl ?_
      walk_at "x"
      rw [List.length_map] at hl
      have hlt : pos.toNat < ns.length := by omega
      refine x_ixL (v := .int (ns[pos.toNat])) hS1.scr0 (at_of (j := pos.toNat) (by omega) (by rw [List.getElem?_map, List.getElem?_eq_getElem hlt]; rfl)) ?_
      walk_at "x"
      refine x_pow ⟨by decide, by decide, by decide⟩ ?_
      walk_at "x"
      have fin : ∀ r2 : Int, gSub (tVar 0) (tC (.int 3)) rSetL (.int r2) [some (.ref st), some (.int c), none, some (.int (ns[pos.toNat]))] H1 (fun σ H' => tRet (tOp rModP (tVar 3) (tVar 1)) { nx := fun _ H' => Q .non H', rt := Q } σ H') := by
        intro r2
        walk_at "x"
        refine x_setL e1 rfl ?_
        walk_at "x"
        refine x_mod c0 ?_
        exact k _ _ (Int.emod_nonneg _ (by omega)) (Int.emod_lt_of_pos _ c0) (s1.trans SameB.upd) (hS1.put (by omega))
      refine x_ifd (fun hb => ?_) fun hb => ?_
      · walk_at "x"
        refine x_div (divW c0 c1) ?_
        exact fin _
      · refine x_c ?_
        exact fin _
    · walk_at "x"
      refine x_ixL (SqL.of e1) (i := 2) rfl ?_
      walk_at "x"
      refine x_timesI (.inr ⟨by decide, by decide⟩) ?_
      walk_at "x"
      refine x_mod (by decide) ?_
      walk_at "x"
      refine x_setL e1 rfl ?_
      walk_at "x"
      refine x_ixL (SqL.of upd_same) (i := 2) rfl ?_
      walk_at "x"
      refine x_div (divW (by decide) (by decide)) ?_
      walk_at "x"
      refine x_mod c0 ?_
      exact k _ _ (Int.emod_nonneg _ (by omega)) (Int.emod_lt_of_pos _ c0) (s1.trans SameB.upd) (hS1.put (by omega))
end
end K14

set_option Elab.async false
set_option linter.all false
set_option autoImplicit false
set_option maxRecDepth 100000
set_option pp.maxSteps 1500
set_option maxHeartbeats 4000000
namespace K14
open PySem PySem.Spec PyProof.Rows L2 He ChH Ch ChM
/-! ### the plain law: where two effects differ first -/
def difE (e f : Eff) (x : Int) : Prop := ¬ (e.carried x = f.carried x ∧ e.fin x = f.fin x)
instance (e f : Eff) (x : Int) : Decidable (difE e f x) := by unfold difE; infer_instance
def cands (e f : Eff) : List Int := [0, 1, e.lo, e.lo + 1, e.hi, e.hi + 1, f.lo, f.lo + 1, f.hi, f.hi + 1]
theorem eff_line {e : Eff} (h : e.lo ≤ e.hi) {x : Int} (h1 : x ≠ e.lo + 1) (h2 : x ≠ e.hi + 1) : e.carried x = 2 * e.carried (x - 1) - e.carried (x - 2) ∧ e.fin x = 2 * e.fin (x - 1) - e.fin (x - 2) := by
  have hp : e.place x = 2 * e.place (x - 1) - e.place (x - 2) := by
    unfold Eff.place
    cases e.goal with
    | some g => dsimp only; omega
    | none =>
      dsimp only
      have := mx_def x e.lo
      have := mn_def (mx x e.lo) e.hi
      have := mx_def (x - 1) e.lo
      have := mn_def (mx (x - 1) e.lo) e.hi
      have := mx_def (x - 2) e.lo
      have := mn_def (mx (x - 2) e.lo) e.hi
      omega
  constructor
  · unfold Eff.carried
    have := mx_def (e.lo - x) (x - e.hi)
    have := mx_def (mx (e.lo - x) (x - e.hi)) 0
    have := mx_def (e.lo - (x - 1)) ((x - 1) - e.hi)
    have := mx_def (mx (e.lo - (x - 1)) ((x - 1) - e.hi)) 0
    have := mx_def (e.lo - (x - 2)) ((x - 2) - e.hi)
    have := mx_def (mx (e.lo - (x - 2)) ((x - 2) - e.hi)) 0
    omega
  · unfold Eff.fin
    rw [hp]
    split <;> omega
/-- a first difference is among the candidates -/
theorem first_cand {e f : Eff} (he : e.lo ≤ e.hi) (hf : f.lo ≤ f.hi) {x : Int} (h0 : 0 ≤ x) (hd : difE e f x) (hm : ∀ y, 0 ≤ y → y < x → ¬ difE e f y) : x ∈ cands e f := by
  by_cases m : x ∈ cands e f
  · exact m
  · exfalso
    unfold cands at m
    simp only [List.mem_cons, List.not_mem_nil, or_false, not_or] at m
    obtain ⟨m0, m1, m2, m3, m4, m5, m6, m7, m8, m9⟩ := m
    have a1 := hm (x - 1) (by omega) (by omega)
    have a2 := hm (x - 2) (by omega) (by omega)
    obtain ⟨e1, e2⟩ := eff_line he m3 m5
    obtain ⟨f1, f2⟩ := eff_line hf m7 m9
    unfold difE at a1 a2 hd
    rw [Classical.not_not] at a1 a2
    exact hd ⟨by omega, by omega⟩
/-- o is the first start in a house of c chairs at which e and f differ -/
def FirstD (c : Int) (e f : Eff) : Option Int → Prop
  | some x => 0 ≤ x ∧ x ≤ c ∧ difE e f x ∧ ∀ y, 0 ≤ y → y < x → ¬ difE e f y
  | none => ∀ y, 0 ≤ y → y ≤ c → ¬ difE e f y
theorem difE_comm {e f : Eff} {x : Int} : difE e f x ↔ difE f e x := by
  unfold difE
  constructor
  · exact fun h z => h ⟨z.1.symm, z.2.symm⟩
  · exact fun h z => h ⟨z.1.symm, z.2.symm⟩
theorem firstD_one {c : Int} {e f : Eff} {o o' : Option Int} (h : FirstD c e f o) (h' : FirstD c f e o') : o' = o := by
  cases o with
  | none =>
    cases o' with
    | none => rfl
    | some y =>
      obtain ⟨y0, y1, yd, _⟩ := h'
      exact absurd (difE_comm.mp yd) (h y y0 y1)
  | some x =>
    obtain ⟨x0, x1, xd, xm⟩ := h
    cases o' with
    | none => exact absurd (difE_comm.mp xd) (h' x x0 x1)
    | some y =>
      obtain ⟨y0, y1, yd, ym⟩ := h'
      have a : ¬ y < x := fun z => xm y y0 z (difE_comm.mp yd)
      have b : ¬ x < y := fun z => ym x x0 z (difE_comm.mp xd)
      rw [show y = x by omega]
/-- a smallest one -/
theorem least_ex {p : Int → Prop} : ∀ (n : Nat), (∃ y : Int, 0 ≤ y ∧ y ≤ (n : Int) ∧ p y) → ∃ x : Int, 0 ≤ x ∧ x ≤ (n : Int) ∧ p x ∧ ∀ y : Int, 0 ≤ y → y < x → ¬ p y
  | 0, ⟨y, y0, y1, h⟩ => ⟨y, y0, y1, h, fun z z0 z1 => by omega⟩
  | n + 1, ⟨y, y0, y1, h⟩ => by
    by_cases q : ∃ z, 0 ≤ z ∧ z ≤ (n : Int) ∧ p z
    · obtain ⟨x, x0, x1, hx, hm⟩ := least_ex n q
      exact ⟨x, x0, by omega, hx, hm⟩
    · refine ⟨y, y0, y1, h, fun z z0 z1 hz => q ⟨z, z0, by omega, hz⟩⟩
/-- what the loop over the sorted candidates finds -/
theorem find_some {c : Int} {e f : Eff} (he : e.lo ≤ e.hi) (hf : f.lo ≤ f.hi) {ms : List Int} (hp : ms.Perm (cands e f)) (hs : ms.Pairwise (· ≤ ·)) {i : Nat} {x : Int} (hi : ms[i]? = some x) (h0 : 0 ≤ x) (h1 : x ≤ c) (hd : difE e f x)
    (hb : ∀ j y, j < i → ms[j]? = some y → y ≤ c → ¬ difE e f y) : FirstD c e f (some x) := by
  refine ⟨h0, h1, hd, fun y y0 y1 hy => ?_⟩
  obtain ⟨z, z0, z1, hz, hm⟩ := least_ex (p := difE e f) y.toNat ⟨y, y0, by omega, hy⟩
  have zm := hp.mem_iff.mpr (first_cand he hf z0 hz hm)
  obtain ⟨j, hj, ej⟩ := List.getElem_of_mem zm
  obtain ⟨hi2, ei⟩ := List.getElem?_eq_some_iff.mp hi
  rcases Nat.lt_trichotomy j i with h | h | h
  · exact hb j z h (by rw [List.getElem?_eq_getElem hj, ej]) (by omega) hz
  · subst h
    rw [ei] at ej
    omega
  · have := List.pairwise_iff_getElem.mp hs i j hi2 hj h
    rw [ei, ej] at this
    omega
theorem find_none {c : Int} {e f : Eff} (he : e.lo ≤ e.hi) (hf : f.lo ≤ f.hi) {ms : List Int} (hp : ms.Perm (cands e f)) (hb : ∀ j y, j < ms.length → ms[j]? = some y → y ≤ c → ¬ difE e f y) : FirstD c e f none := by
  intro y y0 y1 hy
  obtain ⟨z, z0, z1, hz, hm⟩ := least_ex (p := difE e f) y.toNat ⟨y, y0, by omega, hy⟩
  have zm := hp.mem_iff.mpr (first_cand he hf z0 hz hm)
  obtain ⟨j, hj, ej⟩ := List.getElem_of_mem zm
  exact hb j z hj (by rw [List.getElem?_eq_getElem hj, ej]) (by omega) hz
local macro_rules | `(tactic| walk_at "x1") => `(tactic| first
  | ((with_reducible apply x_var); exact rfl)
  | with_reducible refine x_c ?_
  | with_reducible refine x_op ?_
  | with_reducible refine x_seq ?_
  | with_reducible refine x_asg ?_
  | with_reducible refine x_gname ?_
  | with_reducible refine x_cons ?_
  | with_reducible refine x_nil ?_
  | with_reducible refine x_fld ?_
  | with_reducible refine x_ret ?_
  | with_reducible refine x_ifS ?_
  | with_reducible refine x_test ?_
  | with_reducible refine x_ex ?_
  | with_reducible refine x_call ?_
  | with_reducible refine x_mk ?_
  | with_reducible refine x_meth ?_
  | with_reducible refine x_prop ?_
  | with_reducible refine x_cb ?_
  | with_reducible refine x_tup ?_
  | with_reducible refine x_lst ?_
  | with_reducible refine x_drop ?_
  | with_reducible refine x_for ?_
  | with_reducible refine x_iL ?_
  | with_reducible refine x_iT ?_
  | with_reducible refine x_iE ?_
  | with_reducible refine x_iU ?_
  | with_reducible refine x_iR1 ?_
  | with_reducible refine x_iR2 ?_
  | with_reducible refine x_gcons ?_
  | with_reducible refine x_gnil ?_
  | with_reducible refine x_par ?_
  | with_reducible refine x_lstRg ?_
  | with_reducible refine x_rg1 ?_
  | with_reducible refine x_rg1At ?_
  | with_reducible refine x_par3 ?_
  | with_reducible refine x_bm ?_
  | with_reducible refine x_bm0 ?_
  | with_reducible refine x_gSub ?_
  | with_reducible refine x_lc ?_
  | with_reducible refine x_yes ?_
  | with_reducible refine x_setf ?_
  | with_reducible refine x_next ?_
  | with_reducible refine x_B ?_
  | with_reducible refine x_and ?_
  | with_reducible refine x_or ?_
  | with_reducible refine x_not ?_
  | with_reducible refine x_andV ?_
  | with_reducible refine x_orV ?_
  | with_reducible refine x_notV ?_
  | with_reducible refine x_ifE ?_
  | with_reducible refine x_chain ?_
  | with_reducible refine x_chain3 ?_
  | with_reducible refine x_un ?_
  | with_reducible refine x_isNe ?_
  | with_reducible refine x_notNe ?_
  | with_reducible refine x_starA ?_
  | with_reducible refine x_plusI ?_
  | with_reducible refine x_minus ?_
  | with_reducible refine x_lt ?_
  | with_reducible refine x_le ?_
  | with_reducible refine x_gt ?_
  | with_reducible refine x_ge ?_
  | with_reducible refine x_eqI ?_
  | with_reducible refine x_neI ?_
  | with_reducible refine x_eqS ?_
  | with_reducible refine x_eqB ?_
  | with_reducible refine x_neB ?_
  | with_reducible refine x_int ?_
  | with_reducible refine x_intB ?_
  | with_reducible refine x_max2 ?_
  | with_reducible refine x_min2 ?_
  | with_reducible refine x_max3 ?_
  | with_reducible refine x_abs ?_
  | with_reducible refine x_neg ?_
  | with_reducible refine x_isi_ii ?_
  | with_reducible refine x_isi_ib ?_
  | with_reducible refine x_T ?_
  | with_reducible refine x_nT ?_
  | with_reducible refine x_nF ?_
  | with_reducible refine x_F ?_)
local macro_rules | `(tactic| walk_at "x") => `(tactic| repeat walk_at "x1")

local macro_rules | `(tactic| walk_at "eff") => `(tactic| first
  | refine x_eff (by assumption) (Wd.c_Effect (by assumption)) (Wd.n_Effect_chairs (by assumption)) eff_chairs ?_
  | refine x_eff (by assumption) (Wd.c_Effect (by assumption)) (Wd.n_Effect_low (by assumption)) eff_low ?_
  | refine x_eff (by assumption) (Wd.c_Effect (by assumption)) (Wd.n_Effect_high (by assumption)) eff_high ?_
  | refine x_eff (by assumption) (Wd.c_Effect (by assumption)) (Wd.n_Effect_extra (by assumption)) eff_extra ?_
  | refine x_eff (by assumption) (Wd.c_Effect (by assumption)) (Wd.n_Effect_goal (by assumption)) eff_goal ?_
  | refine x_eff (by assumption) (Wd.c_Effect (by assumption)) (Wd.n_Effect_turned (by assumption)) eff_turned ?_)
local macro_rules | `(tactic| walk_at "y") => `(tactic| repeat (first | walk_at "x1" | walk_at "eff"))

local macro_rules | `(tactic| walk_at "q1") => `(tactic| first
  | walk_at "x1"
  | with_reducible refine x_sl ?_
  | with_reducible refine x_noPart ?_
  | with_reducible refine x_part ?_
  | with_reducible refine x_partI ?_)
local macro_rules | `(tactic| walk_at "q") => `(tactic| repeat walk_at "q1")

section
variable {P : Program} {w : World} {K : PySem.W.Frag} {mg : Str → Option Value} {base : Heap}
def spFD (K : PySem.W.Frag) : Sp := fun vs H Q _ => ∃ (p q : Addr) (c : Int) (l m : List Stp), vs = [.ref p, .ref q, .int c] ∧ PlanAt (CP K) H p l ∧ PlanAt (CP K) H q m ∧ l.length ≤ 60 ∧ m.length ≤ 60 ∧ 0 ≤ c ∧ c ≤ 1000000000000000000 ∧ fitsS c l ∧ fitsS c m ∧
  ∀ o H', Same H H' → FirstD c (effOf c l) (effOf c m) o → Q (goalV o) H'
theorem ok_first_difference (W : Wd K mg) : FnR P w K mg base CX0 6 (ga K "first_difference") (spFD K) := by
  refine (def_ok W.F_first_difference sc_first_difference (fun _ _ _ _ _ _ us hl => match us, hl with | [_, _, _], _ => rfl) (fun vs H Q E ⟨p, q, c, l, m, ev, _⟩ => by rw [ev]; rfl) fun cdv A outer s H vs Q E hr ⟨p, q, c, l, m, ev, hp, hq, l60, m60, c0, c1, hfl, hfm, k⟩ => ?_).2
  subst ev
  obtain ⟨eo, ec, _, _⟩ := effOf_ok c0 hfl
  obtain ⟨fo, fc, _, _⟩ := effOf_ok c0 hfm
  refine ⟨_, PSs.nox (pss_cons (ps_expr (pe_callR (ok_validate_house W) (hr.mono (by decide)) W.g_validate_house W.k_validate_house pass0 rfl (pa_cons (pv 0) (pa_cons (pv 2) pa_nil)))) (pss_cons (ps_expr (pe_callR (ok_validate_house W) (hr.mono (by decide)) W.g_validate_house W.k_validate_house pass0 rfl (pa_cons (pv 1) (pa_cons (pv 2) pa_nil)))) (pss_cons (ps_par (i := 3) (j := 4) (by rfl) sc_first_difference.nd rfl rfl (by decide) rfl rfl (pa_cons (pe_callR (ok_effect_of W) (hr.mono (by decide)) W.g_effect_of W.k_effect_of pass0 rfl (pa_cons (pv 0) (pa_cons (pv 2) pa_nil))) (pa_cons (pe_callR (ok_effect_of W) (hr.mono (by decide)) W.g_effect_of W.k_effect_of pass0 rfl (pa_cons (pv 1) (pa_cons (pv 2) pa_nil))) pa_nil)) (by rfl)) (pss_cons (ps_set (i := 5) sc_first_difference.nd rfl (Or.inl rfl) (pe_lst (pa_cons pe_int (pa_cons pe_int pa_nil)))) (pss_cons (ps_for PassesOwn.never rfl (pi_tupK K (pe_tup (pa_cons (pe_fldK K (pv 3)) (pa_cons (pe_fldK K (pv 3)) (pa_cons (pe_fldK K (pv 4)) (pa_cons (pe_fldK K (pv 4)) pa_nil)))))) (pg_name (i := 6) sc_first_difference.nd rfl (Or.inl rfl)) (pss_one (ps_expr (pe_bmK K PySem.F.plainAttrs_list PySem.F.slot_list_extend PySem.F.type_list_extend mt_extend (pv 5) (pa_cons (pe_lst (pa_cons (pv 6) (pa_cons (pe_op op_plus (pv 6) pe_int) pa_nil))) pa_nil))))) (pss_cons (ps_for PassesOwn.never rfl (pi_listK K (pe_callB (c_sortedK K) (by rfl) W.f_sorted (by decide +kernel) (pa_cons (pv 5) pa_nil))) (pg_name (i := 7) sc_first_difference.nd rfl (Or.inl rfl)) (pss_one (ps_if (PW.pt (pw_and (pt_cmpR op_leI (pv 7) (pv 2) (nomark _)) (pw_and1 (pt_cmpR (op_neK K hr.units) (pe_tup (pa_cons (pe_methR W.c_Effect W.m_Effect_carried (ok_Effect_carried W) (hr.mono (by decide)) pass0 (pv 3) (pa_cons (pv 7) pa_nil)) (pa_cons (pe_methR W.c_Effect W.m_Effect_end (ok_Effect_end W) (hr.mono (by decide)) pass0 (pv 3) (pa_cons (pv 7) pa_nil)) pa_nil))) (pe_tup (pa_cons (pe_methR W.c_Effect W.m_Effect_carried (ok_Effect_carried W) (hr.mono (by decide)) pass0 (pv 4) (pa_cons (pv 7) pa_nil)) (pa_cons (pe_methR W.c_Effect W.m_Effect_end (ok_Effect_end W) (hr.mono (by decide)) pass0 (pv 4) (pa_cons (pv 7) pa_nil)) pa_nil))) (nomark _))))) (pss_one (ps_ret (pv 7))) pss_nil))) (pss_one (ps_ret pe_non)))))))), ?_⟩
  walk_at "y"
  refine ⟨p, c, l, rfl, hp, l60, c0, c1, hfl, fun H1 s1 => ?_⟩
  walk_at "y"
  refine ⟨q, c, m, rfl, hq.mono s1, m60, c0, c1, hfm, fun H2 s2 => ?_⟩
  walk_at "y"
  refine ⟨p, c, l, rfl, (hp.mono s1).mono s2, l60, fun x1 H3 s3 e3 => ?_⟩
  walk_at "y"
  refine ⟨q, c, m, rfl, ((hq.mono s1).mono s2).mono s3, m60, fun x2 H4 s4 f4 => ?_⟩
  walk_at "y"
  refine ⟨_, _, rfl, ?_⟩
  have e4 := e3.mono s4
  have s04 := s1.trans (s2.trans (s3.trans s4))
  generalize effOf c l = e at *
  generalize effOf c m = f at *
  walk_at "y"
  refine ⟨sz rfl, fun r hr4 => ?_⟩
  have e5 := e4.mono (Same.new (o := .lst [.int 0, .int 1]) hr4)
  have f5 := f4.mono (Same.new (o := .lst [.int 0, .int 1]) hr4)
  walk_at "y"
  refine ⟨sz rfl, fun t ht => ?_⟩
  walk_at "y"
  refine x_iTAt (SqT.of upd_same) ?_
  have hr5 : (upd (upd H4 r (.lst [.int 0, .int 1])) t (.tup [.int e.lo, .int e.hi, .int f.lo, .int f.hi])) r = some (.lst [.int 0, .int 1]) := up upd_same ht
  have s5 : Same H4 (upd (upd H4 r (.lst [.int 0, .int 1])) t (.tup [.int e.lo, .int e.hi, .int f.lo, .int f.hi])) := (Same.new hr4).trans (Same.new ht)
  have t5 : (upd (upd H4 r (.lst [.int 0, .int 1])) t (.tup [.int e.lo, .int e.hi, .int f.lo, .int f.hi])) t = some (.tup [.int e.lo, .int e.hi, .int f.lo, .int f.hi]) := upd_same
  generalize upd (upd H4 r (.lst [.int 0, .int 1])) t (.tup [.int e.lo, .int e.hi, .int f.lo, .int f.hi]) = H5 at hr5 s5 t5 ⊢
  refine x_loop walk_tup (fun i σ H6 => (∃ b d, σ = [some (.ref p), some (.ref q), some (.int c), some (.ref x1), some (.ref x2), some (.ref r), b, d]) ∧ Same H4 H6 ∧ H6 t = some (.tup [.int e.lo, .int e.hi, .int f.lo, .int f.hi]) ∧ H6 r = some (.lst (((cands e f).take (2 + 2 * i)).map V.int))) ⟨⟨_, _, rfl⟩, s5, t5, hr5⟩ (fun i σ H6 _ ⟨_, _, ht6, _⟩ => SqT.of ht6) ?_ ?_
  · rintro i y σ H6 H7 hi ⟨⟨b, d, rfl⟩, s6, ht6, hr6⟩ ⟨rfl, ey⟩
    have hi4 : i < 4 := hi
    obtain ⟨z, rfl, hz⟩ : ∃ z : Int, y = .int z ∧ (((cands e f).take (2 + 2 * i)).map V.int ++ [.int z, .int (z + 1)]) = ((cands e f).take (2 + 2 * (i + 1))).map V.int := by
      have : i = 0 ∨ i = 1 ∨ i = 2 ∨ i = 3 := by omega
      rcases this with rfl | rfl | rfl | rfl
      · cases ey; exact ⟨_, rfl, rfl⟩
      · cases ey; exact ⟨_, rfl, rfl⟩
      · cases ey; exact ⟨_, rfl, rfl⟩
      · cases ey; exact ⟨_, rfl, rfl⟩
    walk_at "y"
    refine ⟨ty_lst hr6, ?_⟩
    walk_at "y"
    refine ⟨sz rfl, fun u hu => ?_⟩
    walk_at "y"
    refine ⟨r, u, _, _, rfl, rfl, up hr6 hu, upd_same, sz5 ?_, ?_⟩
    · rw [List.length_map, List.length_take]
      show min _ 10 + 2 ≤ _
      omega
    walk_at "y"
    refine ⟨⟨_, _, rfl⟩, ?_, ?_, ?_⟩
    · exact Same.mut (s6.trans (Same.new hu)) hr4
    · rw [upd_ne (ne_of ht6 hr6 (by intro z; cases z))]
      exact up ht6 hu
    · rw [upd_same, hz]
  · rintro σ H6 ⟨⟨b, d, rfl⟩, s6, _, hr6⟩
    have hr6' : H6 r = some (.lst ((cands e f).map V.int)) := hr6
    have e6 := e4.mono s6
    have f6 := f4.mono s6
    walk_at "y"
    refine x_sorted (SqL.of hr6') (by show 10 < 64; decide) fun ms u hperm hsort hu => ?_
    have s7 : Same H6 (upd H6 u (.lst (ms.map V.int))) := Same.new hu
    have hu7 : (upd H6 u (.lst (ms.map V.int))) u = some (.lst (ms.map V.int)) := upd_same
    generalize upd H6 u (.lst (ms.map V.int)) = H7 at s7 hu7 ⊢
    have e7 := e6.mono s7
    have f7 := f6.mono s7
    refine x_iLAt (SqL.of hu7) (x_loop walk_list (fun i σ H8 => (∃ b d, σ = [some (.ref p), some (.ref q), some (.int c), some (.ref x1), some (.ref x2), some (.ref r), b, d]) ∧ Same H7 H8 ∧ ∀ j y, j < i → ms[j]? = some y → y ≤ c → ¬ difE e f y) ⟨⟨_, _, rfl⟩, Same.refl _, fun j y hj => by omega⟩ (fun i σ H8 _ ⟨_, s8, _⟩ => SqL.of (s8 _ _ hu7)) ?_ ?_)
    · rintro i y σ H8 H9 hi ⟨⟨b, d, rfl⟩, s8, hb⟩ ⟨rfl, ey⟩
      rw [List.getElem?_map] at ey
      obtain ⟨x, hx, rfl⟩ := Option.map_eq_some_iff.mp ey
      have e8 := e7.mono s8
      have f8 := f7.mono s8
      have x0 : 0 ≤ x := by
        have := hperm.mem_iff.mp (List.mem_of_getElem? hx)
        unfold cands at this
        simp only [List.mem_cons, List.not_mem_nil, or_false] at this
        have := eo.lo0
        have := eo.lh
        have := fo.lo0
        have := fo.lh
        omega
      walk_at "y"
      refine x_ifd (fun hxc => ?_) fun hxc => ?_
      · walk_at "y"
        refine x_effM e8 (by kernel_rfl) ?_
        walk_at "y"
        refine ⟨x1, e, x, rfl, e8, ?_⟩
        walk_at "y"
        refine x_effM e8 (by kernel_rfl) ?_
        walk_at "y"
        refine ⟨x1, e, x, rfl, e8, ?_⟩
        walk_at "y"
        refine ⟨sz rfl, fun ta hta => ?_⟩
        have f9 := f8.mono (Same.new (o := .tup [.int (e.carried x), .int (e.fin x)]) hta)
        walk_at "y"
        refine x_effM f9 (by kernel_rfl) ?_
        walk_at "y"
        refine ⟨x2, f, x, rfl, f9, ?_⟩
        walk_at "y"
        refine x_effM f9 (by kernel_rfl) ?_
        walk_at "y"
        refine ⟨x2, f, x, rfl, f9, ?_⟩
        walk_at "y"
        refine ⟨sz rfl, fun tb htb => ?_⟩
        have s9 := (Same.new (o := .tup [.int (e.carried x), .int (e.fin x)]) hta).trans (Same.new (o := .tup [.int (f.carried x), .int (f.fin x)]) htb)
        refine x_neP (up upd_same htb) upd_same ?_
        walk_at "y"
        refine x_ifnd (fun hd => ?_) fun hd => ?_
        · walk_at "y"
          exact k (some x) _ (s04.trans (s6.trans (s7.trans (s8.trans s9)))) (find_some eo.lh fo.lh hperm hsort hx x0 hxc hd hb)
        · walk_at "y"
          refine ⟨⟨_, _, rfl⟩, s8.trans s9, fun j y hj hy yc => ?_⟩
          by_cases hji : j < i
          · exact hb j y hji hy yc
          · have : j = i := by omega
            subst this
            rw [hx] at hy
            cases hy
            exact fun z => z hd
      · walk_at "y"
        refine ⟨⟨_, _, rfl⟩, s8, fun j y hj hy yc => ?_⟩
        by_cases hji : j < i
        · exact hb j y hji hy yc
        · have : j = i := by omega
          subst this
          rw [hx] at hy
          cases hy
          exact absurd yc hxc
    · rintro σ H8 ⟨⟨b, d, rfl⟩, s8, hb⟩
      rw [List.length_map] at hb
      walk_at "y"
      exact k none _ (s04.trans (s6.trans (s7.trans s8))) (find_none eo.lh fo.lh hperm hb)
end
end K14

set_option Elab.async false
set_option linter.all false
set_option autoImplicit false
set_option maxRecDepth 100000
set_option pp.maxSteps 1500
set_option maxHeartbeats 4000000
namespace K14
open PySem PySem.Spec PyProof.Rows L2 He ChH Ch ChM
local macro_rules | `(tactic| walk_at "x1") => `(tactic| first
  | ((with_reducible apply x_var); exact rfl)
  | with_reducible refine x_c ?_
  | with_reducible refine x_op ?_
  | with_reducible refine x_seq ?_
  | with_reducible refine x_asg ?_
  | with_reducible refine x_gname ?_
  | with_reducible refine x_cons ?_
  | with_reducible refine x_nil ?_
  | with_reducible refine x_fld ?_
  | with_reducible refine x_ret ?_
  | with_reducible refine x_ifS ?_
  | with_reducible refine x_test ?_
  | with_reducible refine x_ex ?_
  | with_reducible refine x_call ?_
  | with_reducible refine x_mk ?_
  | with_reducible refine x_meth ?_
  | with_reducible refine x_prop ?_
  | with_reducible refine x_cb ?_
  | with_reducible refine x_tup ?_
  | with_reducible refine x_lst ?_
  | with_reducible refine x_drop ?_
  | with_reducible refine x_for ?_
  | with_reducible refine x_iL ?_
  | with_reducible refine x_iT ?_
  | with_reducible refine x_iE ?_
  | with_reducible refine x_iU ?_
  | with_reducible refine x_iR1 ?_
  | with_reducible refine x_iR2 ?_
  | with_reducible refine x_gcons ?_
  | with_reducible refine x_gnil ?_
  | with_reducible refine x_par ?_
  | with_reducible refine x_lstRg ?_
  | with_reducible refine x_rg1 ?_
  | with_reducible refine x_rg1At ?_
  | with_reducible refine x_par3 ?_
  | with_reducible refine x_bm ?_
  | with_reducible refine x_bm0 ?_
  | with_reducible refine x_gSub ?_
  | with_reducible refine x_lc ?_
  | with_reducible refine x_yes ?_
  | with_reducible refine x_setf ?_
  | with_reducible refine x_next ?_
  | with_reducible refine x_B ?_
  | with_reducible refine x_and ?_
  | with_reducible refine x_or ?_
  | with_reducible refine x_not ?_
  | with_reducible refine x_andV ?_
  | with_reducible refine x_orV ?_
  | with_reducible refine x_notV ?_
  | with_reducible refine x_ifE ?_
  | with_reducible refine x_chain ?_
  | with_reducible refine x_chain3 ?_
  | with_reducible refine x_un ?_
  | with_reducible refine x_isNe ?_
  | with_reducible refine x_notNe ?_
  | with_reducible refine x_starA ?_
  | with_reducible refine x_plusI ?_
  | with_reducible refine x_minus ?_
  | with_reducible refine x_lt ?_
  | with_reducible refine x_le ?_
  | with_reducible refine x_gt ?_
  | with_reducible refine x_ge ?_
  | with_reducible refine x_eqI ?_
  | with_reducible refine x_neI ?_
  | with_reducible refine x_eqS ?_
  | with_reducible refine x_eqB ?_
  | with_reducible refine x_neB ?_
  | with_reducible refine x_int ?_
  | with_reducible refine x_intB ?_
  | with_reducible refine x_max2 ?_
  | with_reducible refine x_min2 ?_
  | with_reducible refine x_max3 ?_
  | with_reducible refine x_abs ?_
  | with_reducible refine x_neg ?_
  | with_reducible refine x_isi_ii ?_
  | with_reducible refine x_isi_ib ?_
  | with_reducible refine x_T ?_
  | with_reducible refine x_nT ?_
  | with_reducible refine x_nF ?_
  | with_reducible refine x_F ?_)
local macro_rules | `(tactic| walk_at "x") => `(tactic| repeat walk_at "x1")

local macro_rules | `(tactic| walk_at "eff") => `(tactic| first
  | refine x_eff (by assumption) (Wd.c_Effect (by assumption)) (Wd.n_Effect_chairs (by assumption)) eff_chairs ?_
  | refine x_eff (by assumption) (Wd.c_Effect (by assumption)) (Wd.n_Effect_low (by assumption)) eff_low ?_
  | refine x_eff (by assumption) (Wd.c_Effect (by assumption)) (Wd.n_Effect_high (by assumption)) eff_high ?_
  | refine x_eff (by assumption) (Wd.c_Effect (by assumption)) (Wd.n_Effect_extra (by assumption)) eff_extra ?_
  | refine x_eff (by assumption) (Wd.c_Effect (by assumption)) (Wd.n_Effect_goal (by assumption)) eff_goal ?_
  | refine x_eff (by assumption) (Wd.c_Effect (by assumption)) (Wd.n_Effect_turned (by assumption)) eff_turned ?_)
local macro_rules | `(tactic| walk_at "y") => `(tactic| repeat (first | walk_at "x1" | walk_at "eff"))

local macro_rules | `(tactic| walk_at "q1") => `(tactic| first
  | walk_at "x1"
  | with_reducible refine x_sl ?_
  | with_reducible refine x_cmeth ?_
  | with_reducible refine x_noPart ?_
  | with_reducible refine x_part ?_
  | with_reducible refine x_partI ?_)
local macro_rules | `(tactic| walk_at "q") => `(tactic| repeat walk_at "q1")

section
variable {P : Program} {w : World} {K : PySem.W.Frag} {mg : Str → Option Value} {base : Heap}
theorem le60 {n : Nat} (h : Nat.ble n 60 = true) : n ≤ 60 := Nat.le_of_ble_eq_true h
/-! ### evidence of two meetings -/
theorem ev_two {a b s : Int} (a1 : 1 ≤ a) (b1 : 1 ≤ b) (s1 : 1 ≤ s) (sa : s ≤ a) : evF (a + b - s) 0 [.mt true a, .mt false b] = [0, 1] := by
  have m1 : moved (a + b - s) 0 1 a = a := by
    unfold moved
    rw [if_pos rfl]
    have := mx_def 0 a
    omega
  have m2 : moved (a + b - s) a (-1) b = a - s := by
    unfold moved
    rw [if_neg (by decide), if_pos rfl]
    have := mn_def a (a + b - s - b)
    omega
  have e1 : evN (a + b - s) 0 [(1, a), (-1, b)] 1 = ⟨[0], a, 1⟩ := by
    show evStep _ ⟨[], 0, 0⟩ 0 (1, a) = _
    unfold evStep
    dsimp only
    rw [m1, if_neg (by omega)]
    rfl
  have e2 : evN (a + b - s) 0 [(1, a), (-1, b)] 2 = ⟨[0, 1], a - s, -1⟩ := by
    show evStep _ (evN (a + b - s) 0 [(1, a), (-1, b)] 1) 1 (-1, b) = _
    rw [e1]
    unfold evStep
    dsimp only
    rw [m2, if_neg (by omega)]
    rfl
  show (evN (a + b - s) 0 [(1, a), (-1, b)] 2).found = _
  rw [e2]
theorem jd_two {a b s : Int} (s1 : 1 ≤ s) : (∀ k i, [(0 : Int), 1][k]? = some i → jdOk (a + b - s) 0 (sides 1 [.mt true a, .mt false b]) [0, 1] k i) ∧ (jdN (a + b - s) 0 (sides 1 [.mt true a, .mt false b]) [0, 1] 2).total = a + s := by
  have e1 : jdN (a + b - s) 0 [(1, a), (-1, b)] [0, 1] 1 = ⟨a, a, 1⟩ := by
    show jdStep _ ⟨0, 0, 0⟩ (1, a) = _
    unfold jdStep jdB
    dsimp only
    rw [if_pos rfl, show 0 + (a - 0) * 1 = a by omega]
  have e2 : (jdN (a + b - s) 0 [(1, a), (-1, b)] [0, 1] 2).total = a + s := by
    show (jdStep _ (jdN (a + b - s) 0 [(1, a), (-1, b)] [0, 1] 1) (-1, b)).total = _
    rw [e1]
    unfold jdStep jdB
    dsimp only
    rw [if_neg (by decide)]
    omega
  refine ⟨fun k i h => ?_, e2⟩
  match k, h with
  | 0, h =>
    cases h
    refine ⟨by decide, (by show (0 : Int) < 2; decide), fun j z => absurd rfl z, fun p hp => ?_⟩
    cases hp
    exact ⟨(by show (1 : Int) ≠ 0; decide), (by show (1 : Int) ≠ 0; decide)⟩
  | 1, h =>
    cases h
    refine ⟨by decide, (by show (1 : Int) < 2; decide), fun j _ hj => ?_, fun p hp => ?_⟩
    · cases hj
      decide
    · cases hp
      refine ⟨(by show (-1 : Int) ≠ 0; decide), ?_⟩
      show (-1 : Int) ≠ (jdN (a + b - s) 0 [(1, a), (-1, b)] [0, 1] 1).last
      rw [e1]
      show (-1 : Int) ≠ 1
      decide
  | k + 2, h => cases h
def spTM (K : PySem.W.Frag) : Sp := fun vs H Q _ => ∃ a b s n : Int, vs = [.int a, .int b, .int s, .int n] ∧ 1 ≤ a ∧ a ≤ 200000000000000000 ∧ 1 ≤ b ∧ b ≤ 200000000000000000 ∧ 1 ≤ s ∧ s ≤ a ∧ s ≤ b ∧ 1 ≤ n ∧ n ≤ 200000000000000000 ∧ ∀ H', Same H H' → Q (.bl true) H'
theorem ok__law_two_meetings (W : Wd K mg) : FnR P w K mg base CX0 9 (ga K "_law_two_meetings") (spTM K) := by
  refine (def_ok W.F__law_two_meetings sc__law_two_meetings (fun _ _ _ _ _ _ us hl => match us, hl with | [_, _, _, _], _ => rfl) (fun vs H Q E ⟨a, b, s, n, e, _⟩ => by rw [e]; rfl) fun cdv A outer s' H vs Q E hr ⟨a, b, s, n, e, a1, a2, b1, b2, s1, sa, sb, n1, n2, k⟩ => ?_).2
  subst e
  have eff := two_eff a1 b1 s1 sa sb
  have fit : fitsS (a + b - s) [.mt true a, .mt false b] := fitsS_two (by omega) (by omega) (by omega) (by omega)
  have nd := two_needs (a := a) (b := b) (by omega) (by omega)
  have hgood : goodP [.mt true a, .mt false b] := ⟨fun st hs r m e => by
    subst e
    have := fit r m hs
    omega, by show 2 ≤ 60; decide⟩
  refine ⟨_, PSs.nox (pss_cons (ps_par (i := 4) (j := 5) (by rfl) sc__law_two_meetings.nd rfl rfl (by decide) rfl rfl (pa_cons (pe_mk W.mk_Plan (ok_Plan_init W) (hr.mono (by decide)) W.g_Plan pass0 rfl (pa_cons (pe_tup (pa_cons pe_str (pa_cons (pv 0) pa_nil))) (pa_cons (pe_tup (pa_cons pe_str (pa_cons (pv 1) pa_nil))) pa_nil))) (pa_cons (pe_op op_minus (pe_op op_plus (pv 0) (pv 1)) (pv 2)) pa_nil)) (by rfl)) (pss_cons (ps_if (PW.pt (pw_or (pt_cmpR (op_neK K hr.units) (pe_callR (ok_summary W) (hr.mono (by decide)) W.g_summary W.k_summary pass0 rfl (pa_cons (pv 4) (pa_cons (pv 5) pa_nil))) (pe_tup (pa_cons (pv 0) (pa_cons (pv 0) (pa_cons (pv 2) (pa_cons (pe_op op_minus (pv 0) (pv 2)) (pa_cons pe_bl pa_nil)))))) (nomark _)) (pw_or1 (pt_cmpR (op_neK K hr.units) (pe_callR (ok_long_run W) (hr.mono (by decide)) W.g_long_run W.k_long_run pass0 rfl (pa_cons (pv 4) (pa_cons (pv 5) pa_nil))) (pe_tup (pa_cons (pe_op op_times pe_int (pv 2)) (pa_cons pe_int pa_nil))) (nomark _))))) (pss_one (ps_ret pe_bl)) pss_nil) (pss_cons (ps_if (pt_cmpR (op_neK K hr.units) (pe_callR (ok_total_carried W) (hr.mono (by decide)) W.g_total_carried W.k_total_carried pass0 rfl (pa_cons (pv 4) (pa_cons (pv 5) (pa_cons pe_int (pa_cons (pv 3) pa_nil))))) (pe_op op_plus (pe_op op_plus (pv 0) (pv 2)) (pe_op op_times (pe_op op_times (pe_op op_minus (pv 3) pe_int) pe_int) (pv 2))) (nomark _)) (pss_one (ps_ret pe_bl)) pss_nil) (pss_cons (ps_if (pt_cmpR (op_neK K hr.units) (pe_callR (ok_red_chairs W) (hr.mono (by decide)) W.g_red_chairs W.k_red_chairs pass0 rfl (pa_cons (pv 4) (pa_cons (pv 5) (pa_cons pe_int (pa_cons (pv 3) pa_nil))))) (pe_op op_minus (pv 0) (pv 2)) (nomark _)) (pss_one (ps_ret pe_bl)) pss_nil) (pss_cons (ps_if (PW.pt (pw_or (pt_cmpR (op_neK K hr.units) (pe_callR (ok_sparing_chairs W) (hr.mono (by decide)) W.g_sparing_chairs W.k_sparing_chairs pass0 rfl (pa_cons (pv 4) pa_nil)) (pe_op op_plus (pv 0) (pv 1)) (nomark _)) (pw_or (pt_cmpR (op_neK K hr.units) (pe_callR (ok_fewest_chairs W) (hr.mono (by decide)) W.g_fewest_chairs W.k_fewest_chairs pass0 rfl (pa_cons (pv 4) pa_nil)) (pe_callB (c_max2 rfl) (by rfl) W.f_max (by decide +kernel) (pa_cons (pv 0) (pa_cons (pv 1) pa_nil))) (nomark _)) (pw_or1 (pt_cmpR (op_neK K hr.units) (pe_callR (ok_saving W) (hr.mono (by decide)) W.g_saving W.k_saving pass0 rfl (pa_cons (pv 4) (pa_cons (pv 5) pa_nil))) (pe_tup (pa_cons pe_int (pa_cons pe_int pa_nil))) (nomark _)))))) (pss_one (ps_ret pe_bl)) pss_nil) (pss_cons (ps_if (PW.pt (pw_or (pt_cmpR (op_neK K hr.units) (pe_callR (ok_find_evidence W) (hr.mono (by decide)) W.g_find_evidence W.k_find_evidence pass0 rfl (pa_cons (pv 4) (pa_cons (pv 5) (pa_cons pe_int pa_nil)))) (pe_lst (pa_cons pe_int (pa_cons pe_int pa_nil))) (nomark _)) (pw_or1 (pt_cmpR (op_neK K hr.units) (pe_callR (ok_judge_evidence W) (hr.mono (by decide)) W.g_judge_evidence W.k_judge_evidence pass0 rfl (pa_cons (pv 4) (pa_cons (pv 5) (pa_cons pe_int (pa_cons (pe_lst (pa_cons pe_int (pa_cons pe_int pa_nil))) pa_nil))))) (pe_op op_plus (pv 0) (pv 2)) (nomark _))))) (pss_one (ps_ret pe_bl)) pss_nil) (pss_cons (ps_if (PW.pt (pw_or (pt_cmpR (op_neK K hr.units) (pe_callR (ok_best_chairs W) (hr.mono (by decide)) W.g_best_chairs W.k_best_chairs pass0 rfl (pa_cons (pv 4) (pa_cons pe_int (pa_cons pe_int (pa_cons pe_int pa_nil))))) (pe_callB (c_max2 rfl) (by rfl) W.f_max (by decide +kernel) (pa_cons (pv 0) (pa_cons (pv 1) pa_nil))) (nomark _)) (pw_or1 (pt_cmpR (op_neK K hr.units) (pe_callR (ok_best_chairs W) (hr.mono (by decide)) W.g_best_chairs W.k_best_chairs pass0 rfl (pa_cons (pv 4) (pa_cons pe_int (pa_cons pe_int (pa_cons pe_int pa_nil))))) (pe_op op_plus (pv 0) (pv 1)) (nomark _))))) (pss_one (ps_ret pe_bl)) pss_nil) (pss_one (ps_ret (pe_cmpR (op_eqK K hr.units) (pe_callR (ok_first_difference W) (hr.mono (by decide)) W.g_first_difference W.k_first_difference pass0 rfl (pa_cons (pv 4) (pa_cons (pe_mk W.mk_Plan (ok_Plan_init W) (hr.mono (by decide)) W.g_Plan pass0 rfl (pa_cons (pe_tup (pa_cons pe_str (pa_cons (pv 0) pa_nil))) (pa_cons (pe_tup (pa_cons pe_str (pa_cons (pe_op op_minus (pv 1) pe_int) pa_nil))) pa_nil))) (pa_cons (pv 5) pa_nil)))) pe_int (nomark _))))))))))), ?_⟩
  walk_at "q"
  refine ⟨sz rfl, fun t1 ht1 => ?_⟩; generalize hN1 : upd _ t1 _ = H1; obtain ⟨u1, e1⟩ := nws hN1 ht1
  walk_at "q"
  refine ⟨sz rfl, fun t2 ht2 => ?_⟩; generalize hN2 : upd _ t2 _ = H2; obtain ⟨u2, e2⟩ := nws hN2 ht2
  walk_at "q"
  refine mk_plan (l := [.mt true a, .mt false b]) (StepsAt.put (.mt true a) (u2 _ _ e1) (StepsAt.put (.mt false b) e2 .nil)) hgood fun p H3 hp3 u3 P3 => ?_
  walk_at "q"
  refine ⟨_, _, rfl, ?_⟩
  have c1 : a + b - s ≤ 1000000000000000000 := by omega
  have lr : halvesV (twoR (a + b - s) [.mt true a, .mt false b]) = (2 * s, 1) := by
    rw [two_twoR a1 b1 (by omega) sa sb]
    unfold halvesV
    rw [if_neg (by omega), show 4 * s / 2 = 2 * s by omega]
  have sv : halvesV (twoR (a + b - s) [.mt true a, .mt false b] - twoR (a + b - s + 1) [.mt true a, .mt false b]) = (2, 1) := by
    rw [show a + b - s + 1 = a + b - (s - 1) by omega, two_twoR a1 b1 (by omega) sa sb, two_twoR a1 b1 (by omega) (by omega) (by omega), show 4 * s - 4 * (s - 1) = 4 by omega]
    rfl
  obtain ⟨tc, tf⟩ := two_total a1 b1 s1 sa sb n1
  have hmul : (n - 1) * 2 * s = (n - 1) * (2 * s) := Int.mul_assoc _ _ _
  walk_at "q"
  refine ⟨p, a + b - s, _, rfl, P3, le60 rfl, by omega, c1, fit, fun t4 H4 ht4 u4 e4 => ?_⟩
  rw [eff] at e4
  walk_at "q"
  refine ⟨sz rfl, fun t5 ht5 => ?_⟩; generalize hN5 : upd _ t5 _ = H5; obtain ⟨u5, e5⟩ := nws hN5 ht5
  refine x_neSame (SqT.of (u5 _ _ e4)) (SqT.of e5) rfl ?_
  have P5 := (P3.mono u4).mono u5
  walk_at "q"
  refine ⟨p, a + b - s, _, rfl, P5, le60 rfl, by omega, c1, fit, fun t6 H6 ht6 u6 e6 => ?_⟩
  rw [lr] at e6
  walk_at "q"
  refine x_timesI (.inl ⟨by decide, by decide⟩) ?_
  walk_at "q"
  refine ⟨sz rfl, fun t7 ht7 => ?_⟩; generalize hN7 : upd _ t7 _ = H7; obtain ⟨u7, e7⟩ := nws hN7 ht7
  refine x_neSame (SqT.of (u7 _ _ e6)) (SqT.of e7) rfl ?_
  have P7 := (P5.mono u6).mono u7
  walk_at "q"
  refine ⟨p, a + b - s, 0, n, _, rfl, P7, le60 rfl, by omega, c1, fit, by omega, by omega, by omega, by omega, fun H8 u8 => ?_⟩
  rw [tc]
  walk_at "q"
  refine x_timesI (.inl ⟨by omega, by omega⟩) ?_
  walk_at "q"
  refine x_timesI (.inl ⟨by omega, by omega⟩) ?_
  walk_at "q"
  refine x_ifnd (fun hne => absurd (by omega) hne) fun _ => ?_
  have P8 := P7.mono u8
  walk_at "q"
  refine ⟨p, a + b - s, 0, n, _, rfl, P8, le60 rfl, by omega, c1, fit, by omega, by omega, by omega, by omega, fun H9 u9 => ?_⟩
  rw [tf]
  walk_at "q"
  refine x_ifnd (fun hne => absurd rfl hne) fun _ => ?_
  have P9 := P8.mono u9
  have fw : fewest [.mt true a, .mt false b] = mx a b := by unfold fewest; rw [nd]
  have sp : sparing [.mt true a, .mt false b] = a + b := by unfold sparing; rw [nd]
  walk_at "q"
  refine ⟨p, _, rfl, P9, le60 rfl, fun H10 u10 => ?_⟩
  rw [sp]
  walk_at "q"
  refine x_ifnd (fun hne => absurd rfl hne) fun _ => ?_
  walk_at "q"
  refine ⟨p, _, rfl, P9.mono u10, le60 rfl, fun H11 u11 => ?_⟩
  rw [fw]
  have P11 := (P9.mono u10).mono u11
  walk_at "q"
  refine x_ifnd (fun hne => absurd rfl hne) fun _ => ?_
  walk_at "q"
  refine ⟨p, a + b - s, _, rfl, P11, le60 rfl, by omega, by omega, fit, fun t12 H12 ht12 u12 e12 => ?_⟩
  rw [sv] at e12
  walk_at "q"
  refine ⟨sz rfl, fun t13 ht13 => ?_⟩; generalize hN13 : upd _ t13 _ = H13; obtain ⟨u13, e13⟩ := nws hN13 ht13
  refine x_neSame (SqT.of (u13 _ _ e12)) (SqT.of e13) rfl ?_
  have P13 := (P11.mono u12).mono u13
  walk_at "q"
  refine ⟨p, a + b - s, 0, _, rfl, P13, le60 rfl, by omega, c1, fit, by omega, by omega, fun t14 H14 ht14 u14 e14 => ?_⟩
  rw [ev_two a1 b1 s1 sa] at e14
  walk_at "q"
  refine ⟨sz rfl, fun t15 ht15 => ?_⟩; generalize hN15 : upd _ t15 _ = H15; obtain ⟨u15, e15⟩ := nws hN15 ht15
  refine x_neSameL (SqL.of (u15 _ _ e14)) (SqL.of e15) rfl ?_
  have P15 := (P13.mono u14).mono u15
  walk_at "q"
  refine ⟨sz rfl, fun t16 ht16 => ?_⟩; generalize hN16 : upd _ t16 _ = H16; obtain ⟨u16, e16⟩ := nws hN16 ht16
  have P16 := P15.mono u16
  walk_at "q"
  obtain ⟨j1, j2⟩ := jd_two (a := a) (b := b) s1
  refine ⟨p, t16, a + b - s, 0, _, [0, 1], rfl, P16, le60 rfl, by omega, c1, fit, by omega, by omega, e16, j1, fun H17 u17 => ?_⟩
  have j3 : mx 0 (jdN (a + b - s) 0 (sides 1 [.mt true a, .mt false b]) [0, 1] [(0 : Int), 1].length).total = a + s := by
    show mx 0 (jdN (a + b - s) 0 (sides 1 [.mt true a, .mt false b]) [0, 1] 2).total = a + s
    rw [j2]
    have := mx_def 0 (a + s)
    omega
  rw [j3]
  have P17 := P16.mono u17
  walk_at "q"
  refine x_ifnd (fun hne => absurd rfl hne) fun _ => ?_
  have nn : ∀ r m, Stp.mt r m ∈ [Stp.mt true a, .mt false b] → 0 ≤ m := fun r m hm => (fit r m hm).1
  have spares : ∀ m pr, mx a b ≤ m → m < a + b → (sparesC [.mt true a, .mt false b] pr 1 1 m ↔ 4 > 2 * pr) := fun m pr h1 h2 => by
    have := mx_def a b
    unfold sparesC
    rw [show m = a + b - (a + b - m) by omega, show a + b - (a + b - m) + 1 = a + b - (a + b - m - 1) by omega, two_twoR a1 b1 (by omega) (by omega) (by omega), two_twoR a1 b1 (by omega) (by omega) (by omega)]
    omega
  have mxd := mx_def a b
  walk_at "q"
  refine ⟨p, _, 2, 1, 1, rfl, P17, le60 rfl, nn, by decide, by decide, by decide, by decide, by decide, by decide, fun r H18 u18 r1 r2 r3 r4 => ?_⟩
  rw [fw] at r1 r3
  rw [sp] at r2 r4
  have er : r = mx a b := by
    rcases r3 with z | z
    · exact z
    · by_cases q : r = mx a b
      · exact q
      · have := (spares (r - 1) 2 (by omega) (by omega)).mp z
        omega
  subst er
  walk_at "q"
  refine x_ifnd (fun hne => absurd rfl hne) fun _ => ?_
  have P18 := P17.mono u18
  walk_at "q"
  refine ⟨p, _, 1, 1, 1, rfl, P18, le60 rfl, nn, by decide, by decide, by decide, by decide, by decide, by decide, fun r H19 u19 r1 r2 r3 r4 => ?_⟩
  rw [fw] at r1 r3
  rw [sp] at r2 r4
  have er : r = a + b := by
    rcases r4 with z | z
    · exact z
    · by_cases q : r = a + b
      · exact q
      · exact absurd ((spares r 1 (by omega) (by omega)).mpr (by decide)) z
  subst er
  walk_at "q"
  refine x_ifnd (fun hne => absurd rfl hne) fun _ => ?_
  have P19 := P18.mono u19
  walk_at "q"
  refine ⟨sz rfl, fun t20 ht20 => ?_⟩; generalize hN20 : upd _ t20 _ = H20; obtain ⟨u20, e20⟩ := nws hN20 ht20
  walk_at "q"
  refine ⟨sz rfl, fun t21 ht21 => ?_⟩; generalize hN21 : upd _ t21 _ = H21; obtain ⟨u21, e21⟩ := nws hN21 ht21
  walk_at "q"
  have fit2 : fitsS (a + b - s) [.mt true a, .mt false (b - 1)] := fitsS_two (by omega) (by omega) (by omega) (by omega)
  refine mk_plan (l := [.mt true a, .mt false (b - 1)]) (StepsAt.put (.mt true a) (u21 _ _ e20) (StepsAt.put (.mt false (b - 1)) e21 .nil)) ⟨fun st hs r m e => by
    subst e
    have := fit2 r m hs
    omega, by show 2 ≤ 60; decide⟩ fun p2 H22 hp22 u22 P22 => ?_
  have uu : Same H19 H22 := u20.trans (u21.trans u22)
  walk_at "q"
  refine ⟨p, p2, a + b - s, _, _, rfl, P19.mono uu, P22, le60 rfl, le60 rfl, by omega, c1, fit, fit2, fun o H23 u23 fd => ?_⟩
  have dif : difE (effOf (a + b - s) [.mt true a, .mt false b]) (effOf (a + b - s) [.mt true a, .mt false (b - 1)]) 0 := by
    intro hd0
    refine absurd hd0.1 ?_
    have g1 := ((effOf_ok (by omega) fit).2.2.2 0 (by omega) (by omega)).2
    have g2 := ((effOf_ok (by omega) fit2).2.2.2 0 (by omega) (by omega)).2
    rw [g1, g2]
    show absI (mx 0 a - 0) + (absI (mn (mx 0 a) (a + b - s - b) - mx 0 a) + 0) ≠ absI (mx 0 a - 0) + (absI (mn (mx 0 a) (a + b - s - (b - 1)) - mx 0 a) + 0)
    have := mx_def 0 a
    rw [show mx 0 a = a by omega]
    have := mn_def a (a + b - s - b)
    have := mn_def a (a + b - s - (b - 1))
    unfold absI
    split <;> split <;> split <;> omega
  have eo : o = some 0 := by
    cases o with
    | none => exact absurd dif (fd 0 (by omega) (by omega))
    | some x =>
      obtain ⟨f0, f1, f2, f3⟩ := fd
      by_cases q : x = 0
      · rw [q]
      · exact absurd dif (f3 0 (by omega) (by omega))
  subst eo
  show rEqU K (.int 0) (.int 0) H23 Q
  refine x_eqI ?_
  refine k _ ?_
  exact u1.trans (u2.trans (u3.trans (u4.trans (u5.trans (u6.trans (u7.trans (u8.trans (u9.trans (u10.trans (u11.trans (u12.trans (u13.trans (u14.trans (u15.trans (u16.trans (u17.trans (u18.trans (u19.trans (uu.trans u23)))))))))))))))))))
def spAC (K : PySem.W.Frag) : Sp := fun vs H Q _ => ∃ (c : Int) (m : Nat), vs = [.int c, .int ((m : Int) + 1)] ∧ 1 ≤ c ∧ c ≤ 200000000000000000 ∧ m ≤ 4 ∧ ∀ H', Same H H' → Q (.bl true) H'
theorem goodP_of {c : Int} {l : List Stp} (c1 : c ≤ 1000000000000000000) (h : fitsS c l) (h60 : l.length ≤ 60) : goodP l := ⟨fun st hs r m e => by
  subst e
  have := h r m hs
  omega, h60⟩
theorem ok__law_all_chairs (W : Wd K mg) : FnR P w K mg base CX0 9 (ga K "_law_all_chairs") (spAC K) := by
  refine (def_ok W.F__law_all_chairs sc__law_all_chairs (fun _ _ _ _ _ _ us hl => match us, hl with | [_, _], _ => rfl) (fun vs H Q E ⟨c, m, e, _⟩ => by rw [e]; rfl) fun cdv A outer s' H vs Q E hr ⟨c, m, e, c1, c2, m4, k⟩ => ?_).2
  subst e
  have fit : ∀ j, fitsS c (allL c j) := allL_fits (by omega)
  refine ⟨_, PSs.nox (pss_cons (ps_set (i := 2) sc__law_all_chairs.nd rfl (Or.inl rfl) (pe_mk0 W.mk_Plan (ok_Plan_init W) (hr.mono (by decide)) W.g_Plan pass0 rfl)) (pss_cons (ps_for PassesOwn.never rfl (pi_range1 (by rfl) W.f_range (pa_cons (pv 1) pa_nil)) (pg_name (i := 3) sc__law_all_chairs.nd rfl (Or.inl rfl)) (pss_one (ps_set (i := 2) sc__law_all_chairs.nd rfl (Or.inl rfl) (pe_methR W.c_Plan W.m_Plan_joined (ok_Plan_joined W) (hr.mono (by decide)) pass0 (pv 2) (pa_cons (ClX.pe_cmeth (pe_gr W.g_Plan rfl) W.r_Plan W.cm_Plan_alternating (ok_Plan_alternating W) (hr.mono (by decide)) pass0 (pa_cons (pv 0) (pa_cons (pv 0) pa_nil))) pa_nil))))) (pss_cons (ps_if (pt_cmpR (op_neK K hr.units) (pe_callR (ok_summary W) (hr.mono (by decide)) W.g_summary W.k_summary pass0 rfl (pa_cons (pv 2) (pa_cons (pv 0) pa_nil))) (pe_tup (pa_cons (pv 0) (pa_cons (pv 0) (pa_cons (pe_op op_times (pe_op op_minus (pe_op op_times pe_int (pv 1)) pe_int) (pv 0)) (pa_cons pe_int (pa_cons pe_bl pa_nil)))))) (nomark _)) (pss_one (ps_ret pe_bl)) pss_nil) (pss_cons (ps_if (PW.pt (pw_or (pt_cmpR (op_neK K hr.units) (pe_callB (c_lenK K) (by rfl) W.f_len (by decide +kernel) (pa_cons (pe_propR W.c_Plan W.p_Plan_steps (ok_Plan_steps W) (hr.mono (by decide)) (pe_callR (ok_simple_plan W) (hr.mono (by decide)) W.g_simple_plan W.k_simple_plan pass0 rfl (pa_cons (pv 2) (pa_cons (pv 0) pa_nil)))) pa_nil)) (pe_op op_times pe_int (pv 1)) (nomark _)) (pw_or1 (pt_cmpR (op_neK K hr.units) (pe_callR (ok_long_run W) (hr.mono (by decide)) W.g_long_run W.k_long_run pass0 rfl (pa_cons (pv 2) (pa_cons (pv 0) pa_nil))) (pe_tup (pa_cons (pe_op op_times (pe_op op_times pe_int (pv 1)) (pv 0)) (pa_cons pe_int pa_nil))) (nomark _))))) (pss_one (ps_ret pe_bl)) pss_nil) (pss_one (ps_ret (pe_cmpR (op_eqK K hr.units) (pe_callB (c_lenK K) (by rfl) W.f_len (by decide +kernel) (pa_cons (pe_propR W.c_Plan W.p_Plan_steps (ok_Plan_steps W) (hr.mono (by decide)) (pe_callR (ok_simple_plan W) (hr.mono (by decide)) W.g_simple_plan W.k_simple_plan pass0 rfl (pa_cons (pe_methR W.c_Plan W.m_Plan_joined (ok_Plan_joined W) (hr.mono (by decide)) pass0 (pv 2) (pa_cons (pe_mk W.mk_Plan (ok_Plan_init W) (hr.mono (by decide)) W.g_Plan pass0 rfl (pa_cons (pe_tup (pa_cons pe_str (pa_cons pe_int pa_nil))) (pa_cons (pe_tup (pa_cons pe_str pa_nil)) (pa_cons (pe_tup (pa_cons pe_str pa_nil)) pa_nil)))) pa_nil)) (pa_cons (pv 0) pa_nil)))) pa_nil)) (pe_op op_plus (pe_op op_times pe_int (pv 1)) pe_int) (nomark _)))))))), ?_⟩
  walk_at "q"
  refine mk_plan (l := []) .nil ⟨(fun s hs => nomatch hs), Nat.zero_le _⟩ fun x0 H0 hx0 s0 p0 => ?_
  walk_at "q"
  refine x_iR1At (by omega) (by omega) ?_
  refine x_loop walk_range (fun i σ H1 => Same H H1 ∧ ∃ x b, σ = [some (.int c), some (.int ((m : Int) + 1)), some (.ref x), b] ∧ PlanAt (CP K) H1 x (allL c i)) ⟨s0, x0, _, rfl, p0⟩ (fun _ _ _ _ _ => trivial) ?_ ?_
  · rintro i y σ H2 H1 hi ⟨s1, x, b, rfl, hP⟩ ⟨rfl, rfl⟩
    obtain ⟨dx, t, vs, g1, g2, g3⟩ := id hP.ex
    walk_at "q"
    refine x_methAt g1 rfl ?_
    walk_at "q"
    refine ⟨[.ref (CP K)], [.int c, .int c], rfl, rfl, sz rfl, fun u hu => ?_⟩
    generalize hNu : upd _ u _ = H3; obtain ⟨u3, e3⟩ := nws hNu hu
    have fit2 : fitsS c [.mt true c, .mt false c] := fitsS_two (by omega) (by omega) (by omega) (by omega)
    refine ⟨u, [c, c], rfl, e3, goodP_of (l := [.mt true c, .mt false c]) (by omega) fit2 (le60 rfl), fun x1 H4 hx1 u4 P4 => ?_⟩
    walk_at "q"
    refine ⟨[.ref x], [.ref x1], rfl, rfl, sz rfl, fun u2 hu2 => ?_⟩
    generalize hNu2 : upd _ u2 _ = H5; obtain ⟨u5, e5⟩ := nws hNu2 hu2
    have i4 : i ≤ 4 := by omega
    refine ⟨x, x1, u2, allL c i, [.mt true c, .mt false c], rfl, ((hP.mono u3).mono u4).mono u5, P4.mono u5, e5, goodP_of (c := c) (by omega) (fit (i + 1)) (by rw [show allL c i ++ [.mt true c, .mt false c] = allL c (i + 1) from rfl, allL_len]; omega), fun x6 H6 hx6 u6 P6 => ?_⟩
    walk_at "q"
    exact ⟨s1.trans (u3.trans (u4.trans (u5.trans u6))), x6, _, rfl, P6⟩
  · rintro σ H1 ⟨s1, x, b, rfl, hP⟩
    rw [show ((m : Int) + 1).toNat = m + 1 by omega] at hP
    have len : (allL c (m + 1)).length ≤ 60 := by rw [allL_len]; omega
    have tr0 := (all_turning c (m + 1)).1
    walk_at "q"
    refine ⟨x, c, _, rfl, hP, len, by omega, by omega, fit _, fun t2 H2 ht2 u2 e2 => ?_⟩
    rw [all_eff c1 m] at e2
    walk_at "q"
    refine x_timesI (.inl ⟨by decide, by decide⟩) ?_
    walk_at "q"
    refine x_timesI (.inl ⟨by omega, by omega⟩) ?_
    walk_at "q"
    refine ⟨sz rfl, fun t3 ht3 => ?_⟩; generalize hN3 : upd _ t3 _ = H3; obtain ⟨u3, e3⟩ := nws hN3 ht3
    rw [show (2 * ((m : Int) + 1) - 1) * c = c * (2 * (m : Int) + 1) by rw [Int.mul_comm, show 2 * ((m : Int) + 1) - 1 = 2 * (m : Int) + 1 by omega]] at e3
    refine x_neSame (SqT.of (u3 _ _ e2)) (SqT.of e3) rfl ?_
    have P3 := (hP.mono u2).mono u3
    walk_at "q"
    refine ⟨x, c, _, rfl, P3, len, by omega, by omega, fit _, fun x4 H4 l4 hx4 u4 hs4 P4 => ?_⟩
    have l4len := all_simple c1 m hs4
    rw [tr0] at P4
    obtain ⟨dx4, tp4, vs4, g41, g42, g43⟩ := id P4.ex
    have ln4 : vs4.length = 2 * (m + 1) := by
      rw [pr_len g43, List.length_append, l4len]
      rfl
    walk_at "q"
    refine x_propAt g41 ⟨x4, dx4, _, _, rfl, g41, rfl, ?_⟩
    walk_at "q"
    refine x_lenT (SqT.of g42) ?_
    rw [ln4]
    walk_at "q"
    refine x_timesI (.inl ⟨by decide, by decide⟩) ?_
    walk_at "q"
    refine x_ifnd (fun hne => absurd (by omega) hne) fun _ => ?_
    have P4' := P3.mono u4
    have lr : halvesV (twoR c (allL c (m + 1))) = (2 * ((m : Int) + 1) * c, 1) := by
      rw [all_twoR c1 m]
      have e4 : 4 * ((m : Int) + 1) * c = 2 * (2 * ((m : Int) + 1) * c) := by rw [← Int.mul_assoc, ← Int.mul_assoc]; rfl
      rw [e4]
      unfold halvesV
      rw [if_neg (by omega), show 2 * (2 * ((m : Int) + 1) * c) / 2 = 2 * ((m : Int) + 1) * c by omega]
    walk_at "q"
    refine ⟨x, c, _, rfl, P4', len, by omega, by omega, fit _, fun t5 H5 ht5 u5 e5 => ?_⟩
    rw [lr] at e5
    walk_at "q"
    refine x_timesI (.inl ⟨by decide, by decide⟩) ?_
    walk_at "q"
    refine x_timesI (.inl ⟨by omega, by omega⟩) ?_
    walk_at "q"
    refine ⟨sz rfl, fun t6 ht6 => ?_⟩; generalize hN6 : upd _ t6 _ = H6; obtain ⟨u6, e6⟩ := nws hN6 ht6
    refine x_neSame (SqT.of (u6 _ _ e5)) (SqT.of e6) rfl ?_
    have P6 := (P4'.mono u5).mono u6
    obtain ⟨dx6, tp6, vs6, g61, g62, g63⟩ := id P6.ex
    walk_at "q"
    refine x_methAt g61 rfl ?_
    walk_at "q"
    refine ⟨sz rfl, fun t7 ht7 => ?_⟩; generalize hN7 : upd _ t7 _ = H7; obtain ⟨u7, e7⟩ := nws hN7 ht7
    walk_at "q"
    refine ⟨sz rfl, fun t8 ht8 => ?_⟩; generalize hN8 : upd _ t8 _ = H8; obtain ⟨u8, e8⟩ := nws hN8 ht8
    walk_at "q"
    refine ⟨sz rfl, fun t9 ht9 => ?_⟩; generalize hN9 : upd _ t9 _ = H9; obtain ⟨u9, e9⟩ := nws hN9 ht9
    walk_at "q"
    have fit1 : fitsS c [.mt true 1, .turn, .turn] := fun r n hm => by
      rcases List.mem_cons.mp hm with z | z
      · cases z; omega
      · rcases List.mem_cons.mp z with z | z
        · cases z
        · cases List.mem_singleton.mp z
    refine mk_plan (l := [.mt true 1, .turn, .turn]) (StepsAt.put (.mt true 1) (u9 _ _ (u8 _ _ e7)) (StepsAt.put .turn (u9 _ _ e8) (StepsAt.put .turn e9 .nil))) (goodP_of (by omega) fit1 (le60 rfl)) fun x10 H10 hx10 u10 P10 => ?_
    walk_at "q"
    refine ⟨[.ref x], [.ref x10], rfl, rfl, sz rfl, fun v2 hv2 => ?_⟩
    generalize hNu2 : upd _ v2 _ = H11; obtain ⟨u11, e11⟩ := nws hNu2 hv2
    have fitA : fitsS c (allL c (m + 1) ++ [.mt true 1, .turn, .turn]) := fits_app (fit _) fit1
    have lenA : (allL c (m + 1) ++ [Stp.mt true 1, Stp.turn, Stp.turn]).length ≤ 60 := by rw [List.length_append, allL_len]; show 2 * (m + 1) + 3 ≤ 60; omega
    have uu : Same H6 H10 := u7.trans (u8.trans (u9.trans u10))
    refine ⟨x, x10, v2, allL c (m + 1), [.mt true 1, .turn, .turn], rfl, (P6.mono uu).mono u11, P10.mono u11, e11, goodP_of (c := c) (by omega) fitA lenA, fun x12 H12 hx12 u12 P12 => ?_⟩
    walk_at "q"
    refine ⟨x12, c, _, rfl, P12, lenA, by omega, by omega, fitA, fun x13 H13 l13 hx13 u13 hs13 P13 => ?_⟩
    have l13len := all_simple1 c1 m hs13
    rw [(all_turning c (m + 1)).2] at P13
    obtain ⟨dx13, tp13, vs13, g131, g132, g133⟩ := id P13.ex
    have ln13 : vs13.length = 2 * (m + 1) + 1 := by
      rw [pr_len g133, List.length_append, l13len]
      rfl
    walk_at "q"
    refine x_propAt g131 ⟨x13, dx13, _, _, rfl, g131, rfl, ?_⟩
    walk_at "q"
    refine x_lenT (SqT.of g132) ?_
    rw [ln13]
    walk_at "q"
    refine x_timesI (.inl ⟨by decide, by decide⟩) ?_
    walk_at "q"
    rw [decide_eq_true (show ((2 * (m + 1) + 1 : Nat) : Int) = 2 * ((m : Int) + 1) + 1 by omega)]
    exact k _ (s1.trans (u2.trans (u3.trans (u4.trans (u5.trans (u6.trans (uu.trans (u11.trans (u12.trans u13)))))))))
def spTn (K : PySem.W.Frag) : Sp := fun vs H Q _ => ∃ a s : Int, vs = [.int a, .int s] ∧ 1 ≤ a ∧ a ≤ 200000000000000000 ∧ 1 ≤ s ∧ s ≤ a ∧ ∀ H', Same H H' → Q (.bl true) H'
theorem ok__law_turning (W : Wd K mg) : FnR P w K mg base CX0 9 (ga K "_law_turning") (spTn K) := by
  refine (def_ok W.F__law_turning sc__law_turning (fun _ _ _ _ _ _ us hl => match us, hl with | [_, _], _ => rfl) (fun vs H Q E ⟨a, s, e, _⟩ => by rw [e]; rfl) fun cdv A outer s' H vs Q E hr ⟨a, s, e, a1, a2, s1, sa, k⟩ => ?_).2
  subst e
  have fit : fitsS (2 * a - s) [.mt true a, .turn] := fitsS_turn (by omega) (by omega)
  obtain ⟨tw, rf, rc⟩ := turn_all a1 s1 sa
  have lr : halvesV (twoR (2 * a - s) [.mt true a, .turn]) = (s, 1) := by
    rw [tw]
    unfold halvesV
    rw [if_neg (by omega), show 2 * s / 2 = s by omega]
  have sp : sparing [.mt true a, .turn] = 2 * a := by
    unfold sparing
    rw [turn_needs (by omega)]
    show a + a = 2 * a
    omega
  refine ⟨_, PSs.nox (pss_cons (ps_par (i := 2) (j := 3) (by rfl) sc__law_turning.nd rfl rfl (by decide) rfl rfl (pa_cons (pe_mk W.mk_Plan (ok_Plan_init W) (hr.mono (by decide)) W.g_Plan pass0 rfl (pa_cons (pe_tup (pa_cons pe_str (pa_cons (pv 0) pa_nil))) (pa_cons (pe_tup (pa_cons pe_str pa_nil)) pa_nil))) (pa_cons (pe_op op_minus (pe_op op_times pe_int (pv 0)) (pv 1)) pa_nil)) (by rfl)) (pss_cons (ps_if (pt_cmpR (op_neK K hr.units) (pe_callR (ok_summary W) (hr.mono (by decide)) W.g_summary W.k_summary pass0 rfl (pa_cons (pv 2) (pa_cons (pv 3) pa_nil))) (pe_tup (pa_cons (pv 0) (pa_cons (pv 3) (pa_cons pe_int (pa_cons (pe_ifExp (pt_cmpR op_ltI (pv 0) (pv 3) (nomark _)) pe_non (pv 0)) (pa_cons pe_bl pa_nil)))))) (nomark _)) (pss_one (ps_ret pe_bl)) pss_nil) (pss_cons (ps_if (PW.pt (pw_or (pt_cmpR (op_neK K hr.units) (pe_callR (ok_long_run W) (hr.mono (by decide)) W.g_long_run W.k_long_run pass0 rfl (pa_cons (pv 2) (pa_cons (pv 3) pa_nil))) (pe_tup (pa_cons (pv 1) (pa_cons pe_int pa_nil))) (nomark _)) (pw_or1 (pt_cmpR (op_neK K hr.units) (pe_callR (ok_sparing_chairs W) (hr.mono (by decide)) W.g_sparing_chairs W.k_sparing_chairs pass0 rfl (pa_cons (pv 2) pa_nil)) (pe_op op_times pe_int (pv 0)) (nomark _))))) (pss_one (ps_ret pe_bl)) pss_nil) (pss_one (ps_ret (pe_and (pe_cmpR (op_eqK K hr.units) (pe_callR (ok_red_chairs W) (hr.mono (by decide)) W.g_red_chairs W.k_red_chairs pass0 rfl (pa_cons (pv 2) (pa_cons (pv 3) (pa_cons (pv 0) (pa_cons pe_int pa_nil))))) (pe_op op_minus (pv 3) (pv 0)) (nomark _)) (pe_one (pe_cmpR (op_eqK K hr.units) (pe_callR (ok_total_carried W) (hr.mono (by decide)) W.g_total_carried W.k_total_carried pass0 rfl (pa_cons (pv 2) (pa_cons (pv 3) (pa_cons (pv 0) (pa_cons pe_int pa_nil))))) (pv 1) (nomark _))))))))), ?_⟩
  walk_at "q"
  refine ⟨sz rfl, fun t1 ht1 => ?_⟩; generalize hN1 : upd _ t1 _ = H1; obtain ⟨u1, e1⟩ := nws hN1 ht1
  walk_at "q"
  refine ⟨sz rfl, fun t2 ht2 => ?_⟩; generalize hN2 : upd _ t2 _ = H2; obtain ⟨u2, e2⟩ := nws hN2 ht2
  walk_at "q"
  refine mk_plan (l := [.mt true a, .turn]) (StepsAt.put (.mt true a) (u2 _ _ e1) (StepsAt.put .turn e2 .nil)) (goodP_of (by omega) fit (le60 rfl)) fun p H3 hp3 u3 P3 => ?_
  walk_at "q"
  refine x_timesI (.inl ⟨by decide, by decide⟩) ?_
  walk_at "q"
  refine ⟨_, _, rfl, ?_⟩
  walk_at "q"
  refine ⟨p, 2 * a - s, _, rfl, P3, le60 rfl, by omega, by omega, fit, fun t4 H4 ht4 u4 e4 => ?_⟩
  rw [turn_eff a1 s1 sa] at e4
  walk_at "q"
  have s04 : Same H H4 := u1.trans (u2.trans (u3.trans u4))
  refine x_ifSetd (fun v H' => v = goalV (if a < 2 * a - s then none else some a) ∧ H' = H4) (fun hl Q' kQ => ?A) (fun hl Q' kQ => ?B) ?C
  case A =>
    walk_at "q"
    exact kQ _ _ ⟨by rw [if_pos hl]; rfl, rfl⟩
  case B =>
    walk_at "q"
    exact kQ _ _ ⟨by rw [if_neg hl]; rfl, rfl⟩
  case C =>
    rintro _ _ ⟨rfl, rfl⟩
    walk_at "q"
    refine ⟨sz rfl, fun t5 ht5 => ?_⟩; generalize hN5 : upd _ t5 _ = H5; obtain ⟨u5, e5⟩ := nws hN5 ht5
    refine x_neSame (SqT.of (u5 _ _ e4)) (SqT.of e5) (by show (true && (true && (true && (plV (goalV (if a < 2 * a - s then none else some a)) && true)))) = true; rw [goalV_pl]; rfl) ?_
    have P5 := (P3.mono u4).mono u5
    walk_at "q"
    refine ⟨p, 2 * a - s, _, rfl, P5, le60 rfl, by omega, by omega, fit, fun t6 H6 ht6 u6 e6 => ?_⟩
    rw [lr] at e6
    walk_at "q"
    refine ⟨sz rfl, fun t7 ht7 => ?_⟩; generalize hN7 : upd _ t7 _ = H7; obtain ⟨u7, e7⟩ := nws hN7 ht7
    refine x_neSame (SqT.of (u7 _ _ e6)) (SqT.of e7) rfl ?_
    have P7 := (P5.mono u6).mono u7
    walk_at "q"
    refine ⟨p, _, rfl, P7, le60 rfl, fun H8 u8 => ?_⟩
    rw [sp]
    walk_at "q"
    refine x_timesI (.inl ⟨by decide, by decide⟩) ?_
    walk_at "q"
    refine x_ifnd (fun hne => absurd rfl hne) fun _ => ?_
    have P8 := P7.mono u8
    walk_at "q"
    refine ⟨p, 2 * a - s, a, 1, _, rfl, P8, le60 rfl, by omega, by omega, fit, by omega, by omega, by omega, by omega, fun H9 u9 => ?_⟩
    rw [show runF (effOf (2 * a - s) [.mt true a, .turn]) (Int.toNat 1) a = a - s from rf]
    have P9 := P8.mono u9
    walk_at "q"
    rw [decide_eq_true (show a - s = 2 * a - s - a by omega)]
    refine x_T ?_
    walk_at "q"
    refine ⟨p, 2 * a - s, a, 2, _, rfl, P9, le60 rfl, by omega, by omega, fit, by omega, by omega, by omega, by omega, fun H10 u10 => ?_⟩
    rw [show runC (effOf (2 * a - s) [.mt true a, .turn]) (Int.toNat 2) a = s from rc]
    walk_at "q"
    rw [decide_eq_true (rfl : s = s)]
    exact k _ (s04.trans (u5.trans (u6.trans (u7.trans (u8.trans (u9.trans u10))))))
end
end K14

set_option Elab.async false
set_option linter.all false
set_option autoImplicit false
set_option maxRecDepth 100000
set_option pp.maxSteps 1500
set_option maxHeartbeats 4000000
namespace K14
open PySem PySem.Spec PyProof.Rows L2 He ChH Ch ChM
local macro_rules | `(tactic| walk_at "x1") => `(tactic| first
  | ((with_reducible apply x_var); exact rfl)
  | with_reducible refine x_c ?_
  | with_reducible refine x_op ?_
  | with_reducible refine x_seq ?_
  | with_reducible refine x_asg ?_
  | with_reducible refine x_gname ?_
  | with_reducible refine x_cons ?_
  | with_reducible refine x_nil ?_
  | with_reducible refine x_fld ?_
  | with_reducible refine x_ret ?_
  | with_reducible refine x_ifS ?_
  | with_reducible refine x_test ?_
  | with_reducible refine x_ex ?_
  | with_reducible refine x_call ?_
  | with_reducible refine x_mk ?_
  | with_reducible refine x_meth ?_
  | with_reducible refine x_prop ?_
  | with_reducible refine x_cb ?_
  | with_reducible refine x_tup ?_
  | with_reducible refine x_lst ?_
  | with_reducible refine x_drop ?_
  | with_reducible refine x_for ?_
  | with_reducible refine x_iL ?_
  | with_reducible refine x_iT ?_
  | with_reducible refine x_iE ?_
  | with_reducible refine x_iU ?_
  | with_reducible refine x_iR1 ?_
  | with_reducible refine x_iR2 ?_
  | with_reducible refine x_gcons ?_
  | with_reducible refine x_gnil ?_
  | with_reducible refine x_par ?_
  | with_reducible refine x_lstRg ?_
  | with_reducible refine x_rg1 ?_
  | with_reducible refine x_rg1At ?_
  | with_reducible refine x_par3 ?_
  | with_reducible refine x_bm ?_
  | with_reducible refine x_bm0 ?_
  | with_reducible refine x_gSub ?_
  | with_reducible refine x_lc ?_
  | with_reducible refine x_yes ?_
  | with_reducible refine x_setf ?_
  | with_reducible refine x_next ?_
  | with_reducible refine x_B ?_
  | with_reducible refine x_and ?_
  | with_reducible refine x_or ?_
  | with_reducible refine x_not ?_
  | with_reducible refine x_andV ?_
  | with_reducible refine x_orV ?_
  | with_reducible refine x_notV ?_
  | with_reducible refine x_ifE ?_
  | with_reducible refine x_chain ?_
  | with_reducible refine x_chain3 ?_
  | with_reducible refine x_un ?_
  | with_reducible refine x_isNe ?_
  | with_reducible refine x_notNe ?_
  | with_reducible refine x_starA ?_
  | with_reducible refine x_plusI ?_
  | with_reducible refine x_minus ?_
  | with_reducible refine x_lt ?_
  | with_reducible refine x_le ?_
  | with_reducible refine x_gt ?_
  | with_reducible refine x_ge ?_
  | with_reducible refine x_eqI ?_
  | with_reducible refine x_neI ?_
  | with_reducible refine x_eqS ?_
  | with_reducible refine x_eqB ?_
  | with_reducible refine x_neB ?_
  | with_reducible refine x_int ?_
  | with_reducible refine x_intB ?_
  | with_reducible refine x_max2 ?_
  | with_reducible refine x_min2 ?_
  | with_reducible refine x_max3 ?_
  | with_reducible refine x_abs ?_
  | with_reducible refine x_neg ?_
  | with_reducible refine x_isi_ii ?_
  | with_reducible refine x_isi_ib ?_
  | with_reducible refine x_T ?_
  | with_reducible refine x_nT ?_
  | with_reducible refine x_nF ?_
  | with_reducible refine x_F ?_)
local macro_rules | `(tactic| walk_at "x") => `(tactic| repeat walk_at "x1")

local macro_rules | `(tactic| walk_at "q1") => `(tactic| first
  | walk_at "x1"
  | with_reducible refine x_sl ?_
  | with_reducible refine x_cmeth ?_
  | with_reducible refine x_noPart ?_
  | with_reducible refine x_part ?_
  | with_reducible refine x_partI ?_)
local macro_rules | `(tactic| walk_at "q") => `(tactic| repeat walk_at "q1")

section
variable {P : Program} {w : World} {K : PySem.W.Frag} {mg : Str → Option Value} {base : Heap}
abbrev lawLv : Nat := 10
def spLaw (K : PySem.W.Frag) : Sp := fun vs H Q _ => ∃ (a : Addr) (ns : List Int), vs = [.ref a] ∧ SqL K H a (ns.map V.int) ∧ ∀ H', Q (.bl true) H'
theorem ok_law (W : Wd K mg) : FnOk P w K mg base CX0 lawLv (ga K "law") (fdOf K (ga K "law")) ["_law_script"] (spLaw K) := by
  refine (def_ok W.F_law sc_law (fun _ _ _ _ _ _ us hl => match us, hl with | [_], _ => rfl) (fun vs H Q E ⟨a, ns, ev, _⟩ => by rw [ev]; rfl) fun cdv A outer s H vs Q E hr ⟨a, ns, ev, hs, k⟩ => ?_).1
  subst ev
  refine ⟨_, PSs.nox (pss_cons (ps_set (i := 1) sc_law.nd rfl (Or.inl rfl) (pe_callR (ok__law_start W) (hr.mono (by decide)) W.g__law_start W.k__law_start pass0 rfl (pa_cons (pv 0) pa_nil))) (pss_cons (ps_for PassesOwn.never rfl (pi_range1 (by rfl) W.f_range (pa_cons pe_int pa_nil)) (pg_name (i := 2) sc_law.nd rfl (Or.inl rfl)) (pss_cons (ps_set (i := 3) sc_law.nd rfl (Or.inl rfl) (pe_ix (ix_K K) (pe_lst (pa_cons pe_int (pa_cons (pe_op op_powP pe_int pe_int) pa_nil))) (pe_callR (ok__law_drawn W) (hr.mono (by decide)) W.g__law_drawn W.k__law_drawn pass0 rfl (pa_cons (pv 1) (pa_cons pe_int pa_nil))) (fun _ _ => rfl))) (pss_cons (ps_par (i := 4) (j := 5) (by rfl) sc_law.nd rfl rfl (by decide) rfl rfl (pa_cons (pe_op op_plus pe_int (pe_callR (ok__law_drawn W) (hr.mono (by decide)) W.g__law_drawn W.k__law_drawn pass0 rfl (pa_cons (pv 1) (pa_cons (pv 3) pa_nil)))) (pa_cons (pe_op op_plus pe_int (pe_callR (ok__law_drawn W) (hr.mono (by decide)) W.g__law_drawn W.k__law_drawn pass0 rfl (pa_cons (pv 1) (pa_cons (pv 3) pa_nil)))) pa_nil)) (by rfl)) (pss_cons (ps_set (i := 6) sc_law.nd rfl (Or.inl rfl) (pe_op op_plus pe_int (pe_callR (ok__law_drawn W) (hr.mono (by decide)) W.g__law_drawn W.k__law_drawn pass0 rfl (pa_cons (pv 1) (pa_cons (pe_callB (c_min2 rfl) (by rfl) W.f_min (by decide +kernel) (pa_cons (pv 4) (pa_cons (pv 5) pa_nil))) pa_nil))))) (pss_cons (ps_if (pt_not (pt_val (pe_callR (ok__law_two_meetings W) (hr.mono (by decide)) W.g__law_two_meetings W.k__law_two_meetings pass0 rfl (pa_cons (pv 4) (pa_cons (pv 5) (pa_cons (pv 6) (pa_cons (pe_op op_plus pe_int (pe_callR (ok__law_drawn W) (hr.mono (by decide)) W.g__law_drawn W.k__law_drawn pass0 rfl (pa_cons (pv 1) (pa_cons (pv 3) pa_nil)))) pa_nil))))))) (pss_one (ps_ret pe_bl)) pss_nil) (pss_one (ps_if (PW.pt (pw_or (pt_not (pt_val (pe_callR (ok__law_all_chairs W) (hr.mono (by decide)) W.g__law_all_chairs W.k__law_all_chairs pass0 rfl (pa_cons (pv 4) (pa_cons (pe_op op_plus pe_int (pe_callR (ok__law_drawn W) (hr.mono (by decide)) W.g__law_drawn W.k__law_drawn pass0 rfl (pa_cons (pv 1) (pa_cons pe_int pa_nil)))) pa_nil))))) (pw_or1 (pt_not (pt_val (pe_callR (ok__law_turning W) (hr.mono (by decide)) W.g__law_turning W.k__law_turning pass0 rfl (pa_cons (pv 4) (pa_cons (pe_op op_plus pe_int (pe_callR (ok__law_drawn W) (hr.mono (by decide)) W.g__law_drawn W.k__law_drawn pass0 rfl (pa_cons (pv 1) (pa_cons (pv 4) pa_nil)))) pa_nil)))))))) (pss_one (ps_ret pe_bl)) pss_nil))))))) (pss_one (ps_ret pe_bl)))), ?_⟩
  walk_at "x"
  refine ⟨a, ns, rfl, hs, fun st H0 hst s0 S0 => ?_⟩
  walk_at "x"
  refine x_iR1At (by decide) (by decide) ?_
  refine x_loop walk_range (fun i σ H1 => StAt K H1 st a ns ∧ ∃ b c d e f, σ = [some (.ref a), some (.ref st), b, c, d, e, f]) ⟨S0, _, _, _, _, _, rfl⟩ (fun _ _ _ _ _ => trivial) ?_ ?_
  · rintro i y σ H2 H1 hi ⟨S1, b, c, d, e, f, rfl⟩ ⟨rfl, rfl⟩
    walk_at "q"
    refine x_pow ⟨by decide, by decide, by decide⟩ ?_
    walk_at "q"
    refine ⟨sz rfl, fun q1 hq1 => ?_⟩; generalize hNq1 : upd _ q1 _ = H2; obtain ⟨s2, e2⟩ := nws hNq1 hq1
    walk_at "q"
    refine ⟨st, a, ns, 2, rfl, S1.mono s2, by decide, by decide, fun z2 H3 z20 z21 s3 S3 => ?_⟩
    walk_at "q"
    have hq3 := s3 q1 _ (S1.neN hq1) e2
    obtain ⟨y, hy, hyy⟩ := pick2 (u := .int 9) (v := .int (10 ^ ((17 : Int).toNat))) (z := z2) (by omega) (by omega)
    refine x_ixL (SqL.of hq3) hy ?_
    have ey : ∃ n : Int, y = .int n ∧ 0 < n ∧ n ≤ 100000000000000000 := by
      have e18 : (10 : Int) ^ ((17 : Int).toNat) = 100000000000000000 := by decide
      rcases hyy with ⟨_, e⟩ | ⟨_, e⟩
      · exact ⟨9, e, by decide, by decide⟩
      · rw [e18] at e
        exact ⟨_, e, by omega, by omega⟩
    obtain ⟨hh, rfl, h0, h1⟩ := ey
    walk_at "q"
    refine ⟨st, a, ns, hh, rfl, S3, h0, by omega, fun aa H4 a0 a1 s4 S4 => ?_⟩
    walk_at "q"
    refine ⟨st, a, ns, hh, rfl, S4, h0, by omega, fun bb H5 b0 b1 s5 S5 => ?_⟩
    walk_at "q"
    refine ⟨_, _, rfl, ?_⟩
    walk_at "q"
    have mnd : ∀ u v : Int, ((if v < u then v else u) = u ∧ u ≤ v) ∨ ((if v < u then v else u) = v ∧ v < u) := fun u v => by split <;> omega
    have mm := mnd (1 + aa) (1 + bb)
    generalize (if 1 + bb < 1 + aa then 1 + bb else 1 + aa) = mi at *
    refine ⟨st, a, ns, mi, rfl, S5, by omega, by omega, fun ss H6 t0 t1 s6 S6 => ?_⟩
    walk_at "q"
    refine ⟨st, a, ns, hh, rfl, S6, h0, by omega, fun rr H7 r0 r1 s7 S7 => ?_⟩
    walk_at "q"
    refine ⟨1 + aa, 1 + bb, 1 + ss, 1 + rr, rfl, by omega, by omega, by omega, by omega, by omega, by omega, by omega, by omega, by omega, fun H8 s8 => ?_⟩
    have S8 := S7.mono s8
    walk_at "q"
    refine ⟨st, a, ns, 5, rfl, S8, by decide, by decide, fun mm H9 m0 m1 s9 S9 => ?_⟩
    walk_at "q"
    refine ⟨1 + aa, mm.toNat, by rw [show 1 + mm = (mm.toNat : Int) + 1 by omega], by omega, by omega, by omega, fun H10 s10 => ?_⟩
    have S10 := S9.mono s10
    walk_at "q"
    refine ⟨st, a, ns, 1 + aa, rfl, S10, by omega, by omega, fun uu H11 u0 u1 s11 S11 => ?_⟩
    walk_at "q"
    refine ⟨1 + aa, 1 + uu, rfl, by omega, by omega, by omega, by omega, fun H12 s12 => ?_⟩
    have S12 := S11.mono s12
    walk_at "q"
    exact ⟨S12, _, _, _, _, _, rfl⟩
  · rintro σ H1 ⟨S1, b, c, d, e, f, rfl⟩
    walk_at "x"
    exact k _
end
end K14

set_option Elab.async false
set_option linter.all false
set_option autoImplicit false
set_option maxRecDepth 100000
set_option pp.maxSteps 1500
namespace K14
open PySem PySem.Spec PyProof.Rows L2 He ChH
theorem facts {P : Program} {w : World} {K : PySem.W.Frag} {h : Heap} {mg : Str → Option Value} {f : Addr} (X : K.In h) (G : h.Ns mainGlobals mg) (hfa : mg ("law" : Str) = some (.ref f)) (c : SaysC faL xsL dfL K) :
    ∃ fd : FuncData, (∀ (s : Shared) (v : Value), BindsTo s fd ⟨[v], []⟩ [("_law_script", v)]) ∧ ∀ base : Heap, K.In base → base.Ns mainGlobals mg → FnOk P w K mg base CX0 lawLv f fd ["_law_script"] (spLaw K) := by
  have W : Wd K mg := ⟨⟨h, X, G⟩, c⟩
  have e := hfa.symm.trans W.g_law
  cases e
  have b := FunD.bindsA (ps := ["_law_script"]) W.F_law fun _ _ _ _ _ _ us hl => match us, hl with | [_], _ => rfl
  exact ⟨_, fun s v => b s [v] rfl, fun base _ _ => ok_law W⟩
end K14
open PySem PySem.W PyProof.Rows
set_option maxRecDepth 100000 in
set_option maxHeartbeats 0 in
theorem PySem.Challenge.cw_chaircarry_k14_known_houses_holds : PySem.Challenge.rw_chaircarry_k14_known_houses.Holds := by
  w_on; o_law
  refine HandSHeadRun.head_any (r := OpenLaw.row PySem.Challenge.rw_chaircarry_k14_known_houses) (q := view (OpenLaw.row PySem.Challenge.rw_chaircarry_k14_known_houses).prog [58]) (H := K14.hk) (ob := K14.ob) (M := 8000) (loose := K14.loose) (d := HandSHeadRun.topDef (OpenLaw.row PySem.Challenge.rw_chaircarry_k14_known_houses).prog 58) (kwd := []) K14.ob_eq
    (by kernel_rfl) (fun s => by kernel_rfl) K14.run (by kernel_rfl) (by kernel_rfl) (by kernel_rfl) (by rfl) (by first | assumption | decide +kernel) (by decide +kernel) ⟨rfl, rfl, rfl, rfl, rfl, by decide +kernel⟩ ?hw ?hc
  case hw => w_witness2
  case hc =>
    refine L2.walk_ofE (l := PySem.Challenge.rw_chaircarry_k14_known_houses) (n := 63) (k := K14.lawLv) (x := "_law_script") (CX := L2.CX0) rfl (by decide) (by kernel_rfl) ⟨rfl, by decide, by decide⟩ ?F (fun _ _ _ _ z => z)
    intro w mg fa h Y G hmg0
    obtain ⟨K, KX, c⟩ := Y
    have hmg : mg ("law" : PySem.Str) = some (.ref fa) := by
      have e : (HandSHeadRun.topDef (OpenLaw.row PySem.Challenge.rw_chaircarry_k14_known_houses).prog 58).name = ("law" : PySem.Str) := by kernel_rfl
      rw [← e]
      exact hmg0
    obtain ⟨fd, hb, hF⟩ := K14.facts (P := (PySem.Challenge.rw_chaircarry_k14_known_houses).prog) (w := w) KX G hmg c
    exact ⟨K, fd, K14.spLaw K, KX, hb, fun H a ns hl _ hS => ⟨a, ns, rfl, hS, fun _ => rfl⟩, hF⟩
#print axioms PySem.Challenge.cw_chaircarry_k14_known_houses_holds
