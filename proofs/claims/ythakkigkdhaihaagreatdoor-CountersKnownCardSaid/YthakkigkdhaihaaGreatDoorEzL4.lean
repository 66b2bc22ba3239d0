/-
 The counters behind a certificate: as the program has them, and as the reference.
-/
import Derived.Test.YthakkigkdhaihaaGreatDoorEzL3
set_option linter.unusedSimpArgs false
set_option linter.unusedVariables false
namespace Go.Ev
open Go
def afterC (s : Bool) (x lim : Int) : Int := cond (lim != -1) (mm true (cond (!s) (cond (decide (x > 0)) (IntKind.wrap .i64 (x - 1)) x) x) lim) (cond (!s) (cond (decide (x > 0)) (IntKind.wrap .i64 (x - 1)) x) x)
abbrev recC (s hp : Bool) (pn : Nat) (pc : Option Nat) (p : List D) (hm : Bool) (mn : Nat) (mc : Option Nat) (mp : List D) (r i a : Int) : List D :=
 [.v (.bool s), .v (.bool hp), .list pn pc p, .v (.bool hm), .list mn mc mp, .v (.int .i64 r), .v (.int .i64 i), .v (.int .i64 a)]
theorem Zz4 (e m a : Int) (s hp : Bool) (pn : Nat) (pc : Option Nat) (p : List D) (hm : Bool) (mn : Nat) (mc : Option Nat) (mp : List D) (r i y : Int) :
  Z1f [.agg (ctrC e m a), .agg (recC s hp pn pc p hm mn mc mp r i y)] = some (.agg (ctrC (afterC s e r) (afterC s m i) (afterC s a y))) := by
 show Zh7 M e m a s hp pn pc p hm mn mc mp r i y = _
 unfold Zh7 afterC
 simp only [Zeh, Zdd, Zde, Zdf, Zdg, Zdh, Zdi, Zdj, Zdk, Zdl, Zce, Zcf, Zcg, Zch, Zci, Zcj]
 generalize decide (e > 0) = x1
 generalize decide (m > 0) = x2
 generalize decide (a > 0) = x3
 generalize (r != -1) = y1
 generalize (i != -1) = y2
 generalize (y != -1) = y3
 cases s <;> cases x1 <;> cases y1 <;> cases x2 <;> cases y2 <;> cases x3 <;> cases y3 <;> rfl
theorem Zz5 (e m a : Int) (s hp : Bool) (pn : Nat) (pc : Option Nat) (p : List D) (hm : Bool) (mn : Nat) (mc : Option Nat) (mp : List D) (r i y : Int) :
  Z4m [.agg (ctrC e m a), .agg (recC s hp pn pc p hm mn mc mp r i y)] = some (.v (.int .i64 (cond (r == 0) 0 (mm false (IntKind.wrap .i64 (e - 1)) 0)))) := by
 show Zh8 M e m a s hp pn pc p hm mn mc mp r i y = _
 unfold Zh8
 cases (r == 0) <;> rfl
def afterR (s : Bool) (x lim : Int) : Int := let z := cond (!s) (cond (x != 0) (IntKind.wrap .i64 (x - 1)) x) x; cond (lim != -1) (cond (decide (lim < z)) lim z) z
theorem Z15j (e m a : Int) (s hp : Bool) (pn : Nat) (pc : Option Nat) (p : List D) (hm : Bool) (mn : Nat) (mc : Option Nat) (mp : List D) (r i y : Int) :
  Zhd [.agg (ctrC e m a), .agg (recC s hp pn pc p hm mn mc mp r i y)] = some (.agg (ctrC (afterR s e r) (afterR s m i) (afterR s a y))) := by
 show Znj M e m a s hp pn pc p hm mn mc mp r i y = _
 unfold Znj
 simp only [Zz2, Zz1, Zz0, Zwz, Zwy]
 simp only [afterR]
 cases s
 ·simp only [Bool.not_false, cond_true]
  cases h1 : (e != 0) <;> cases h2 : (m != 0) <;> cases h3 : (a != 0) <;> simp only [cond_true, cond_false]
  all_goals
   generalize hr : (r != -1) = y1
   generalize hi : (i != -1) = y2
   generalize hy : (y != -1) = y3
   generalize hd1 : decide (r < _) = z1
   generalize hd2 : decide (i < _) = z2
   generalize hd3 : decide (y < _) = z3
   cases y1 <;> cases z1 <;> cases y2 <;> cases z2 <;> cases y3 <;> cases z3 <;> rfl
 ·simp only [Bool.not_true, cond_false]
  generalize (r != -1) = y1
  generalize (i != -1) = y2
  generalize (y != -1) = y3
  generalize decide (r < e) = z1
  generalize decide (i < m) = z2
  generalize decide (y < a) = z3
  cases y1 <;> cases z1 <;> cases y2 <;> cases z2 <;> cases y3 <;> cases z3 <;> rfl
theorem Z12l {s : Bool} {x lim : Int} (h0 : 0 ≤ x) (h1 : x ≤ 65) : afterC s x lim = afterR s x lim := by
 unfold afterC afterR mm
 simp only [if_pos]
 have e : decide (x > 0) = (x != 0) := by
  by_cases h : x = 0
  ·subst h; rfl
  ·rw [decide_eq_true (by omega), bne_iff_ne.2 h]
 rw [e]
 generalize (cond (!s) (cond (x != 0) (IntKind.wrap .i64 (x - 1)) x) x) = z
 cases (lim != -1)
 ·rfl
 ·simp only [cond_true, Bool.cond_decide]
end Go.Ev