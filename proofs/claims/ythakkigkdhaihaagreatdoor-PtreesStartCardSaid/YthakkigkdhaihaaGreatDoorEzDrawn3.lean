/-
 Steps of a machine never take a draw back; nor do calls. No conditions.
-/
import Derived.Test.YthakkigkdhaihaaGreatDoorEzDrawn2
set_option linter.unusedSimpArgs false
set_option linter.unusedVariables false
set_option maxHeartbeats 4000000
namespace Go.Ev
open Go
theorem Z1lp {p : Program} {fr : Frame} {callers : List Frame} {dying : Option Dying} {w : World} {listen : Bool} : DrUp w (stepG.oper p listen fr callers dying w) := by
 unfold stepG.oper
 repeat' first
  | exact Z27
  | exact Z15y
  | split
theorem Z1lq {p : Program} {main : Bool} {fr : Frame} {callers : List Frame} {dying : Option Dying} {w : World} {listen : Bool} : DrUp w (stepG.exec p main listen fr callers dying w) := by
 have leave : ∀ jump : Option Code, DrUp w (match fr.roundOf with
   | none => if jump matches none | some .ret then .go { frame := { fr with mode := .returning }, callers, status := .running, dying } w else .ended (.stuck "exit, goto: no such block or label" (fr.pos p)) w
   | some l =>
    let (r, es) := (Instr.endRound l jump).runT p w #[]
    GStep.after (seen p fr.fn es) <| match r with
    | .ok v w => doReturn p main fr callers dying v w
    | .halt _ w => .ended (.stuck "range over a function: no such loop" (fr.pos p)) w) := by
  intro jump
  split
  ·refine up_ite (up_of (.inl rfl) (Nat.le_refl _)) Z27
  ·rename_i l _
   have h := Z1u p (Instr.endRound l jump) w
   rw [← Sem.runT_fst p _ w #[]] at h
   generalize (Instr.endRound l jump).runT p w #[] = r at h ⊢
   obtain ⟨r, es⟩ := r
   refine Zt3 ?_
   dsimp only at h ⊢
   repeat' first | exact Z27 | exact Zj8 h Z14r | split
 have to : ∀ (todo : List Item), DrUp w (.go { frame := { fr with todo }, callers, status := .running, dying } w) := fun _ => up_of (.inl rfl) (Nat.le_refl _)
 unfold stepG.exec
 dsimp only
 split
 ·exact leave none
 ·exact leave (some .ret)
 ·exact to _
 ·exact to _
 ·exact to _
 ·exact to _
 ·exact to _
 ·repeat' first | exact Z27 | exact to _ | split
 ·exact to _
 ·exact to _
 ·exact to _
 ·exact to _
 ·rename_i id k _
  cases exitTo id k with
  | none => exact leave (some (.exit id))
  | some t => exact to _
 ·rename_i l k _
  cases gotoIn l k with
  | none => exact leave (some (.goto l))
  | some t => exact to _
 ·rename_i f params assign body k _
  have h := Z1u p (Instr.enterLoop fr.fn fr.tmps params assign body fr.roundOf) w
  rw [← Sem.runT_fst p _ w #[]] at h
  generalize (Instr.enterLoop fr.fn fr.tmps params assign body fr.roundOf).runT p w #[] = r at h ⊢
  obtain ⟨r, es⟩ := r
  refine Zt3 ?_
  dsimp only at h ⊢
  repeat' first | exact Z27 | exact Zj8 h Z15y | split
 ·exact Z27
 ·exact Z15y
 ·rename_i l k _
  have h := Z1u p (Instr.endLoop l) w
  rw [← Sem.runT_fst p _ w #[]] at h
  generalize (Instr.endLoop l).runT p w #[] = r at h ⊢
  obtain ⟨r, es⟩ := r
  refine Zt3 ?_
  dsimp only at h ⊢
  repeat' first | exact Z27 | exact up_of (.inl rfl) h | split
 ·exact Z27
 ·exact Z15y
 ·rename_i row args _ _
  cases Extern.next row with
  | none => exact Z27
  | some e => exact Z15y
 ·refine up_ite (to _) ?_
  repeat' first | exact Z27 | exact up_of (.inl rfl) (run_ok (by assumption)) | split
 ·exact to _
 ·exact up_ite Z1lp (up_of (.inl rfl) (Nat.le_refl _))
theorem Z1l7 {p : Program} {main : Bool} {g : Goroutine} {w : World} {listen : Bool} : DrUp w (stepG p main g w listen) := by
 unfold stepG
 dsimp only
 split
 ·exact up_die
 ·exact Z1lq
 ·exact Z1ka
theorem Z17x {p : Program} {rest : Rest} {gs : Array Goroutine} {i : Nat} {g : Goroutine} {cases : Array CommCase} {blocking : Bool} {shape : CommShape} {w : World} {m' : Machine} (h : (communicate p rest gs i g cases blocking shape w).1 = .next m') : w.drawn ≤ m'.world.drawn := by
 have hw : ∀ {w'}, waitingAt rest cases w = some w' → w'.drawn = w.drawn := by
  intro w' hq
  unfold waitingAt at hq
  repeat' split at hq
  all_goals first | (cases hq; done) | (cases hq; rfl)
 unfold communicate at h
 simp only [] at h
 repeat' first
  | (simp at h; done)
  | (simp only [Stepped.next.injEq] at h; subst h; exact Nat.le_refl _)
  | (simp only [Stepped.next.injEq] at h; subst h; exact Nat.le_of_eq (hw (by assumption)).symm)
  | (simp only [Stepped.next.injEq] at h; subst h; dsimp only; exact run_ok (by assumption))
  | (simp only [Stepped.next.injEq] at h; subst h; dsimp only; exact Nat.le_trans (run_ok (by assumption)) (run_ok (by assumption)))
  | (simp only [Stepped.next.injEq] at h; subst h; dsimp only; exact Nat.le_trans (run_ok (by assumption)) (Z1io (by assumption)))
  | split at h
theorem Z1e8 {p : Program} {gs : Array Goroutine} {rest : Rest} {w : World} {m' : Machine} (h : look p gs rest w = .next m') : w.drawn ≤ m'.world.drawn := by
 unfold look at h
 simp only [] at h
 repeat' first
  | (simp at h; done)
  | (simp only [Stepped.next.injEq] at h; subst h; dsimp only; exact run_ok (by assumption))
  | split at h
theorem Z1ha (w : World) (c : Nat) : (drain w c).2.drawn = w.drawn := by
 unfold drain
 split <;> rfl
theorem Z194 (m : Machine) (k : Nat) (t : Timer) (a b : Nat) : (retime m k t a b).2.world.drawn = m.world.drawn := by
 unfold retime
 cases t.chan with
 | none => rfl
 | some c => exact Z1ha m.world c
theorem Z1f8 {m m' : Machine} {op : TimerOp} {v : Value} (h : timerOp m op = .ok (v, m')) : m'.world.drawn = m.world.drawn := by
 have hop : ∀ {var m1}, timerOp.opened m var = some m1 → m1.world.drawn = m.world.drawn := by
  intro var m1 hq
  unfold timerOp.opened at hq
  repeat' split at hq
  all_goals first | (cases hq; done) | (cases hq; rfl)
 unfold timerOp at h
 split at h
 ·split at h
  ·cases h; rfl
  ·split at h
   ·split at h
    ·cases h
    ·cases h; rfl
   ·cases h
 ·unfold timerOp.named at h
  split at h
  ·injection h with h
   have h := congrArg Prod.snd h; dsimp only at h; rw [← h]
   exact Z194 _ _ _ _ _
  ·cases h
 ·split at h
  ·rename_i m1 hm1
   unfold timerOp.named at h
   split at h
   ·injection h with h
    have h := congrArg Prod.snd h; dsimp only at h; rw [← h, Z194]
    exact hop hm1
   ·cases h
  ·cases h
 ·injection h with h
  have h := congrArg Prod.snd h; dsimp only at h; rw [← h]
  rfl
theorem Z1j7 {p : Program} {m m' : Machine} {i : Nat} {b : Bool} (h : (Go.runT p m i b).1 = .next m') : m.world.drawn ≤ m'.world.drawn := by
 simp only [Go.runT] at h
 generalize m.gs.swapAt! _ _ = gg at h
 have hu : DrUp m.world (stepG p (i == 0) gg.1 m.world b) := Z1l7
 generalize stepG p _ gg.1 m.world b = s at h hu
 cases s <;> simp only [] at h
 case comm => exact Nat.le_trans (hu _ rfl) (Z17x h)
 case collect => exact Nat.le_trans (hu _ rfl) (Z1e8 h)
 case timer =>
  split at h
  ·rename_i v m1 hm1
   simp only [Stepped.next.injEq] at h
   subst h
   exact Nat.le_trans (hu _ rfl) (Nat.le_of_eq (Z1f8 hm1).symm)
  ·have h2 := hu _ rfl
   repeat' first
    | (simp at h; done)
    | (simp only [Stepped.next.injEq] at h; subst h; dsimp only; refine Nat.le_trans h2 ?_; rename_i hq; exact (up_endThrow : DrUp _ _) _ (by rw [hq]; rfl))
    | split at h
  ·simp at h
  ·simp at h
 case coroswitch =>
  have h2 := hu _ rfl
  repeat' first
   | (simp at h; done)
   | (simp only [Stepped.next.injEq] at h; subst h; exact h2)
   | (simp only [Stepped.next.injEq] at h; subst h; dsimp only; refine Nat.le_trans h2 ?_; rename_i hq; exact (up_endThrow : DrUp _ _) _ (by rw [hq]; rfl))
   | split at h
 case ended => simp at h
 case count =>
  split at h
  ·simp at h
  ·simp only [Stepped.next.injEq] at h; subst h; exact hu _ rfl
 case newcoro => (simp only [Stepped.next.injEq] at h; subst h; dsimp only; exact (hu _ rfl : m.world.drawn ≤ World.drawn _))
 all_goals (simp only [Stepped.next.injEq] at h; subst h; exact hu _ rfl)
theorem Z1hb {p : Program} {m m' : Machine} {k : Nat} (h : serve p m k = .next m') : m.world.drawn ≤ m'.world.drawn := by
 unfold serve at h
 simp only [] at h
 repeat' first
  | (simp at h; done)
  | (simp only [Stepped.next.injEq] at h; subst h; exact Nat.le_refl _)
  | split at h
theorem Z1hc {p : Program} {rs : List Nat} {m m' : Machine} {i : Nat} (h : (match (choose (.sched rs.length)).run p m.world with
      | .halt _ w => Move.machine (.ended (.stuck "sched" "") w)
      | .ok k world =>
        if rs.length ≤ 1 then .goroutine { m with world } (rs.getD k 0) else
        match (choose (.extern "sched.slice" 65536)).run p world with
        | .halt _ w => .machine (.ended (.stuck "sched.slice" "") w)
        | .ok n world => .goroutine { m with world, rest := { m.rest with slice := if n = 0 then none else some (rs.getD k 0, n) } } (rs.getD k 0)) = .goroutine m' i) : m.world.drawn ≤ m'.world.drawn := by
  repeat' first
    | (simp at h; done)
    | (simp only [Move.goroutine.injEq] at h; obtain ⟨rfl, _⟩ := h; first | exact run_ok (by assumption) | (exact Nat.le_trans (run_ok (by assumption)) (run_ok (by assumption))))
    | split at h
theorem Z1bz {p : Program} {m : Machine} : (∀ m' i, askOn p m = .goroutine m' i → m.world.drawn ≤ m'.world.drawn) ∧ (∀ m' ops, askOn p m = .machine (.next m') ops → m.world.drawn ≤ m'.world.drawn) := by
 constructor
 ·intro m' i h
  unfold askOn at h
  dsimp only at h
  split at h
  ·cases h
  ·rename_i k world hr
   have hd := run_ok hr
   split at h
   ·cases h
   ·split at h
    ·repeat' first | (cases h; done) | split at h
    ·split at h
     ·exact Nat.le_trans hd (Z1hc (m := { m with world }) h)
     ·split at h
      ·cases h
      ·rename_i world2 hr2
       exact Nat.le_trans hd (Nat.le_trans (run_ok hr2) (Z1hc (m := { m with world := world2 }) h))
      ·cases h
      ·rename_i k2 world2 hr2
       have h3 := Z1hc h
       exact Nat.le_trans hd (Nat.le_trans (run_ok hr2) h3)
 ·intro m' ops h
  unfold askOn at h
  simp only [] at h
  repeat' first
   | (simp at h; done)
   | (simp only [Move.machine.injEq] at h; have := Z1hb h.1; exact Nat.le_trans (run_ok (by assumption)) this)
   | (simp only [Move.machine.injEq, Stepped.next.injEq] at h; obtain ⟨rfl, _⟩ := h; dsimp only [Machine.advanceTo]; first | exact run_ok (by assumption) | (exact Nat.le_trans (run_ok (by assumption)) (run_ok (by assumption))))
   | split at h
theorem Z1c0 {p : Program} {m : Machine} : (∃ m₂, m.world.drawn ≤ m₂.world.drawn ∧ ask p m = askOn p m₂) ∨ (∃ o w, ask p m = .machine (.ended o w) #[]) := by
 unfold ask
 by_cases hw : m.rest.watch = true
 ·rw [if_pos hw]
  cases hr : (choose (.extern "collector.look" 2)).run p m.world with
  | halt h w => exact .inr ⟨_, _, rfl⟩
  | ok k world =>
   have hd := run_ok hr
   rcases k with _ | _ | k
   ·exact .inl ⟨{ m with world }, hd, rfl⟩
   ·show (∃ m₂ : Machine, m.world.drawn ≤ m₂.world.drawn ∧ (match look p m.gs m.rest world with | .next m => askOn p m | e => Move.machine e) = askOn p m₂) ∨
     (∃ o w, (match look p m.gs m.rest world with | .next m => askOn p m | e => Move.machine e) = .machine (.ended o w) #[])
    cases hl : look p m.gs m.rest world with
    | next m₂ => exact .inl ⟨m₂, Nat.le_trans hd (Z1e8 hl), rfl⟩
    | ended o w => exact .inr ⟨o, w, rfl⟩
   ·exact .inl ⟨{ m with world }, hd, rfl⟩
 ·simp only [hw, Bool.false_eq_true, if_false]
  exact .inl ⟨m, Nat.le_refl _, rfl⟩
theorem ask_up {p : Program} {m : Machine} : (∀ m' i, ask p m = .goroutine m' i → m.world.drawn ≤ m'.world.drawn) ∧ (∀ m' ops, ask p m = .machine (.next m') ops → m.world.drawn ≤ m'.world.drawn) := by
 rcases Z1c0 (p := p) (m := m) with ⟨m₂, hs, he⟩ | ⟨o, w, he⟩
 ·rw [he]
  exact ⟨fun m' i h => Nat.le_trans hs (Z1bz.1 m' i h), fun m' ops h => Nat.le_trans hs (Z1bz.2 m' ops h)⟩
 ·rw [he]
  constructor
  ·intro m' i h; cases h
  ·intro m' ops h; cases h
theorem Z1kb {p : Program} {m : Machine} : (∀ m' i, move p m = .goroutine m' i → m.world.drawn ≤ m'.world.drawn) ∧ (∀ m' ops, move p m = .machine (.next m') ops → m.world.drawn ≤ m'.world.drawn) := by
 constructor
 ·intro m' i h
  unfold move at h
  repeat' first
   | (simp at h; done)
   | (have := ask_up.1 m' i h; exact this)
   | (simp only [Move.goroutine.injEq] at h; obtain ⟨rfl, _⟩ := h; exact Nat.le_refl _)
   | split at h
 ·intro m' ops h
  unfold move at h
  repeat' first
   | (simp at h; done)
   | (have := ask_up.2 m' ops h; exact this)
   | split at h
theorem Z1j8 {p : Program} {m m' : Machine} (h : step p m = .next m') : m.world.drawn ≤ m'.world.drawn := by
 unfold step stepT at h
 split at h
 ·rename_i m1 i hm
  exact Nat.le_trans (Z1kb.1 _ _ hm) (Z1j7 h)
 ·rename_i s ops hm
  dsimp only at h
  subst h
  exact Z1kb.2 _ _ hm
theorem Z1e9 {p : Program} : ∀ (n : Nat) {m m' : Machine}, runN p n m = .next m' → m.world.drawn ≤ m'.world.drawn
 | 0, m, m', h => by
  cases h
  exact Nat.le_refl _
 | n + 1, m, m', h => by
  unfold runN at h
  cases hs : step p m with
  | ended o w => rw [hs] at h; cases h
  | next m1 => rw [hs] at h; exact Nat.le_trans (Z1j8 hs) (Z1e9 n h)
theorem Steps.drawn {p : Program} {m m' : Machine} (h : Steps p m m') : m.world.drawn ≤ m'.world.drawn := let ⟨n, hn⟩ := h; Z1e9 n hn
theorem Calls.drawn {P : Program} {f : FuncId} {args : Array Value} {w : World} {R : Ending → World → Prop} (h : Calls P f args w R) : Calls P f args w fun e w' => R e w' ∧ ((∃ v, e = .returned v) → w.drawn ≤ w'.drawn) := fun cs => by
 obtain ⟨e, w', fr, r, hc, hf, hl⟩ := h cs
 refine ⟨e, w', fr, ⟨r, ?_⟩, hc, hf, hl⟩
 rintro ⟨v, rfl⟩
 exact Steps.drawn hc
end Go.Ev