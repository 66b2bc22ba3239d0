/-
  The evaluator: EzQuiet EzDraw EzDraw2 EzApp EzFun EzRow EzTab.
-/
import Derived.Test.YthakkigkdhaihaaGreatDoorEzXC
import Derived.ProofKit
import Derived.OpenShut
import Derived.Carry
/-
 The operations that may run in any order: they look at their operands alone,and leave the local blocks.
-/
set_option linter.unusedSimpArgs false
set_option linter.unusedVariables false
namespace Go.Ev
open Go Go.RowKit
variable {R : Type} {P : Program} {base : Own} {sp : SpTab}
structure ORep (B0 : Nat) (w0 : World) (ok : Nat → Prop) (E : Env) (o : Oper) (sl : List AV) (L : Heap) (a : Act) (w : World) : Prop where
 mem : Mem B0 w0 ok E L w
 ev : ∀ x,x ∈ o.op.operands → Rep E w ok (a.eval x) (ev sl x)
def QSem (P : Program) (o : Oper) (sl : List AV) (L : Heap) (v : AV) : Prop :=
 (∀ c,o.op ≠ .defer c) → ∀ {ro B0 w0 ok E a w},ORep B0 w0 ok E o sl L a w → ∀ (K : Act → World → Prop) (Q : Exit → Act → World → Prop),
  (∀ ok' u w',Below w.heap.size w w' → Mem B0 w0 ok' E L w' → Grow E w ok E w' ok' → (∀ b,ok' b → ok b ∨ B0 ≤ b) → Rep E w' ok' u v → K (a.put o.dst u) w') → o.wpIn (Fw ro) 0 P a w K Q
theorem QSem.val {o : Oper} {sl : List AV} {L : Heap} {v : AV}
  (h : ∀ {B0 w0 ok E a w},ORep B0 w0 ok E o sl L a w → ∃ u,(execOp a.eval o).run P w = .ok (.value u) w ∧ Rep E w ok u v) : QSem P o sl L v :=
 fun hd {ro B0 w0 ok E a w} hS K Q hK => by
  obtain ⟨u,hr,hv⟩ := h hS
  exact Zno hd hr (hK ok u w (Below.refl _ _) hS.mem (Grow.refl _ _ _) (fun _ h => .inl h) hv)
theorem QSem.grow {o : Oper} {sl : List AV} {L : Heap} {v : AV}
  (h : ∀ {B0 w0 ok E a w},ORep B0 w0 ok E o sl L a w → ∃ u w' ok',(execOp a.eval o).run P w = .ok (.value u) w' ∧ Below w.heap.size w w' ∧ Mem B0 w0 ok' E L w' ∧ Grow E w ok E w' ok' ∧ (∀ b,ok' b → ok b ∨ B0 ≤ b) ∧ Rep E w' ok' u v) : QSem P o sl L v :=
 fun hd {ro B0 w0 ok E a w} hS K Q hK => by
  obtain ⟨u,w',ok',hr,hb,hM,g,e,hv⟩ := h hS
  exact Zno hd hr (hK ok' u w' hb hM g e hv)
theorem ORep.args {B0 : Nat} {w0 : World} {ok : Nat → Prop} {E : Env} {o : Oper} {sl : List AV} {L : Heap} {a : Act} {w : World} (h : ORep B0 w0 ok E o sl L a w) {xs : List Operand} (hx : ∀ x,x ∈ xs → x ∈ o.op.operands) : Reps E w ok (xs.map a.eval) (xs.map (Ev.ev sl)) := by
 refine ⟨by simp,fun i p q hp hq => ?_⟩
 rw [List.getElem?_map] at hp hq
 cases hi : xs[i]? with
 | none => rw [hi] at hp; cases hp
 | some x => rw [hi] at hp hq; cases hp; cases hq; exact h.ev x (hx x (List.mem_of_getElem? hi))
theorem ORep.opt {B0 : Nat} {w0 : World} {ok : Nat → Prop} {E : Env} {o : Oper} {sl : List AV} {L : Heap} {a : Act} {w : World} (h : ORep B0 w0 ok E o sl L a w) {x : Option Operand} (hx : ∀ y,x = some y → y ∈ o.op.operands) : RepO E w ok (x.map a.eval) (x.map (Ev.ev sl)) := by
 cases x with
 | none => trivial
 | some x => exact h.ev x (hx x rfl)
theorem ORep.parts {B0 : Nat} {w0 : World} {ok : Nat → Prop} {E : Env} {o : Oper} {sl : List AV} {L : Heap} {a : Act} {w : World} (h : ORep B0 w0 ok E o sl L a w) {parts : List (Nat × Operand)} (hx : ∀ p,p ∈ parts → p.2 ∈ o.op.operands) :
  (parts.map fun p => (p.1,a.eval p.2)).length = (parts.map fun p => (p.1,Ev.ev sl p.2)).length ∧
  ∀ (i : Nat) p q,(parts.map fun p => (p.1,a.eval p.2))[i]? = some p → (parts.map fun p => (p.1,Ev.ev sl p.2))[i]? = some q → p.1 = q.1 ∧ Rep E w ok p.2 q.2 := by
 refine ⟨by simp,fun i p q hp hq => ?_⟩
 rw [List.getElem?_map] at hp hq
 cases hi : parts[i]? with
 | none => rw [hi] at hp; cases hp
 | some x => rw [hi] at hp hq; cases hp; cases hq; exact ⟨rfl,h.ev x.2 (hx x (List.mem_of_getElem? hi))⟩
theorem Z15e (hsp : SpOk P sp) {or : Orc R} (hor : OrOk P or) {o : Oper} (hq : Z11w sp o.op = true) {sl : List AV} {L : Heap} {k : List AV → AV → Heap → Option R} {r : R} (h : opK P sp base false or o sl L k = some r) :
  ∃ v,k sl v L = some r ∧ ∀ X,QSem P o sl (L ++ X) v := by
 unfold opK at h
 cases hop : o.op <;> simp only [hop] at h <;> simp only [hop,Z11w] at hq <;> try (cases h; done)
 all_goals try (cases hq; done)
 case move x => exact ⟨_,h,fun X => QSem.val fun hS => ⟨_,by simp [execOp,hop],hS.ev x (by simp [hop,Op.operands])⟩⟩
 case assign x => exact ⟨_,h,fun X => QSem.val fun hS => ⟨_,by simp [execOp,hop],hS.ev x (by simp [hop,Op.operands])⟩⟩
 case pick c x y =>
  obtain ⟨t,ht,h1⟩ := Option.bind_eq_some_iff.1 h
  have hc := Z1ib ht
  cases t with
  | true =>
   refine ⟨_,h1,fun X => QSem.val fun {B0 w0 ok E a w} hS => ⟨_,?_,hS.ev x (by simp [hop,Op.operands])⟩⟩
   have := hS.ev c (by simp [hop,Op.operands])
   rw [hc] at this
   simp [execOp,hop,this.v_inv.1,asBool]
  | false =>
   refine ⟨_,h1,fun X => QSem.val fun {B0 w0 ok E a w} hS => ⟨_,?_,hS.ev y (by simp [hop,Op.operands])⟩⟩
   have := hS.ev c (by simp [hop,Op.operands])
   rw [hc] at this
   simp [execOp,hop,this.v_inv.1,asBool]
 case load t x =>
  obtain ⟨v,hk,hs⟩ := Z1ii h
  refine ⟨_,hk,fun X => QSem.val fun {B0 w0 ok E a w} hS => ?_⟩
  obtain ⟨y,hy,hv⟩ := hs X hS.mem (hS.ev x (by simp [hop,Op.operands]))
  exact ⟨y,by simp [execOp,hop,hy],hv⟩
 case nilCheck x =>
  cases hx : ev sl x <;> rw [hx] at h <;> try (simp only at h) <;> try (cases h; done)
  case d y =>
   cases y <;> try (simp only at h) <;> try (cases h; done)
   case fn f cs =>
    refine ⟨_,h,fun X => QSem.val fun {B0 w0 ok E a w} hS => ?_⟩
    have := hS.ev x (by simp [hop,Op.operands])
    rw [hx] at this
    refine ⟨a.eval x,?_,this⟩
    generalize hu : a.eval x = u at this ⊢
    cases this with
    | d hd => cases hd with
     | fn hl hr => simp [execOp,hop,hu]
  case ptr id off =>
   refine ⟨_,h,fun X => QSem.val fun {B0 w0 ok E a w} hS => ?_⟩
   have := hS.ev x (by simp [hop,Op.operands])
   rw [hx] at this
   refine ⟨a.eval x,?_,this⟩
   generalize hu : a.eval x = u at this ⊢
   cases this with
   | ptr he => simp [execOp,hop,hu]
  case lp cs off =>
   refine ⟨_,h,fun X => QSem.val fun {B0 w0 ok E a w} hS => ?_⟩
   have := hS.ev x (by simp [hop,Op.operands])
   rw [hx] at this
   refine ⟨a.eval x,?_,this⟩
   generalize hu : a.eval x = u at this ⊢
   cases this with
   | lp h1 h2 h3 h4 => simp [execOp,hop,hu]
  case clo f cs =>
   refine ⟨_,h,fun X => QSem.val fun {B0 w0 ok E a w} hS => ?_⟩
   have := hS.ev x (by simp [hop,Op.operands])
   rw [hx] at this
   refine ⟨a.eval x,?_,this⟩
   generalize hu : a.eval x = u at this ⊢
   cases this with
   | clo hl hr => simp [execOp,hop,hu]
  case bnd f cs =>
   refine ⟨_,h,fun X => QSem.val fun {B0 w0 ok E a w} hS => ?_⟩
   have := hS.ev x (by simp [hop,Op.operands])
   rw [hx] at this
   refine ⟨a.eval x,?_,this⟩
   generalize hu : a.eval x = u at this ⊢
   cases this with
   | bnd hl hr => simp [execOp,hop,hu]
  case yld id =>
   refine ⟨_,h,fun X => QSem.val fun {B0 w0 ok E a w} hS => ?_⟩
   have := hS.ev x (by simp [hop,Op.operands])
   rw [hx] at this
   refine ⟨a.eval x,?_,this⟩
   generalize hu : a.eval x = u at this ⊢
   cases this with
   | yld he => simp [execOp,hop,hu]
 case binOp op t x y z =>
  cases hy : isNilC y with
  | true =>
   rw [hy,cond_true] at h
   obtain rfl := Z1fq hy
   obtain ⟨v,hk,hs⟩ := Z1fr h
   refine ⟨_,hk,fun X => QSem.val fun {B0 w0 ok E a w} hS => ?_⟩
   obtain ⟨u,hu,hv⟩ := hs x (.const (.slice none 0 0)) (hS.ev x (by simp [hop,Op.operands]))
   exact ⟨u,by
    rw [show execOp a.eval o = (do pure (.value (← (do eqGuard op t x (.const (.slice none 0 0)) (a.eval x) (.slice none 0 0); binOp op t (a.eval x) (.slice none 0 0) : Sem Value))) : Sem Next) from by simp only [execOp,hop]; rfl]
    rw [Sem.run_bind,hu]; rfl,hv⟩
  | false =>
  rw [hy,cond_false] at h
  cases hp : ptrT P t with
  | true =>
   rw [hp,cond_true] at h
   obtain ⟨v,hk,hs⟩ := Z1g4 hp h
   refine ⟨_,hk,fun X => QSem.val fun {B0 w0 ok E a w} hS => ?_⟩
   obtain ⟨u,hu,hv⟩ := hs x y (hS.ev x (by simp [hop,Op.operands])) (hS.ev y (by simp [hop,Op.operands]))
   exact ⟨u,by
    rw [show execOp a.eval o = (do pure (.value (← (do eqGuard op t x y (a.eval x) (a.eval y); binOp op t (a.eval x) (a.eval y) : Sem Value))) : Sem Next) from by simp only [execOp,hop]]
    rw [Sem.run_bind,hu]; rfl,hv⟩
  | false =>
  rw [hp,cond_false] at h
  obtain ⟨v,hk,hs⟩ := Z1ft h
  refine ⟨_,hk,fun X => QSem.val fun {B0 w0 ok E a w} hS => ?_⟩
  obtain ⟨u,hu,hv⟩ := hs x y (hS.ev x (by simp [hop,Op.operands])) (hS.ev y (by simp [hop,Op.operands]))
  exact ⟨u,by
   rw [show execOp a.eval o = (do pure (.value (← (do eqGuard op t x y (a.eval x) (a.eval y); binOp op t (a.eval x) (a.eval y) : Sem Value))) : Sem Next) from by simp only [execOp,hop]]
   rw [Sem.run_bind,hu]; rfl,hv⟩
 case unOp op t x =>
  obtain ⟨v,hk,hs⟩ := Z1i9 (P := P) h
  refine ⟨_,hk,fun X => QSem.val fun {B0 w0 ok E a w} hS => ?_⟩
  obtain ⟨u,hu,hv⟩ := hs (hS.ev x (by simp [hop,Op.operands]))
  exact ⟨u,by simp [execOp,hop,hu],hv⟩
 case convert s d x =>
  obtain ⟨v,hk,hx⟩ := Z1ko h
  refine ⟨_,hk,fun X => QSem.grow fun {B0 w0 ok E a w} hS => ?_⟩
  obtain ⟨v',hv',hs⟩ := Z1dm (hx X)
  cases hv'
  obtain ⟨u,w',ok',hu,hb,hM,g,e,hv⟩ := hs hS.mem (hS.ev x (by simp [hop,Op.operands]))
  exact ⟨u,w',ok',by simp [execOp,hop,hu],hb,hM,g,e,hv⟩
 case slice t x lo hi mx =>
  rw [Z1gw] at h
  obtain ⟨v,hv0,hk⟩ := Option.bind_eq_some_iff.1 h
  refine ⟨_,hk,fun X => QSem.val fun {B0 w0 ok E a w} hS => ?_⟩
  obtain ⟨v',hv',hs⟩ := Z1b1 (Z1jw hv0 X)
  cases hv'
  obtain ⟨u,hu,hv⟩ := hs hS.mem (hS.ev x (by simp [hop,Op.operands])) (hS.opt (x := lo) (by intro y hy; simp [hop,Op.operands,hy])) (hS.opt (x := hi) (by intro y hy; simp [hop,Op.operands,hy])) (hS.opt (x := mx) (by intro y hy; simp [hop,Op.operands,hy]))
  exact ⟨u,by simp [execOp,hop,hu],hv⟩
 case fieldAddr s x f =>
  obtain ⟨p,hp,h1⟩ := Option.bind_eq_some_iff.1 h
  cases hx : ev sl x <;> rw [hx] at h1 <;> try (simp only at h1) <;> try (cases h1; done)
  case ptr id off =>
   refine ⟨_,h1,fun X => QSem.val fun {B0 w0 ok E a w} hS => ?_⟩
   have := hS.ev x (by simp [hop,Op.operands])
   rw [hx] at this
   generalize hu : a.eval x = u at this
   cases this with
   | ptr he =>
    rename_i b m
    refine ⟨_,by simp [execOp,hop,hu,Zy0 hp]; rfl,?_⟩
    rw [Addr.add_mid]
    exact .ptr he
  case lp cs off =>
   refine ⟨_,h1,fun X => QSem.val fun {B0 w0 ok E a w} hS => ?_⟩
   have := hS.ev x (by simp [hop,Op.operands])
   rw [hx] at this
   generalize hu : a.eval x = u at this
   cases this with
   | lp h1 h2 h3 h4 =>
    refine ⟨_,by simp [execOp,hop,hu,Zy0 hp]; rfl,?_⟩
    have := Rep.lp (E := E) (off := off + p.1) h1 h2 h3 h4
    rw [Addr.add_mid,Nat.add_assoc]
    exact this
 case field s x f =>
  obtain ⟨v,hk,hs⟩ := Z1b3 h
  refine ⟨_,hk,fun X => QSem.val fun {B0 w0 ok E a w} hS => ?_⟩
  obtain ⟨u,hu,hv⟩ := hs (hS.ev x (by simp [hop,Op.operands]))
  exact ⟨u,by simp [execOp,hop,hu],hv⟩
 case indexAddr t x i =>
  obtain ⟨v,hk,hs⟩ := Z11z h
  refine ⟨_,hk,fun X => QSem.val fun {B0 w0 ok E a w} hS => ?_⟩
  obtain ⟨u,hu,hv⟩ := hs (hS.ev x (by simp [hop,Op.operands])) (hS.ev i (by simp [hop,Op.operands]))
  exact ⟨u,by simp [execOp,hop,hu],hv⟩
 case index t x i =>
  obtain ⟨v,hk,hs⟩ := Z1b2 h
  refine ⟨_,hk,fun X => QSem.val fun {B0 w0 ok E a w} hS => ?_⟩
  obtain ⟨u,hu,hv⟩ := hs (hS.ev x (by simp [hop,Op.operands])) (hS.ev i (by simp [hop,Op.operands]))
  exact ⟨u,by simp [execOp,hop,hu],hv⟩
 case extract t i =>
  cases hx : ev sl t <;> rw [hx] at h <;> try (simp only at h) <;> try (cases h; done)
  case d y =>
   cases y <;> try (simp only at h) <;> try (cases h; done)
   case tup ds =>
    obtain ⟨d,hd,h1⟩ := Option.bind_eq_some_iff.1 h
    refine ⟨_,h1,fun X => QSem.val fun {B0 w0 ok E a w} hS => ?_⟩
    have := hS.ev t (by simp [hop,Op.operands])
    rw [hx] at this
    generalize hu : a.eval t = u at this
    cases this with
    | d hD => cases hD with
     | tup hl hr =>
      rename_i vs
      have hlt : i < vs.length := by rw [hl]; exact (List.getElem?_eq_some_iff.1 hd).1
      have hv : vs[i]? = some vs[i] := List.getElem?_eq_getElem hlt
      exact ⟨vs[i],by simp [execOp,hop,hu,Instr.extract,hv],.d (hr i _ _ hv hd)⟩
  case tup ds =>
   obtain ⟨d,hd,h1⟩ := Option.bind_eq_some_iff.1 h
   refine ⟨_,h1,fun X => QSem.val fun {B0 w0 ok E a w} hS => ?_⟩
   have := hS.ev t (by simp [hop,Op.operands])
   rw [hx] at this
   generalize hu : a.eval t = u at this
   cases this with
   | tup hl hr =>
    rename_i vs
    have hlt : i < vs.length := by rw [hl]; exact (List.getElem?_eq_some_iff.1 hd).1
    have hv : vs[i]? = some vs[i] := List.getElem?_eq_getElem hlt
    exact ⟨vs[i],by simp [execOp,hop,hu,Instr.extract,hv],hr i _ _ hv hd⟩
 case build t parts =>
  obtain ⟨z,hz,h1⟩ := Option.bind_eq_some_iff.1 h
  cases hu : P.underlying t with
  | none => rw [hu] at h1; cases h1
  | some d =>
   rw [hu] at h1
   cases d <;> try (simp only at h1) <;> try (cases h1; done)
   case struct fs =>
    obtain ⟨places,hpl,h2⟩ := Option.bind_eq_some_iff.1 h1
    obtain ⟨v,hk,hs⟩ := Zy1 (P := P) (k := fun v => k sl v L) hz h2 (fun ps c c' hc hf => by
     obtain ⟨i,zv,hi,hzv,rfl⟩ := hc
     simp [Program.built,hi,hu,hzv,hpl]
     simpa using hf)
    refine ⟨_,hk,fun X => QSem.val fun {B0 w0 ok E a w} hS => ?_⟩
    obtain ⟨hl,hr⟩ := hS.parts (parts := parts.toList) (fun p hp => by simp only [hop,Op.operands]; simpa using ⟨p.1,by simpa using hp⟩)
    obtain ⟨y,hy,hv⟩ := hs hl hr
    exact ⟨y,by
     have h1 : (parts.map fun p => (p.1,a.eval p.2)) = (parts.toList.map fun p => (p.1,a.eval p.2)).toArray := by
      apply Array.ext'; simp
     simp only [execOp,hop]
     erw [h1]
     simp [hy],hv⟩
   case array m e =>
    obtain ⟨i,hi,h2⟩ := Option.bind_eq_some_iff.1 h1
    obtain ⟨v,hk,hs⟩ := Zy1 (P := P) (k := fun v => k sl v L) hz h2 (fun ps c c' hc hf => by
     obtain ⟨j,zv,hj,hzv,rfl⟩ := hc
     exact Z190 hu hi hj hzv hf)
    refine ⟨_,hk,fun X => QSem.val fun {B0 w0 ok E a w} hS => ?_⟩
    obtain ⟨hl,hr⟩ := hS.parts (parts := parts.toList) (fun p hp => by simp only [hop,Op.operands]; simpa using ⟨p.1,by simpa using hp⟩)
    obtain ⟨y,hy,hv⟩ := hs hl hr
    exact ⟨y,by
     have h1 : (parts.map fun p => (p.1,a.eval p.2)) = (parts.toList.map fun p => (p.1,a.eval p.2)).toArray := by
      apply Array.ext'; simp
     simp only [execOp,hop]
     erw [h1]
     simp [hy],hv⟩
 case makeFunc g first cap =>
  cases g <;> try (simp only at h) <;> try (cases h; done)
  case func f =>
  by_cases hf : first.size = 0
  case neg =>
   rw [if_neg hf] at h
   by_cases hcap : cap.size = 0
   case neg => rw [if_neg hcap] at h; cases h
   rw [if_pos hcap] at h
   obtain rfl : cap = #[] := Array.eq_empty_of_size_eq_zero hcap
   refine ⟨_,h,fun X => QSem.val fun {B0 w0 ok E a w} hS => ⟨.func (.func f) (first.toList.map a.eval).toArray #[],?_,?_⟩⟩
   ·have e1 : first.map a.eval = (first.toList.map a.eval).toArray := by apply Array.ext'; simp
    simp [execOp,hop,Instr.makeFunc]
    exact e1
   ·obtain ⟨hl,hr⟩ := hS.args (xs := first.toList) (fun x hx => by simp only [hop,Op.operands]; simpa using hx)
    exact .bnd hl hr
  rw [if_pos hf] at h
  obtain rfl : first = #[] := Array.eq_empty_of_size_eq_zero hf
  have hrun : ∀ (a : Act) (w : World),(execOp a.eval o).run P w = .ok (.value (.func (.func f) #[] (cap.toList.map a.eval).toArray)) w := fun a w => by
   have e1 : cap.map a.eval = (cap.toList.map a.eval).toArray := by apply Array.ext'; simp
   simp [execOp,hop,Instr.makeFunc]
   exact e1
  cases hd : allD (cap.toList.map (ev sl)) with
  | some ds =>
   rw [hd] at h
   refine ⟨_,h,fun X => QSem.val fun {B0 w0 ok E a w} hS => ⟨_,hrun a w,.d ?_⟩⟩
   obtain ⟨hl,hr⟩ := hS.args (xs := cap.toList) (fun x hx => by simp only [hop,Op.operands]; simpa using hx)
   have hds := allD_some hd
   refine .fn (by rw [hl,hds]; simp) fun i x d hx hd' => ?_
   have := hr i x (.d d) hx (by rw [hds,List.getElem?_map,hd']; rfl)
   cases this with
   | d h => exact h
  | none =>
   rw [hd] at h
   refine ⟨_,h,fun X => QSem.val fun {B0 w0 ok E a w} hS => ⟨_,hrun a w,?_⟩⟩
   obtain ⟨hl,hr⟩ := hS.args (xs := cap.toList) (fun x hx => by simp only [hop,Op.operands]; simpa using hx)
   exact .clo hl hr
 case lookup t x i c =>
  obtain ⟨v,hk,hs⟩ := Z1du (P := P) h
  refine ⟨_,hk,fun X => QSem.val fun {B0 w0 ok E a w} hS => ?_⟩
  obtain ⟨u,hr,hv⟩ := hs hS.mem (hS.ev x (by simp [hop,Op.operands])) (hS.ev i (by simp [hop,Op.operands]))
  exact ⟨u,by simp [execOp,hop,hr],hv⟩
 case call c =>
  have harg : ∀ x,x ∈ c.args.toList → x ∈ o.op.operands := fun x hx => by simp only [hop,Op.operands,Call.operands]; simp at hx; simp [hx]
  unfold callK at h
  cases hc : c.callee with
  | invoke a b => rw [hc] at h; cases h
  | value f =>
   rw [hc] at h hq
   simp only at h hq
   have hfm : f ∈ o.op.operands := by simp [hop,Op.operands,Call.operands,hc]
   have quiet : ∀ {g : FuncId} {caps : List AV} {v : AV} {L' : Heap},(∀ {B0 w0 ok E a w X},ORep B0 w0 ok E o sl (L ++ X) a w → ∃ vs : List Value,a.eval f = .func (.func g) #[] vs.toArray ∧ Reps E w ok vs caps) → k sl v L' = some r → TgtOk P (subOwn base sl L) (c.args.toList.map (ev sl) ++ caps) L v L' (.qfn g) →
     ∃ v,k sl v L = some r ∧ ∀ X,QSem P o sl (L ++ X) v := fun {g caps v L'} hf hk ht => by
    obtain ⟨rfl,hen,hq⟩ := ht
    refine ⟨v,hk,fun X => fun hd {ro B0 w0 ok E a w} hS K Q hK => ?_⟩
    obtain ⟨vs,hev,hr⟩ := hf hS
    refine Z15d hop hc hen hev (hq X hS.mem (Reps.append (hS.args harg) hr)) hd ?_
    rintro u w' ⟨ok',hb,hM,g,ext,hu⟩
    exact hK ok' u w' hb hM g ext hu
   cases hf : ev sl f <;> rw [hf] at h <;> try (simp only at h) <;> try (cases h; done)
   case d x =>
    cases x <;> try (simp only at h) <;> try (cases h; done)
    case fn g ds =>
     have hfn : ∀ {B0 w0 ok E a w X},ORep B0 w0 ok E o sl (L ++ X) a w → ∃ vs : List Value,a.eval f = .func (.func g) #[] vs.toArray ∧ RepDs w ok vs ds := fun {B0 w0 ok E a w X} hS => by
      have := hS.ev f hfm
      rw [hf] at this
      generalize a.eval f = u at this ⊢
      cases this with
      | d h =>
       cases h with
       | fn hl hr => exact ⟨_,rfl,hl,hr⟩
     cases hl : sp.lookup g with
     | none =>
      rw [hl] at h
      simp only [cond_false] at h
      cases hesc : Z1ax P c g with
      | true =>
       rw [hesc,cond_true] at h
       unfold escK at h
       cases ha : c.args.toList with
       | nil => rw [ha] at h; cases h
       | cons x t1 =>
       cases t1 with
       | cons y t2 => rw [ha] at h; cases h
       | nil =>
       rw [ha] at h
       simp only [List.map_cons,List.map_nil] at h
       cases ds with
       | cons d ds' => cases h
       | nil =>
       refine ⟨_,h,fun X => QSem.val fun {B0 w0 ok E a w} hS => ?_⟩
       obtain ⟨vs,hev,hcl,hcr⟩ := hfn hS
       obtain rfl : vs = [] := List.eq_nil_of_length_eq_zero (by simpa using hcl)
       have e1 : c.args.map a.eval = #[a.eval x] := by rw [Z2l ha]; simp
       exact ⟨a.eval x,by simp [execOp,hop,resolve,hc,hev,Deferred.ofValue,invoke,e1,Z1jt hesc],hS.ev x (harg x (by rw [ha]; simp))⟩
      | false =>
      rw [hesc,cond_false] at h
      obtain ⟨v,L',hk,ht⟩ := hor _ _ _ _ _ _ rfl rfl h
      refine quiet (fun {B0 w0 ok E a w X} hS => ?_) hk ht
      obtain ⟨vs,hev,hcl,hcr⟩ := hfn hS
      refine ⟨vs,hev,by simpa using hcl,fun i x y hx hy => ?_⟩
      rw [List.getElem?_map] at hy
      cases hd : ds[i]? with
      | none => rw [hd] at hy; cases hy
      | some d => rw [hd] at hy; cases hy; exact .d (hcr i x d hx hd)
     | some s =>
      rw [hl] at h
      simp only [Bool.false_and,Bool.false_eq_true,if_false] at h
      obtain ⟨v,hk,hp⟩ := Z1g0 (fun ds d hd => hsp g s ds d hl hd) h
      replace hk := Z176 hk
      refine ⟨v,hk,fun X => fun hd {ro B0 w0 ok E a w} hS K Q hK => ?_⟩
      obtain ⟨vs,hev,hcs⟩ := hfn hS
      refine Z15d hop hc (hp X).1 hev ((hp X).2 hS.mem (hS.args harg) hcs) hd ?_
      rintro u w' ⟨ok',hb,hM,g,ext,hu⟩
      exact hK ok' u w' hb hM g ext hu
   case clo g cs =>
    simp only [cond_false] at h
    obtain ⟨v,L',hk,ht⟩ := hor _ _ _ _ _ _ rfl rfl h
    refine quiet (fun {B0 w0 ok E a w X} hS => ?_) hk ht
    have := hS.ev f hfm
    rw [hf] at this
    generalize a.eval f = u at this ⊢
    cases this with
    | clo hl hr => exact ⟨_,rfl,hl,hr⟩
  | builtin b =>
   rw [hc] at h hq
   simp only at h hq
   cases b <;> try (simp only at hq) <;> try (cases hq; done)
   case unsafeSliceData =>
    cases ha : c.args.toList with
    | nil => rw [ha] at h; cases h
    | cons x t1 =>
    cases t1 with
    | cons y t3 => rw [ha] at h; cases h
    | nil =>
    rw [ha] at h
    simp only at h
    obtain ⟨v,hk,hs⟩ := Z15c (P := P) h
    refine ⟨v,hk,fun X => QSem.val fun {B0 w0 ok E a w} hS => ?_⟩
    obtain ⟨z,hz,hv⟩ := hs (hS.ev x (harg x (by rw [ha]; simp))) c.argTypes o.type
    have e1 : c.args.map a.eval = #[a.eval x] := by rw [Z2l ha]; simp
    exact ⟨z,by simp [execOp,hop,resolve,hc,invoke,builtin,e1,hz],hv⟩
   case len =>
    cases ha : c.args.toList with
    | nil => rw [ha] at h; cases h
    | cons x t1 =>
    cases t1 with
    | cons y t3 => rw [ha] at h; cases h
    | nil =>
    cases ht : c.argTypes.toList with
    | nil => rw [ha,ht] at h; cases h
    | cons t t4 =>
    cases t4 with
    | cons y t3 => rw [ha,ht] at h; cases h
    | nil =>
    rw [ha,ht] at h
    simp only at h
    obtain ⟨v,hk,hs⟩ := Z1fv (ty := o.type) h
    refine ⟨v,hk,fun X => QSem.val fun {B0 w0 ok E a w} hS => ?_⟩
    obtain ⟨z,hz,hv⟩ := hs (hS.ev x (harg x (by rw [ha]; simp)))
    have e1 : c.args.map a.eval = #[a.eval x] := by rw [Z2l ha]; simp
    exact ⟨z,by simp [execOp,hop,resolve,hc,invoke,builtin,e1,Z2l ht,hz],hv⟩
   case cap =>
    cases ha : c.args.toList with
    | nil => rw [ha] at h; cases h
    | cons x t1 =>
    cases t1 with
    | cons y t3 => rw [ha] at h; cases h
    | nil =>
    cases ht : c.argTypes.toList with
    | nil => rw [ha,ht] at h; cases h
    | cons t t4 =>
    cases t4 with
    | cons y t3 => rw [ha,ht] at h; cases h
    | nil =>
    rw [ha,ht] at h
    simp only at h
    obtain ⟨v,hk,hs⟩ := Z1fw (ty := o.type) h
    refine ⟨v,hk,fun X => QSem.val fun {B0 w0 ok E a w} hS => ?_⟩
    obtain ⟨z,hz,hv⟩ := hs (hS.ev x (harg x (by rw [ha]; simp)))
    have e1 : c.args.map a.eval = #[a.eval x] := by rw [Z2l ha]; simp
    exact ⟨z,by simp [execOp,hop,resolve,hc,invoke,builtin,e1,Z2l ht,hz],hv⟩
   case min =>
    obtain ⟨v,hk,hs⟩ := Zsx (P := P) h
    refine ⟨v,hk,fun X => QSem.val fun {B0 w0 ok E a w} hS => ?_⟩
    obtain ⟨hl,hr⟩ := hS.args harg
    obtain ⟨z,hz,hv⟩ := hs c.argTypes o.type hl hr
    have e1 : c.args.map a.eval = (c.args.toList.map a.eval).toArray := by apply Array.ext'; simp
    simp only [if_pos] at hz
    exact ⟨z,by simp only [execOp,hop,resolve,hc,Sem.run_bind,Sem.run_pure,Result.andThen,invoke,builtin,e1,hz],hv⟩
   case max =>
    obtain ⟨v,hk,hs⟩ := Zsx (P := P) h
    refine ⟨v,hk,fun X => QSem.val fun {B0 w0 ok E a w} hS => ?_⟩
    obtain ⟨hl,hr⟩ := hS.args harg
    obtain ⟨z,hz,hv⟩ := hs c.argTypes o.type hl hr
    have e1 : c.args.map a.eval = (c.args.toList.map a.eval).toArray := by apply Array.ext'; simp
    simp only [Bool.false_eq_true,if_false] at hz
    exact ⟨z,by simp only [execOp,hop,resolve,hc,Sem.run_bind,Sem.run_pure,Result.andThen,invoke,builtin,e1,hz],hv⟩
theorem Z1lf {or : Orc R} {o : Oper} (hq : lateOp o.op = true) {fz : Bool} {sl : List AV} {L : Heap} {k : List AV → AV → Heap → Option R} {r : R} (h : opK P sp base fz or o sl L k = some r) :
  ∃ v,k sl v L = some r ∧ ∀ L',QSem P o sl L' v := by
 unfold opK at h
 cases hop : o.op <;> simp only [hop] at h <;> simp only [hop,lateOp] at hq <;> try (cases h; done)
 all_goals try (cases hq; done)
 case move x => exact ⟨_,h,fun X => QSem.val fun hS => ⟨_,by simp [execOp,hop],hS.ev x (by simp [hop,Op.operands])⟩⟩
 case assign x => exact ⟨_,h,fun X => QSem.val fun hS => ⟨_,by simp [execOp,hop],hS.ev x (by simp [hop,Op.operands])⟩⟩
 case extract t i =>
  cases hx : ev sl t <;> rw [hx] at h <;> try (simp only at h) <;> try (cases h; done)
  case d y =>
   cases y <;> try (simp only at h) <;> try (cases h; done)
   case tup ds =>
    obtain ⟨d,hd,h1⟩ := Option.bind_eq_some_iff.1 h
    refine ⟨_,h1,fun X => QSem.val fun {B0 w0 ok E a w} hS => ?_⟩
    have := hS.ev t (by simp [hop,Op.operands])
    rw [hx] at this
    generalize hu : a.eval t = u at this
    cases this with
    | d hD => cases hD with
     | tup hl hr =>
      rename_i vs
      have hlt : i < vs.length := by rw [hl]; exact (List.getElem?_eq_some_iff.1 hd).1
      have hv : vs[i]? = some vs[i] := List.getElem?_eq_getElem hlt
      exact ⟨vs[i],by simp [execOp,hop,hu,Instr.extract,hv],.d (hr i _ _ hv hd)⟩
  case tup ds =>
   obtain ⟨d,hd,h1⟩ := Option.bind_eq_some_iff.1 h
   refine ⟨_,h1,fun X => QSem.val fun {B0 w0 ok E a w} hS => ?_⟩
   have := hS.ev t (by simp [hop,Op.operands])
   rw [hx] at this
   generalize hu : a.eval t = u at this
   cases this with
   | tup hl hr =>
    rename_i vs
    have hlt : i < vs.length := by rw [hl]; exact (List.getElem?_eq_some_iff.1 hd).1
    have hv : vs[i]? = some vs[i] := List.getElem?_eq_getElem hlt
    exact ⟨vs[i],by simp [execOp,hop,hu,Instr.extract,hv],hr i _ _ hv hd⟩
def GSem (P : Program) (o : Oper) (sl : List AV) (id : Nat) (B : Blk) (v : AV) : Prop :=
 (∀ c,o.op ≠ .defer c) → ∀ {ro B0 w0 ok E a w H},ORep B0 w0 ok E o sl H a w → E id = none → E.y id = none → H[id]? = some B → ∀ (K : Act → World → Prop) (Q : Exit → Act → World → Prop),
  (∀ E' u w',Below w.heap.size w w' → Mem B0 w0 ok E' H w' → Grow E w ok E' w' ok → (∀ i,i ≠ id → E' i = E i) → E'.y = E.y → Rep E' w' ok u v → K (a.put o.dst u) w') → o.wpIn (Fw ro) 0 P a w K Q
theorem GSem.of {o : Oper} {sl : List AV} {id : Nat} {B : Blk} {v : AV}
  (h : ∀ {B0 w0 ok E a w H},ORep B0 w0 ok E o sl H a w → Place E H H id B → ∃ u w' E',(execOp a.eval o).run P w = .ok (.value u) w' ∧ Below w.heap.size w w' ∧ Mem B0 w0 ok E' H w' ∧ Grow E w ok E' w' ok ∧ (∀ i,i ≠ id → E' i = E i) ∧ E'.y = E.y ∧ Rep E' w' ok u v) : GSem P o sl id B v :=
 fun hd {ro B0 w0 ok E a w H} hS he hy hB K Q hK => by
  obtain ⟨u,w',E',hr,hb,hM,g,h1,h2,hv⟩ := h hS (Place.at hS.mem he hy hB)
  exact Zno hd hr (hK E' u w' hb hM g h1 h2 hv)
theorem Z1gx {or : Orc R} {fz : Bool} {o : Oper} (hq : growOp o.op = true) {sl : List AV} {L : Heap} {k : List AV → AV → Heap → Option R} {r : R} (h : opK P sp base fz or o sl L k = some r) :
  (∃ v,k sl v L = some r ∧ ∀ X,QSem P o sl (L ++ X) v) ∨ ∃ v B,k sl v (L ++ [B]) = some r ∧ B.ok ∧ GSem P o sl L.length B v := by
 unfold opK at h
 cases hop : o.op <;> simp only [hop] at h <;> simp only [hop,growOp] at hq <;> try (cases h; done)
 all_goals try (cases hq; done)
 case alloc t =>
  obtain ⟨z,hz,h1⟩ := Option.bind_eq_some_iff.1 h
  refine .inr ⟨_,_,h1,by obtain ⟨_,_,_,_,e1,e2,_⟩ := Z67 hz; unfold newBlk; cases selfT P t <;> simp [Blk.ok] <;> omega,GSem.of fun {B0 w0 ok E a w H} hS hp => ?_⟩
  obtain ⟨w',E',hr,hM,g,hv,hb,h1,h2⟩ := Z1b4 hz hS.mem hp
  exact ⟨_,w',E',by simp [execOp,hop,hr],hb,hM,g,h1,h2,hv⟩
 case box t x =>
  obtain ⟨i,hi,h1⟩ := Option.bind_eq_some_iff.1 h
  obtain ⟨B,hk,hBo,hB⟩ := Z1do h1
  refine .inr ⟨_,_,hk,hBo,GSem.of fun {B0 w0 ok E a w H} hS hp => ?_⟩
  obtain ⟨hc,h1⟩ := hB (hS.ev x (by simp [hop,Op.operands]))
  obtain ⟨w',E',hr,hM,g,hv,hb,h1,h2⟩ := Z1fx (P := P) (t := t) hS.mem hp hc h1
  exact ⟨_,w',E',by simp [execOp,hop,hr],hb,hM,g,h1,h2,hv⟩
 case buildSlice t len parts =>
  cases hu : P.underlying t with
  | none => rw [hu] at h; cases h
  | some d =>
   rw [hu] at h
   cases d <;> try (simp only at h) <;> try (cases h; done)
   case slice e =>
    obtain ⟨z,hz,h1⟩ := Option.bind_eq_some_iff.1 h
    by_cases hc : len * z.1 ≤ 2 ^ 24 ∧ 0 < z.1
    case neg => rw [if_neg hc] at h1; cases h1
    rw [if_pos hc] at h1
    cases hD : ((!fz || base.mv.elem (1000000 + t)) && (parts.toList.map fun p => (p.1,Ev.ev sl p.2)).all fun p => p.2.isD) with
    | true =>
     rw [hD,cond_true] at h1
     obtain ⟨cs,hk,hs⟩ := Z121 (P := P) hu hz hc.1 hc.2 h1
     refine .inl ⟨_,hk,fun X => QSem.grow fun {B0 w0 ok E a w} hS => ?_⟩
     obtain ⟨hl,hr⟩ := hS.parts (parts := parts.toList) (fun p hp => by
      simp only [hop,Op.operands]
      simp only [List.mem_toArray,List.mem_map]
      exact ⟨p,hp,rfl⟩)
     obtain ⟨y,w',ok',hy,hb,hM,g,hx,hv⟩ := hs hS.mem hl hr
     exact ⟨y,w',ok',by
      have h1 : (parts.map fun p => (p.1,a.eval p.2)) = (parts.toList.map fun p => (p.1,a.eval p.2)).toArray := by
       apply Array.ext'; simp
      simp only [execOp,hop]
      erw [h1]
      simp [hy],hb,hM,g,hx,hv⟩
    | false =>
    rw [hD,cond_false] at h1
    obtain ⟨B,hk,hBo,hs⟩ := Zyr (P := P) hu hz hc.1 hc.2 h1
    refine .inr ⟨_,_,hk,hBo,GSem.of fun {B0 w0 ok E a w H} hS hp => ?_⟩
    obtain ⟨hl,hr⟩ := hS.parts (parts := parts.toList) (fun p hp => by
     simp only [hop,Op.operands]
     simp only [List.mem_toArray,List.mem_map]
     exact ⟨p,hp,rfl⟩)
    obtain ⟨y,w',E',hy,hM,g,hv,hb,h1,h2⟩ := hs hS.mem hp hl hr
    exact ⟨y,w',E',by
     have h1 : (parts.map fun p => (p.1,a.eval p.2)) = (parts.toList.map fun p => (p.1,a.eval p.2)).toArray := by
      apply Array.ext'; simp
     simp only [execOp,hop]
     erw [h1]
     simp [hy],hb,hM,g,h1,h2,hv⟩
 case makeSlice t n c =>
  cases hu : P.underlying t with
  | none => rw [hu] at h; cases h
  | some d =>
   rw [hu] at h
   cases d <;> try (simp only at h) <;> try (cases h; done)
   case slice e =>
    obtain ⟨z,hz,h1⟩ := Option.bind_eq_some_iff.1 h
    obtain ⟨i,hi,h2⟩ := Option.bind_eq_some_iff.1 h1
    obtain ⟨n',hn,h3⟩ := Option.bind_eq_some_iff.1 h2
    obtain ⟨c',hc,h4⟩ := Option.bind_eq_some_iff.1 h3
    by_cases hfit : 0 ≤ n'.2 ∧ n'.2 ≤ c'.2 ∧ Zmr c'.2.toNat i.bytes
    case neg => rw [if_neg hfit] at h4; cases h4
    rw [if_pos hfit] at h4
    refine .inr ⟨_,_,h4,by obtain ⟨_,_,_,_,e1,e2,_⟩ := Z67 hz; simp [Blk.ok,e1,e2],GSem.of fun {B0 w0 ok E a w H} hS hp => ?_⟩
    have e1 := hS.ev n (by simp [hop,Op.operands])
    have e2 := hS.ev c (by simp [hop,Op.operands])
    rw [Zxz hn] at e1
    rw [Zxz hc] at e2
    obtain ⟨y,w',E',hy,hM,g,hv,hb,h1,h2⟩ := Z120 hu hz hi (kn := n'.1) (kc := c'.1) hfit.1 hfit.2.1 hfit.2.2 hS.mem hp
    exact ⟨y,w',E',by simp [execOp,hop,e1.v_inv.1,e2.v_inv.1,hy],hb,hM,g,h1,h2,hv⟩
end Go.Ev
/-
 Regions whose order is drawn: where all operations are quiet and clashing ones are bound,every order comes to the same.
-/
set_option linter.unusedSimpArgs false
set_option linter.unusedVariables false
namespace Go.Ev
open Go Go.RowKit
variable {R : Type} {P : Program} {base : Own} {sp : SpTab}
def ancF (o : Oper) (acc : List Nat) : Nat := o.after.toList.foldl (fun s e => if Region.binds .any e then s ||| 2 ^ e.on ||| acc.getD e.on 0 else s) 0
theorem ancs_eq : ∀ (l : List Oper) (acc : List Nat),∃ tail,ancs l acc = acc ++ tail ∧ tail.length = l.length ∧
  ∀ (j : Nat) o,l[j]? = some o → (ancs l acc)[acc.length + j]? = some (ancF o ((ancs l acc).take (acc.length + j)))
 | [],acc => ⟨[],by simp [ancs],rfl,fun j o h => by simp at h⟩
 | o :: rest,acc => by
  obtain ⟨tail,h1,h2,h3⟩ := ancs_eq rest (acc ++ [ancF o acc])
  have e0 : ancs (o :: rest) acc = ancs rest (acc ++ [ancF o acc]) := rfl
  refine ⟨ancF o acc :: tail,by rw [e0,h1]; simp,by simp [h2],fun j o' hj => ?_⟩
  cases j with
  | zero =>
   simp at hj
   subst hj
   rw [e0,h1]
   simp
  | succ j =>
   have := h3 j o' (by simpa using hj)
   rw [e0]
   have e1 : (acc ++ [ancF o acc]).length + j = acc.length + (j + 1) := by simp; omega
   rw [e1] at this
   exact this
theorem Z1dw (acc : List Nat) (i : Nat) : ∀ (es : List Edge) (s : Nat),(es.foldl (fun s e => if Region.binds .any e then s ||| 2 ^ e.on ||| acc.getD e.on 0 else s) s).testBit i = true →
  s.testBit i = true ∨ ∃ e,e ∈ es ∧ Region.binds .any e = true ∧ (e.on = i ∨ (acc.getD e.on 0).testBit i = true)
 | [],s,h => .inl h
 | e :: es,s,h => by
  simp only [List.foldl_cons] at h
  rcases Z1dw acc i es _ h with h1 | ⟨e',he,h1⟩
  ·split at h1
   ·rename_i hb
    rw [Nat.testBit_or,Nat.testBit_or,Nat.testBit_two_pow] at h1
    simp only [Bool.or_eq_true,decide_eq_true_eq] at h1
    rcases h1 with (h1 | h1) | h1
    ·exact .inl h1
    ·exact .inr ⟨e,by simp,hb,.inl h1⟩
    ·exact .inr ⟨e,by simp,hb,.inr h1⟩
   ·exact .inl h1
  ·exact .inr ⟨e',by simp [he],h1⟩
section
variable {ops : Array Oper}
theorem Z1kp (hb : backOk ops = true) {j i : Nat} {o : Oper} (hj : ops[j]? = some o) (h : ((ancs ops.toList []).getD j 0).testBit i = true) :
  ∃ e,e ∈ o.after ∧ Region.binds .any e = true ∧ e.on < j ∧ (e.on = i ∨ ((ancs ops.toList []).getD e.on 0).testBit i = true) := by
 obtain ⟨tail,h1,h2,h3⟩ := ancs_eq ops.toList []
 have := h3 j o (by simpa using hj)
 simp only [List.length_nil,Nat.zero_add] at this
 rw [List.getD_eq_getElem?_getD,this] at h
 simp only [Option.getD_some] at h
 rcases Z1dw _ i _ _ h with h0 | ⟨e,he,hbn,h0⟩
 ·simp at h0
 ·have hlt : e.on < j := by
   have hjs : j < ops.size := (Array.getElem?_eq_some_iff.1 hj).1
   have := List.all_eq_true.1 hb j (List.mem_range.2 hjs)
   rw [hj] at this
   simp only [Array.all_eq_true'] at this
   have := this e (by simpa using he)
   simpa [hbn] using this
  refine ⟨e,by simpa using he,hbn,hlt,h0.imp id fun h0 => ?_⟩
  rw [List.getD_eq_getElem?_getD,List.getElem?_take,if_pos hlt] at h0
  rw [List.getD_eq_getElem?_getD]; exact h0
def ClosedAt (ops : Array Oper) (listed : Array Bool) (j : Nat) : Prop := ∀ oj,ops[j]? = some oj → ∀ e,e ∈ oj.after → Region.binds .any e = true → listed.getD e.on false = true
def Closed (ops : Array Oper) (listed : Array Bool) : Prop := ∀ j,listed.getD j false = true → ClosedAt ops listed j
theorem Z3v (hb : backOk ops = true) {listed : Array Bool} (hc : Closed ops listed) {i : Nat} : ∀ (j : Nat),ClosedAt ops listed j → ((ancs ops.toList []).getD j 0).testBit i = true → j < ops.size → listed.getD i false = true := by
 intro j
 induction j using Nat.strongRecOn with
 | _ j ih =>
  intro hcj h hjs
  obtain ⟨e,he,hbn,hlt,h0⟩ := Z1kp hb (Array.getElem?_eq_getElem hjs) h
  have hon := hcj _ (Array.getElem?_eq_getElem hjs) e he hbn
  rcases h0 with rfl | h0
  ·exact hon
  ·exact ih e.on hlt (hc _ hon) h0 (by omega)
theorem Zp7 (hp : Z14f ops (ancs ops.toList []) = true) {i j : Nat} {x y : Oper} (hij : i < j) (hx : ops[i]? = some x) (hy : ops[j]? = some y) :
  ((ancs ops.toList []).getD j 0).testBit i = true ∨ Oper.apart ops x y = true := by
 have hjs : j < ops.size := (Array.getElem?_eq_some_iff.1 hy).1
 have h1 := List.all_eq_true.1 (List.all_eq_true.1 hp j (List.mem_range.2 hjs)) i (List.mem_range.2 hij)
 rw [hx,hy] at h1
 simpa using h1
def lexS (d : Nat → Option Tmp) (vs : Nat → AV) (sl : List AV) : Nat → List AV
 | 0 => sl
 | j + 1 => setSl (lexS d vs sl j) (d j) (vs j)
def stS (d : Nat → Option Tmp) (vs : Nat → AV) (sl : List AV) (listed : Array Bool) : Nat → List AV
 | 0 => sl
 | j + 1 => if listed.getD j false then setSl (stS d vs sl listed j) (d j) (vs j) else stS d vs sl listed j
variable {d : Nat → Option Tmp}
theorem Z1bc (vs : Nat → AV) (sl : List AV) : ∀ j,(lexS d vs sl j).length = sl.length
 | 0 => rfl
 | j + 1 => by simp [lexS,Zo,Z1bc vs sl j]
theorem Zby (vs : Nat → AV) (sl : List AV) (listed : Array Bool) : ∀ j,(stS d vs sl listed j).length = sl.length
 | 0 => rfl
 | j + 1 => by
  simp only [stS]
  split
  ·rw [Zo,Zby vs sl listed j]
  ·exact Zby vs sl listed j
theorem Z47 {sl : List AV} {dst : Option Tmp} {v : AV} {t : Nat} (h : dst ≠ some t) : (setSl sl dst v)[t]? = sl[t]? := by
 cases dst with
 | none => rfl
 | some d => simp only [setSl]; exact List.getElem?_set_ne (fun e => h (by rw [e]))
theorem Z1ix {sl sl' : List AV} {dst : Option Tmp} {v : AV} {t : Nat} (h : dst = some t) (hl : sl.length = sl'.length) : (setSl sl dst v)[t]? = (setSl sl' dst v)[t]? := by
 subst h
 simp only [setSl]
 by_cases hlt : t < sl.length
 ·rw [List.getElem?_set_self hlt,List.getElem?_set_self (by omega)]
 ·rw [List.getElem?_eq_none (by simp; omega),List.getElem?_eq_none (by simp; omega)]
variable {vs : Nat → AV} {sl : List AV} {listed : Array Bool}
theorem Z1bd {j t : Nat} (h1 : ∀ i,i < j → d i = some t → listed.getD i false = true) (h2 : ∀ i,j ≤ i → d i = some t → listed.getD i false = false) :
  ∀ m,(stS d vs sl listed m)[t]? = (lexS d vs sl (min m j))[t]?
 | 0 => by simp [stS,lexS]
 | m + 1 => by
  have ih := Z1bd h1 h2 m
  by_cases hmj : m < j
  ·rw [Nat.min_eq_left (by omega : m ≤ j)] at ih
   rw [Nat.min_eq_left (by omega : m + 1 ≤ j)]
   simp only [stS,lexS]
   by_cases hd : d m = some t
   ·rw [if_pos (h1 m hmj hd)]
    exact Z1ix hd (by rw [Zby,Z1bc])
   ·split
    ·rw [Z47 hd,Z47 hd]; exact ih
    ·rw [Z47 hd]; exact ih
  ·rw [Nat.min_eq_right (by omega : j ≤ m)] at ih
   rw [Nat.min_eq_right (by omega : j ≤ m + 1)]
   simp only [stS]
   split
   ·rename_i hl
    by_cases hd : d m = some t
    ·rw [h2 m (by omega) hd] at hl; cases hl
    ·rw [Z47 hd]; exact ih
   ·exact ih
theorem Z1dx {sl : List AV} {d e : Option Tmp} {u v : AV} (h : ∀ t,d = some t → e ≠ some t) : setSl (setSl sl d u) e v = setSl (setSl sl e v) d u := by
 cases d with
 | none => rfl
 | some d =>
  cases e with
  | none => rfl
  | some e =>
   simp only [setSl]
   exact List.set_comm _ _ (fun hde => h d rfl (by rw [hde]))
theorem Zh {j i : Nat} (h : i ≠ j) : (listed.setIfInBounds j true).getD i false = listed.getD i false := by
 simp only [Array.getD_eq_getD_getElem?,Array.getElem?_setIfInBounds_ne (Ne.symm h)]
theorem Z1av {j : Nat} (hjs : j < listed.size) (hun : listed.getD j false = false) (h2 : ∀ i t,j < i → listed.getD i false = true → d j = some t → d i ≠ some t) :
  ∀ m,stS d vs sl (listed.setIfInBounds j true) m = if m ≤ j then stS d vs sl listed m else setSl (stS d vs sl listed m) (d j) (vs j)
 | 0 => by simp [stS]
 | m + 1 => by
  have ih := Z1av hjs hun h2 m
  simp only [stS]
  by_cases hmj : m = j
  ·subst hmj
   have h1 : (listed.setIfInBounds m true).getD m false = true := by simp [Array.getD_eq_getD_getElem?,hjs]
   rw [h1,if_pos rfl,if_neg (by omega),hun,ih,if_pos (Nat.le_refl _)]
   simp
  ·rw [Zh hmj,ih]
   by_cases hlt : m < j
   ·rw [if_pos (show m ≤ j by omega),if_pos (show m + 1 ≤ j by omega)]
   ·rw [if_neg (show ¬ m ≤ j by omega),if_neg (show ¬ m + 1 ≤ j by omega)]
    split
    ·rename_i hl
     exact Z1dx fun t ht => h2 m t (by omega) hl ht
    ·rfl
theorem st_lex {n : Nat} (h1 : ∀ i t,i < n → d i = some t → listed.getD i false = true) : ∀ m,m ≤ n → (∀ i,i < m → d i ≠ none → listed.getD i false = true) → stS d vs sl listed m = lexS d vs sl m
 | 0,_,_ => rfl
 | m + 1,hm,h => by
  have ih := st_lex h1 m (by omega) (fun i hi hd => h i (by omega) hd)
  simp only [stS,lexS]
  cases hd : d m with
  | none => rw [ih]; split <;> rfl
  | some t => rw [if_pos (h1 m t (by omega) hd),ih]
theorem Z14i (h : ∀ i,listed.getD i false = true → d i = none) : ∀ m,stS d vs sl listed m = sl
 | 0 => rfl
 | m + 1 => by
  simp only [stS]
  split
  ·rename_i hl; rw [h m hl]; exact Z14i h m
  ·exact Z14i h m
def nbF (b : Nat → Bool) : Nat → Nat → Nat
 | 0,p => p
 | f + 1,p => if b p then p else nbF b f (p + 1)
theorem nbF_ge (b : Nat → Bool) : ∀ f p,p ≤ nbF b f p
 | 0,p => Nat.le_refl _
 | f + 1,p => by simp only [nbF]; split; exact Nat.le_refl _; have := nbF_ge b f (p + 1); omega
theorem nbF_le (b : Nat → Bool) : ∀ f p,nbF b f p ≤ p + f
 | 0,p => Nat.le_refl _
 | f + 1,p => by simp only [nbF]; split; omega; have := nbF_le b f (p + 1); omega
theorem nbF_no (b : Nat → Bool) : ∀ f p i,p ≤ i → i < nbF b f p → b i = false
 | 0,p,i,h1,h2 => by simp [nbF] at h2; omega
 | f + 1,p,i,h1,h2 => by
  simp only [nbF] at h2
  split at h2
  ·omega
  ·rename_i hb
   by_cases hi : i = p
   ·subst hi; simpa using hb
   ·exact nbF_no b f (p + 1) i (by omega) h2
theorem Z1jx (b : Nat → Bool) : ∀ f p,nbF b f p < p + f → b (nbF b f p) = true
 | 0,p,h => by simp [nbF] at h
 | f + 1,p,h => by
  simp only [nbF] at h ⊢
  split
  ·rename_i hb; exact hb
  ·rename_i hb; rw [if_neg hb] at h; exact Z1jx b f (p + 1) (by omega)
def barB (ops : Array Oper) (j : Nat) : Bool := barAt ops.size (ancs ops.toList []) j
def lateB (ops : Array Oper) (i : Nat) : Bool := lateAt ops (ancs ops.toList []) i
def nearB (ops : Array Oper) (j : Nat) : Bool := nearAt ops (ancs ops.toList []) j
def allB (ops : Array Oper) (j : Nat) : Bool := barB ops j || nearB ops j
def nb (ops : Array Oper) (p : Nat) : Nat := nbF (allB ops) (ops.size - p) p
theorem Zy5 {j : Nat} (h : allB ops j = false) : barB ops j = false ∧ nearB ops j = false := by
 unfold allB at h
 simpa using h
theorem Zvp {i : Nat} (h : lateB ops i = true) : ∃ o,ops[i]? = some o ∧ lateOp o.op = true ∧ o.guard = none ∧ barB ops i = false ∧
  (∀ (k : Nat) x,i ≤ k → ops[k]? = some x → ∀ t,t ∈ o.looksAt ops → x.dst ≠ some t) ∧ ∀ (k : Nat) x,k ≠ i → ops[k]? = some x → ∀ t,o.dst = some t → x.dst ≠ some t := by
 unfold lateB lateAt at h
 cases ho : ops[i]? with
 | none => rw [ho] at h; cases h
 | some o =>
  rw [ho] at h
  simp only [Bool.and_eq_true,Option.isNone_iff_eq_none,Bool.not_eq_true',List.all_eq_true,List.mem_range] at h
  obtain ⟨h1,h2,h3,h4⟩ := h
  refine ⟨o,rfl,h1,h2,h3,fun k x hik hx t ht => ?_,fun k x hk hx t ht => ?_⟩
  ·have := h4 k (Array.getElem?_eq_some_iff.1 hx).1
   rw [hx] at this
   rw [show Nat.blt k i = false by rw [← Bool.not_eq_true,Nat.blt_eq]; omega] at this
   simp only [Bool.false_or,Bool.and_eq_true,List.all_eq_true,Bool.not_eq_true'] at this
   have := this.1 t ht
   intro e
   rw [e] at this
   simp at this
  ·have := h4 k (Array.getElem?_eq_some_iff.1 hx).1
   rw [hx] at this
   simp only [Bool.and_eq_true,Bool.or_eq_true,beq_iff_eq,Bool.not_eq_true',Option.isNone_iff_eq_none] at this
   rcases this.2 with e | e | e
   ·exact absurd e hk
   ·rw [ht] at e; cases e
   ·intro e2
    rw [e2,ht] at e
    simp at e
theorem Zvq {j : Nat} (h : nearB ops j = true) : ∃ o,ops[j]? = some o ∧ (∃ t a x,o.op = .store t a x) ∧ o.guard = none ∧
  (∀ i,i < ops.size → i < j → ((ancs ops.toList []).getD j 0).testBit i = true ∨ lateB ops i = true) ∧ (∀ i,i < ops.size → j < i → ((ancs ops.toList []).getD i 0).testBit j = true) := by
 unfold nearB nearAt at h
 cases ho : ops[j]? with
 | none => rw [ho] at h; cases h
 | some o =>
  rw [ho] at h
  simp only [Bool.and_eq_true,Option.isNone_iff_eq_none,List.all_eq_true,List.mem_range] at h
  obtain ⟨h1,h2,h3⟩ := h
  refine ⟨o,rfl,?_,h2,fun i hi hij => ?_,fun i hi hij => ?_⟩
  ·cases hop : o.op <;> rw [hop] at h1 <;> first | (cases h1; done) | exact ⟨_,_,_,rfl⟩
  ·have := h3 i hi
   rw [show Nat.blt i j = true by rw [Nat.blt_eq]; exact hij,cond_true,Bool.or_eq_true] at this
   exact this
  ·have := h3 i hi
   rw [show Nat.blt i j = false by rw [← Bool.not_eq_true,Nat.blt_eq]; omega,show Nat.blt j i = true by rw [Nat.blt_eq]; exact hij,cond_false,cond_true] at this
   exact this
theorem Z1g9 {i : Nat} (h : lateB ops i = true) : nearB ops i = false := by
 obtain ⟨o,ho,h1,_⟩ := Zvp h
 cases hn : nearB ops i with
 | false => rfl
 | true =>
  obtain ⟨o',ho',⟨t,a,x,hop⟩,_⟩ := Zvq hn
  rw [ho] at ho'; cases ho'
  rw [hop] at h1; cases h1
theorem Z13r {j : Nat} (hb : barB ops j = true) {i : Nat} (hi : i < ops.size) (hij : i < j) : ((ancs ops.toList []).getD j 0).testBit i = true := by
 have := List.all_eq_true.1 hb i (List.mem_range.2 hi)
 have e : Nat.blt i j = true := by simp [Nat.blt_eq,hij]
 rw [e] at this
 exact this
theorem Z17b {j : Nat} (hb : barB ops j = true) {i : Nat} (hi : i < ops.size) (hij : j < i) : ((ancs ops.toList []).getD i 0).testBit j = true := by
 have := List.all_eq_true.1 hb i (List.mem_range.2 hi)
 have e : Nat.blt i j = false := by rw [← Bool.not_eq_true,Nat.blt_eq]; omega
 have e2 : Nat.blt j i = true := by simp [Nat.blt_eq,hij]
 rw [e,e2] at this
 exact this
theorem Z1ew {t : Nat} (h : ∀ i,listed.getD i false = true → d i ≠ some t) : ∀ m,(stS d vs sl listed m)[t]? = sl[t]?
 | 0 => rfl
 | m + 1 => by
  simp only [stS]
  split
  ·rename_i hl; rw [Z47 (h m hl)]; exact Z1ew h m
  ·exact Z1ew h m
theorem Z1ex {l2 : Array Bool} (h : ∀ i,d i ≠ none → listed.getD i false = l2.getD i false) : ∀ m,stS d vs sl listed m = stS d vs sl l2 m
 | 0 => rfl
 | m + 1 => by
  have ih := Z1ex h m
  simp only [stS]
  cases hd : d m with
  | none => rw [ih]; split <;> split <;> rfl
  | some t => rw [h m (by rw [hd]; simp),ih]
theorem Z1ey {sl : List AV} {dst : Option Tmp} {v c : AV} {t : Nat} (h : dst = some t) (hc : (setSl sl dst v)[t]? = some c) : c = v := by
 subst h
 simp only [setSl] at hc
 by_cases hlt : t < sl.length
 ·rw [List.getElem?_set_self hlt] at hc; exact (Option.some.inj hc).symm
 ·rw [List.getElem?_eq_none (by simp; omega)] at hc; cases hc
theorem Z1be {a : Act} {dst : Option Tmp} {u : Value} {t : Nat} (h : dst ≠ some t) : (a.put dst u).tmps.getD t undef = a.tmps.getD t undef := by
 cases dst with
 | none => rfl
 | some d =>
  have : d ≠ t := fun e => h (by rw [e])
  simp [Act.put,Array.getD_eq_getD_getElem?,Array.getElem?_setIfInBounds_ne this]
theorem put_at {a : Act} {dst : Option Tmp} {u : Value} {t : Nat} (h : dst = some t) (hl : t < a.tmps.size) : (a.put dst u).tmps.getD t undef = u := by
 subst h
 simp [Act.put,Array.getD_eq_getD_getElem?,hl]
theorem Z14j {t : TypeId} {a x : AV} {L : Heap} {k : AV → Heap → Option R} : storeK P t a x L k = (storeK P t a x L fun _ L' => some L').bind fun L' => k .junk L' := by
 unfold storeK
 cases P.underlying t with
 | none => rfl
 | some d =>
 cases P.info? t with
 | none => rfl
 | some i =>
 simp only [Option.bind_some]
 cases a <;> dsimp only <;> try rfl
 case ptr id off =>
  cases L[id]? with
  | none => rfl
  | some B =>
   cases B <;> dsimp only <;> try rfl
   case t ty n cs =>
    split
    ·rfl
    ·split <;> rfl
   case d n cs =>
    split
    ·cases x with
     | d y =>
      cases y with
      | agg ys =>
       dsimp only
       by_cases hl : ys.length = i.size
       ·rw [if_pos hl,if_pos hl]; unfold put; split <;> rfl
       ·rw [if_neg hl,if_neg hl]; rfl
      | _ => rfl
     | agg ys =>
      dsimp only
      by_cases hl : ys.length = i.size
      ·rw [if_pos hl,if_pos hl]; unfold put; split <;> rfl
      ·rw [if_neg hl,if_neg hl]; rfl
     | _ => rfl
    ·by_cases hs : i.size = 1 ∧ off < n
     ·rw [if_pos hs,if_pos hs]
      cases x <;> dsimp only <;> (split <;> rfl)
     ·rw [if_neg hs,if_neg hs]; rfl
   case a n cs =>
    split
    ·cases x with
     | d y =>
      cases y with
      | agg ys =>
       dsimp only
       by_cases hl : ys.length = i.size
       ·rw [if_pos hl,if_pos hl]; unfold put; split <;> rfl
       ·rw [if_neg hl,if_neg hl]; rfl
      | _ => rfl
     | agg ys =>
      dsimp only
      by_cases hl : ys.length = i.size
      ·rw [if_pos hl,if_pos hl]; unfold put; split <;> rfl
      ·rw [if_neg hl,if_neg hl]; rfl
     | _ => rfl
    ·split <;> rfl
structure Trace (P : Program) (base : Own) (ops : Array Oper) (ss : Nat → List AV) (Ls : Nat → Heap) (vs : Nat → AV) (n : Nat) : Prop where
 len : ∀ j,j ≤ n → (ss j).length = (ss 0).length
 step : ∀ j o,j < n → ops[j]? = some o →
  (barB ops j = true ∧ ((Z7x ops o (ss j) true ∧ (∀ c,o.op ≠ .defer c) ∧ ∃ sl' v,OpSem P base o (ss j) (Ls j) sl' v (Ls (j + 1)) ∧ ss (j + 1) = setSl sl' o.dst v) ∨
   (Z7x ops o (ss j) false ∧ ss (j + 1) = setSl (ss j) o.dst skipped ∧ Ls (j + 1) = Ls j))) ∨
  (barB ops j = false ∧ nearB ops j = true ∧ ss (j + 1) = setSl (ss j) o.dst skipped ∧ (∀ c,o.op ≠ .defer c) ∧ ∃ t a x,o.op = .store t a x ∧ ∀ {R' : Type} (k' : AV → Heap → Option R'),storeK P t (ev (ss j) a) (ev (ss j) x) (Ls j) k' = k' .junk (Ls (j + 1))) ∨
  (barB ops j = false ∧ nearB ops j = false ∧ ss (j + 1) = setSl (ss j) o.dst (vs j) ∧
   ((Z7x ops o (ss j) true ∧ (∀ c,o.op ≠ .defer c) ∧ ((Ls (j + 1) = Ls j ∧ ∀ X,QSem P o (ss j) (Ls j ++ X) (vs j)) ∨ ∃ B,B.ok ∧ Ls (j + 1) = Ls j ++ [B] ∧ GSem P o (ss j) (Ls j).length B (vs j))) ∨
    (Z7x ops o (ss j) false ∧ vs j = skipped ∧ Ls (j + 1) = Ls j)))
 late : ∀ j o,j < n → ops[j]? = some o → lateB ops j = true → ss (j + 1) = setSl (ss j) o.dst (vs j) ∧ Ls (j + 1) = Ls j ∧ (∀ c,o.op ≠ .defer c) ∧ ∀ L,QSem P o (ss j) L (vs j)
def okOps (sp : SpTab) (ops : Array Oper) : Prop := ∀ j o,ops[j]? = some o → barB ops j = true ∨ nearB ops j = true ∨ Z11w sp o.op = true ∨ growOp o.op = true
theorem Z1lg {j : Nat} (h : j < ops.size) : ((barsOf ops).drop j).headD true = barB ops j ∧ ((barsOf ops).drop j).tail = (barsOf ops).drop (j + 1) := by
 refine ⟨?_,by simp⟩
 have : (barsOf ops)[j]? = some (barB ops j) := by
  unfold barsOf barB
  simp [h]
 cases hd : (barsOf ops).drop j with
 | nil =>
  have h1 := congrArg List.length hd
  simp [barsOf] at h1
  omega
 | cons x xs =>
  have h1 : ((barsOf ops).drop j)[0]? = some x := by rw [hd]; rfl
  rw [List.getElem?_drop,Nat.add_zero,this] at h1
  simpa using h1.symm
theorem Z1dy (hsp : SpOk P sp) {or : Orc R} (hor : OrOk P or) (hok : okOps sp ops) {k : St → Option R} {r : R} : ∀ (rest : List Oper) (i : Nat) (ss : Nat → List AV) (Ls : Nat → Heap) (vs : Nat → AV),(∀ j,rest[j]? = ops[i + j]?) →
  Trace P base ops ss Ls vs i → i ≤ ops.size → opsK P sp base ((barsOf ops).drop i) or ops rest ⟨ss i,Ls i⟩ k = some r →
  ∃ ss' Ls' vs',ss' 0 = ss 0 ∧ Ls' 0 = Ls 0 ∧ Trace P base ops ss' Ls' vs' ops.size ∧ k ⟨ss' ops.size,Ls' ops.size⟩ = some r
 | [],i,ss,Ls,vs,hr,ht,hi',h => by
  have hi : ops.size ≤ i := by
   have := hr 0
   simp at this
   omega
  obtain rfl : i = ops.size := by omega
  exact ⟨ss,Ls,vs,rfl,rfl,ht,h⟩
 | o :: rest,i,ss,Ls,vs,hr,ht,hi',h => by
  have ho : ops[i]? = some o := by simpa using (hr 0).symm
  have his : i < ops.size := (Array.getElem?_eq_some_iff.1 ho).1
  have next : ∀ (sn : List AV) (Ln : Heap) (vn : AV),sn.length = (ss i).length →
    ((barB ops i = true ∧ ((Z7x ops o (ss i) true ∧ (∀ c,o.op ≠ .defer c) ∧ ∃ sl' v,OpSem P base o (ss i) (Ls i) sl' v Ln ∧ sn = setSl sl' o.dst v) ∨ (Z7x ops o (ss i) false ∧ sn = setSl (ss i) o.dst skipped ∧ Ln = Ls i))) ∨
     (barB ops i = false ∧ nearB ops i = true ∧ sn = setSl (ss i) o.dst skipped ∧ (∀ c,o.op ≠ .defer c) ∧ ∃ t a x,o.op = .store t a x ∧ ∀ {R' : Type} (k' : AV → Heap → Option R'),storeK P t (ev (ss i) a) (ev (ss i) x) (Ls i) k' = k' .junk Ln) ∨
     (barB ops i = false ∧ nearB ops i = false ∧ sn = setSl (ss i) o.dst vn ∧
      ((Z7x ops o (ss i) true ∧ (∀ c,o.op ≠ .defer c) ∧ ((Ln = Ls i ∧ ∀ X,QSem P o (ss i) (Ls i ++ X) vn) ∨ ∃ B,B.ok ∧ Ln = Ls i ++ [B] ∧ GSem P o (ss i) (Ls i).length B vn)) ∨ (Z7x ops o (ss i) false ∧ vn = skipped ∧ Ln = Ls i)))) →
    (lateB ops i = true → sn = setSl (ss i) o.dst vn ∧ Ln = Ls i ∧ (∀ c,o.op ≠ .defer c) ∧ ∀ L,QSem P o (ss i) L vn) →
    opsK P sp base ((barsOf ops).drop (i + 1)) or ops rest ⟨sn,Ln⟩ k = some r → ∃ ss' Ls' vs',ss' 0 = ss 0 ∧ Ls' 0 = Ls 0 ∧ Trace P base ops ss' Ls' vs' ops.size ∧ k ⟨ss' ops.size,Ls' ops.size⟩ = some r := fun sn Ln vn hlen hstep hlate hv => by
   let ss1 : Nat → List AV := fun j => if j = i + 1 then sn else ss j
   let Ls1 : Nat → Heap := fun j => if j = i + 1 then Ln else Ls j
   let vs1 : Nat → AV := fun j => if j = i then vn else vs j
   have e1 : ∀ n,n ≤ i → ss1 n = ss n := fun n hn => by simp only [ss1]; rw [if_neg (by omega)]
   have e2 : ss1 (i + 1) = sn := by simp [ss1]
   have e3 : ∀ n,n ≤ i → Ls1 n = Ls n := fun n hn => by simp only [Ls1]; rw [if_neg (by omega)]
   have e4 : Ls1 (i + 1) = Ln := by simp [Ls1]
   have e5 : vs1 i = vn := by simp [vs1]
   have hT : Trace P base ops ss1 Ls1 vs1 (i + 1) := by
    refine ⟨fun j hj => ?_,fun j o' hj hoj => ?_,fun j o' hj hoj hlt => ?_⟩
    ·by_cases hji : j = i + 1
     ·rw [hji,e2,e1 0 (by omega),hlen]; exact ht.len i (Nat.le_refl _)
     ·rw [e1 j (by omega),e1 0 (by omega)]; exact ht.len j (by omega)
    ·by_cases hji : j = i
     ·subst hji
      have : o' = o := Option.some.inj (hoj.symm.trans ho)
      subst this
      rw [e1 j (Nat.le_refl _),e2,e3 j (Nat.le_refl _),e4,e5]; exact hstep
     ·rw [e1 j (by omega),e1 (j + 1) (by omega),e3 j (by omega),e3 (j + 1) (by omega),show vs1 j = vs j from by simp only [vs1]; rw [if_neg hji]]
      exact ht.step j o' (by omega) hoj
    ·by_cases hji : j = i
     ·subst hji
      have : o' = o := Option.some.inj (hoj.symm.trans ho)
      subst this
      rw [e1 j (Nat.le_refl _),e2,e3 j (Nat.le_refl _),e4,e5]; exact hlate hlt
     ·rw [e1 j (by omega),e1 (j + 1) (by omega),e3 j (by omega),e3 (j + 1) (by omega),show vs1 j = vs j from by simp only [vs1]; rw [if_neg hji]]
      exact ht.late j o' (by omega) hoj hlt
   obtain ⟨ss',Ls',vs',h0,h1,hT',hk⟩ := Z1dy hsp hor hok rest (i + 1) ss1 Ls1 vs1 (fun j => by have := hr (j + 1); simp at this; rw [this]; congr 1; omega) hT (by omega) (by rw [e2,e4]; exact hv)
   exact ⟨ss',Ls',vs',by rw [h0,e1 0 (by omega)],by rw [h1,e3 0 (by omega)],hT',hk⟩
  obtain ⟨f1,f2⟩ := Z1lg his
  rcases Z1b8 h with ⟨hG,h1⟩ | ⟨hG,h1⟩
  ·rw [f1,f2] at h1
   have hnd := Zhd h1
   cases hbar : barB ops i with
   | true =>
    rw [hbar] at h1
    have hnl : lateB ops i = true → False := fun q => by
     obtain ⟨_,_,_,_,hb,_⟩ := Zvp q
     rw [hbar] at hb; cases hb
    obtain ⟨sl',v,L',h2,hop⟩ := Z1at hsp hor h1
    exact next _ _ v (by rw [Zo]; exact hop.1) (.inl ⟨hbar,.inl ⟨hG,hnd,sl',v,hop,rfl⟩⟩) (fun q => (hnl q).elim) h2
   | false =>
    rw [hbar] at h1
    cases hlt : lateB ops i with
    | true =>
     obtain ⟨o',ho',hlo,hgn,_⟩ := Zvp hlt
     rw [ho] at ho'; cases ho'
     obtain ⟨v,h2,hq⟩ := Z1lf hlo h1
     exact next _ _ v (by rw [Zo]) (.inr (.inr ⟨hbar,Z1g9 hlt,rfl,.inl ⟨hG,hnd,.inl ⟨rfl,fun X => hq _⟩⟩⟩)) (fun _ => ⟨rfl,rfl,hnd,hq⟩) h2
    | false =>
    cases hnr : nearB ops i with
    | true =>
     obtain ⟨o',ho',⟨t,a,x,hop⟩,hgn,_⟩ := Zvq hnr
     rw [ho] at ho'; cases ho'
     unfold opK at h1
     simp only [hop] at h1
     rw [Z14j] at h1
     obtain ⟨L',hL',h2⟩ := Option.bind_eq_some_iff.1 h1
     exact next _ L' .junk (by rw [Zo]) (.inr (.inl ⟨hbar,hnr,rfl,hnd,t,a,x,hop,fun k' => by rw [Z14j,hL']; rfl⟩)) (fun q => by rw [hlt] at q; cases q) h2
    | false =>
    rcases hok i o ho with hh | hh | hh | hh
    ·rw [hbar] at hh; cases hh
    ·rw [hnr] at hh; cases hh
    ·obtain ⟨v,h2,hq⟩ := Z15e hsp hor hh h1
     exact next _ _ v (by rw [Zo]) (.inr (.inr ⟨hbar,hnr,rfl,.inl ⟨hG,hnd,.inl ⟨rfl,hq⟩⟩⟩)) (fun q => by rw [hlt] at q; cases q) h2
    ·rcases Z1gx hh h1 with ⟨v,h2,hq⟩ | ⟨v,B,h2,hB,hg⟩
     ·exact next _ _ v (by rw [Zo]) (.inr (.inr ⟨hbar,hnr,rfl,.inl ⟨hG,hnd,.inl ⟨rfl,hq⟩⟩⟩)) (fun q => by rw [hlt] at q; cases q) h2
     ·exact next _ _ v (by rw [Zo]) (.inr (.inr ⟨hbar,hnr,rfl,.inl ⟨hG,hnd,.inr ⟨B,hB,rfl,hg⟩⟩⟩)) (fun q => by rw [hlt] at q; cases q) h2
  ·rw [f2] at h1
   have hng : o.guard ≠ none := fun e => by
    generalize hb : false = b at hG
    cases hG with
    | none h => cases hb
    | bool h => rw [e] at h; cases h
    | skip h => rw [e] at h; cases h
   have hnl : lateB ops i = true → False := fun q => by
    obtain ⟨o',ho',_,hgn,_⟩ := Zvp q
    rw [ho] at ho'; cases ho'
    exact hng hgn
   cases hbar : barB ops i with
   | true => exact next _ _ skipped (by rw [Zo]) (.inl ⟨hbar,.inr ⟨hG,rfl,rfl⟩⟩) (fun q => (hnl q).elim) h1
   | false =>
    cases hnr : nearB ops i with
    | true =>
     obtain ⟨o',ho',_,hgn,_⟩ := Zvq hnr
     rw [ho] at ho'; cases ho'
     exact absurd hgn hng
    | false => exact next _ _ skipped (by rw [Zo]) (.inr (.inr ⟨hbar,hnr,rfl,.inr ⟨hG,rfl,rfl⟩⟩)) (fun q => (hnl q).elim) h1
def unl (ops : Array Oper) (listed : Array Bool) : List Nat := (List.range ops.size).filter fun i => !listed.getD i true
theorem unl_lt {j : Nat} (hj : j < ops.size) (hs : listed.size = ops.size) (hun : listed.getD j true = false) : (unl ops (listed.setIfInBounds j true)).length < (unl ops listed).length := by
 have e : unl ops (listed.setIfInBounds j true) = (unl ops listed).filter (fun i => decide (i ≠ j)) := by
  unfold unl
  rw [List.filter_filter]
  apply List.filter_congr
  intro i _
  by_cases hij : i = j
  ·subst hij; simp [Array.getD_eq_getD_getElem?,hs,hj]
  ·simp [hij,Array.getD_eq_getD_getElem?,Array.getElem?_setIfInBounds_ne (Ne.symm hij)]
 rw [e]
 exact List.length_filter_lt_length_iff_exists.2 ⟨j,List.mem_filter.2 ⟨List.mem_range.2 hj,by simp [hun]⟩,by simp⟩
theorem Zmv {i : Nat} (hi : i < listed.size) : listed.getD i true = listed.getD i false := by simp [Array.getD,hi]
def dP (ops : Array Oper) (p i : Nat) : Option Tmp := if p ≤ i then (ops[i]?).bind (·.dst) else none
theorem Zmw {p i t : Nat} (h : dP ops p i = some t) : p ≤ i ∧ ∃ o,ops[i]? = some o ∧ o.dst = some t := by
 unfold dP at h
 split at h
 ·rename_i hp
  exact ⟨hp,Option.bind_eq_some_iff.1 h⟩
 ·cases h
section
variable {ss : Nat → List AV} {Ls : Nat → Heap}
theorem lex_ss (ht : Trace P base ops ss Ls vs ops.size) {p : Nat} : ∀ j,p ≤ j → j ≤ nb ops p → j ≤ ops.size → lexS (dP ops p) vs (ss p) j = ss j := by
 have low : ∀ j,j ≤ p → lexS (dP ops p) vs (ss p) j = ss p := fun j => by
  induction j with
  | zero => intro _; rfl
  | succ j ih =>
   intro hj
   simp only [lexS]
   rw [ih (by omega),show dP ops p j = none from by unfold dP; rw [if_neg (by omega)]]
   rfl
 intro j
 induction j with
 | zero => intro h _ _; rw [low 0 (by omega)]; congr 1; omega
 | succ j ih =>
  intro h1 h2 h3
  by_cases hp : p = j + 1
  ·rw [low (j + 1) (by omega),hp]
  ·simp only [lexS]
   rw [ih (by omega) (by omega) (by omega)]
   have hno := Zy5 (nbF_no (allB ops) (ops.size - p) p j (by omega) h2)
   have hoj := Array.getElem?_eq_getElem (show j < ops.size by omega)
   rcases ht.step j _ (by omega) hoj with h | h | h
   ·rw [hno.1] at h; exact absurd h.1 (by simp)
   ·rw [hno.2] at h; exact absurd h.2.1 (by simp)
   ·rw [h.2.2.1]
    unfold dP
    rw [if_pos (by omega),hoj]
    rfl
theorem Zrc (ht : Trace P base ops ss Ls vs ops.size) {p : Nat} (hp : p ≤ ops.size) : ∀ m j,m + j = nb ops p → p ≤ j → ∃ X,Ls (nb ops p) = Ls j ++ X ∧ ∀ B,B ∈ X → B.ok
 | 0,j,h,_ => ⟨[],by rw [← h,Nat.zero_add,List.append_nil],fun B hB => by cases hB⟩
 | m + 1,j,h,hpj => by
  have hle : nb ops p ≤ ops.size := by have := nbF_le (allB ops) (ops.size - p) p; unfold nb; omega
  obtain ⟨X,hX,hXo⟩ := Zrc ht hp m (j + 1) (by omega) (by omega)
  have hno := Zy5 (nbF_no (allB ops) (ops.size - p) p j hpj (by unfold nb at h; omega))
  have hoj := Array.getElem?_eq_getElem (show j < ops.size by omega)
  rcases ht.step j _ (by omega) hoj with h | h | ⟨_,_,_,h⟩
  ·rw [hno.1] at h; exact absurd h.1 (by simp)
  ·rw [hno.2] at h; exact absurd h.2.1 (by simp)
  ·rcases h with ⟨_,_,⟨h1,_⟩ | ⟨B,hB,h1,_⟩⟩ | ⟨_,_,h1⟩
   ·exact ⟨X,by rw [hX,h1],hXo⟩
   ·exact ⟨B :: X,by rw [hX,h1,List.append_assoc]; rfl,fun C hC => by
     rcases List.mem_cons.1 hC with rfl | hC
     ·exact hB
     ·exact hXo C hC⟩
   ·exact ⟨X,by rw [hX,h1],hXo⟩
theorem Mem.pad {B0 : Nat} {w0 : World} {ok : Nat → Prop} {E : Env} {L : Heap} {w : World} (h : Mem B0 w0 ok E L w) {X : Heap} (hX : ∀ B,B ∈ X → B.ok) : Mem B0 w0 ok E (L ++ X) w := by
 refine ⟨h.below,h.okb,h.inj,fun id b m he => ?_,h.b0,fun id B hi => ?_,h.gl,fun id l hy => ?_,h.yinj,h.yok⟩
 ·obtain ⟨h0,c,e,B,hb,hs,h1,hB,hc⟩ := h.loc id b m he
  exact ⟨h0,c,e,B,hb,hs,h1,by rw [List.getElem?_append_left (h.idlt he)]; exact hB,hc⟩
 ·by_cases hlt : id < L.length
  ·rw [List.getElem?_append_left hlt] at hi; exact h.wf id B hi
  ·rw [List.getElem?_append_right (by omega)] at hi
   exact hX B (List.mem_of_getElem? hi)
 ·obtain ⟨h0,o,B,hl,hB,ho⟩ := h.obj id l hy
  exact ⟨h0,o,B,hl,by rw [List.getElem?_append_left (h.yidlt hy)]; exact hB,ho⟩
structure DInv (P : Program) (base : Own) (B0 : Nat) (w0 : World) (ok0 : Nat → Prop) (E0 : Env) (w1 : World) (ss : Nat → List AV) (Ls : Nat → Heap) (ops : Array Oper) (vs : Nat → AV) (ds : List Deferred) (p : Nat) (listed : Array Bool) (E : Env) (ok : Nat → Prop) (a : Act) (w : World) : Prop where
 mem : Mem B0 w0 ok E (Ls (nb ops p)) w
 slr : ∀ (t : Nat) c,(stS (dP ops p) vs (ss p) listed ops.size)[t]? = some c → (∀ i,i < p → listed.getD i false = false → dP ops 0 i ≠ some t) → Rep E w ok (a.tmps.getD t undef) c
 size : a.tmps.size = (ss 0).length
 defers : a.defers = ds
 lsize : listed.size = ops.size
 closed : Closed ops listed
 le : p ≤ ops.size
 low : ∀ i,i < p → listed.getD i false = true ∨ (lateB ops i = true ∧ ∀ k,i < k → k < p → barB ops k = false)
 high : ∀ i,nb ops p ≤ i → listed.getD i false = false
 grow : ∀ j B,p ≤ j → j < nb ops p → listed.getD j false = false → Ls (j + 1) = Ls j ++ [B] → E (Ls j).length = none ∧ E.y (Ls j).length = none
 step : Step B0 base E0 w1 ok0 E w ok
theorem Z1lh (hback : backOk ops = true) (hpair : Z14f ops (ancs ops.toList []) = true) (ht : Trace P base ops ss Ls vs ops.size) {B0 : Nat} {w0 : World} {ok0 : Nat → Prop} {w1 : World} {E0 : Env} {ds : List Deferred} {ro : Option Nat} {Q : Exit → Act → World → Prop} (hdo : ∀ w,KeptIn w1 w → DefOk B0 w ds)
  (hQ : ∀ E ok a w,Mem B0 w0 ok E (Ls ops.size) w → SlRep E w ok a.tmps (ss ops.size) → a.tmps.size = (ss 0).length → a.defers = ds → Step B0 base E0 w1 ok0 E w ok → Q .normal a w) :
  ∀ (fuel : Nat) (p : Nat) (listed : Array Bool) (E : Env) (ok : Nat → Prop) (a : Act) (w : World),(unl ops listed).length ≤ fuel → DInv P base B0 w0 ok0 E0 w1 ss Ls ops vs ds p listed E ok a w → wpAnyIn (Fw ro) 0 P .any ops Q fuel listed a w := by
 have nble : ∀ p,p ≤ ops.size → nb ops p ≤ ops.size := fun p hp => by have := nbF_le (allB ops) (ops.size - p) p; unfold nb; omega
 have nbge : ∀ p,p ≤ nb ops p := fun p => nbF_ge _ _ _
 have done : ∀ {p : Nat} {listed : Array Bool} {E : Env} {ok : Nat → Prop} {a : Act} {w : World},(∀ j,j < ops.size → listed.getD j false = true) → DInv P base B0 w0 ok0 E0 w1 ss Ls ops vs ds p listed E ok a w → Q .normal a w := fun {p listed E ok a w} hall hI => by
  have hn : nb ops p = ops.size := by
   have := nble p hI.le
   by_cases hlt : nb ops p < ops.size
   ·have := hI.high _ (Nat.le_refl _)
    rw [hall _ hlt] at this; cases this
   ·omega
  refine hQ E ok a w (by rw [← hn]; exact hI.mem) ?_ hI.size hI.defers hI.step
  intro t c hc
  refine hI.slr t c ?_ (fun i hi hl => by rw [hall i (by have := hI.le; omega)] at hl; cases hl)
  rw [st_lex (n := ops.size) (fun i t hi _ => hall i hi) ops.size (Nat.le_refl _) (fun i hi _ => hall i hi),lex_ss ht ops.size hI.le (by omega) (Nat.le_refl _)]
  exact hc
 have full : ∀ {listed : Array Bool},listed.size = ops.size → Region.ready .any ops listed = [] → ∀ j,j < ops.size → listed.getD j false = true := by
  intro listed hs hr j
  induction j using Nat.strongRecOn with
  | _ j ih =>
   intro hj
   cases hl : listed.getD j false with
   | true => rfl
   | false =>
    exfalso
    have hun : listed.getD j true = false := by rw [Zmv (by omega)]; exact hl
    have : j ∈ Region.ready .any ops listed := by
     refine mem_ready.2 ⟨hun,ops[j],Array.getElem?_eq_getElem hj,fun e he hb => ?_⟩
     have hlt : e.on < j := by
      have := List.all_eq_true.1 hback j (List.mem_range.2 hj)
      rw [Array.getElem?_eq_getElem hj] at this
      simp only [Array.all_eq_true'] at this
      simpa [hb] using this e he
     exact ih e.on hlt (by omega)
    rw [hr] at this; cases this
 intro fuel
 induction fuel with
 | zero =>
  intro p listed E ok a w hu hI
  have hall : ∀ j,j < ops.size → listed.getD j false = true := fun j hj => by
   cases hl : listed.getD j false with
   | true => rfl
   | false =>
    have : j ∈ unl ops listed := List.mem_filter.2 ⟨List.mem_range.2 hj,by rw [Zmv (by rw [hI.lsize]; exact hj),hl]; rfl⟩
    have h0 : unl ops listed = [] := List.eq_nil_of_length_eq_zero (by omega)
    rw [h0] at this; cases this
  refine ⟨?_,done hall hI⟩
  apply List.eq_nil_iff_forall_not_mem.2
  intro i hi
  obtain ⟨hun,o,ho,_⟩ := mem_ready.1 hi
  have his := (Array.getElem?_eq_some_iff.1 ho).1
  rw [Zmv (by rw [hI.lsize]; exact his),hall i his] at hun
  cases hun
 | succ fuel ih =>
  intro p listed E ok a w hu hI
  refine ⟨fun hr => done (full hI.lsize hr) hI,fun j hj => ?_⟩
  obtain ⟨hun,o,ho,hedge⟩ := mem_ready.1 hj
  have hjs := (Array.getElem?_eq_some_iff.1 ho).1
  have hjl : j < listed.size := by rw [hI.lsize]; exact hjs
  have hun' : listed.getD j false = false := by rw [← Zmv hjl]; exact hun
  have hcj : ClosedAt ops listed j := fun oj hoj e he hb => by
   have : oj = o := Option.some.inj (hoj.symm.trans ho)
   subst this
   exact hedge e he hb
  have hclosed' : Closed ops (listed.setIfInBounds j true) := by
   intro i hi oi hoi e he hb
   have mono : ∀ q,listed.getD q false = true → (listed.setIfInBounds j true).getD q false = true := fun q hq => by
    by_cases hqj : q = j
    ·subst hqj; simp [Array.getD_eq_getD_getElem?,hjl]
    ·rw [Zh hqj]; exact hq
   by_cases hij : i = j
   ·subst hij; exact mono _ (hcj oi hoi e he hb)
   ·rw [Zh hij] at hi
    exact mono _ (hI.closed i hi oi hoi e he hb)
  have hnow : (listed.setIfInBounds j true).getD j false = true := by simp [Array.getD_eq_getD_getElem?,hjl]
  by_cases hpj : p ≤ j
  case neg =>
   have hjp : j < p := by omega
   rcases hI.low j hjp with h | ⟨hlt,hnf⟩
   ·rw [hun'] at h; cases h
   obtain ⟨o',ho',hlo,hgn,hb0,hq1,hq2⟩ := Zvp hlt
   rw [ho] at ho'; cases ho'
   obtain ⟨e1,e2,hnd,hq⟩ := ht.late j o hjs ho hlt
   have hslen : ∀ i,i ≤ ops.size → a.tmps.size = (ss i).length := fun i hi => by rw [hI.size,ht.len i hi]
   have keep : ∀ (t : Nat),(∀ (k : Nat) x,j < k → ops[k]? = some x → x.dst ≠ some t) → ∀ m,j + 1 + m ≤ p → (ss (j + 1 + m))[t]? = (ss (j + 1))[t]? := fun t hw m => by
    induction m with
    | zero => intro _; rfl
    | succ m ihm =>
     intro hm
     have hle := hI.le
     have hok := Array.getElem?_eq_getElem (show j + 1 + m < ops.size by omega)
     have hne := hw (j + 1 + m) _ (by omega) hok
     rcases ht.step (j + 1 + m) _ (by omega) hok with h | h | h
     ·rw [hnf (j + 1 + m) (by omega) (by omega)] at h; exact absurd h.1 (by simp)
     ·rw [show j + 1 + (m + 1) = j + 1 + m + 1 by omega,h.2.2.1,Z47 hne]; exact ihm (by omega)
     ·rw [show j + 1 + (m + 1) = j + 1 + m + 1 by omega,h.2.2.1,Z47 hne]; exact ihm (by omega)
   have keepp : ∀ (t : Nat),(∀ (k : Nat) x,j < k → ops[k]? = some x → x.dst ≠ some t) → (ss p)[t]? = (ss (j + 1))[t]? := fun t hw => by
    have := keep t hw (p - (j + 1)) (by omega)
    rwa [show j + 1 + (p - (j + 1)) = p by omega] at this
   have stp : ∀ (t : Nat),(∀ (k : Nat) x,j < k → ops[k]? = some x → x.dst ≠ some t) → ∀ l2 : Array Bool,(stS (dP ops p) vs (ss p) l2 ops.size)[t]? = (ss p)[t]? := fun t hw l2 => Z1ew (fun i _ hd => by
    obtain ⟨h1,x,hx,hxd⟩ := Zmw hd
    exact hw i x (by omega) hx hxd) _
   have hslot : ∀ t c,t ∈ o.looksAt ops → (ss j)[t]? = some c → Rep E w ok (a.tmps.getD t undef) c := fun t c htl hc => by
    refine hI.slr t c ?_ (fun i _ hli hd => ?_)
    ·rw [stp t (fun k x hk hx => hq1 k x (by omega) hx t htl),keepp t (fun k x hk hx => hq1 k x (by omega) hx t htl),e1,Z47 (hq1 j o (Nat.le_refl _) ho t htl)]; exact hc
    ·obtain ⟨_,x,hx,hxd⟩ := Zmw hd
     by_cases hij : i < j
     ·rcases Zp7 hpair hij hx ho with h | h
      ·rw [Z3v hback hI.closed j hcj h hjs] at hli; cases hli
      ·exact absurd htl ((Oper.apart_spec h).1 t hxd)
     ·exact hq1 i x (by omega) hx t htl hxd
   have hops : ∀ x,x ∈ o.op.operands → Rep E w ok (a.eval x) (Ev.ev (ss j) x) := fun x hx => by
    cases x with
    | tmp t =>
     simp only [Act.eval,Ev.ev]
     cases hc : (ss j)[t]? with
     | none => simp [List.getD,hc]; exact .junk
     | some c =>
      simp only [List.getD,hc,Option.getD_some]
      exact hslot t c (List.mem_append_left _ (List.mem_filterMap.2 ⟨.tmp t,by simpa using hx,rfl⟩)) hc
    | const v => exact Z15a v
    | global g =>
     simp only [Act.eval,Ev.ev]
     cases hg : Gl g with
     | none => exact .junk
     | some cs => exact hI.mem.gl.rep hg
    | func f => exact .d (RepD.fn (vs := []) (cs := []) rfl (fun i x d hx => by simp at hx))
   unfold wpOpIn
   simp only [ho]
   rw [if_pos (Zmu hgn _)]
   refine hq (Ls (nb ops p)) hnd ⟨hI.mem,hops⟩ _ Q fun ok' u w' _ hM g ext hv => ?_
   have hnbp := nbge p
   refine ih p _ E ok' _ w' (by have := unl_lt hjs hI.lsize hun; omega) ⟨hM,fun t c hc hh => ?_,by rw [Ziy]; exact hI.size,by rw [Z4v]; exact hI.defers,by simp [hI.lsize],hclosed',hI.le,fun i hi => ?_,fun i hi => ?_,fun i B hi hi2 hl hB => ?_,hI.step.trans (.of g ext)⟩
   ·by_cases hd : o.dst = some t
    ·have hw : ∀ (k : Nat) x,j < k → ops[k]? = some x → x.dst ≠ some t := fun k x hk hx => hq2 k x (by omega) hx t hd
     rw [stp t hw,keepp t hw,e1] at hc
     have hct := Z1ey hd hc
     subst hct
     have htl : t < a.tmps.size := by
      rw [hslen j (by omega)]
      refine Nat.lt_of_not_le fun hle => ?_
      rw [List.getElem?_eq_none (by rw [Zo]; exact hle)] at hc; cases hc
     rw [put_at hd htl]; exact hv
    ·rw [Z1be hd]
     refine (hI.slr t c ?_ (fun i hi hl he => ?_)).grow g
     ·rw [← hc]
      congr 1
      refine Z1ex (fun i hi => ?_) _
      rw [Zh (fun e => ?_)]
      subst e
      unfold dP at hi
      rw [if_neg (by omega)] at hi
      exact hi rfl
     ·by_cases hij : i = j
      ·subst hij
       obtain ⟨_,x,hx,hxd⟩ := Zmw he
       rw [ho] at hx; cases hx
       exact hd hxd
      ·exact hh i hi (by rw [Zh hij]; exact hl) he
   ·by_cases hij : i = j
    ·rw [hij]; exact .inl hnow
    ·rw [Zh hij]; exact hI.low i hi
   ·rw [Zh (by omega)]; exact hI.high i hi
   ·rw [Zh (by omega)] at hl
    exact hI.grow i B hi hi2 hl hB
  case pos =>
  have hvis : ∀ t,t ∈ o.looksAt ops → ∀ i,i < p → listed.getD i false = false → dP ops 0 i ≠ some t := fun t htl i hi hl hd => by
   obtain ⟨_,x,hx,hxd⟩ := Zmw hd
   rcases Zp7 hpair (show i < j by omega) hx ho with h | h
   ·rw [Z3v hback hI.closed j hcj h hjs] at hl; cases hl
   ·exact absurd htl ((Oper.apart_spec h).1 t hxd)
  have hlook : ∀ t,t ∈ o.looksAt ops → (stS (dP ops p) vs (ss p) listed ops.size)[t]? = (lexS (dP ops p) vs (ss p) j)[t]? := fun t htl => by
   have := Z1bd (d := dP ops p) (vs := vs) (sl := ss p) (listed := listed) (j := j) (t := t) (fun i hij hd => ?_) (fun i hij hd => ?_) ops.size
   ·rw [Nat.min_eq_right (by omega)] at this; exact this
   ·obtain ⟨_,x,hx,hd⟩ := Zmw hd
    rcases Zp7 hpair hij hx ho with h | h
    ·exact Z3v hback hI.closed j hcj h hjs
    ·exact absurd htl ((Oper.apart_spec h).1 t hd)
   ·obtain ⟨_,x,hx,hd⟩ := Zmw hd
    by_cases hij' : i = j
    ·subst hij'; exact hun'
    ·cases hl : listed.getD i false with
     | false => rfl
     | true =>
      exfalso
      have his := (Array.getElem?_eq_some_iff.1 hx).1
      rcases Zp7 hpair (show j < i by omega) ho hx with h | h
      ·have := Z3v hback hI.closed i (hI.closed i hl) h his
       rw [this] at hun'; cases hun'
      ·exact (Oper.apart_spec h).2.2 t hd htl
  have hslen : ∀ i,i ≤ ops.size → a.tmps.size = (ss i).length := fun i hi => by rw [hI.size,ht.len i hi]
  have gw : ∀ {b : Bool},Z7x ops o (ss j) b → (∀ t c,t ∈ o.looksAt ops → (ss j)[t]? = some c → Rep E w ok (a.tmps.getD t undef) c) → Region.wanted o (yielded ops a.tmps) = b := fun hG hsl =>
   hG.wanted (E := E) (w := w) (ok := ok) (hslen j (by omega)) (fun g want x d c hg hx hd hc => by
    have hm : d ∈ o.looksAt ops := by
     refine List.mem_append_right _ ?_
     simp only [hg,hx,Option.bind_some,hd]
     simp
    exact hsl d c hm hc)
  unfold wpOpIn
  simp only [ho]
  cases hbar : barB ops j with
  | true =>
   have hall : ∀ i,i < j → listed.getD i false = true := fun i hi => Z3v hback hI.closed j hcj (Z13r hbar (by omega) hi) hjs
   have hnone : ∀ i,j < i → listed.getD i false = false := fun i hi => by
    cases hl : listed.getD i false with
    | false => rfl
    | true =>
     exfalso
     have his : i < ops.size := by
      rw [← hI.lsize]
      exact Nat.lt_of_not_le fun hh => by simp [Array.getD_eq_getD_getElem?,Array.getElem?_eq_none hh] at hl
     have := Z3v hback hI.closed i (hI.closed i hl) (Z17b hbar his hi) his
     rw [this] at hun'; cases hun'
   have hjn : nb ops p = j := by
    have h1 : nb ops p ≤ j := Nat.le_of_not_lt fun h => by
     have := Zy5 (nbF_no (allB ops) (ops.size - p) p j hpj h)
     rw [hbar] at this; exact absurd this.1 (by simp)
    by_cases h2 : nb ops p < j
    ·have := hI.high _ (Nat.le_refl (nb ops p))
     rw [hall _ h2] at this; cases this
    ·omega
   have hmem := hI.mem
   rw [hjn] at hmem
   have hslj : SlRep E w ok a.tmps (ss j) := by
    have e1 : stS (dP ops p) vs (ss p) listed ops.size = lexS (dP ops p) vs (ss p) j := by
     have e2 : ∀ m,j ≤ m → stS (dP ops p) vs (ss p) listed m = stS (dP ops p) vs (ss p) listed j := fun m => by
      induction m with
      | zero => intro h; congr 1; omega
      | succ m ihm =>
       intro h
       by_cases hm : j = m + 1
       ·rw [hm]
       ·simp only [stS]
        have hu : listed.getD m false = false := by
         by_cases hmj : m = j
         ·rw [hmj]; exact hun'
         ·exact hnone m (by omega)
        rw [hu,if_neg (by simp)]
        exact ihm (by omega)
     rw [e2 ops.size (by omega)]
     exact st_lex (n := j) (fun i t hi _ => hall i hi) j (Nat.le_refl _) (fun i hi _ => hall i hi)
    intro t c hc
    refine hI.slr t c ?_ (fun i hi hl => by rw [hall i (by omega)] at hl; cases hl)
    rw [e1,lex_ss ht j hpj (by omega) (by omega)]
    exact hc
   have hS : Sim B0 w0 ok E ⟨ss j,Ls j⟩ a w := ⟨hmem,hslj,hslen j (by omega),by rw [hI.defers]; exact hdo w hI.step.df⟩
   have hw : ∀ {b : Bool},Z7x ops o (ss j) b → Region.wanted o (yielded ops a.tmps) = b := fun hG => gw hG fun t c _ hc => hslj t c hc
   have hle' : j + 1 ≤ ops.size := hjs
   have hnext : ∀ E' ok' u w' ,Mem B0 w0 ok' E' (Ls (j + 1)) w' → SlRep E' w' ok' (a.put o.dst u).tmps (ss (j + 1)) → Step B0 base E w ok E' w' ok' → wpAnyIn (Fw ro) 0 P .any ops Q fuel (listed.setIfInBounds j true) (a.put o.dst u) w' := fun E' ok' u w' hM hsl hst => by
    obtain ⟨X,hX,hXo⟩ := Zrc ht hle' (nb ops (j + 1) - (j + 1)) (j + 1) (by have := nbge (j + 1); omega) (Nat.le_refl _)
    refine ih (j + 1) _ E' ok' _ w' (by have := unl_lt hjs hI.lsize hun; omega) ⟨by rw [hX]; exact hM.pad hXo,?_,by rw [Ziy]; exact hI.size,by rw [Z4v]; exact hI.defers,by simp [hI.lsize],hclosed',hle',fun i hi => ?_,fun i hi => ?_,fun i B hi hi2 hl hB => ?_,hI.step.trans hst⟩
    ·intro t c hc _
     rw [Z14i fun i hl => ?_] at hc
     ·exact hsl t c hc
     ·unfold dP
      rw [if_neg]
      intro hle
      rw [Zh (by omega),hnone i (by omega)] at hl
      cases hl
    ·by_cases hij : i = j
     ·rw [hij]; exact .inl hnow
     ·rw [Zh hij]; exact .inl (hall i (by omega))
    ·have := nbge (j + 1)
     rw [Zh (by omega)]
     exact hnone i (by omega)
    ·obtain ⟨Y,hY,_⟩ := Zrc ht hle' (nb ops (j + 1) - i) i (by omega) hi
     have hlen : (Ls (j + 1)).length ≤ (Ls i).length := by
      have : ∀ q,j + 1 + q ≤ nb ops (j + 1) → (Ls (j + 1)).length ≤ (Ls (j + 1 + q)).length := fun q => by
       induction q with
       | zero => intro _; exact Nat.le_refl _
       | succ q ihq =>
        intro hq
        have hno := Zy5 (nbF_no (allB ops) (ops.size - (j + 1)) (j + 1) (j + 1 + q) (by omega) (by unfold nb at hq; omega))
        have := nble (j + 1) hle'
        have hoj := Array.getElem?_eq_getElem (show j + 1 + q < ops.size by omega)
        have ih2 := ihq (by omega)
        rcases ht.step (j + 1 + q) _ (by omega) hoj with h | h | ⟨_,_,_,h⟩
        ·rw [hno.1] at h; exact absurd h.1 (by simp)
        ·rw [hno.2] at h; exact absurd h.2.1 (by simp)
        ·rcases h with ⟨_,_,⟨h1,_⟩ | ⟨B,_,h1,_⟩⟩ | ⟨_,_,h1⟩
         ·rw [show j + 1 + (q + 1) = j + 1 + q + 1 by omega,h1]; exact ih2
         ·rw [show j + 1 + (q + 1) = j + 1 + q + 1 by omega,h1,List.length_append]; omega
         ·rw [show j + 1 + (q + 1) = j + 1 + q + 1 by omega,h1]; exact ih2
      have := this (i - (j + 1)) (by omega)
      rwa [show j + 1 + (i - (j + 1)) = i by omega] at this
     refine ⟨?_,?_⟩
     ·cases he : E' (Ls i).length with
      | none => rfl
      | some x => obtain ⟨b,m⟩ := x; have := hM.idlt he; omega
     ·cases he : E'.y (Ls i).length with
      | none => rfl
      | some l => have := hM.yidlt he; omega
   rcases ht.step j o hjs ho with ⟨_,h⟩ | ⟨hb,_⟩ | ⟨hb,_⟩
   ·rcases h with ⟨hG,hnd,sl',v,hop,hss⟩ | ⟨hG,hss,hL⟩
    ·rw [if_pos (hw hG)]
     refine hop.2 hnd hS _ Q fun ok' E' u w' hM hv hsl hst => ?_
     refine hnext E' ok' u w' hM ?_ hst
     rw [hss]
     exact hsl.put (by rw [hslen j (by omega),hop.1]) hv o.dst
    ·rw [if_neg (by rw [hw hG]; simp)]
     refine ⟨fun _ _ => trivial,hnext E ok undef w (by rw [hL]; exact hmem) ?_ (.refl _ _ _ _ _)⟩
     rw [hss]
     exact hslj.put (hslen j (by omega)) Zfw o.dst
   ·rw [hbar] at hb; cases hb
   ·rw [hbar] at hb; cases hb
  | false =>
   have hnbb : nb ops p < ops.size → allB ops (nb ops p) = true := fun hlt => Z1jx (allB ops) (ops.size - p) p (by have := hI.le; unfold nb at hlt; omega)
   have hslot : ∀ t c,t ∈ o.looksAt ops → (ss j)[t]? = some c → Rep E w ok (a.tmps.getD t undef) c := fun t c htl hc => by
    have e := hlook t htl
    by_cases hjn : j ≤ nb ops p
    ·have hnbn := nble p hI.le
     rw [lex_ss ht j hpj hjn (by omega),hc] at e
     exact hI.slr t c e (hvis t htl)
    ·exfalso
     have hb := hnbb (by omega)
     have hb2 : ((ancs ops.toList []).getD j 0).testBit (nb ops p) = true := by
      unfold allB at hb
      rcases Bool.or_eq_true_iff.1 hb with h | h
      ·exact Z17b h hjs (by omega)
      ·obtain ⟨_,_,_,_,_,h5⟩ := Zvq h
       exact h5 j hjs (by omega)
     have := Z3v hback hI.closed j hcj hb2 hjs
     rw [hI.high _ (Nat.le_refl _)] at this; cases this
   have hops : ∀ x,x ∈ o.op.operands → Rep E w ok (a.eval x) (Ev.ev (ss j) x) := fun x hx => by
    cases x with
    | tmp t =>
     simp only [Act.eval,Ev.ev]
     cases hc : (ss j)[t]? with
     | none => simp [List.getD,hc]; exact .junk
     | some c =>
      simp only [List.getD,hc,Option.getD_some]
      exact hslot t c (List.mem_append_left _ (List.mem_filterMap.2 ⟨.tmp t,by simpa using hx,rfl⟩)) hc
    | const v => exact Z15a v
    | global g =>
     simp only [Act.eval,Ev.ev]
     cases hg : Gl g with
     | none => exact .junk
     | some cs => exact hI.mem.gl.rep hg
    | func f => exact .d (RepD.fn (vs := []) (cs := []) rfl (fun i x d hx => by simp at hx))
   cases hnear : nearB ops j with
   | true =>
    obtain ⟨o',ho',_,hgn,hbef,hbeh⟩ := Zvq hnear
    rw [ho] at ho'; cases ho'
    have hall : ∀ i,i < j → listed.getD i false = true ∨ lateB ops i = true := fun i hi => (hbef i (by omega) hi).imp (fun h => Z3v hback hI.closed j hcj h hjs) id
    have hnone : ∀ i,j < i → listed.getD i false = false := fun i hi => by
     cases hl : listed.getD i false with
     | false => rfl
     | true =>
      exfalso
      have his : i < ops.size := by
       rw [← hI.lsize]
       exact Nat.lt_of_not_le fun hh => by simp [Array.getD_eq_getD_getElem?,Array.getElem?_eq_none hh] at hl
      have := Z3v hback hI.closed i (hI.closed i hl) (hbeh i his hi) his
      rw [this] at hun'; cases hun'
    have hjn : nb ops p = j := by
     have h1 : nb ops p ≤ j := Nat.le_of_not_lt fun h => by
      have := Zy5 (nbF_no (allB ops) (ops.size - p) p j hpj h)
      rw [hnear] at this; exact absurd this.2 (by simp)
     by_cases h2 : nb ops p < j
     ·have hh := hI.high _ (Nat.le_refl (nb ops p))
      have hb := hnbb (by omega)
      rcases hall _ h2 with h | h
      ·rw [hh] at h; cases h
      ·obtain ⟨_,_,_,_,hb0,_⟩ := Zvp h
       unfold allB at hb
       rw [hb0,Z1g9 h] at hb; cases hb
     ·omega
    have hmem := hI.mem
    rw [hjn] at hmem
    rcases ht.step j o hjs ho with ⟨hb,_⟩ | ⟨_,_,hss,hnd,t,b,x,hop,hst⟩ | ⟨_,hb,_⟩
    ·rw [hbar] at hb; cases hb
    ·rw [if_pos (Zmu hgn _)]
     obtain ⟨L',hL',hs⟩ := Z14g (hst (fun _ L' => some L'))
     cases hL'
     obtain ⟨w',hr,hM,g⟩ := hs hmem (hops b (by rw [hop]; simp [Op.operands])) (hops x (by rw [hop]; simp [Op.operands]))
     have hle' : j + 1 ≤ ops.size := hjs
     obtain ⟨X,hX,hXo⟩ := Zrc ht hle' (nb ops (j + 1) - (j + 1)) (j + 1) (by have := nbge (j + 1); omega) (Nat.le_refl _)
     refine Z179 (w' := w') hnd (by simp [execOp,hop,hr]) ?_
     refine ih (j + 1) _ E ok _ w' (by have := unl_lt hjs hI.lsize hun; omega) ⟨by rw [hX]; exact hM.pad hXo,fun s c hc hh => ?_,by rw [Ziy]; exact hI.size,by rw [Z4v]; exact hI.defers,by simp [hI.lsize],hclosed',hle',fun i hi => ?_,fun i hi => ?_,fun i B hi hi2 hl hB => ?_,hI.step.trans (.of' g)⟩
     ·rw [Z14i fun i hl => ?_] at hc
      ·rw [hss] at hc
       by_cases hd : o.dst = some s
       ·have hct := Z1ey hd hc
        subst hct
        have htl : s < a.tmps.size := by
         rw [hslen j (by omega)]
         refine Nat.lt_of_not_le fun hle => ?_
         rw [List.getElem?_eq_none (by rw [Zo]; exact hle)] at hc; cases hc
        rw [put_at hd htl]; exact Zfw
       ·rw [Z1be hd]
        rw [Z47 hd] at hc
        have hvs : ∀ i,i < j → dP ops 0 i = some s → listed.getD i false = true := fun i hi hdi => by
         cases hl : listed.getD i false with
         | true => rfl
         | false => exact absurd hdi (hh i (by omega) (by rw [Zh (by omega)]; exact hl))
        have hd0 : ∀ i,dP ops p i = some s → dP ops 0 i = some s := fun i h => by
         obtain ⟨_,y,hy,hyd⟩ := Zmw h
         unfold dP
         rw [if_pos (by omega),hy]; exact hyd
        refine (hI.slr s c ?_ (fun i hi hl hdi => ?_)).grow g
        ·have := Z1bd (d := dP ops p) (vs := vs) (sl := ss p) (listed := listed) (j := j) (t := s) (fun i hij hdi => hvs i hij (hd0 i hdi)) (fun i hij hdi => by
          by_cases hij' : i = j
          ·subst hij'; exact hun'
          ·exact hnone i (by omega)) ops.size
         rw [Nat.min_eq_right (by omega),lex_ss ht j hpj (by omega) (by omega)] at this
         rw [this]; exact hc
        ·rw [hvs i (by omega) hdi] at hl; cases hl
      ·unfold dP
       rw [if_neg]
       intro hle
       rw [Zh (by omega),hnone i (by omega)] at hl
       cases hl
     ·by_cases hij : i = j
      ·rw [hij]; exact .inl hnow
      ·rw [Zh hij]
       rcases hall i (by omega) with h | h
       ·exact .inl h
       ·cases hl : listed.getD i false with
        | true => exact .inl rfl
        | false =>
         refine .inr ⟨h,fun k hk1 hk2 => ?_⟩
         by_cases hkj : k = j
         ·subst hkj; exact hbar
         ·by_cases hkp : k < p
          ·rcases hI.low i (by omega) with h' | ⟨_,h'⟩
           ·rw [hl] at h'; cases h'
           ·exact h' k hk1 hkp
          ·exact (Zy5 (nbF_no (allB ops) (ops.size - p) p k (by omega) (by unfold nb at hjn; omega))).1
     ·have := nbge (j + 1)
      rw [Zh (by omega)]
      exact hnone i (by omega)
     ·have hlen : (Ls (j + 1)).length ≤ (Ls i).length := by
       have : ∀ q,j + 1 + q ≤ nb ops (j + 1) → (Ls (j + 1)).length ≤ (Ls (j + 1 + q)).length := fun q => by
        induction q with
        | zero => intro _; exact Nat.le_refl _
        | succ q ihq =>
         intro hq
         have hno := Zy5 (nbF_no (allB ops) (ops.size - (j + 1)) (j + 1) (j + 1 + q) (by omega) (by unfold nb at hq; omega))
         have := nble (j + 1) hle'
         have hoj := Array.getElem?_eq_getElem (show j + 1 + q < ops.size by omega)
         have ih2 := ihq (by omega)
         rcases ht.step (j + 1 + q) _ (by omega) hoj with h | h | ⟨_,_,_,h⟩
         ·rw [hno.1] at h; exact absurd h.1 (by simp)
         ·rw [hno.2] at h; exact absurd h.2.1 (by simp)
         ·rcases h with ⟨_,_,⟨h1,_⟩ | ⟨B,_,h1,_⟩⟩ | ⟨_,_,h1⟩
          ·rw [show j + 1 + (q + 1) = j + 1 + q + 1 by omega,h1]; exact ih2
          ·rw [show j + 1 + (q + 1) = j + 1 + q + 1 by omega,h1,List.length_append]; omega
          ·rw [show j + 1 + (q + 1) = j + 1 + q + 1 by omega,h1]; exact ih2
       have := this (i - (j + 1)) (by omega)
       rwa [show j + 1 + (i - (j + 1)) = i by omega] at this
      refine ⟨?_,?_⟩
      ·cases he : E (Ls i).length with
       | none => rfl
       | some x => obtain ⟨b,m⟩ := x; have := hM.idlt he; omega
      ·cases he : E.y (Ls i).length with
       | none => rfl
       | some l => have := hM.yidlt he; omega
    ·rw [hnear] at hb; cases hb
   | false =>
   have hjn : j < nb ops p := by
    refine Nat.lt_of_not_le fun h => ?_
    have hb := hnbb (by omega)
    unfold allB at hb
    by_cases hq : nb ops p = j
    ·rw [hq,hbar,hnear] at hb; cases hb
    ·have hb2 : ((ancs ops.toList []).getD j 0).testBit (nb ops p) = true := by
      rcases Bool.or_eq_true_iff.1 hb with h | h
      ·exact Z17b h hjs (by omega)
      ·obtain ⟨_,_,_,_,_,h5⟩ := Zvq h
       exact h5 j hjs (by omega)
     have := Z3v hback hI.closed j hcj hb2 hjs
     rw [hI.high _ (Nat.le_refl _)] at this; cases this
   have hnbn := nble p hI.le
   obtain ⟨X,hX,hXo⟩ := Zrc ht hI.le (nb ops p - j) j (by omega) hpj
   have hadd : stS (dP ops p) vs (ss p) (listed.setIfInBounds j true) ops.size = setSl (stS (dP ops p) vs (ss p) listed ops.size) o.dst (vs j) := by
    have := Z1av (d := dP ops p) (vs := vs) (sl := ss p) hjl hun' (fun i t hij hl hd hxd => by
     obtain ⟨_,x,hx,hxd⟩ := Zmw hxd
     obtain ⟨_,y,hy,hd⟩ := Zmw hd
     rw [ho] at hy; cases hy
     have his := (Array.getElem?_eq_some_iff.1 hx).1
     rcases Zp7 hpair hij ho hx with h | h
     ·have := Z3v hback hI.closed i (hI.closed i hl) h his
      rw [this] at hun'; cases hun'
     ·exact (Oper.apart_spec h).2.1 t hd hxd) ops.size
    rw [if_neg (by omega)] at this
    rw [this]
    congr 1
    unfold dP
    rw [if_pos hpj,ho]
    rfl
   have hw : ∀ {b : Bool},Z7x ops o (ss j) b → Region.wanted o (yielded ops a.tmps) = b := fun hG => gw hG hslot
   have hnext : ∀ E' ok' u w',Mem B0 w0 ok' E' (Ls (nb ops p)) w' → Grow E w ok E' w' ok' → (∀ b,ok' b → ok b ∨ B0 ≤ b) → Rep E' w' ok' u (vs j) → (∀ i B,p ≤ i → i < nb ops p → i ≠ j → listed.getD i false = false → Ls (i + 1) = Ls i ++ [B] → E' (Ls i).length = none ∧ E'.y (Ls i).length = none) →
     wpAnyIn (Fw ro) 0 P .any ops Q fuel (listed.setIfInBounds j true) (a.put o.dst u) w' := fun E' ok' u w' hM g ext hv hgr => by
    refine ih p _ E' ok' _ w' (by have := unl_lt hjs hI.lsize hun; omega) ⟨hM,?_,by rw [Ziy]; exact hI.size,by rw [Z4v]; exact hI.defers,by simp [hI.lsize],hclosed',hI.le,fun i hi => ?_,fun i hi => ?_,fun i B hi hi2 hl hB => ?_,hI.step.trans (.of g ext)⟩
    ·intro t c hc hh
     rw [hadd] at hc
     by_cases hd : o.dst = some t
     ·have hct := Z1ey hd hc
      subst hct
      have htl : t < a.tmps.size := by
       rw [hslen p hI.le]
       refine Nat.lt_of_not_le fun hle => ?_
       rw [List.getElem?_eq_none (by rw [Zo,Zby]; exact hle)] at hc; cases hc
      rw [put_at hd htl]; exact hv
     ·rw [Z1be hd]
      rw [Z47 hd] at hc
      exact (hI.slr t c hc (fun i hi hl => hh i hi (by rw [Zh (by omega)]; exact hl))).grow g
    ·rw [Zh (by omega)]; exact hI.low i hi
    ·rw [Zh (by omega)]; exact hI.high i hi
    ·by_cases hij : i = j
     ·rw [hij,hnow] at hl; cases hl
     ·rw [Zh hij] at hl
      exact hgr i B hi hi2 hij hl hB
   have hsame : ∀ i B,p ≤ i → i < nb ops p → i ≠ j → listed.getD i false = false → Ls (i + 1) = Ls i ++ [B] → E (Ls i).length = none ∧ E.y (Ls i).length = none := fun i B h1 h2 _ h3 h4 => hI.grow i B h1 h2 h3 h4
   rcases ht.step j o hjs ho with ⟨hb,_⟩ | ⟨_,hb,_⟩ | ⟨_,_,_,h⟩
   ·rw [hbar] at hb; cases hb
   ·rw [hnear] at hb; cases hb
   ·rcases h with ⟨hG,hnd,⟨hL,hq⟩ | ⟨B,hBo,hL,hg⟩⟩ | ⟨hG,hv,hL⟩
    ·rw [if_pos (hw hG)]
     have hm := hI.mem
     rw [hX] at hm
     refine hq X hnd ⟨hm,hops⟩ _ Q fun ok' u w' _ hM g ext hv => ?_
     rw [← hX] at hM
     exact hnext E ok' u w' hM g ext hv hsame
    ·rw [if_pos (hw hG)]
     obtain ⟨Y,hY,_⟩ := Zrc ht hI.le (nb ops p - (j + 1)) (j + 1) (by omega) (by omega)
     have hat : (Ls (nb ops p))[(Ls j).length]? = some B := by rw [hY,hL,List.append_assoc]; simp
     obtain ⟨g1,g2⟩ := hI.grow j B hpj hjn hun' hL
     refine hg hnd ⟨hI.mem,hops⟩ g1 g2 hat _ Q fun E' u w' _ hM g h1 h2 hv => ?_
     refine hnext E' ok u w' hM g (fun _ h => .inl h) hv fun i B' hi hi2 hij hl hB' => ?_
     have hne : (Ls i).length ≠ (Ls j).length := by
      have mono : ∀ a b,p ≤ a → a ≤ b → b ≤ nb ops p → (Ls a).length ≤ (Ls b).length := fun x y hx hxy hy => by
       have hinc : ∀ q,x + q ≤ nb ops p → (Ls x).length ≤ (Ls (x + q)).length := fun q => by
        induction q with
        | zero => intro _; exact Nat.le_refl _
        | succ q ihq =>
         intro hq
         have hno := Zy5 (nbF_no (allB ops) (ops.size - p) p (x + q) (by omega) (by unfold nb at hq; omega))
         have hoj := Array.getElem?_eq_getElem (show x + q < ops.size by omega)
         have ih2 := ihq (by omega)
         rcases ht.step (x + q) _ (by omega) hoj with h | h | ⟨_,_,_,h⟩
         ·rw [hno.1] at h; exact absurd h.1 (by simp)
         ·rw [hno.2] at h; exact absurd h.2.1 (by simp)
         ·rcases h with ⟨_,_,⟨h1,_⟩ | ⟨B,_,h1,_⟩⟩ | ⟨_,_,h1⟩
          ·rw [show x + (q + 1) = x + q + 1 by omega,h1]; exact ih2
          ·rw [show x + (q + 1) = x + q + 1 by omega,h1,List.length_append]; omega
          ·rw [show x + (q + 1) = x + q + 1 by omega,h1]; exact ih2
       have := hinc (y - x) (by omega)
       rwa [show x + (y - x) = y by omega] at this
      rcases Nat.lt_or_gt_of_ne hij with h | h
      ·have h1 := mono (i + 1) j (by omega) (by omega) (by omega)
       rw [hB',List.length_append] at h1
       simp at h1; omega
      ·have h1 := mono (j + 1) i (by omega) (by omega) (by omega)
       rw [hL,List.length_append] at h1
       simp at h1; omega
     obtain ⟨q1,q2⟩ := hI.grow i B' hi hi2 hl hB'
     exact ⟨by rw [h1 _ hne]; exact q1,by rw [h2]; exact q2⟩
    ·rw [if_neg (by rw [hw hG]; simp)]
     exact ⟨fun _ _ => trivial,hnext E ok undef w hI.mem (Grow.refl _ _ _) (fun _ h => .inl h) (by rw [hv]; exact Zfw) hsame⟩
end
theorem Z1iy (hsp : SpOk P sp) (hm : P.follows .mixedOrders = true) {or : Orc R} (hor : OrOk P or) (hd : drawOk sp ops = true) {st : St} {k : St → Option R} {r : R} (h : opsK P sp base (barsOf ops) or ops ops.toList st k = some r) :
  ∃ st',k st' = some r ∧ st'.sl.length = st.sl.length ∧ ∀ {ro B0 w0 ok E a w},Sim B0 w0 ok E st a w → ∀ (id : Nat) (Q : Exit → Act → World → Prop),
   (∀ ok' E' a' w',Sim B0 w0 ok' E' st' a' w' → Step B0 base E w ok E' w' ok' → a'.defers = a.defers → Q .normal a' w') → (Code.region id ops true).wpIn (Fw ro) 0 P Q a w := by
 unfold drawOk at hd
 simp only [Bool.and_eq_true] at hd
 obtain ⟨⟨hback,hpair⟩,hall⟩ := hd
 have hok : okOps sp ops := fun j o ho => by
  have := List.all_eq_true.1 hall j (List.mem_range.2 (Array.getElem?_eq_some_iff.1 ho).1)
  rw [ho] at this
  simp only [Bool.or_eq_true] at this
  rcases this with h | h | h | h
  ·exact .inl h
  ·exact .inr (.inl h)
  ·exact .inr (.inr (.inl h))
  ·exact .inr (.inr (.inr h))
 obtain ⟨ss,Ls,vs,h0,hL0,ht,hk⟩ := Z1dy (base := base) hsp hor hok ops.toList 0 (fun _ => st.sl) (fun _ => st.L) (fun _ => .junk) (fun j => by simp) ⟨fun j hj => rfl,fun j o hj => by omega,fun j o hj => by omega⟩ (by omega) (by simpa using h)
 refine ⟨_,hk,by rw [ht.len _ (Nat.le_refl _),h0],fun {ro B0 w0 ok E a w} hS id Q hQ => wpIn_region_any hm ?_⟩
 have hun : ∀ i,(Array.replicate ops.size false).getD i false = false := fun i => by
  simp only [Array.getD_eq_getD_getElem?,Array.getElem?_replicate]
  split <;> simp
 obtain ⟨X,hX,hXo⟩ := Zrc ht (Nat.zero_le _) (nb ops 0) 0 (by omega) (Nat.le_refl _)
 have hmem : Mem B0 w0 ok E (Ls 0) w.drew := by rw [hL0]; exact hS.mem.drew
 refine Z1lh hback hpair ht (B0 := B0) (w0 := w0) (ok0 := ok) (w1 := w) (E0 := E) (ds := a.defers) (fun w' hk => hS.defers.keep hk) (fun E' ok' a' w' hM hsl hsz hdf g => ?_) ops.size 0 _ E ok a _ (by unfold unl; exact Nat.le_trans (List.length_filter_le _ _) (by simp))
  ⟨by rw [hX]; exact hmem.pad hXo,?_,by rw [hS.size,h0],rfl,by simp,fun j hj => (by rw [hun] at hj; cases hj),Nat.zero_le _,fun i hi => (by omega),fun i _ => hun i,fun i B _ hi _ hB => ?_,.of' (Grow.drew E w ok)⟩
 ·exact hQ ok' E' a' w' ⟨hM,hsl,by rw [hsz,ht.len _ (Nat.le_refl _)],by rw [hdf]; exact hS.defers.keep g.df⟩ g hdf
 ·intro t c hc _
  rw [Z14i fun i hl => by rw [hun] at hl; cases hl] at hc
  rw [h0] at hc
  exact hS.sl.grow (Grow.drew E w ok) t c hc
 ·have hlen : (Ls 0).length ≤ (Ls i).length := by
   have hinc : ∀ q,q ≤ nb ops 0 → (Ls 0).length ≤ (Ls q).length := fun q => by
    induction q with
    | zero => intro _; exact Nat.le_refl _
    | succ q ihq =>
     intro hq
     have hno := Zy5 (nbF_no (allB ops) (ops.size - 0) 0 q (by omega) (by unfold nb at hq; omega))
     have hle := nbF_le (allB ops) (ops.size - 0) 0
     have hoj := Array.getElem?_eq_getElem (show q < ops.size by unfold nb at hq; omega)
     have ih2 := ihq (by omega)
     rcases ht.step q _ (by unfold nb at hq; omega) hoj with h | h | ⟨_,_,_,h⟩
     ·rw [hno.1] at h; exact absurd h.1 (by simp)
     ·rw [hno.2] at h; exact absurd h.2.1 (by simp)
     ·rcases h with ⟨_,_,⟨h1,_⟩ | ⟨B,_,h1,_⟩⟩ | ⟨_,_,h1⟩
      ·rw [h1]; exact ih2
      ·rw [h1,List.length_append]; omega
      ·rw [h1]; exact ih2
   exact hinc i (by omega)
  refine ⟨?_,?_⟩
  ·cases he : E (Ls i).length with
   | none => rfl
   | some x => obtain ⟨b,m⟩ := x; have := hmem.idlt he; omega
  ·cases he : E.y (Ls i).length with
   | none => rfl
   | some l => have := hmem.yidlt he; omega
end
end Go.Ev
/-
 Drawn regions of loads,stores and moves: whatever order is drawn,they leave the same.
-/
set_option linter.unusedSimpArgs false
set_option linter.unusedVariables false
namespace Go.Ev
open Go Go.RowKit
variable {R : Type} {P : Program} {base : Own} {sp : SpTab}
theorem Z1ga {t : TypeId} {a x : AV} {L L' : Heap} (h : (storeK P t a x L fun _ L' => some L') = some L') : ∃ id off,a = .ptr id off ∧ ∀ j,j ≠ id → L'[j]? = L[j]? := by
 have key : ∀ {id : Nat} {B : Blk} {j : Nat},j ≠ id → (L.set id B)[j]? = L[j]? := fun h => List.getElem?_set_ne (fun e => h e.symm)
 unfold storeK at h
 obtain ⟨d,hu,h1⟩ := Option.bind_eq_some_iff.1 h
 obtain ⟨i,hi,h2⟩ := Option.bind_eq_some_iff.1 h1
 clear h h1
 cases a <;> (try dsimp only at h2) <;> try (cases h2; done)
 case ptr id off =>
  refine ⟨id,off,rfl,fun j hj => ?_⟩
  cases hB : L[id]? with
  | none => rw [hB] at h2; cases h2
  | some B =>
   rw [hB] at h2
   cases B <;> (try dsimp only at h2) <;> try (cases h2; done)
   case t ty n cs =>
    split at h2
    ·cases h2
    ·split at h2
     ·cases h2; exact key hj
     ·cases h2
   case d n cs =>
    split at h2
    ·cases x <;> (try dsimp only at h2) <;> try (cases h2; done)
     case d y =>
      cases y <;> (try dsimp only at h2) <;> try (cases h2; done)
      case agg ys =>
       split at h2
       ·unfold put at h2; split at h2
        ·cases h2; exact key hj
        ·cases h2
       ·cases h2
     case agg ys =>
      split at h2
      ·unfold put at h2; split at h2
       ·cases h2; exact key hj
       ·cases h2
      ·cases h2
    ·split at h2
     ·cases x <;> (try dsimp only at h2) <;> (try split at h2) <;> cases h2 <;> exact key hj
     ·cases h2
   case a n cs =>
    split at h2
    ·cases x <;> (try dsimp only at h2) <;> try (cases h2; done)
     case d y =>
      cases y <;> (try dsimp only at h2) <;> try (cases h2; done)
      case agg ys =>
       split at h2
       ·unfold put at h2; split at h2
        ·cases h2; exact key hj
        ·cases h2
       ·cases h2
     case agg ys =>
      split at h2
      ·unfold put at h2; split at h2
       ·cases h2; exact key hj
       ·cases h2
      ·cases h2
    ·split at h2
     ·cases h2; exact key hj
     ·cases h2
theorem Z1ij {t : TypeId} {x : AV} {L L' : Heap} {v : AV} (h : (loadK P t x L fun v _ => some v) = some v) (hL : ∀ id off,x = .ptr id off → L'[id]? = L[id]?) : (loadK P t x L' fun v _ => some v) = some v := by
 unfold loadK at h ⊢
 obtain ⟨d,hu,h1⟩ := Option.bind_eq_some_iff.1 h
 obtain ⟨i,hi,h2⟩ := Option.bind_eq_some_iff.1 h1
 rw [hu,hi]
 simp only [Option.bind_some]
 cases x <;> dsimp only at h2 ⊢ <;> try exact h2
 case ptr id off => rw [hL id off rfl]; exact h2
structure STrace (P : Program) (ops : Array Oper) (ss : Nat → List AV) (Ls : Nat → Heap) (vs : Nat → AV) (n : Nat) : Prop where
  len : ∀ j,j ≤ n → (ss j).length = (ss 0).length
  step : ∀ (j : Nat) (o : Oper),j < n → ops[j]? = some o → ss (j + 1) = setSl (ss j) o.dst (vs j) ∧
    ((∃ t a,o.op = .load t (.tmp a) ∧ Ls (j + 1) = Ls j ∧ (loadK P t (ev (ss j) (.tmp a)) (Ls j) fun v _ => some v) = some (vs j)) ∨
     (∃ t a x,o.op = .store t (.tmp a) x ∧ vs j = skipped ∧ (storeK P t (ev (ss j) (.tmp a)) (ev (ss j) x) (Ls j) fun _ L' => some L') = some (Ls (j + 1))) ∨
     (∃ x,(o.op = .move x ∨ o.op = .assign x) ∧ Ls (j + 1) = Ls j ∧ vs j = ev (ss j) x))

theorem Z1iz {o : Op} (h : stOp o = true) : (∃ t a,o = .load t (.tmp a)) ∨ (∃ t a x,o = .store t (.tmp a) x) ∨ (∃ x,o = .move x ∨ o = .assign x) := by
 unfold stOp at h
 split at h
 ·exact .inl ⟨_,_,rfl⟩
 ·exact .inr (.inl ⟨_,_,_,rfl⟩)
 ·exact .inr (.inr ⟨_,.inl rfl⟩)
 ·exact .inr (.inr ⟨_,.inr rfl⟩)
 ·cases h
section
variable {ops : Array Oper}
theorem Z1bf {or : Orc R} (hok : ∀ (j : Nat) (o : Oper),ops[j]? = some o → o.guard = none ∧ stOp o.op = true) {k : St → Option R} {r : R} : ∀ (rest : List Oper) (i : Nat) (ss : Nat → List AV) (Ls : Nat → Heap) (vs : Nat → AV),(∀ j,rest[j]? = ops[i + j]?) →
    STrace P ops ss Ls vs i → i ≤ ops.size → opsK P sp base [] or ops rest ⟨ss i,Ls i⟩ k = some r →
    ∃ ss' Ls' vs',ss' 0 = ss 0 ∧ Ls' 0 = Ls 0 ∧ STrace P ops ss' Ls' vs' ops.size ∧ k ⟨ss' ops.size,Ls' ops.size⟩ = some r
  | [],i,ss,Ls,vs,hr,ht,hi',h => by
    have hi : ops.size ≤ i := by
      have := hr 0
      simp at this
      omega
    obtain rfl : i = ops.size := by omega
    exact ⟨ss,Ls,vs,rfl,rfl,ht,h⟩
  | o :: rest,i,ss,Ls,vs,hr,ht,hi',h => by
    have ho : ops[i]? = some o := by simpa using (hr 0).symm
    have his : i < ops.size := (Array.getElem?_eq_some_iff.1 ho).1
    obtain ⟨hg,hst⟩ := hok i o ho
    have next : ∀ (Ln : Heap) (vn : AV),
        ((∃ t a,o.op = .load t (.tmp a) ∧ Ln = Ls i ∧ (loadK P t (ev (ss i) (.tmp a)) (Ls i) fun v _ => some v) = some vn) ∨
         (∃ t a x,o.op = .store t (.tmp a) x ∧ vn = skipped ∧ (storeK P t (ev (ss i) (.tmp a)) (ev (ss i) x) (Ls i) fun _ L' => some L') = some Ln) ∨
         (∃ x,(o.op = .move x ∨ o.op = .assign x) ∧ Ln = Ls i ∧ vn = ev (ss i) x)) →
        opsK P sp base [] or ops rest ⟨setSl (ss i) o.dst vn,Ln⟩ k = some r → ∃ ss' Ls' vs',ss' 0 = ss 0 ∧ Ls' 0 = Ls 0 ∧ STrace P ops ss' Ls' vs' ops.size ∧ k ⟨ss' ops.size,Ls' ops.size⟩ = some r := fun Ln vn hstep hv => by
      let ss1 : Nat → List AV := fun j => if j = i + 1 then setSl (ss i) o.dst vn else ss j
      let Ls1 : Nat → Heap := fun j => if j = i + 1 then Ln else Ls j
      let vs1 : Nat → AV := fun j => if j = i then vn else vs j
      have e1 : ∀ n,n ≤ i → ss1 n = ss n := fun n hn => by simp only [ss1]; rw [if_neg (by omega)]
      have e2 : ss1 (i + 1) = setSl (ss i) o.dst vn := by simp [ss1]
      have e3 : ∀ n,n ≤ i → Ls1 n = Ls n := fun n hn => by simp only [Ls1]; rw [if_neg (by omega)]
      have e4 : Ls1 (i + 1) = Ln := by simp [Ls1]
      have e5 : vs1 i = vn := by simp [vs1]
      have hT : STrace P ops ss1 Ls1 vs1 (i + 1) := by
        refine ⟨fun j hj => ?_,fun j o' hj hoj => ?_⟩
        · by_cases hji : j = i + 1
          · rw [hji,e2,e1 0 (by omega),Zo]; exact ht.len i (Nat.le_refl _)
          · rw [e1 j (by omega),e1 0 (by omega)]; exact ht.len j (by omega)
        · by_cases hji : j = i
          · subst hji
            have : o' = o := Option.some.inj (hoj.symm.trans ho)
            subst this
            rw [e1 j (Nat.le_refl _),e2,e3 j (Nat.le_refl _),e4,e5]; exact ⟨rfl,hstep⟩
          · rw [e1 j (by omega),e1 (j + 1) (by omega),e3 j (by omega),e3 (j + 1) (by omega),show vs1 j = vs j from by simp only [vs1]; rw [if_neg hji]]
            exact ht.step j o' (by omega) hoj
      obtain ⟨ss',Ls',vs',h0,h1,hT',hk⟩ := Z1bf hok rest (i + 1) ss1 Ls1 vs1 (fun j => by have := hr (j + 1); simp at this; rw [this]; congr 1; omega) hT (by omega) (by rw [e2,e4]; exact hv)
      exact ⟨ss',Ls',vs',by rw [h0,e1 0 (by omega)],by rw [h1,e3 0 (by omega)],hT',hk⟩
    simp only [opsK,hg,List.headD_nil,List.tail_nil] at h
    unfold opK at h
    rcases Z1iz hst with ⟨t,a,hop⟩ | ⟨t,a,x,hop⟩ | ⟨x,hop | hop⟩
    · rw [hop] at h
      dsimp only at h
      rw [Z13q] at h
      obtain ⟨v,hv,hk⟩ := Option.bind_eq_some_iff.1 h
      exact next _ v (.inl ⟨t,a,hop,rfl,hv⟩) hk
    · rw [hop] at h
      dsimp only at h
      rw [Z14j] at h
      obtain ⟨L',hL,hk⟩ := Option.bind_eq_some_iff.1 h
      exact next L' _ (.inr (.inl ⟨t,a,x,hop,rfl,hL⟩)) hk
    · rw [hop] at h
      exact next _ _ (.inr (.inr ⟨x,.inl hop,rfl,rfl⟩)) h
    · rw [hop] at h
      exact next _ _ (.inr (.inr ⟨x,.inr hop,rfl,rfl⟩)) h

def isSt (ops : Array Oper) (i : Nat) : Prop := ∃ o t a x,ops[i]? = some o ∧ o.op = .store t (.tmp a) x
structure StOk (ops : Array Oper) (sl : List AV) : Prop where
 back : backOk ops = true
 pair : Z14f ops (ancs ops.toList []) = true
 kind : ∀ (j : Nat) (o : Oper),ops[j]? = some o → o.guard = none ∧ stOp o.op = true
 slot : ∀ (j : Nat) (o : Oper) (a : Tmp),ops[j]? = some o → addrSlot o.op = some a → ∀ (i : Nat) (p : Oper),ops[i]? = some p → p.dst ≠ some a
 pairs : ∀ (i j : Nat) (x y : Oper),i < j → ops[i]? = some x → ops[j]? = some y → ((ancs ops.toList []).getD j 0).testBit i = true ∨ Z1ej sl x.op y.op = true
theorem StOk.of {sl : List AV} (h : stOk ops sl = true) : StOk ops sl := by
 unfold stOk at h
 simp only [Bool.and_eq_true] at h
 obtain ⟨⟨⟨h1,h2⟩,h3⟩,h4⟩ := h
 have k : ∀ (j : Nat) (o : Oper),ops[j]? = some o → stKind ops o = true := fun j o ho => List.all_eq_true.1 h3 o (by
  have := Array.mem_of_getElem? ho; simpa using this)
 refine ⟨h1,h2,fun j o ho => ?_,fun j o a ho ha i p hp => ?_,fun i j x y hij hx hy => ?_⟩
 ·have := k j o ho
  unfold stKind at this
  simp only [Bool.and_eq_true] at this
  exact ⟨by simpa using this.1.1,this.1.2⟩
 ·have := k j o ho
  unfold stKind at this
  rw [ha] at this
  simp only [Bool.and_eq_true] at this
  have h5 := List.all_eq_true.1 this.2 p (by have := Array.mem_of_getElem? hp; simpa using this)
  simpa using h5
 ·have hjs : j < ops.size := (Array.getElem?_eq_some_iff.1 hy).1
  have h5 := List.all_eq_true.1 (List.all_eq_true.1 h4 j (List.mem_range.2 hjs)) i (List.mem_range.2 hij)
  rw [hx,hy] at h5
  simpa using h5
variable {ss : Nat → List AV} {Ls : Nat → Heap} {vs : Nat → AV}
theorem Z1gy (ht : STrace P ops ss Ls vs ops.size) : ∀ j,j ≤ ops.size → lexS (dP ops 0) vs (ss 0) j = ss j
 | 0,_ => rfl
 | j + 1,h => by
  have hoj := Array.getElem?_eq_getElem (show j < ops.size by omega)
  simp only [lexS]
  rw [Z1gy ht j (by omega),(ht.step j _ (by omega) hoj).1]
  unfold dP
  rw [if_pos (by omega),hoj]
  rfl
theorem Z1bg (hk : StOk ops (ss 0)) (ht : STrace P ops ss Ls vs ops.size) {j : Nat} {o : Oper} {a : Tmp} (ho : ops[j]? = some o) (ha : addrSlot o.op = some a) : ∀ i,i ≤ ops.size → (ss i).getD a .junk = (ss 0).getD a .junk
 | 0,_ => rfl
 | i + 1,h => by
  have hoi := Array.getElem?_eq_getElem (show i < ops.size by omega)
  rw [(ht.step i _ (by omega) hoi).1,List.getD_eq_getElem?_getD,Z47 (hk.slot j o a ho ha i _ hoi),← List.getD_eq_getElem?_getD]
  exact Z1bg hk ht ho ha i (by omega)
theorem Z124 (hk : StOk ops (ss 0)) (ht : STrace P ops ss Ls vs ops.size) {id : Nat} : ∀ n a,a + n ≤ ops.size →
  (∀ (i : Nat) (o : Oper) t b x,a ≤ i → i < a + n → ops[i]? = some o → o.op = .store t (.tmp b) x → ∀ id' off,(ss 0).getD b .junk = .ptr id' off → id' ≠ id) → (Ls (a + n))[id]? = (Ls a)[id]?
 | 0,a,_,_ => rfl
 | n + 1,a,h,hs => by
  have ih := Z124 hk ht n a (by omega) (fun i o t b x h1 h2 => hs i o t b x h1 (by omega))
  have ho := Array.getElem?_eq_getElem (show a + n < ops.size by omega)
  rw [← ih]
  rcases (ht.step (a + n) _ (by omega) ho).2 with ⟨t,b,hop,hL,_⟩ | ⟨t,b,x,hop,_,hL⟩ | ⟨x,_,hL,_⟩
  ·rw [show a + (n + 1) = a + n + 1 by omega,hL]
  ·obtain ⟨id',off,he,hsame⟩ := Z1ga hL
   have e0 : (ss 0).getD b .junk = .ptr id' off := by
    rw [← Z1bg hk ht ho (by rw [hop]; rfl) (a + n) (by omega)]; exact he
   rw [show a + (n + 1) = a + n + 1 by omega]
   exact hsame id fun e => hs (a + n) _ t b x (by omega) (by omega) ho hop id' off e0 e.symm
  ·rw [show a + (n + 1) = a + n + 1 by omega,hL]
theorem Z1bh (ht : STrace P ops ss Ls vs ops.size) : ∀ n a,a + n ≤ ops.size → (∀ i,a ≤ i → i < a + n → ¬ isSt ops i) → Ls (a + n) = Ls a
 | 0,a,_,_ => rfl
 | n + 1,a,h,hs => by
  have ih := Z1bh ht n a (by omega) (fun i h1 h2 => hs i h1 (by omega))
  have ho := Array.getElem?_eq_getElem (show a + n < ops.size by omega)
  rw [← ih]
  rcases (ht.step (a + n) _ (by omega) ho).2 with ⟨t,b,hop,hL,_⟩ | ⟨t,b,x,hop,_,hL⟩ | ⟨x,_,hL,_⟩
  ·exact hL
  ·exact absurd ⟨_,t,b,x,ho,hop⟩ (hs (a + n) (by omega) (by omega))
  ·exact hL
structure SInv (B0 : Nat) (w0 : World) (ok : Nat → Prop) (base : Own) (E0 : Env) (w1 : World) (ss : Nat → List AV) (Ls : Nat → Heap) (ops : Array Oper) (vs : Nat → AV) (ds : List Deferred) (q : Nat) (listed : Array Bool) (E : Env) (a : Act) (w : World) : Prop where
 mem : Mem B0 w0 ok E (Ls q) w
 le : q ≤ ops.size
 low : ∀ i,i < q → isSt ops i → listed.getD i false = true
 high : ∀ i,q ≤ i → isSt ops i → listed.getD i false = false
 slr : SlRep E w ok a.tmps (stS (dP ops 0) vs (ss 0) listed ops.size)
 size : a.tmps.size = (ss 0).length
 defers : a.defers = ds
 lsize : listed.size = ops.size
 closed : Closed ops listed
 step : Step B0 base E0 w1 ok E w ok
theorem Z1kq (hk : StOk ops (ss 0)) (ht : STrace P ops ss Ls vs ops.size) {B0 : Nat} {w0 : World} {ok : Nat → Prop} {w1 : World} {E0 : Env} {ds : List Deferred} {ro : Option Nat} {Q : Exit → Act → World → Prop}
  (hQ : ∀ E a w,Mem B0 w0 ok E (Ls ops.size) w → SlRep E w ok a.tmps (ss ops.size) → a.tmps.size = (ss 0).length → a.defers = ds → Step B0 base E0 w1 ok E w ok → Q .normal a w) :
  ∀ (fuel : Nat) (q : Nat) (listed : Array Bool) (E : Env) (a : Act) (w : World),(unl ops listed).length ≤ fuel → SInv B0 w0 ok base E0 w1 ss Ls ops vs ds q listed E a w → wpAnyIn (Fw ro) 0 P .any ops Q fuel listed a w := by
 have done : ∀ {q : Nat} {listed : Array Bool} {E : Env} {a : Act} {w : World},(∀ j,j < ops.size → listed.getD j false = true) → SInv B0 w0 ok base E0 w1 ss Ls ops vs ds q listed E a w → Q .normal a w := fun {q listed E a w} hall hI => by
  have hL : Ls ops.size = Ls q := by
   have := Z1bh ht (ops.size - q) q (by have := hI.le; omega) (fun i h1 h2 hs => by
    have h3 := hI.high i h1 hs
    rw [hall i (by omega)] at h3; cases h3)
   rwa [show q + (ops.size - q) = ops.size by have := hI.le; omega] at this
  refine hQ E a w (by rw [hL]; exact hI.mem) ?_ hI.size hI.defers hI.step
  have h1 := hI.slr
  rw [st_lex (n := ops.size) (fun i t hi _ => hall i hi) ops.size (Nat.le_refl _) (fun i hi _ => hall i hi),Z1gy ht ops.size (Nat.le_refl _)] at h1
  exact h1
 have full : ∀ {listed : Array Bool},listed.size = ops.size → Region.ready .any ops listed = [] → ∀ j,j < ops.size → listed.getD j false = true := by
  intro listed hs hr j
  induction j using Nat.strongRecOn with
  | _ j ih =>
   intro hj
   cases hl : listed.getD j false with
   | true => rfl
   | false =>
    exfalso
    have hun : listed.getD j true = false := by rw [Zmv (by omega)]; exact hl
    have : j ∈ Region.ready .any ops listed := by
     refine mem_ready.2 ⟨hun,ops[j],Array.getElem?_eq_getElem hj,fun e he hb => ?_⟩
     have hlt : e.on < j := by
      have := List.all_eq_true.1 hk.back j (List.mem_range.2 hj)
      rw [Array.getElem?_eq_getElem hj] at this
      simp only [Array.all_eq_true'] at this
      simpa [hb] using this e he
     exact ih e.on hlt (by omega)
    rw [hr] at this; cases this
 intro fuel
 induction fuel with
 | zero =>
  intro q listed E a w hu hI
  have hall : ∀ j,j < ops.size → listed.getD j false = true := fun j hj => by
   cases hl : listed.getD j false with
   | true => rfl
   | false =>
    have : j ∈ unl ops listed := List.mem_filter.2 ⟨List.mem_range.2 hj,by rw [Zmv (by rw [hI.lsize]; exact hj),hl]; rfl⟩
    have h0 : unl ops listed = [] := List.eq_nil_of_length_eq_zero (by omega)
    rw [h0] at this; cases this
  refine ⟨?_,done hall hI⟩
  apply List.eq_nil_iff_forall_not_mem.2
  intro i hi
  obtain ⟨hun,o,ho,_⟩ := mem_ready.1 hi
  have his := (Array.getElem?_eq_some_iff.1 ho).1
  rw [Zmv (by rw [hI.lsize]; exact his),hall i his] at hun
  cases hun
 | succ fuel ih =>
  intro q listed E a w hu hI
  refine ⟨fun hr => done (full hI.lsize hr) hI,fun j hj => ?_⟩
  obtain ⟨hun,o,ho,hedge⟩ := mem_ready.1 hj
  have hjs := (Array.getElem?_eq_some_iff.1 ho).1
  have hjl : j < listed.size := by rw [hI.lsize]; exact hjs
  have hun' : listed.getD j false = false := by rw [← Zmv hjl]; exact hun
  have hcj : ClosedAt ops listed j := fun oj hoj e he hb => by
   have : oj = o := Option.some.inj (hoj.symm.trans ho)
   subst this
   exact hedge e he hb
  have hclosed' : Closed ops (listed.setIfInBounds j true) := by
   intro i hi oi hoi e he hb
   have mono : ∀ q,listed.getD q false = true → (listed.setIfInBounds j true).getD q false = true := fun q hq => by
    by_cases hqj : q = j
    ·subst hqj; simp [Array.getD_eq_getD_getElem?,hjl]
    ·rw [Zh hqj]; exact hq
   by_cases hij : i = j
   ·subst hij; exact mono _ (hcj oi hoi e he hb)
   ·rw [Zh hij] at hi
    exact mono _ (hI.closed i hi oi hoi e he hb)
  have hnow : (listed.setIfInBounds j true).getD j false = true := by simp [Array.getD_eq_getD_getElem?,hjl]
  have anc1 : ∀ i,((ancs ops.toList []).getD j 0).testBit i = true → listed.getD i false = true := fun i h => Z3v hk.back hI.closed j hcj h hjs
  have anc2 : ∀ (i : Nat) (x : Oper),ops[i]? = some x → ((ancs ops.toList []).getD i 0).testBit j = true → listed.getD i false = false := fun i x hx h => by
   cases hl : listed.getD i false with
   | false => rfl
   | true =>
    exfalso
    have := Z3v hk.back hI.closed i (hI.closed i hl) h (Array.getElem?_eq_some_iff.1 hx).1
    rw [this] at hun'; cases hun'
  have hlook : ∀ t,t ∈ o.looksAt ops → (stS (dP ops 0) vs (ss 0) listed ops.size)[t]? = (ss j)[t]? := fun t htl => by
   have := Z1bd (d := dP ops 0) (vs := vs) (sl := ss 0) (listed := listed) (j := j) (t := t) (fun i hij hd => ?_) (fun i hij hd => ?_) ops.size
   ·rw [Nat.min_eq_right (by omega),Z1gy ht j (by omega)] at this; exact this
   ·obtain ⟨_,x,hx,hd⟩ := Zmw hd
    rcases Zp7 hk.pair hij hx ho with h | h
    ·exact anc1 i h
    ·exact absurd htl ((Oper.apart_spec h).1 t hd)
   ·obtain ⟨_,x,hx,hd⟩ := Zmw hd
    by_cases hij' : i = j
    ·subst hij'; exact hun'
    ·rcases Zp7 hk.pair (show j < i by omega) ho hx with h | h
     ·exact anc2 i x hx h
     ·exact absurd htl ((Oper.apart_spec h).2.2 t hd)
  have hslen : ∀ i,i ≤ ops.size → a.tmps.size = (ss i).length := fun i hi => by rw [hI.size,ht.len i hi]
  have hops : ∀ x,x ∈ o.op.operands → Rep E w ok (a.eval x) (Ev.ev (ss j) x) := fun x hx => by
   cases x with
   | tmp t =>
    simp only [Act.eval,Ev.ev]
    cases hc : (ss j)[t]? with
    | none => simp [List.getD,hc]; exact .junk
    | some c =>
     simp only [List.getD,hc,Option.getD_some]
     have e := hlook t (List.mem_append_left _ (List.mem_filterMap.2 ⟨.tmp t,by simpa using hx,rfl⟩))
     rw [hc] at e
     exact hI.slr t c e
   | const v => exact Z15a v
   | global g =>
    simp only [Act.eval,Ev.ev]
    cases hg : Gl g with
    | none => exact .junk
    | some cs => exact hI.mem.gl.rep hg
   | func f => exact .d (RepD.fn (vs := []) (cs := []) rfl (fun i x d hx => by simp at hx))
  obtain ⟨hgd,hkind⟩ := hk.kind j o ho
  have hadd : stS (dP ops 0) vs (ss 0) (listed.setIfInBounds j true) ops.size = setSl (stS (dP ops 0) vs (ss 0) listed ops.size) o.dst (vs j) := by
   have := Z1av (d := dP ops 0) (vs := vs) (sl := ss 0) hjl hun' (fun i t hij hl hd hxd => by
    obtain ⟨_,x,hx,hxd⟩ := Zmw hxd
    obtain ⟨_,y,hy,hd⟩ := Zmw hd
    rw [ho] at hy; cases hy
    rcases Zp7 hk.pair hij ho hx with h | h
    ·rw [anc2 i x hx h] at hl; cases hl
    ·exact (Oper.apart_spec h).2.1 t hd hxd) ops.size
   rw [if_neg (by omega)] at this
   rw [this]
   congr 1
   unfold dP
   rw [if_pos (by omega),ho]
   rfl
  have hnext : ∀ q' E' u w',q' ≤ ops.size → Mem B0 w0 ok E' (Ls q') w' → (∀ i,i < q' → isSt ops i → (listed.setIfInBounds j true).getD i false = true) → (∀ i,q' ≤ i → isSt ops i → (listed.setIfInBounds j true).getD i false = false) → Grow E w ok E' w' ok → Rep E' w' ok u (vs j) →
    wpAnyIn (Fw ro) 0 P .any ops Q fuel (listed.setIfInBounds j true) (a.put o.dst u) w' := fun q' E' u w' hle hM hlo hhi g hv => by
   refine ih q' _ E' _ w' (by have := unl_lt hjs hI.lsize hun; omega) ⟨hM,hle,hlo,hhi,?_,by rw [Ziy]; exact hI.size,by rw [Z4v]; exact hI.defers,by simp [hI.lsize],hclosed',hI.step.trans (.of' g)⟩
   rw [hadd]
   exact (hI.slr.grow g).put (by rw [Zby]; exact hI.size) hv o.dst
  have hplain : ¬ isSt ops j → ∀ E' u w',Mem B0 w0 ok E' (Ls q) w' → Grow E w ok E' w' ok → Rep E' w' ok u (vs j) → wpAnyIn (Fw ro) 0 P .any ops Q fuel (listed.setIfInBounds j true) (a.put o.dst u) w' := fun hns E' u w' hM g hv =>
   hnext q E' u w' hI.le hM
    (fun i hi hs => by rw [Zh (fun e => hns (by subst e; exact hs))]; exact hI.low i hi hs)
    (fun i hi hs => by rw [Zh (fun e => hns (by subst e; exact hs))]; exact hI.high i hi hs) g hv
  have hnd : ∀ c,o.op ≠ .defer c := fun c hc => by rw [hc] at hkind; cases hkind
  unfold wpOpIn
  simp only [ho]
  rw [if_pos (Zmu hgd _)]
  rcases (ht.step j o hjs ho).2 with ⟨t,b,hop,hL,hv⟩ | ⟨t,b,x,hop,hvs,hL⟩ | ⟨x,hop,hL,hv⟩
  ·-- a load
   have hns : ¬ isSt ops j := fun ⟨o',t',b',x',ho',hop'⟩ => by
    rw [ho] at ho'; cases ho'; rw [hop] at hop'; cases hop'
   have hsame : ∀ id off,ev (ss j) (.tmp b) = .ptr id off → (Ls q)[id]? = (Ls j)[id]? := fun id off he => by
    have e0 : (ss 0).getD b .junk = .ptr id off := by
     rw [← Z1bg hk ht ho (by rw [hop]; rfl) j (by omega)]; exact he
    rcases Nat.le_total q j with hqj | hqj
    ·have := Z124 (id := id) hk ht (j - q) q (by omega) (fun i o' t' b' x' h1 h2 ho' hop' id' off' he' => by
      have hst : isSt ops i := ⟨o',t',b',x',ho',hop'⟩
      have hni : listed.getD i false = false := hI.high i h1 hst
      rcases hk.pairs i j o' o (by omega) ho' ho with h | h
      ·rw [anc1 i h] at hni; cases hni
      ·rw [hop,hop'] at h
       simp only [Z1ej,e0,he',ptrsNe] at h
       intro e; subst e; simp at h)
     rw [show q + (j - q) = j by omega] at this
     exact this.symm
    ·have := Z124 (id := id) hk ht (q - j) j (by have := hI.le; omega) (fun i o' t' b' x' h1 h2 ho' hop' id' off' he' => by
      have hst : isSt ops i := ⟨o',t',b',x',ho',hop'⟩
      have hne : i ≠ j := fun e => hns (by subst e; exact hst)
      have hli : listed.getD i false = true := hI.low i (by omega) hst
      rcases hk.pairs j i o o' (by omega) ho ho' with h | h
      ·rw [anc2 i o' ho' h] at hli; cases hli
      ·rw [hop,hop'] at h
       simp only [Z1ej,e0,he',ptrsNe] at h
       intro e; subst e; simp at h)
     rw [show j + (q - j) = q by omega] at this
     exact this
   obtain ⟨v',hv',hs⟩ := Z172 (Z1ij hv hsame)
   cases hv'
   obtain ⟨y,hr,hy⟩ := hs hI.mem (hops (.tmp b) (by rw [hop]; simp [Op.operands]))
   exact Zno (u := y) (w' := w) hnd (by simp [execOp,hop,hr]) (hplain hns E y w hI.mem (Grow.refl _ _ _) hy)
  ·-- a store: all stores before it are listed
   have hst : isSt ops j := ⟨o,t,b,x,ho,hop⟩
   have hqj : q ≤ j := Nat.le_of_not_lt fun h => by rw [hI.low j h hst] at hun'; cases hun'
   have hLq : Ls j = Ls q := by
    have := Z1bh ht (j - q) q (by omega) (fun i h1 h2 hs => by
     obtain ⟨o',t',b',x',ho',hop'⟩ := hs
     have h3 := hI.high i h1 ⟨o',t',b',x',ho',hop'⟩
     rcases hk.pairs i j o' o (by omega) ho' ho with h | h
     ·rw [anc1 i h] at h3; cases h3
     ·rw [hop,hop'] at h; cases h)
    rwa [show q + (j - q) = j by omega] at this
   obtain ⟨L',hL',hs⟩ := Z14g hL
   cases hL'
   obtain ⟨w',hr,hM,g⟩ := hs (by rw [hLq]; exact hI.mem) (hops (.tmp b) (by rw [hop]; simp [Op.operands])) (hops x (by rw [hop]; simp [Op.operands]))
   refine Z179 (w' := w') hnd (by simp [execOp,hop,hr]) (hnext (j + 1) E undef w' (by omega) hM (fun i hi hs => ?_) (fun i hi hs => ?_) g (by rw [hvs]; exact Zfw))
   ·by_cases hij : i = j
    ·rw [hij]; exact hnow
    ·rw [Zh hij]
     by_cases hiq : i < q
     ·exact hI.low i hiq hs
     ·obtain ⟨o',t',b',x',ho',hop'⟩ := hs
      rcases hk.pairs i j o' o (by omega) ho' ho with h | h
      ·exact anc1 i h
      ·rw [hop,hop'] at h; cases h
   ·rw [Zh (by omega)]; exact hI.high i (by omega) hs
  ·have hns : ¬ isSt ops j := fun ⟨o',t',b',x',ho',hop'⟩ => by
    rw [ho] at ho'; cases ho'; rw [hop'] at hop; rcases hop with h | h <;> cases h
   have hx : Rep E w ok (a.eval x) (vs j) := by rw [hv]; exact hops x (by rcases hop with h | h <;> rw [h] <;> simp [Op.operands])
   refine Zno (u := a.eval x) (w' := w) hnd ?_ (hplain hns E _ w hI.mem (Grow.refl _ _ _) hx)
   rcases hop with h | h <;> simp [execOp,h]
end
theorem Z1gz (hm : P.follows .mixedOrders = true) {ops : Array Oper} {or : Orc R} {st : St} (hd : stOk ops st.sl = true) {k : St → Option R} {r : R} (h : opsK P sp base [] or ops ops.toList st k = some r) :
  ∃ st',k st' = some r ∧ st'.sl.length = st.sl.length ∧ ∀ {ro B0 w0 ok E a w},Sim B0 w0 ok E st a w → ∀ (id : Nat) (Q : Exit → Act → World → Prop),
   (∀ ok' E' a' w',Sim B0 w0 ok' E' st' a' w' → Step B0 base E w ok E' w' ok' → a'.defers = a.defers → Q .normal a' w') → (Code.region id ops true).wpIn (Fw ro) 0 P Q a w := by
 have hk0 := StOk.of hd
 obtain ⟨ss,Ls,vs,h0,hL0,ht,hk⟩ := Z1bf (P := P) hk0.kind ops.toList 0 (fun _ => st.sl) (fun _ => st.L) (fun _ => .junk) (fun j => by simp) ⟨fun j hj => rfl,fun j o hj => by omega⟩ (by omega) (by simpa using h)
 have hkk : StOk ops (ss 0) := by rw [h0]; exact hk0
 refine ⟨_,hk,by rw [ht.len _ (Nat.le_refl _),h0],fun {ro B0 w0 ok E a w} hS id Q hQ => wpIn_region_any hm ?_⟩
 have hun : ∀ i,(Array.replicate ops.size false).getD i false = false := fun i => by
  simp only [Array.getD_eq_getD_getElem?,Array.getElem?_replicate]
  split <;> simp
 have hmem : Mem B0 w0 ok E (Ls 0) w.drew := by rw [hL0]; exact hS.mem.drew
 refine Z1kq hkk ht (B0 := B0) (w0 := w0) (ok := ok) (w1 := w) (E0 := E) (base := base) (ds := a.defers) (fun E' a' w' hM hsl hsz hdf g => ?_) ops.size 0 _ E a _ (by unfold unl; exact Nat.le_trans (List.length_filter_le _ _) (by simp))
  ⟨hmem,Nat.zero_le _,fun i hi => (by omega),fun i _ _ => hun i,?_,by rw [hS.size,h0],rfl,by simp,fun j hj => (by rw [hun] at hj; cases hj),.of' (Grow.drew E w ok)⟩
 ·exact hQ ok E' a' w' ⟨hM,hsl,by rw [hsz,ht.len _ (Nat.le_refl _)],by rw [hdf]; exact hS.defers.keep g.df⟩ g hdf
 ·rw [Z14i fun i hl => by rw [hun] at hl; cases hl]
  rw [h0]
  exact hS.sl.grow (Grow.drew E w ok)
end Go.Ev
/-
 Drawn regions with one append: whatever order is drawn,they leave the same.
-/
set_option linter.unusedSimpArgs false
set_option linter.unusedVariables false
namespace Go.Ev
open Go Go.RowKit
variable {R : Type} {P : Program} {base : Own} {sp : SpTab}
theorem Z1bi {x : AV} {L : Heap} {size : Nat} {k : Nat → List D → Option R} : srcK x L size k = (srcK x L size fun m new => some (m,new)).bind fun p => k p.1 p.2 := by
 unfold srcK
 split
 ·split <;> rfl
 ·split
  ·split
   ·unfold cut; split <;> rfl
   ·rfl
  ·rfl
 ·rfl
theorem Z1dz {t : TypeId} {sl : List AV} {s x : AV} {L : Heap} {k : List AV → AV → Heap → Option R} : Zxu P base t sl s x L k = (Zxu P base t [] s x L fun _ v L' => some (v,L')).bind fun p => k (appSl s sl) p.1 p.2 := by
 unfold Zxu
 cases P.underlying t with
 | none => rfl
 | some d =>
 cases d <;> try rfl
 rename_i e
 simp only
 cases Zak P e with
 | none => rfl
 | some z =>
 cases P.info? e with
 | none => rfl
 | some i =>
 simp only [Option.bind_some]
 conv => lhs; rw [Z1bi]
 conv => rhs; arg 1; rw [Z1bi]
 cases srcK x L i.size (fun m new => some (m,new)) with
 | none => rfl
 | some q =>
 simp only [Option.bind_some]
 cases s <;> try rfl
 case d sd =>
  cases sd <;> try rfl
  rename_i n cap cs
  cases cap with
  | none => rfl
  | some c =>
   simp only
   split
   ·split
    ·rfl
    ·split <;> rfl
   ·rfl
 case sl id off n cap sz =>
  cases cap with
  | some c =>
   simp only
   split
   ·cases L[id]? with
    | none => rfl
    | some B =>
     cases B <;> try rfl
     simp only
     split
     ·split <;> rfl
     ·split
      ·unfold cut; split <;> rfl
      ·rfl
   ·rfl
  | none =>
   simp only
   split
   ·cases L[id]? with
    | none => rfl
    | some B =>
     cases B <;> try rfl
     simp only
     split <;> rfl
   ·rfl
theorem Z1j0 {id : Nat} {B : Blk} (h : blkRef id B = false) : killB id B = B := by
 have key : ∀ cs : List AV,cs.any (hasRef id) = false → (cs.map fun x => if hasRef id x then AV.junk else x) = cs := fun cs hc => by
  induction cs with
  | nil => rfl
  | cons a r ih =>
   simp only [List.any_cons,Bool.or_eq_false_iff] at hc
   simp [hc.1,ih hc.2]
 cases B <;> try rfl
 case a n cs => simp only [blkRef] at h; simp only [killB]; rw [key cs h]
 case loop s p sl ps a b fh => simp only [blkRef] at h; simp only [killB]; rw [key sl h]
 case t ty n cs => simp only [blkRef] at h; simp only [killB]; rw [key cs h]
theorem Z1h0 {t : TypeId} {s x : AV} {L L' : Heap} {v : AV} (h : (Zxu P base t [] s x L fun _ v L' => some (v,L')) = some (v,L')) (hs0 : appKind s = true) :
  ∀ (j : Nat) B,L[j]? = some B → (∀ id,appId s = some id → j ≠ id ∧ blkRef id B = false) → L'[j]? = some B := by
 intro j B hB hc
 have hs : (∃ d,s = .d d) ∨ ∃ id off n sz,s = .sl id off n none sz := by
  unfold appKind at hs0
  split at hs0
  ·exact .inr ⟨_,_,_,_,rfl⟩
  ·exact .inl ⟨_,rfl⟩
  ·cases hs0
 have push : ∀ X : Heap,(L ++ X)[j]? = some B := fun X => by rw [List.getElem?_append_left (List.getElem?_eq_some_iff.1 hB).1]; exact hB
 unfold Zxu at h
 cases hu : P.underlying t with
 | none => rw [hu] at h; cases h
 | some d =>
 rw [hu] at h
 cases d <;> (try simp only at h) <;> try (cases h; done)
 rename_i e
 obtain ⟨z,hz,h1⟩ := Option.bind_eq_some_iff.1 h
 obtain ⟨i,hi,h2⟩ := Option.bind_eq_some_iff.1 h1
 rw [Z1bi] at h2
 obtain ⟨q,hq,h3⟩ := Option.bind_eq_some_iff.1 h2
 clear h h1 h2
 rcases hs with ⟨d,rfl⟩ | ⟨id,off,n,sz,rfl⟩
 ·cases d <;> (try simp only at h3) <;> try (cases h3; done)
  rename_i n cap cs
  cases cap with
  | none => cases h3
  | some c =>
   simp only at h3
   split at h3
   ·split at h3
    ·cases h3; exact hB
    ·split at h3
     ·cases h3; exact push _
     ·cases h3
   ·cases h3
 ·simp only at h3
  split at h3
  ·cases hL : L[id]? with
   | none => rw [hL] at h3; cases h3
   | some C =>
    rw [hL] at h3
    cases C <;> (try simp only at h3) <;> try (cases h3; done)
    split at h3
    ·cases h3
     obtain ⟨hne,hr⟩ := hc id rfl
     rw [List.getElem?_set_ne (Ne.symm hne),List.getElem?_map,hB]
     simp [Z1j0 hr]
    ·cases h3
  ·cases h3
theorem Z1j1 {o : Op} (h : isApp o = true) : ∃ c t,o = .call c ∧ c.callee = .builtin .append ∧ c.argTypes.toList = [t,t] := by
 unfold isApp at h
 split at h
 ·rename_i c
  split at h
  ·rename_i t t' h1 h2
   have : t = t' := by simpa using h
   subst this
   exact ⟨c,t,rfl,h1,h2⟩
  ·cases h
 ·cases h
theorem Z1li {o : Oper} (ha : isApp o.op = true) {fz : Bool} {or : Orc R} {sl : List AV} {L : Heap} {k : List AV → AV → Heap → Option R} {r : R} (h : opK P sp base fz or o sl L k = some r) :
  ∃ v L',k (appSl (ev sl (appArg o.op)) sl) v L' = some r ∧
   (∀ {R' : Type} (or' : Orc R') (sl' : List AV) (k' : List AV → AV → Heap → Option R'),(∀ x,x ∈ o.op.operands → ev sl' x = ev sl x) → opK P sp base fz or' o sl' L k' = k' (appSl (ev sl (appArg o.op)) sl') v L') ∧
   (appKind (ev sl (appArg o.op)) = true → ∀ (j : Nat) B,L[j]? = some B → (∀ id,appId (ev sl (appArg o.op)) = some id → j ≠ id ∧ blkRef id B = false) → L'[j]? = some B) := by
 obtain ⟨c,t,hop,hc,hty⟩ := Z1j1 ha
 have e0 : ∀ {R' : Type} (or' : Orc R') (sl' : List AV) (k' : List AV → AV → Heap → Option R') s x,c.args.toList = [s,x] → opK P sp base fz or' o sl' L k' = Zxu P base t sl' (ev sl' s) (ev sl' x) L k' := fun or' sl' k' s x hargs => by
  unfold opK
  rw [hop]
  simp only [callK,hc,hargs,hty,if_true]
 have hargs : ∃ s x,c.args.toList = [s,x] := by
  unfold opK at h
  rw [hop] at h
  simp only [callK,hc,hty] at h
  match hA : c.args.toList with
  | [s,x] => exact ⟨s,x,rfl⟩
  | [] => rw [hA] at h; cases h
  | [s] => rw [hA] at h; cases h
  | s :: x :: y :: r => rw [hA] at h; cases h
 obtain ⟨s,x,hargs⟩ := hargs
 have hs : appArg o.op = s := by rw [hop]; simp [appArg,hargs]
 have mem1 : ∀ y,y ∈ c.args.toList → y ∈ o.op.operands := fun y hy => by rw [hop]; simp only [Op.operands,Call.operands]; simp at hy ⊢; simp [hy]
 rw [e0 or sl k s x hargs,Z1dz] at h
 obtain ⟨⟨v,L'⟩,h1,h2⟩ := Option.bind_eq_some_iff.1 h
 rw [hs]
 refine ⟨v,L',h2,fun or' sl' k' hev => ?_,fun hd j B hB hcnd => Z1h0 h1 hd j B hB hcnd⟩
 rw [e0 or' sl' k' s x hargs,hev s (mem1 s (by rw [hargs]; simp)),hev x (mem1 x (by rw [hargs]; simp)),Z1dz,h1]
 rfl
theorem Z125 {t : TypeId} {x i : AV} {k : AV → Option R} : Zr3 P t x i k = (Zr3 P t x i some).bind k := by
  unfold Zr3
  cases asI i with
  | none => rfl
  | some p =>
  simp only [Option.bind_some]
  cases P.underlying t with
  | none => rfl
  | some d =>
  cases d <;> try rfl
  case array n e =>
    simp only
    cases P.info? e with
    | none => rfl
    | some ei =>
    simp only [Option.bind_some]
    split
    · cases x <;> try rfl
      all_goals simp only; split <;> rfl
    · rfl
  case slice e =>
    simp only
    cases P.info? e with
    | none => rfl
    | some ei =>
    simp only [Option.bind_some]
    cases x <;> try rfl
    case d y => cases y <;> try rfl
                simp only; split <;> rfl
    case sl id off n cap sz =>
      simp only
      split
      · split <;> rfl
      · rfl

theorem Z1gb {o : Oper} (hb : besideOp o.op = true) {fz : Bool} {or : Orc R} {sl : List AV} {L : Heap} {k : List AV → AV → Heap → Option R} {r : R} (h : opK P sp base fz or o sl L k = some r) :
  ∃ v,k sl v L = some r ∧ ∀ {R' : Type} (or' : Orc R') (sl' : List AV) (L' : Heap) (k' : List AV → AV → Heap → Option R'),(∀ x,x ∈ o.op.operands → ev sl' x = ev sl x) → (∀ t a j off,o.op = .load t (.tmp a) → ev sl (.tmp a) = .ptr j off → L'[j]? = L[j]?) →
   opK P sp base fz or' o sl' L' k' = k' sl' v L' := by
 unfold opK at h
 cases hop : o.op <;> simp only [hop] at h <;> simp only [hop,besideOp] at hb <;> try (cases hb; done)
 case move x => exact ⟨_,h,fun or' sl' L' k' he _ => by unfold opK; rw [hop]; simp only; rw [he x (by simp [hop,Op.operands])]⟩
 case assign x => exact ⟨_,h,fun or' sl' L' k' he _ => by unfold opK; rw [hop]; simp only; rw [he x (by simp [hop,Op.operands])]⟩
 case extract t i =>
  cases hx : ev sl t with
  | d y =>
   rw [hx] at h
   cases y <;> (try simp only at h) <;> try (cases h; done)
   obtain ⟨d,hd,hk⟩ := Option.bind_eq_some_iff.1 h
   exact ⟨_,hk,fun or' sl' L' k' he _ => by unfold opK; rw [hop]; simp only; rw [he t (by simp [hop,Op.operands]),hx]; simp only [hd,Option.bind_some]⟩
  | tup ys =>
   rw [hx] at h
   obtain ⟨d,hd,hk⟩ := Option.bind_eq_some_iff.1 h
   exact ⟨_,hk,fun or' sl' L' k' he _ => by unfold opK; rw [hop]; simp only; rw [he t (by simp [hop,Op.operands]),hx]; simp only [hd,Option.bind_some]⟩
  | _ => rw [hx] at h; cases h
 case fieldAddr s x f =>
  obtain ⟨p,hp,hk⟩ := Option.bind_eq_some_iff.1 h
  cases hx : ev sl x with
  | ptr id off =>
   rw [hx] at hk
   exact ⟨_,hk,fun or' sl' L' k' he _ => by unfold opK; rw [hop]; simp only; rw [hp,he x (by simp [hop,Op.operands]),hx]; simp only [Option.bind_some]⟩
  | lp cs off =>
   rw [hx] at hk
   exact ⟨_,hk,fun or' sl' L' k' he _ => by unfold opK; rw [hop]; simp only; rw [hp,he x (by simp [hop,Op.operands]),hx]; simp only [Option.bind_some]⟩
  | _ => rw [hx] at hk; cases hk
 case indexAddr t x i =>
  rw [Z125] at h
  obtain ⟨v,hv,hk⟩ := Option.bind_eq_some_iff.1 h
  exact ⟨_,hk,fun or' sl' L' k' he _ => by unfold opK; rw [hop]; simp only; rw [he x (by simp [hop,Op.operands]),he i (by simp [hop,Op.operands]),Z125,hv]; simp only [Option.bind_some]⟩
 case load t a =>
  cases a <;> (try (cases hb; done))
  rename_i a
  rw [Z13q] at h
  obtain ⟨v,hv,hk⟩ := Option.bind_eq_some_iff.1 h
  exact ⟨_,hk,fun or' sl' L' k' he hl => by
   unfold opK; rw [hop]; simp only
   rw [he (.tmp a) (by simp [hop,Op.operands]),Z13q,Z1ij hv (fun id off hx => hl t a id off rfl hx)]; simp only [Option.bind_some]⟩
section
variable {ops : Array Oper}
structure ATrace (P : Program) (sp : SpTab) (base : Own) (ops : Array Oper) (ss : Nat → List AV) (L : Heap) (vs : Nat → AV) (n : Nat) : Prop where
 len : ∀ j,j ≤ n → (ss j).length = (ss 0).length
 step : ∀ (j : Nat) (o : Oper),j < n → ops[j]? = some o → ss (j + 1) = setSl (ss j) o.dst (vs j) ∧ (∀ c,o.op ≠ .defer c) ∧ QSem P o (ss j) L (vs j) ∧
  (besideOp o.op = true → ∀ (sl' : List AV) (L' : Heap),(∀ x,x ∈ o.op.operands → ev sl' x = ev (ss j) x) → (∀ t a i off,o.op = .load t (.tmp a) → ev (ss j) (.tmp a) = .ptr i off → L'[i]? = L[i]?) → QSem P o sl' L' (vs j))
theorem Z1gc {o : Op} (h : preOp sp o = true) : Z11w sp o = true ∨ growOp o = true := by
 unfold preOp at h
 simp only [Bool.or_eq_true] at h
 rcases h with h | h
 ·exact .inl h
 ·split at h
  ·exact .inr rfl
  ·cases h
theorem Z1ik (hsp : SpOk P sp) {or : Orc R} (hor : OrOk P or) {p : Nat} (hok : ∀ (j : Nat) (o : Oper),j < p → ops[j]? = some o → o.guard = none ∧ preOp sp o.op = true) {k : St → Option R} {r : R} :
  ∀ (rest : List Oper) (i : Nat) (sl : List AV) (L : Heap),rest.length + i = p → (∀ j,j < rest.length → rest[j]? = ops[i + j]?) →
  opsK P sp base (List.replicate rest.length false) or ops rest ⟨sl,L⟩ k = some r → ∃ st',k st' = some r ∧ L.length ≤ st'.L.length
 | [],i,sl,L,hl,hr,h => ⟨_,h,Nat.le_refl _⟩
 | o :: rest,i,sl,L,hl,hr,h => by
  have hip : i < p := by simp at hl; omega
  have ho : ops[i]? = some o := by simpa using (hr 0 (by simp)).symm
  obtain ⟨hg,hq⟩ := hok i o hip ho
  simp only [opsK,hg,List.length_cons,List.replicate_succ,List.headD_cons,List.tail_cons] at h
  have next : ∀ sl' L',L.length ≤ L'.length → opsK P sp base (List.replicate rest.length false) or ops rest ⟨sl',L'⟩ k = some r → ∃ st',k st' = some r ∧ L.length ≤ st'.L.length := fun sl' L' hle hv => by
   obtain ⟨st',hk,hl'⟩ := Z1ik hsp hor hok rest (i + 1) sl' L' (by simp at hl; omega) (fun j hj => by have := hr (j + 1) (by simp; omega); simp at this; rw [this]; congr 1; omega) hv
   exact ⟨st',hk,Nat.le_trans hle hl'⟩
  rcases Z1gc hq with hq | hq
  ·obtain ⟨v,hv,_⟩ := Z15e hsp hor hq h
   exact next _ _ (Nat.le_refl _) hv
  ·rcases Z1gx hq h with ⟨v,hv,_⟩ | ⟨v,B,hv,_⟩
   ·exact next _ _ (Nat.le_refl _) hv
   ·exact next _ _ (by simp) hv
theorem Z1bj (hsp : SpOk P sp) {or : Orc R} (hor : OrOk P or) {L : Heap} {p : Nat} (hp : p ≤ ops.size) (hok : ∀ (j : Nat) (o : Oper),j < p → ops[j]? = some o → o.guard = none ∧ preOp sp o.op = true) {k : St → Option R} {r : R} (hkl : ∀ st',k st' = some r → st'.L.length = L.length) :
  ∀ (rest : List Oper) (i : Nat) (ss : Nat → List AV) (vs : Nat → AV),rest.length + i = p → (∀ j,j < rest.length → rest[j]? = ops[i + j]?) →
  ATrace P sp base ops ss L vs i → opsK P sp base (List.replicate rest.length false) or ops rest ⟨ss i,L⟩ k = some r →
  ∃ ss' vs',ss' 0 = ss 0 ∧ ATrace P sp base ops ss' L vs' p ∧ k ⟨ss' p,L⟩ = some r
 | [],i,ss,vs,hl,hr,ht,h => by
  obtain rfl : i = p := by simpa using hl
  exact ⟨ss,vs,rfl,ht,h⟩
 | o :: rest,i,ss,vs,hl,hr,ht,h => by
  have hip : i < p := by simp at hl; omega
  have ho : ops[i]? = some o := by simpa using (hr 0 (by simp)).symm
  obtain ⟨hg,hq⟩ := hok i o hip ho
  simp only [opsK,hg,List.length_cons,List.replicate_succ,List.headD_cons,List.tail_cons] at h
  have hnd := Zhd h
  have hrest : ∀ j,j < rest.length → rest[j]? = ops[i + 1 + j]? := fun j hj => by have := hr (j + 1) (by simp; omega); simp at this; rw [this]; congr 1; omega
  obtain ⟨v,hv,hs,hbs⟩ : ∃ v,opsK P sp base (List.replicate rest.length false) or ops rest ⟨setSl (ss i) o.dst v,L⟩ k = some r ∧ QSem P o (ss i) L v ∧
    (besideOp o.op = true → ∀ (sl' : List AV) (L' : Heap),(∀ x,x ∈ o.op.operands → ev sl' x = ev (ss i) x) → (∀ t a i' off,o.op = .load t (.tmp a) → ev (ss i) (.tmp a) = .ptr i' off → L'[i']? = L[i']?) → QSem P o sl' L' v) := by
   rcases Z1gc hq with hq | hq
   ·cases hb : besideOp o.op with
    | false =>
     obtain ⟨v,hv,hs⟩ := Z15e hsp hor hq h
     exact ⟨v,hv,by simpa using hs [],fun h => by cases h⟩
    | true =>
     obtain ⟨v,hv,hag⟩ := Z1gb hb h
     have hall : ∀ (sl' : List AV) (L' : Heap),(∀ x,x ∈ o.op.operands → ev sl' x = ev (ss i) x) → (∀ t a i' off,o.op = .load t (.tmp a) → ev (ss i) (.tmp a) = .ptr i' off → L'[i']? = L[i']?) → QSem P o sl' L' v := fun sl' L' he hld => by
      obtain ⟨v2,hk2,hs2⟩ := Z15e (R := AV) (or := fun _ _ _ _ _ => none) (sl := sl') (L := L') (k := fun _ v _ => some v) (r := v) hsp (fun _ _ _ _ _ _ _ _ h => by cases h) hq (hag _ sl' L' (fun _ v _ => some v) he hld)
      cases hk2
      simpa using hs2 []
     exact ⟨v,hv,hall _ _ (fun _ _ => rfl) (fun _ _ _ _ _ _ => rfl),fun _ => hall⟩
   ·rcases Z1gx hq h with ⟨v,hv,hs⟩ | ⟨v,B,hv,_⟩
    ·refine ⟨v,hv,by simpa using hs [],fun hb => ?_⟩
     cases hop : o.op <;> rw [hop] at hq hb <;> first | (cases hb; done) | (cases hq; done) | skip
     all_goals (rename_i a x; cases x <;> first | (cases hb; done) | (cases hq; done))
    ·obtain ⟨st',hk,hle⟩ := Z1ik hsp hor hok rest (i + 1) _ _ (by simp at hl; omega) hrest hv
     have := hkl st' hk
     simp at hle
     omega
  let ss1 : Nat → List AV := fun j => if j = i + 1 then setSl (ss i) o.dst v else ss j
  let vs1 : Nat → AV := fun j => if j = i then v else vs j
  have e1 : ∀ n,n ≤ i → ss1 n = ss n := fun n hn => by simp only [ss1]; rw [if_neg (by omega)]
  have e2 : ss1 (i + 1) = setSl (ss i) o.dst v := by simp [ss1]
  have e5 : vs1 i = v := by simp [vs1]
  have hT : ATrace P sp base ops ss1 L vs1 (i + 1) := by
   refine ⟨fun j hj => ?_,fun j o' hj hoj => ?_⟩
   ·by_cases hji : j = i + 1
    ·rw [hji,e2,e1 0 (by omega),Zo]; exact ht.len i (Nat.le_refl _)
    ·rw [e1 j (by omega),e1 0 (by omega)]; exact ht.len j (by omega)
   ·by_cases hji : j = i
    ·subst hji
     have : o' = o := Option.some.inj (hoj.symm.trans ho)
     subst this
     rw [e1 j (Nat.le_refl _),e2,e5]
     exact ⟨rfl,hnd,hs,hbs⟩
    ·rw [e1 j (by omega),e1 (j + 1) (by omega),show vs1 j = vs j from by simp only [vs1]; rw [if_neg hji]]
     exact ht.step j o' (by omega) hoj
  obtain ⟨ss',vs',h0,hT',hk⟩ := Z1bj hsp hor hp hok hkl rest (i + 1) ss1 vs1 (by simp at hl; omega) hrest hT (by rw [e2]; exact hv)
  exact ⟨ss',vs',by rw [h0,e1 0 (by omega)],hT',hk⟩
def Z1jy (P : Program) (base : Own) (ops : Array Oper) (j : Nat) (st st' : St) : Prop :=
 ∀ {ro B0 w0 ok E a w},Sim B0 w0 ok E st a w → ∀ (Q : Exit → Act → World → Prop) (listed : Array Bool),listed.size = ops.size → (∀ i,i < j → listed.getD i false = true) → (∀ i,j ≤ i → listed.getD i false = false) →
  (∀ ok' E' a' w',Sim B0 w0 ok' E' st' a' w' → Step B0 base E w ok E' w' ok' → a'.defers = a.defers → Q .normal a' w') → ∀ fuel,(unl ops listed).length ≤ fuel → wpAnyIn (Fw ro) 0 P .any ops Q fuel listed a w
theorem Z1gd (hback : backOk ops = true) {j : Nat} {o : Oper} (ho : ops[j]? = some o) {e : Edge} (he : e ∈ o.after) (hb : Region.binds .any e = true) : e.on < j := by
 have := List.all_eq_true.1 hback j (List.mem_range.2 (Array.getElem?_eq_some_iff.1 ho).1)
 rw [ho] at this
 simp only [Array.all_eq_true'] at this
 simpa [hb] using this e he
theorem Z1h1 {listed : Array Bool} (hs : listed.size = ops.size) {j : Nat} (hj : j < ops.size) (h : listed.getD j false = false) : j ∈ unl ops listed :=
 List.mem_filter.2 ⟨List.mem_range.2 hj,by rw [Zmv (by rw [hs]; exact hj),h]; rfl⟩
theorem Z17c (hback : backOk ops = true) {listed : Array Bool} (hs : listed.size = ops.size) (hr : Region.ready .any ops listed = []) : ∀ j,j < ops.size → listed.getD j false = true := by
 intro j
 induction j using Nat.strongRecOn with
 | _ j ih =>
  intro hj
  cases hl : listed.getD j false with
  | true => rfl
  | false =>
   exfalso
   have hun : listed.getD j true = false := by rw [Zmv (by omega)]; exact hl
   have : j ∈ Region.ready .any ops listed := by
    refine mem_ready.2 ⟨hun,ops[j],Array.getElem?_eq_getElem hj,fun e he hb => ?_⟩
    have hlt := Z1gd hback (Array.getElem?_eq_getElem hj) he hb
    exact ih e.on hlt (by omega)
   rw [hr] at this; cases this
theorem Z1e0 (hsp : SpOk P sp) {or : Orc R} (hor : OrOk P or) (hback : backOk ops = true) {j0 : Nat} (hbar : ∀ (i : Nat) (o : Oper),j0 ≤ i → ops[i]? = some o → barB ops i = true ∧ o.guard = none) :
  ∀ (rest : List Oper) (j : Nat) (st : St) {k : St → Option R} {r : R},(∀ i,rest[i]? = ops[j + i]?) → j0 ≤ j → j ≤ ops.size → opsK P sp base [] or ops rest st k = some r →
   ∃ st',k st' = some r ∧ st'.sl.length = st.sl.length ∧ Z1jy P base ops j st st'
 | [],j,st,k,r,hr,hj0,hj,h => by
  have hn : ops.size ≤ j := by
   have := hr 0
   simp at this
   omega
  refine ⟨st,h,rfl,fun {ro B0 w0 ok E a w} hS Q listed hs hlo hhi hQ fuel hu => ?_⟩
  have hdone : Q .normal a w := hQ ok E a w hS (.refl _ _ _ _ _) rfl
  have hno : ∀ i,i ∉ Region.ready .any ops listed := fun i hi => by
   obtain ⟨hun,o,ho,_⟩ := mem_ready.1 hi
   have his := (Array.getElem?_eq_some_iff.1 ho).1
   rw [Zmv (by rw [hs]; exact his),hlo i (by omega)] at hun
   cases hun
  cases fuel with
  | zero => exact ⟨List.eq_nil_iff_forall_not_mem.2 hno,hdone⟩
  | succ fuel => exact ⟨fun _ => hdone,fun i hi => (hno i hi).elim⟩
 | o :: rest,j,st,k,r,hr,hj0,hj,h => by
  have ho : ops[j]? = some o := by simpa using (hr 0).symm
  have hjs := (Array.getElem?_eq_some_iff.1 ho).1
  obtain ⟨_,hg⟩ := hbar j o hj0 ho
  simp only [opsK,hg,List.headD_nil,List.tail_nil] at h
  have hnd := Zhd h
  obtain ⟨sl',v,L',h2,hop⟩ := Z1at hsp hor h
  obtain ⟨st',hk,hl,hT⟩ := Z1e0 hsp hor hback hbar rest (j + 1) _ (fun i => by have := hr (i + 1); simp at this; rw [this]; congr 1; omega) (by omega) (by omega) h2
  refine ⟨st',hk,by rw [hl]; simp [Zo,hop.1],fun {ro B0 w0 ok E a w} hS Q listed hs hlo hhi hQ fuel hu => ?_⟩
  have hcl : Closed ops listed := fun i hi oi hoi e he hb => by
   have hij : i < j := Nat.lt_of_not_le fun hh => by rw [hhi i hh] at hi; cases hi
   exact hlo e.on (by have := Z1gd hback hoi he hb; omega)
  cases fuel with
  | zero =>
   have := Z1h1 hs hjs (hhi j (Nat.le_refl _))
   have h0 : unl ops listed = [] := List.eq_nil_of_length_eq_zero (by omega)
   rw [h0] at this; cases this
  | succ fuel =>
   refine ⟨fun hrd => (by have := Z17c hback hs hrd j hjs; rw [hhi j (Nat.le_refl _)] at this; cases this),fun i hi => ?_⟩
   obtain ⟨hun,oi,hoi,hedge⟩ := mem_ready.1 hi
   have his := (Array.getElem?_eq_some_iff.1 hoi).1
   have hil : i < listed.size := by rw [hs]; exact his
   have hun' : listed.getD i false = false := by rw [← Zmv hil]; exact hun
   have hji : j ≤ i := Nat.le_of_not_lt fun hh => by rw [hlo i hh] at hun'; cases hun'
   have hij : i = j := by
    rcases Nat.lt_or_ge j i with hlt | hge
    ·have hb := (hbar i oi (by omega) hoi).1
     have := Z3v hback hcl i (fun oj hoj e he hb => by
      have : oj = oi := Option.some.inj (hoj.symm.trans hoi)
      subst this
      exact hedge e he hb) (Z13r hb (by omega) hlt) his
     rw [hhi j (Nat.le_refl _)] at this; cases this
    ·omega
   subst hij
   have : oi = o := Option.some.inj (hoi.symm.trans ho)
   subst this
   unfold wpOpIn
   simp only [ho]
   rw [if_pos (Zmu hg _)]
   refine hop.2 hnd hS _ Q fun ok' E' u w' hM hv hsl g => ?_
   refine hT (hS.put hM hv hsl hop.1 g.df _) Q _ (by simp [hs]) (fun q hq => ?_) (fun q hq => by rw [Zh (by omega)]; exact hhi q (by omega)) (fun ok2 E2 a2 w2 hS2 g2 hd2 => hQ ok2 E2 a2 w2 hS2 (g.trans g2) (by rw [hd2,Z4v])) fuel (by have := unl_lt hjs hs hun; omega)
   by_cases hqi : q = i
   ·subst hqi; simp [Array.getD_eq_getD_getElem?,hil]
   ·rw [Zh hqi]; exact hlo q (by omega)
structure AppOk (sp : SpTab) (ops : Array Oper) (p : Nat) : Prop where
 back : backOk ops = true
 pair : Z14f ops (ancs ops.toList []) = true
 pre : ∀ (i : Nat) (o : Oper),i < p → ops[i]? = some o → o.guard = none ∧ preOp sp o.op = true ∧
  (((ancs ops.toList []).getD p 0).testBit i = true ∨ (besideOp o.op = true ∧ ∀ (k : Nat) (x : Oper),i ≤ k → k < p → ops[k]? = some x → ∀ t,t ∈ o.looksAt ops → x.dst ≠ some t))
 guard : ∀ (i : Nat) (o : Oper),ops[i]? = some o → o.guard = none
 bars : ∀ (i : Nat) (o : Oper),p < i → ops[i]? = some o → barB ops i = true
theorem AppOk.of {p : Nat} (h : appOk sp ops p = true) : AppOk sp ops p := by
 unfold appOk at h
 simp only [Bool.and_eq_true] at h
 obtain ⟨h1,h2,h3⟩ := h
 have k : ∀ (i : Nat) (o : Oper),ops[i]? = some o → _ := fun i o ho => by
  have := List.all_eq_true.1 h3 i (List.mem_range.2 (Array.getElem?_eq_some_iff.1 ho).1)
  rw [ho] at this
  simp only [Bool.and_eq_true] at this
  exact this
 refine ⟨h1,h2,fun i o hi ho => ?_,fun i o ho => by simpa using (k i o ho).1,fun i o hi ho => ?_⟩
 ·obtain ⟨g,q⟩ := k i o ho
  rw [show Nat.blt i p = true by simpa [Nat.blt_eq] using hi] at q
  simp only [cond_true,Bool.and_eq_true,Bool.or_eq_true] at q
  refine ⟨by simpa using g,q.1,q.2.imp id fun ⟨q1,q2⟩ => ⟨q1,fun kk x hk hkp hx t ht => ?_⟩⟩
  have := List.all_eq_true.1 q2 kk (List.mem_range.2 hkp)
  rw [hx] at this
  simp only [Bool.or_eq_true,Nat.blt_eq] at this
  rcases this with h | h
  ·omega
  ·have := List.all_eq_true.1 h t ht
   simpa using this
 ·obtain ⟨_,q⟩ := k i o ho
  rw [show Nat.blt i p = false by cases hb : Nat.blt i p with | false => rfl | true => (have := Nat.blt_eq ▸ hb; omega)] at q
  simp only [cond_false,Bool.or_eq_true,beq_iff_eq] at q
  rcases q with h | h
  ·omega
  ·exact h
def dA (ops : Array Oper) (p i : Nat) : Option Tmp := if i < p then (ops[i]?).bind (·.dst) else none
theorem Z17d {p i t : Nat} (h : dA ops p i = some t) : i < p ∧ ∃ o,ops[i]? = some o ∧ o.dst = some t := by
 unfold dA at h
 split at h
 ·rename_i hi
  obtain ⟨o,ho,hd⟩ := Option.bind_eq_some_iff.1 h
  exact ⟨hi,o,ho,hd⟩
 ·cases h
theorem Zsz (s : AV) (sl : List AV) : (appSl s sl).length = sl.length := by
 unfold appSl; split <;> simp [kill]
def appV (s v : AV) : AV := match appId s with
 | some id => if hasRef id v then .junk else v
 | none => v
theorem Z1jz (s : AV) (sl : List AV) (d : Option Tmp) (v : AV) : appSl s (setSl sl d v) = setSl (appSl s sl) d (appV s v) := by
 unfold appSl appV
 cases appId s with
 | none => rfl
 | some id =>
  cases d with
  | none => rfl
  | some d => simp only [setSl,kill,List.map_set]
theorem Z1kr {E : Env} {w : World} {ok : Nat → Prop} {u : Value} {s v : AV} (h : Rep E w ok u v) : Rep E w ok u (appV s v) := by
 unfold appV
 split
 ·split
  ·exact .junk
  ·exact h
 ·exact h
theorem Z1ks {s : AV} {sl : List AV} {t : Nat} (h : ∀ id,appId s = some id → hasRef id (sl.getD t .junk) = false) : (appSl s sl)[t]? = sl[t]? := by
 unfold appSl
 cases hs : appId s with
 | none => rfl
 | some id =>
  have h := h id hs
  simp only [kill,List.getElem?_map]
  cases hc : sl[t]? with
  | none => rfl
  | some c =>
   simp only [List.getD_eq_getElem?_getD,hc,Option.getD_some] at h
   simp [h]
structure AInv (B0 : Nat) (w0 : World) (ok0 : Nat → Prop) (base : Own) (E0 : Env) (w1 : World) (ops : Array Oper) (n0 : Nat) (ds : List Deferred) (L : Heap) (sl : List AV) (listed : Array Bool) (E : Env) (ok : Nat → Prop) (a : Act) (w : World) : Prop where
 mem : Mem B0 w0 ok E L w
 slr : SlRep E w ok a.tmps sl
 size : a.tmps.size = n0
 defers : a.defers = ds
 lsize : listed.size = ops.size
 closed : Closed ops listed
 step : Step B0 base E0 w1 ok0 E w ok
variable {ss : Nat → List AV} {L L2 : Heap} {vs : Nat → AV} {p : Nat}
theorem Z1h2 (ht : ATrace P sp base ops ss L vs p) (hp : p ≤ ops.size) : ∀ j,j ≤ p → lexS (dA ops p) vs (ss 0) j = ss j
 | 0,_ => rfl
 | j + 1,h => by
  have hoj := Array.getElem?_eq_getElem (show j < ops.size by omega)
  simp only [lexS]
  rw [Z1h2 ht hp j (by omega),(ht.step j _ (by omega) hoj).1]
  unfold dA
  rw [if_pos (by omega),hoj]
  rfl
theorem Z1il (ht : ATrace P sp base ops ss L vs p) (hp : p ≤ ops.size) : ∀ m,lexS (dA ops p) vs (ss 0) (p + m) = ss p
 | 0 => Z1h2 ht hp p (Nat.le_refl _)
 | m + 1 => by
  rw [show p + (m + 1) = p + m + 1 by omega]
  simp only [lexS]
  rw [Z1il ht hp m]
  unfold dA
  rw [if_neg (by omega)]
  rfl
theorem app_go (hA : AppOk sp ops p) (ht : ATrace P sp base ops ss L vs p) {oN : Oper} (hoN : ops[p]? = some oN) {s vN : AV}
    (hN : ∀ sl',(∀ x,x ∈ oN.op.operands → ev sl' x = ev (ss p) x) → OpSem P base oN sl' L (appSl s sl') vN L2) (hndN : ∀ c,oN.op ≠ .defer c)
    (hmem : ∀ (j : Nat) B,L[j]? = some B → (∀ id,appId s = some id → j ≠ id ∧ blkRef id B = false) → L2[j]? = some B) (hbes : Z11x ops p s (ss p) L = true)
    {st' : St} (hT : Z1jy P base ops (p + 1) ⟨setSl (appSl s (ss p)) oN.dst vN,L2⟩ st')
    {B0 : Nat} {w0 : World} {ok0 : Nat → Prop} {w1 : World} {E0 : Env} {ds : List Deferred} {ro : Option Nat} {Q : Exit → Act → World → Prop} (hdo : ∀ w,KeptIn w1 w → DefOk B0 w ds)
    (hQ : ∀ ok' E' a' w',Sim B0 w0 ok' E' st' a' w' → Step B0 base E0 w1 ok0 E' w' ok' → a'.defers = ds → Q .normal a' w') :
    ∀ (fuel : Nat) (listed : Array Bool) (E : Env) (ok : Nat → Prop) (a : Act) (w : World),(unl ops listed).length ≤ fuel → (∀ i,p < i → listed.getD i false = false) →
      ((listed.getD p false = false ∧ AInv B0 w0 ok0 base E0 w1 ops (ss 0).length ds L (stS (dA ops p) vs (ss 0) listed ops.size) listed E ok a w) ∨
       (listed.getD p false = true ∧ AInv B0 w0 ok0 base E0 w1 ops (ss 0).length ds L2 (setSl (appSl s (stS (dA ops p) vs (ss 0) listed ops.size)) oN.dst vN) listed E ok a w)) →
      wpAnyIn (Fw ro) 0 P .any ops Q fuel listed a w := by
  have hps : p < ops.size := (Array.getElem?_eq_some_iff.1 hoN).1
  have hback := hA.back
  have hpair := hA.pair
  have tail : ∀ {listed : Array Bool} {E : Env} {ok : Nat → Prop} {a : Act} {w : World} {fuel : Nat},(∀ i,i < p → listed.getD i false = true) → listed.getD p false = true → (∀ i,p < i → listed.getD i false = false) →
      AInv B0 w0 ok0 base E0 w1 ops (ss 0).length ds L2 (setSl (appSl s (stS (dA ops p) vs (ss 0) listed ops.size)) oN.dst vN) listed E ok a w → (unl ops listed).length ≤ fuel → wpAnyIn (Fw ro) 0 P .any ops Q fuel listed a w := fun {listed E ok a w fuel} hlo hp hhi hI hu => by
    have e : stS (dA ops p) vs (ss 0) listed ops.size = ss p := by
      rw [st_lex (n := ops.size) (fun i t _ hd => hlo i (Z17d hd).1) ops.size (Nat.le_refl _) (fun i _ hd => by
        cases hdd : dA ops p i with
        | none => exact (hd hdd).elim
        | some t => exact hlo i (Z17d hdd).1)]
      have := Z1il ht (by omega) (ops.size - p)
      rwa [show p + (ops.size - p) = ops.size by omega] at this
    have hsl := hI.slr
    rw [e] at hsl
    refine hT (E := E) (ok := ok) ⟨hI.mem,hsl,by rw [hI.size,Zo,Zsz,ht.len p (Nat.le_refl _)],by rw [hI.defers]; exact hdo w hI.step.df⟩ Q listed hI.lsize (fun i hi => ?_) (fun i hi => hhi i (by omega)) (fun ok' E' a' w' hS g hd => hQ ok' E' a' w' hS (hI.step.trans g) (by rw [hd,hI.defers])) fuel hu
    by_cases hip : i = p
    · subst hip; exact hp
    · exact hlo i (by omega)
  intro fuel
  induction fuel with
  | zero =>
    intro listed E ok a w hu hhi hst
    rcases hst with ⟨hp,hI⟩ | ⟨hp,hI⟩
    · have := Z1h1 hI.lsize hps hp
      have h0 : unl ops listed = [] := List.eq_nil_of_length_eq_zero (by omega)
      rw [h0] at this; cases this
    · refine tail (fun i hi => ?_) hp hhi hI hu
      cases hl : listed.getD i false with
      | true => rfl
      | false =>
        have := Z1h1 hI.lsize (show i < ops.size by omega) hl
        have h0 : unl ops listed = [] := List.eq_nil_of_length_eq_zero (by omega)
        rw [h0] at this; cases this
  | succ fuel ih =>
    intro listed E ok a w hu hhi hst
    by_cases hall : listed.getD p false = true ∧ ∀ i,i < p → listed.getD i false = true
    · rcases hst with ⟨hp,hI⟩ | ⟨hp,hI⟩
      · rw [hp] at hall; exact absurd hall.1 (by simp)
      · exact tail hall.2 hp hhi hI hu
    have hls : listed.size = ops.size := by rcases hst with h | h <;> exact h.2.lsize
    have hcl : Closed ops listed := by rcases hst with h | h <;> exact h.2.closed
    have hsz : a.tmps.size = (ss 0).length := by rcases hst with h | h <;> exact h.2.size
    have hdf : a.defers = ds := by rcases hst with h | h <;> exact h.2.defers
    have hsp1 : Step B0 base E0 w1 ok0 E w ok := by rcases hst with h | h <;> exact h.2.step
    refine ⟨fun hrd => (hall ⟨Z17c hback hls hrd p hps,fun i hi => Z17c hback hls hrd i (by omega)⟩).elim,fun j hj => ?_⟩
    obtain ⟨hun,o,ho,hedge⟩ := mem_ready.1 hj
    have hjs := (Array.getElem?_eq_some_iff.1 ho).1
    have hjl : j < listed.size := by rw [hls]; exact hjs
    have hun' : listed.getD j false = false := by rw [← Zmv hjl]; exact hun
    have hcj : ClosedAt ops listed j := fun oj hoj e he hb => by
      have : oj = o := Option.some.inj (hoj.symm.trans ho)
      subst this
      exact hedge e he hb
    have hclosed' : Closed ops (listed.setIfInBounds j true) := by
      intro i hi oi hoi e he hb
      have mono : ∀ q,listed.getD q false = true → (listed.setIfInBounds j true).getD q false = true := fun q hq => by
        by_cases hqj : q = j
        · subst hqj; simp [Array.getD_eq_getD_getElem?,hjl]
        · rw [Zh hqj]; exact hq
      by_cases hij : i = j
      · subst hij; exact mono _ (hcj oi hoi e he hb)
      · rw [Zh hij] at hi
        exact mono _ (hcl i hi oi hoi e he hb)
    have hnow : (listed.setIfInBounds j true).getD j false = true := by simp [Array.getD_eq_getD_getElem?,hjl]
    have anc1 : ∀ i,((ancs ops.toList []).getD j 0).testBit i = true → listed.getD i false = true := fun i h => Z3v hback hcl j hcj h hjs
    have anc2 : ∀ (i : Nat) (x : Oper),ops[i]? = some x → ((ancs ops.toList []).getD i 0).testBit j = true → listed.getD i false = false := fun i x hx h => by
      cases hl : listed.getD i false with
      | false => rfl
      | true =>
        exfalso
        have := Z3v hback hcl i (hcl i hl) h (Array.getElem?_eq_some_iff.1 hx).1
        rw [this] at hun'; cases hun'
    have hjp : j ≤ p := by
      rcases Nat.lt_or_ge p j with hlt | hge
      · exact (hall ⟨anc1 p (Z13r (hA.bars j o hlt ho) hps hlt),fun i hi => anc1 i (Z13r (hA.bars j o hlt ho) (by omega) (by omega))⟩).elim
      · exact hge
    have hlook : ∀ t,t ∈ o.looksAt ops → (stS (dA ops p) vs (ss 0) listed ops.size)[t]? = (ss j)[t]? := fun t htl => by
      have := Z1bd (d := dA ops p) (vs := vs) (sl := ss 0) (listed := listed) (j := j) (t := t) (fun i hij hd => ?_) (fun i hij hd => ?_) ops.size
      · rw [Nat.min_eq_right (by omega),Z1h2 ht (by omega) j hjp] at this; exact this
      · obtain ⟨_,x,hx,hd⟩ := Z17d hd
        rcases Zp7 hpair hij hx ho with h | h
        · exact anc1 i h
        · exact absurd htl ((Oper.apart_spec h).1 t hd)
      · obtain ⟨_,x,hx,hd⟩ := Z17d hd
        by_cases hij' : i = j
        · subst hij'; exact hun'
        · rcases Zp7 hpair (show j < i by omega) ho hx with h | h
          · exact anc2 i x hx h
          · exact absurd htl ((Oper.apart_spec h).2.2 t hd)
    have evs : ∀ (sl' : List AV),(∀ t,t ∈ o.looksAt ops → sl'[t]? = (ss j)[t]?) → ∀ x,x ∈ o.op.operands → Ev.ev sl' x = Ev.ev (ss j) x := fun sl' h x hx => by
      cases x with
      | tmp t =>
        simp only [Ev.ev,List.getD_eq_getElem?_getD]
        rw [h t (List.mem_append_left _ (List.mem_filterMap.2 ⟨.tmp t,by simpa using hx,rfl⟩))]
      | const v => rfl
      | global g => rfl
      | func f => rfl
    have hgd := hA.guard j o ho
    unfold wpOpIn
    simp only [ho]
    rw [if_pos (Zmu hgd _)]
    by_cases hjn : j = p
    · -- the append
      subst hjn
      have : oN = o := Option.some.inj (hoN.symm.trans ho)
      subst this
      rcases hst with ⟨hp,hI⟩ | ⟨hp,hI⟩
      case inr => rw [hp] at hun'; cases hun'
      refine (hN _ (evs _ hlook)).2 hndN (ro := ro) (B0 := B0) (w0 := w0) (ok := ok) (E := E) ⟨hI.mem,hI.slr,by rw [hI.size,Zby],by rw [hI.defers]; exact hdo w hI.step.df⟩ _ Q fun ok' E' u w' hM hv hsl g => ?_
      refine ih _ E' ok' _ w' (by have := unl_lt hjs hls hun; omega) (fun i hi => by rw [Zh (by omega)]; exact hhi i hi) (.inr ⟨hnow,hM,?_,by rw [Ziy]; exact hsz,by rw [Z4v]; exact hdf,by simp [hls],hclosed',hI.step.trans g⟩)
      rw [Z1ex (l2 := listed) (fun i hi => Zh (fun e => by
        subst e
        unfold dA at hi
        rw [if_neg (by omega)] at hi
        exact hi rfl)) ops.size]
      exact hsl.put (by rw [hI.size,Zsz,Zby]) hv _
    have hlt : j < p := by omega
    obtain ⟨_,hq,hkind⟩ := hA.pre j o hlt ho
    obtain ⟨e1,hnd,hq1,hq2⟩ := ht.step j o hlt ho
    have hadd : stS (dA ops p) vs (ss 0) (listed.setIfInBounds j true) ops.size = setSl (stS (dA ops p) vs (ss 0) listed ops.size) o.dst (vs j) := by
      have := Z1av (d := dA ops p) (vs := vs) (sl := ss 0) hjl hun' (fun i t hij hl hd hxd => by
        obtain ⟨_,x,hx,hxd⟩ := Z17d hxd
        obtain ⟨_,y,hy,hd⟩ := Z17d hd
        rw [ho] at hy; cases hy
        rcases Zp7 hpair hij ho hx with h | h
        · rw [anc2 i x hx h] at hl; cases hl
        · exact (Oper.apart_spec h).2.1 t hd hxd) ops.size
      rw [if_neg (by omega)] at this
      rw [this]
      congr 1
      unfold dA
      rw [if_pos hlt,ho]
      rfl
    have hopsA : ∀ (sl' : List AV) (L' : Heap),Mem B0 w0 ok E L' w → SlRep E w ok a.tmps sl' → ORep B0 w0 ok E o sl' L' a w := fun sl' L' hM hsl => ⟨hM,fun x _ => hsl.ev hM.gl x⟩
    rcases hst with ⟨hp,hI⟩ | ⟨hp,hI⟩
    · -- ahead of the append
      have hor : ORep B0 w0 ok E o (ss j) L a w := ⟨hI.mem,fun x hx => by rw [← evs _ hlook x hx]; exact hI.slr.ev hI.mem.gl x⟩
      refine hq1 hnd hor _ Q fun ok' u w' _ hM g ext hv => ?_
      refine ih _ E ok' _ w' (by have := unl_lt hjs hls hun; omega) (fun i hi => by rw [Zh (by omega)]; exact hhi i hi) (.inl ⟨by rw [Zh (by omega)]; exact hp,hM,?_,by rw [Ziy]; exact hsz,by rw [Z4v]; exact hdf,by simp [hls],hclosed',hI.step.trans (.of g ext)⟩)
      rw [hadd]
      exact (hI.slr.grow g).put (by rw [Zby]; exact hsz) hv _
    · -- behind it
      have hnanc : ((ancs ops.toList []).getD p 0).testBit j = false := by
        cases h : ((ancs ops.toList []).getD p 0).testBit j with
        | false => rfl
        | true => rw [anc2 p oN hoN h] at hp; cases hp
      rcases hkind with h | ⟨hb,hkeep⟩
      · rw [hnanc] at h; cases h
      have hbe : Z1ek ops (ss p) L (appId s) o = true := by
        unfold Z11x at hbes
        simp only [Bool.and_eq_true] at hbes
        have := List.all_eq_true.1 hbes.2 j (List.mem_range.2 hlt)
        rw [hnanc,ho] at this
        simpa using this
      unfold Z1ek at hbe
      simp only [Bool.and_eq_true] at hbe
      obtain ⟨hb1,hb2⟩ := hbe
      have keep : ∀ t,t ∈ o.looksAt ops → ∀ m,j + m ≤ p → (ss (j + m))[t]? = (ss j)[t]? := fun t htl m => by
        induction m with
        | zero => intro _; rfl
        | succ m ihm =>
          intro hm
          have hok := Array.getElem?_eq_getElem (show j + m < ops.size by omega)
          rw [show j + (m + 1) = j + m + 1 by omega,(ht.step (j + m) _ (by omega) hok).1,Z47 (hkeep (j + m) _ (by omega) (by omega) hok t htl)]
          exact ihm (by omega)
      have hpt : ∀ t,t ∈ o.looksAt ops → (ss p)[t]? = (ss j)[t]? := fun t htl => by
        have := keep t htl (p - j) (by omega)
        rwa [show j + (p - j) = p by omega] at this
      have hap : Oper.apart ops o oN = true := by
        rcases Zp7 hpair hlt ho hoN with h | h
        · rw [hnanc] at h; cases h
        · exact h
      have hslB : ∀ t,t ∈ o.looksAt ops → (setSl (appSl s (stS (dA ops p) vs (ss 0) listed ops.size)) oN.dst vN)[t]? = (ss j)[t]? := fun t htl => by
        rw [Z47 (fun hd => (Oper.apart_spec hap).2.2 t hd htl),Z1ks,hlook t htl]
        intro id hid
        have h1 := List.all_eq_true.1 hb1 t htl
        rw [hid] at h1
        have e : (stS (dA ops p) vs (ss 0) listed ops.size).getD t .junk = (ss p).getD t .junk := by
          simp only [List.getD_eq_getElem?_getD]; rw [hlook t htl,hpt t htl]
        rw [e]
        simpa using h1
      have hQS := hq2 hb _ L2 (evs _ hslB) (fun t a' i off hop hev => by
        rw [hop] at hb2
        have hta : a' ∈ o.looksAt ops := List.mem_append_left _ (List.mem_filterMap.2 ⟨.tmp a',by simp [hop,Op.operands],rfl⟩)
        have e : (ss p).getD a' .junk = .ptr i off := by
          rw [← hev]
          simp only [Ev.ev,List.getD_eq_getElem?_getD]; rw [hpt a' hta]
        simp only [e,Bool.and_eq_true] at hb2
        cases hL : L[i]? with
        | none => rw [hL] at hb2; simp at hb2
        | some B =>
          rw [hL] at hb2
          refine hmem i B hL fun id hid => ?_
          rw [hid] at hb2
          simp at hb2
          exact ⟨fun e => hb2.1 e.symm,hb2.2⟩)
      refine hQS hnd ⟨hI.mem,fun x _ => hI.slr.ev hI.mem.gl x⟩ _ Q fun ok' u w' _ hM g ext hv => ?_
      refine ih _ E ok' _ w' (by have := unl_lt hjs hls hun; omega) (fun i hi => by rw [Zh (by omega)]; exact hhi i hi) (.inr ⟨by rw [Zh (by omega)]; exact hp,hM,?_,by rw [Ziy]; exact hsz,by rw [Z4v]; exact hdf,by simp [hls],hclosed',hI.step.trans (.of g ext)⟩)
      rw [hadd,Z1jz,Z1dx (fun t hd => (Oper.apart_spec hap).2.1 t hd)]
      exact (hI.slr.grow g).put (by rw [Zo,Zsz,Zby]; exact hsz) (Z1kr hv) _

theorem Z1k0 (hsp : SpOk P sp) (hm : P.follows .mixedOrders = true) {or : Orc R} (hor : OrOk P or) {st : St} {k : St → Option R} {r : R} (h : appRun P sp base or ops st k = some r) :
  ∃ st',k st' = some r ∧ st'.sl.length = st.sl.length ∧ ∀ {ro B0 w0 ok E a w},Sim B0 w0 ok E st a w → ∀ (id : Nat) (Q : Exit → Act → World → Prop),
   (∀ ok' E' a' w',Sim B0 w0 ok' E' st' a' w' → Step B0 base E w ok E' w' ok' → a'.defers = a.defers → Q .normal a' w') → (Code.region id ops true).wpIn (Fw ro) 0 P Q a w := by
 unfold appRun at h
 cases hix : appIx ops with
 | none => rw [hix] at h; cases h
 | some p =>
 rw [hix] at h
 simp only at h
 split at h
 case isFalse => cases h
 rename_i hok
 have hA := AppOk.of hok
 cases hoN : ops[p]? with
 | none => rw [hoN] at h; cases h
 | some oN =>
 rw [hoN] at h
 simp only at h
 have hps : p < ops.size := (Array.getElem?_eq_some_iff.1 hoN).1
 have happ : isApp oN.op = true := by
  have := List.find?_some hix
  rw [hoN] at this
  exact this
 have htk : (ops.toList.take p).length = p := by simp; omega
 obtain ⟨ss,vs,h0,ht,h1⟩ := Z1bj (base := base) (L := st.L) (k := fun st1 => if (Nat.beq st1.L.length st.L.length && Z11x ops p (ev st1.sl (appArg oN.op)) st1.sl st1.L) = true then opK P sp base true or oN st1.sl st1.L fun sl v L => opsK P sp base [] or ops (ops.toList.drop (p + 1)) ⟨setSl sl oN.dst v,L⟩ k else none) (r := r) hsp hor (show p ≤ ops.size by omega) (fun j o hj ho => ⟨(hA.pre j o hj ho).1,(hA.pre j o hj ho).2.1⟩) (fun st' hk => by
  split at hk
  ·rename_i hc
   simp only [Bool.and_eq_true] at hc
   exact Nat.eq_of_beq_eq_true hc.1
  ·cases hk) (ops.toList.take p) 0 (fun _ => st.sl) (fun _ => .junk) (by rw [htk]; rfl)
  (fun j hj => by rw [List.getElem?_take,if_pos (by omega)]; simp) ⟨fun j hj => rfl,fun j o hj => by omega⟩ (by rw [htk]; exact h)
 split at h1
 case isFalse => cases h1
 rename_i hbes
 simp only [Bool.and_eq_true] at hbes
 have hbes := hbes.2
 obtain ⟨vN,L2,h2,hag,hmem⟩ := Z1li happ h1
 have hkd : appKind (ev (ss p) (appArg oN.op)) = true := by
  unfold Z11x at hbes
  simp only [Bool.and_eq_true] at hbes
  exact hbes.1
 obtain ⟨st',hk,hl,hT⟩ := Z1e0 (base := base) hsp hor hA.back (j0 := p + 1) (fun i o hi ho => ⟨hA.bars i o (by omega) ho,hA.guard i o ho⟩) (ops.toList.drop (p + 1)) (p + 1) _ (fun i => by rw [List.getElem?_drop]; simp) (Nat.le_refl _) (by omega) h2
 refine ⟨st',hk,by rw [hl]; simp only [Zo,Zsz]; rw [ht.len p (Nat.le_refl _),h0],fun {ro B0 w0 ok E a w} hS id Q hQ => wpIn_region_any hm ?_⟩
 have hun : ∀ i,(Array.replicate ops.size false).getD i false = false := fun i => by
  simp only [Array.getD_eq_getD_getElem?,Array.getElem?_replicate]
  split <;> simp
 refine app_go hA ht hoN (fun sl' he => ?_) (Zhd h1) (hmem hkd) hbes hT (B0 := B0) (w0 := w0) (ok0 := ok) (w1 := w) (E0 := E) (ds := a.defers) (fun w' g => hS.defers.keep g) (fun ok' E' a' w' hS' g hd => hQ ok' E' a' w' hS' g hd) ops.size _ E ok a w.drew
  (by unfold unl; exact Nat.le_trans (List.length_filter_le _ _) (by simp)) (fun i _ => hun i) (.inl ⟨hun p,hS.mem.drew,?_,by rw [hS.size,h0],rfl,by simp,fun j hj => (by rw [hun] at hj; cases hj),.of' (Grow.drew E w ok)⟩)
 ·obtain ⟨sl'',v',L',hk2,hop⟩ := Z1at (R := List AV × AV × Heap) (or := fun _ _ _ _ _ => none) hsp (fun _ _ _ _ _ _ _ _ h => by cases h) (hag _ sl' (fun sl v L => some (sl,v,L)) he)
  cases hk2
  exact hop
 ·rw [Z14i fun i hl => by rw [hun] at hl; cases hl]
  rw [h0]
  exact hS.sl.grow (Grow.drew E w ok)
end
end Go.Ev
/-
 Code and functions: sound.
-/
set_option linter.unusedSimpArgs false
set_option linter.unusedVariables false
namespace Go.Ev
open Go Go.RowKit
variable {R : Type} {P : Program} {base : Own} {sp : SpTab}
def toExit : Ex → Exit
 | .normal => .normal
 | .exit id => .exit id
 | .goto l => .goto l
 | .ret => .ret
def CodeSem (P : Program) (base : Own) (c : Code) (st : St) (e : Ex) (st' : St) : Prop :=
 st'.sl.length = st.sl.length ∧ ∀ {ro B0 w0 ok E a w},(base.rd = false → ro = none) → Sim B0 w0 ok E st a w → ∀ (Q : Exit → Act → World → Prop),
  (∀ ok' E' a' w',Sim B0 w0 ok' E' st' a' w' → Step B0 base E w ok E' w' ok' → (base.rd = true → a'.defers = a.defers) → Q (toExit e) a' w') → c.wpIn (Fw ro) 0 P Q a w
theorem Z15f {ro : Option Nat} (m : Machine) : m.fenced P (Fw ro) := fenced_wide P m
theorem Z1k1 {ro : Option Nat} (n : Nat) : (Fw ro).room n := room_wide n
def LoopWp (ro : Option Nat) (P : Program) (c : Code) (Q : Exit → Act → World → Prop) (a : Act) (w : World) : Prop :=
 ∀ (b : Frame) (k : List Item) (cs : List Frame),b.roundOf = ro → ∃ e a' w',Q e a' w' ∧ ArrivesIn (Machine.fenced P (Fw ro)) P (lone (b.atR a (.code c :: .inLoop c :: k)) cs w) b k cs e a' w'
theorem LoopWp.loop {ro : Option Nat} {c : Code} {Q : Exit → Act → World → Prop} {a : Act} {w : World} (h : LoopWp ro P c Q a w) : (Code.loop c).wpIn (Fw ro) 0 P Q a w := fun b k cs hro hb hr =>
 let ⟨e,a',w',hq,harr⟩ := h b k cs hro
 ⟨e,a',w',hq,.of_steps (.one (Z15f _) stepR_loop) harr⟩
theorem LoopWp.round {ro : Option Nat} {c : Code} {Q : Exit → Act → World → Prop} {a : Act} {w : World} (h : c.wpIn (Fw ro) 0 P (Exit.then (LoopWp ro P c Q) Q) a w) : LoopWp ro P c Q a w := by
 intro b k cs hro
 obtain ⟨e,a₁,w₁,hq,harr⟩ := h b (.inLoop c :: k) cs hro trivial (Z1k1 _)
 cases e with
 | normal =>
  obtain ⟨e₂,a₂,w₂,hq₂,harr₂⟩ := hq b k cs hro
  exact ⟨e₂,a₂,w₂,hq₂,.of_steps (StepsIn.trans harr (.one (Z15f _) stepR_inLoop)) harr₂⟩
 | exit id => exact ⟨_,a₁,w₁,hq,.pass (x := .inLoop c) rfl (fun _ _ => .inl (by simp)) harr⟩
 | goto l => exact ⟨_,a₁,w₁,hq,.pass (x := .inLoop c) rfl (fun _ _ => .inl (by simp)) harr⟩
 | ret => exact ⟨_,a₁,w₁,hq,.pass (x := .inLoop c) rfl (fun _ _ => .inl (by simp)) harr⟩
 | panic ch => exact ⟨_,a₁,w₁,hq,.pass (x := .inLoop c) rfl (fun _ _ => .inl (by simp)) harr⟩
 | outgrown => exact ⟨_,a₁,w₁,hq,.pass (x := .inLoop c) rfl (fun _ _ => .inl (by simp)) harr⟩
def LoopSem (P : Program) (base : Own) (c : Code) (st : St) (e : Ex) (st' : St) : Prop :=
 st'.sl.length = st.sl.length ∧ ∀ {ro B0 w0 ok E a w},(base.rd = false → ro = none) → Sim B0 w0 ok E st a w → ∀ (Q : Exit → Act → World → Prop),
  (∀ ok' E' a' w',Sim B0 w0 ok' E' st' a' w' → Step B0 base E w ok E' w' ok' → (base.rd = true → a'.defers = a.defers) → Q (toExit e) a' w') → LoopWp ro P c Q a w
theorem Z1e1 {c : Code} {keep : List Bool} {mm : Nat} {body : CO R} (hb : ∀ {st k r},body st k = some r → ∃ e st',k e st' = some r ∧ CodeSem P base c st e st') :
  ∀ {n : Nat} {st : St} {k : Ex → St → Option R} {r : R},Ziu keep base.base mm body n st k = some r → ∃ e st',k e st' = some r ∧ LoopSem P base c st e st'
 | 0,st,k,r,h => by cases h
 | n + 1,st,k,r,h => by
  obtain ⟨e,st2,h2,hl2,hs2⟩ := hb h
  have stop : ∀ {e : Ex},(toExit e ≠ .normal) → CodeSem P base c st e st2 → LoopSem P base c st e st2 := fun {e} he hs => by
   refine ⟨hl2,fun {ro B0 w0 ok E a w} hro hS Q hQ => ?_⟩
   refine LoopWp.round (hs.2 hro hS _ fun ok' E' a' w' hS' g hd => ?_)
   have := hQ ok' E' a' w' hS' g hd
   cases e <;> first | exact this | exact absurd rfl he
  cases e with
  | normal =>
   obtain ⟨st1,h1,hl1,hs1⟩ := Zvo h2
   obtain ⟨e3,st3,h3,hl3,hs3⟩ := Z1e1 hb h1
   refine ⟨e3,st3,h3,by rw [hl3,hl1,hl2],fun {ro B0 w0 ok E a w} hro hS Q hQ => ?_⟩
   refine LoopWp.round (hs2 hro hS _ fun ok' E' a' w' hS' g hd => ?_)
   obtain ⟨ok1,E1,hS1,g1⟩ := hs1 hS'
   exact hs3 hro hS1 Q fun ok2 E2 a2 w2 hS2 g2 hd2 => hQ ok2 E2 a2 w2 hS2 ((g.trans g1).trans g2) (fun h => (hd2 h).trans (hd h))
  | exit id => exact ⟨_,st2,h2,stop (by simp [toExit]) ⟨hl2,hs2⟩⟩
  | goto l => exact ⟨_,st2,h2,stop (by simp [toExit]) ⟨hl2,hs2⟩⟩
  | ret => exact ⟨_,st2,h2,stop (by simp [toExit]) ⟨hl2,hs2⟩⟩
theorem Z1h3 {b : Frame} {a : Act} {k : List Item} {cs : List Frame} {w : World} {c : Code} : step P (lone (b.atR a (.code (.scope c) :: k)) cs w) = .next (lone (b.atR a (.code c :: .inScope c :: k)) cs w) :=
 step_lone_go (by simp [stepG,stepG.exec,Frame.atR])
theorem Z1ez {b : Frame} {a : Act} {k : List Item} {cs : List Frame} {w : World} {c : Code} : step P (lone (b.atR a (.inScope c :: k)) cs w) = .next (lone (b.atR a k) cs w) :=
 step_lone_go (by simp [stepG,stepG.exec,Frame.atR])
def ScopeWp (ro : Option Nat) (P : Program) (c0 c : Code) (Q : Exit → Act → World → Prop) (a : Act) (w : World) : Prop :=
 ∀ (b : Frame) (k : List Item) (cs : List Frame),b.roundOf = ro → ∃ e a' w',Q e a' w' ∧ ArrivesIn (Machine.fenced P (Fw ro)) P (lone (b.atR a (.code c :: .inScope c0 :: k)) cs w) b k cs e a' w'
theorem ScopeWp.scope {ro : Option Nat} {c : Code} {Q : Exit → Act → World → Prop} {a : Act} {w : World} (h : ScopeWp ro P c c Q a w) : (Code.scope c).wpIn (Fw ro) 0 P Q a w := fun b k cs hro hb hr =>
 let ⟨e,a',w',hq,harr⟩ := h b k cs hro
 ⟨e,a',w',hq,.of_steps (.one (Z15f _) Z1h3) harr⟩
def ScopeQ (ro : Option Nat) (P : Program) (c0 : Code) (Q : Exit → Act → World → Prop) : Exit → Act → World → Prop
 | .goto l,a,w => match findLabel c0 l with
  | some rest => ScopeWp ro P c0 rest Q a w
  | none => Q (.goto l) a w
 | e,a,w => Q e a w
theorem ScopeWp.of {ro : Option Nat} {c0 c : Code} {Q : Exit → Act → World → Prop} {a : Act} {w : World} (h : c.wpIn (Fw ro) 0 P (ScopeQ ro P c0 Q) a w) : ScopeWp ro P c0 c Q a w := by
 intro b k cs hro
 obtain ⟨e,a₁,w₁,hq,harr⟩ := h b (.inScope c0 :: k) cs hro trivial (Z1k1 _)
 have hx : ∀ id,exitTo id (.inScope c0 :: k) = exitTo id k := fun id => by simp [exitTo]
 cases e with
 | normal => exact ⟨.normal,a₁,w₁,hq,StepsIn.trans harr (.one (Z15f _) Z1ez)⟩
 | exit id => exact ⟨.exit id,a₁,w₁,hq,fun k' hk => harr.1 k' (by rw [hx]; exact hk),fun hr' hk => harr.2 hr' (by rw [hx]; exact hk)⟩
 | goto l =>
  simp only [ScopeQ] at hq
  cases hf : findLabel c0 l with
  | some rest =>
   rw [hf] at hq
   obtain ⟨e₂,a₂,w₂,hq₂,harr₂⟩ := hq b k cs hro
   exact ⟨e₂,a₂,w₂,hq₂,.of_steps (harr.1 _ (by simp [gotoIn,hf])) harr₂⟩
  | none =>
   rw [hf] at hq
   have hg : gotoIn l (.inScope c0 :: k) = gotoIn l k := by simp [gotoIn,hf]
   exact ⟨.goto l,a₁,w₁,hq,fun k' hk => harr.1 k' (by rw [hg]; exact hk),fun hr' hk => harr.2 hr' (by rw [hg]; exact hk)⟩
 | ret => exact ⟨_,a₁,w₁,hq,harr⟩
 | panic ch => exact ⟨_,a₁,w₁,hq,harr⟩
 | outgrown => exact ⟨_,a₁,w₁,hq,harr⟩
def JumpSem (P : Program) (base : Own) (c0 : Code) (e1 : Ex) (st1 : St) (e : Ex) (st2 : St) : Prop :=
 st2.sl.length = st1.sl.length ∧ ∀ {ro B0 w0 ok E a w},(base.rd = false → ro = none) → Sim B0 w0 ok E st1 a w → ∀ (Q : Exit → Act → World → Prop),
  (∀ ok' E' a' w',Sim B0 w0 ok' E' st2 a' w' → Step B0 base E w ok E' w' ok' → (base.rd = true → a'.defers = a.defers) → Q (toExit e) a' w') → ScopeQ ro P c0 Q (toExit e1) a w
theorem Z1h4 {fh : FnH} {c0 : Code} {lab : Nat → CO R} (hlab : ∀ {l rest st k r},findLabel c0 l = some rest → lab l st k = some r → ∃ e st',k e st' = some r ∧ CodeSem P base rest st e st') :
  ∀ {n : Nat} {e1 : Ex} {st : St} {k : Ex → St → Option R} {r : R},scopeK base fh c0 (Z1el base fh c0 lab k n) k e1 st = some r → ∃ e st',k e st' = some r ∧ JumpSem P base c0 e1 st e st' := by
 intro n
 induction n with
 | zero =>
  intro e1 st k r h
  have out : ∀ {e : Ex},(∀ l,e ≠ .goto l) → JumpSem P base c0 e st e st := fun {e} he => ⟨rfl,fun {ro B0 w0 ok E a w} hro hS Q hQ => by
   have := hQ ok E a w hS (.refl _ _ _ _ _) (fun _ => rfl)
   cases e <;> first | exact this | exact absurd rfl (he _)⟩
  cases e1 with
  | normal => exact ⟨_,st,h,out (fun l => by simp)⟩
  | exit id => exact ⟨_,st,h,out (fun l => by simp)⟩
  | ret => exact ⟨_,st,h,out (fun l => by simp)⟩
  | goto l =>
   simp only [scopeK] at h
   cases hf : findLabel c0 l with
   | none =>
    rw [hf] at h
    refine ⟨_,st,h,rfl,fun {ro B0 w0 ok E a w} hro hS Q hQ => ?_⟩
    have := hQ ok E a w hS (.refl _ _ _ _ _) (fun _ => rfl)
    simp only [toExit,ScopeQ,hf]
    exact this
   | some rest =>
    rw [hf] at h
    simp only at h
    split at h
    case h_2 => cases h
    obtain ⟨st1,h1,hl1,hs1⟩ := prom_sound h
    obtain ⟨st2,h2,hl2,hs2⟩ := Zvo h1
    cases h2
 | succ n ih =>
  intro e1 st k r h
  have out : ∀ {e : Ex},(∀ l,e ≠ .goto l) → JumpSem P base c0 e st e st := fun {e} he => ⟨rfl,fun {ro B0 w0 ok E a w} hro hS Q hQ => by
   have := hQ ok E a w hS (.refl _ _ _ _ _) (fun _ => rfl)
   cases e <;> first | exact this | exact absurd rfl (he _)⟩
  cases e1 with
  | normal => exact ⟨_,st,h,out (fun l => by simp)⟩
  | exit id => exact ⟨_,st,h,out (fun l => by simp)⟩
  | ret => exact ⟨_,st,h,out (fun l => by simp)⟩
  | goto l =>
   simp only [scopeK] at h
   cases hf : findLabel c0 l with
   | none =>
    rw [hf] at h
    refine ⟨_,st,h,rfl,fun {ro B0 w0 ok E a w} hro hS Q hQ => ?_⟩
    have := hQ ok E a w hS (.refl _ _ _ _ _) (fun _ => rfl)
    simp only [toExit,ScopeQ,hf]
    exact this
   | some rest =>
    rw [hf] at h
    simp only at h
    split at h
    case h_2 => cases h
    obtain ⟨st1,h1,hl1,hs1⟩ := prom_sound h
    obtain ⟨st2,h2,hl2,hs2⟩ := Zvo h1
    obtain ⟨e3,st3,h3,hs3⟩ := hlab hf (show lab l st2 _ = some r from h2)
    obtain ⟨e4,st4,h4,hl4,hs4⟩ := ih h3
    refine ⟨e4,st4,h4,by rw [hl4,hs3.1,hl2,hl1],fun {ro B0 w0 ok E a w} hro hS Q hQ => ?_⟩
    obtain ⟨ok2,E2,hS2,g2⟩ := hs2 (hs1 hS)
    simp only [toExit,ScopeQ,hf]
    refine ScopeWp.of (hs3.2 hro hS2 _ fun ok3 E3 a3 w3 hS3 g3 hd3 => ?_)
    exact hs4 hro hS3 Q fun ok' E' a' w' hS' g hd => hQ ok' E' a' w' hS' ((g2.trans g3).trans g) (fun hh => (hd hh).trans (hd3 hh))
theorem Z15g {sl : List AV} {c : Operand} {b : Bool} (h : ev sl c = .d (.v (.bool b))) : litB sl c b = sl := by
 cases c <;> try rfl
 rename_i t
 simp only [ev,List.getD] at h
 cases hs : sl[t]? with
 | none => rw [hs] at h; cases h
 | some x =>
  rw [hs] at h
  simp only [Option.getD_some] at h
  subst h
  exact Znn hs
theorem CodeSem.trans_seq {x y : Code} {st st1 st1' st2 : St} {e : Ex} (h1 : CodeSem P base x st .normal st1) (hl : st1'.sl.length = st1.sl.length)
  (hmid : ∀ {B0 w0 ok E a w},Sim B0 w0 ok E st1 a w → ∃ ok' E',Sim B0 w0 ok' E' st1' a w ∧ Step B0 base E w ok E' w ok') (h2 : CodeSem P base y st1' e st2) : CodeSem P base (.seq x y) st e st2 := by
 refine ⟨by rw [h2.1,hl,h1.1],fun {ro B0 w0 ok E a w} hro hS Q hQ => wpIn_seq (h1.2 hro hS _ fun ok1 E1 a1 w1 hS1 g1 hd1 => ?_)⟩
 obtain ⟨ok2,E2,hS2,g2⟩ := hmid hS1
 exact h2.2 hro hS2 Q fun ok3 E3 a3 w3 hS3 g3 hd3 => hQ ok3 E3 a3 w3 hS3 ((g1.trans g2).trans g3) (fun h => (hd3 h).trans (hd1 h))
def codeAt (c : Code) : Option Nat → Option Code
 | none => some c
 | some l => findLabel c l
theorem Z1bk {or : Orc R} (hor : OrOk P or) {g : Operand} {ps : Array Tmp} {x y : Code} {fh : FnH} {keep : List Bool} {st : St} {k : Ex → St → Option R} {r : R} {f : FuncId} {caps : List AV} (hrd : base.rd = false)
  (hg : ∀ {E : Env} {w : World} {ok : Nat → Prop} {a : Act},SlRep E w ok a.tmps st.sl → GlOk w ok → ∃ vs : List Value,a.eval g = .func (.func f) #[] vs.toArray ∧ Reps E w ok vs caps)
  (h : or (subOwn base [] (st.L ++ [.loop 0 none (keepSl keep st.sl) ps.toList x y fh])) (.fn f) (.yld st.L.length :: caps) (st.L ++ [.loop 0 none (keepSl keep st.sl) ps.toList x y fh]) (Z1aq st.L.length st.sl.length k) = some r) :
  ∃ e st',k e st' = some r ∧ CodeSem P base (.rangeFunc g ps x y) st e st' := by
 obtain ⟨v,L',hk,hen,hcs⟩ := hor _ _ _ _ _ _ rfl rfl h
 unfold Z1aq at hk
 split at hk
 case h_2 => cases hk
 rename_i s p sl ps' x' y' fh' hL'
 split at hk
 case isFalse => cases hk
 rename_i hc
 refine ⟨_,_,hk,hc.2,fun {ro B0 w0 ok E a w} hro hS Q hQ => ?_⟩
 obtain rfl := hro hrd
 refine wpIn_rangeFunc fun fn _ => ?_
 obtain ⟨hM1,g1⟩ := hS.mem.alloco (.deferred (some []))
 let rec0 : Loop := { state := .ready,pending := none,fn,tmps := a.tmps,params := ps,assign := x,body := y,defers := w.heap.size }
 have hsl1 : SlRep E (w.alloc (.deferred (some []))) ok a.tmps (keepSl keep st.sl) := fun t c hc => by
  rcases keepSl_get _ _ _ _ hc with rfl | h1
  ·exact .junk
  ·exact (hS.sl t c h1).grow g1
 have hobj : ObjRep E (w.alloc (.deferred (some []))) ok (.loop rec0) (.loop 0 none (keepSl keep st.sl) ps.toList x y fh) := ⟨rfl,rfl,hsl1,by rw [keepSl_length]; exact hS.size,rfl,rfl,rfl⟩
 have hM2 := hM1.allocy (.loop rec0) _ hobj
 have g2 := Grow.allocy hM1 (.loop rec0) (w.alloc (.deferred (some []))).heap.size
 have hsz : (w.alloc (.deferred (some []))).heap.size = w.heap.size + 1 := by simp
 rw [hsz] at hM2 g2
 obtain ⟨vs,hev,hvr⟩ := hg hS.sl hS.mem.gl
 have hev2 : a.eval g = .func (.func f) #[] vs.toArray := hev
 let W1 := (w.alloc (.deferred (some []))).alloc (.loop rec0)
 refine ⟨w.heap.size + 1,[{ target := .collected w.heap.size,args := #[] }],W1,{ target := .fn (.func f) vs.toArray,args := #[.func (.yield (w.heap.size + 1)) #[] #[]] },W1,f,#[.func (.yield (w.heap.size + 1)) #[] #[]] ++ vs.toArray,W1,run_enterLoop_outer _ _ _ _ _,?_,fun _ _ => trivial,?_,fun hh => (by simp [Fw,Fence.wide] at hh),?_⟩
 ·simp only [resolve,hev2]
  simp [go_sem]
 ·simp [invoke,go_sem,Zo0 hen]
 ·have hD : W1.heap[w.heap.size]? = some (.deferred (some [])) := (heap_alloc_old _ _ (by simp)).trans (heap_alloc_new w _)
  have hl1 : W1.heap[w.heap.size + 1]? = some (.loop rec0) := by have := heap_alloc_new (w.alloc (.deferred (some []))) (.loop rec0); rwa [hsz] at this
  have hcall := hcs hM2 (vals := Value.func (.yield (w.heap.size + 1)) #[] #[] :: vs) (by simp [hvr.1]) (fun i z c hz hc' => by
   cases i with
   | zero => simp at hz hc'; subst hz hc'; exact .yld (by simp [Env.puty])
   | succ i => exact ((hvr.2 i z c (by simpa using hz) (by simpa using hc')).grow g1).grow g2)
  have e1 : (Value.func (.yield (w.heap.size + 1)) #[] #[] :: vs).toArray = #[.func (.yield (w.heap.size + 1)) #[] #[]] ++ vs.toArray := by simp
  rw [e1] at hcall
  refine (Z1ie (n := 0 - 1) (ro := none) hcall).mono ?_
  rintro e w3 ⟨u,ok',E',rfl,hM3,_,g3⟩
  have gg := (g3.up hM2)
  have hy3 : E'.y st.L.length = some (w.heap.size + 1) := g3.envy _ _ (by simp [subOwn]) (by simp [Env.puty])
  obtain ⟨hB0,o,B,hlo,hLB,ho⟩ := hM3.obj _ _ hy3
  rw [hL'] at hLB; cases hLB
  obtain ⟨rc,rfl⟩ : ∃ rc,o = .loop rc := by cases o <;> first | exact ho.elim | exact ⟨_,rfl⟩
  obtain ⟨hst,hpe,hsl3,hsz3,hps3,ha3,hb3⟩ := ho
  have hbusy : rc.state ≠ .busy := fun hh => by rw [hh] at hst; exact hc.1 hst.symm
  obtain ⟨o',ho',hkp⟩ := g3.df _ _ hl1 rfl
  rw [hlo] at ho'; cases ho'
  have htm : rc.tmps = a.tmps := by
   rcases hkp with hkp | ⟨q,q',hq,hq',h1,h2⟩
   ·cases hkp; rfl
   ·cases hq; cases hq'; exact h1
  obtain ⟨oD,hoD,hkD⟩ := g3.df _ _ hD rfl
  have hD3 : w3.heap[w.heap.size]? = some (.deferred (some [])) := by
   rcases hkD with rfl | ⟨q,q',hq,_⟩
   ·exact hoD
   ·cases hq
  have hobj3 : ObjRep E' w3 ok' (.loop { rc with state := .exhausted }) (.loop 3 p sl ps' x' y' fh') := ⟨rfl,hpe,hsl3,hsz3,hps3,ha3,hb3⟩
  have hkeep : kept (.loop rc) = true → Keeps (.loop rc) (.loop { rc with state := .exhausted }) := fun _ => .inr ⟨_,_,rfl,rfl,rfl,rfl⟩
  have hM4 := hM3.putObj hy3 hlo hkeep hobj3
  have g4 := Grow.putObj hM3 hy3 hlo hkeep
  have hwhole : Step B0 base E w ok E' (w3.putObj (w.heap.size + 1) (.loop { rc with state := .exhausted })) ok' := ((Step.of' (B0 := B0) (n := base) g1).trans ((Step.of' g2).trans gg)).trans (.of' g4)
  have hdf : DefOk B0 (w3.putObj (w.heap.size + 1) (.loop { rc with state := .exhausted })) ({ target := .collected w.heap.size,args := #[] } :: a.defers) := by
   obtain ⟨rs,h1,h2,h3⟩ := hS.defers.keep hwhole.df
   obtain ⟨rs0,h10,h20,h30⟩ := hS.defers
   have hinj : rs = rs0 := by
    have := h1.symm.trans h10
    have := (List.map_inj_right (f := fun r => ({ target := Target.collected r,args := #[] } : Deferred)) (fun p q hpq => by injection hpq with hpq _; injection hpq)).1 this
    exact this
   subst hinj
   refine ⟨w.heap.size :: rs,by simp [h1],List.nodup_cons.2 ⟨fun hm => ?_,h2⟩,fun r hr => ?_⟩
   ·have := (Array.getElem?_eq_some_iff.1 (h30 _ hm).2).1; omega
   ·rcases List.mem_cons.1 hr with rfl | hr
    ·exact ⟨hS.mem.b0,(World.putObj_heap_other (by omega)).trans hD3⟩
    ·exact h3 r hr
  have hS4 : Sim B0 w0 ok' E' ⟨sl,L'.set st.L.length (.loop 3 p sl ps' x' y' fh')⟩ { a with defers := { target := .collected w.heap.size,args := #[] } :: a.defers } (w3.putObj (w.heap.size + 1) (.loop { rc with state := .exhausted })) := by
   refine ⟨hM4,fun t c hc' => ?_,by show a.tmps.size = sl.length; rw [← htm]; exact hsz3,hdf⟩
   have := (hsl3 t c hc').grow g4
   show Rep E' _ ok' (a.tmps.getD t undef) c
   rw [← htm]
   exact this
  refine ⟨rc.pending,_,run_endLoop hlo hbusy,?_⟩
  have hfin := hQ ok' E' _ _ hS4 hwhole (fun hh => by rw [hrd] at hh; cases hh)
  generalize w3.putObj (w.heap.size + 1) (.loop { rc with state := .exhausted }) = W4 at hfin ⊢
  generalize rc.pending = pe at hpe ⊢
  subst hpe
  cases p with
  | none => exact hfin
  | some e =>
   cases e with
   | normal => exact wpIn_skip hfin
   | exit id => exact wpIn_exit hfin
   | goto l => exact wpIn_goto hfin
   | ret => exact wpIn_ret hfin
theorem Zvr (hsp : SpOk P sp) (hm : P.follows .mixedOrders = true) {or : Orc R} (hor : OrOk P or) {m : Nat} {fh : FnH} : ∀ {c : Code} {fr : Option Nat} {st : St} {k : Ex → St → Option R} {r : R},codeF P sp base or m fh c fr st k = some r →
  ∃ e st' c',codeAt c fr = some c' ∧ k e st' = some r ∧ CodeSem P base c' st e st' := by
 intro c
 have here : ∀ {c : Code} {st : St} {e : Ex} {k : Ex → St → Option R} {r : R},(∀ {ro a w} {Q : Exit → Act → World → Prop},Q (toExit e) a w → c.wpIn (Fw ro) 0 P Q a w) → k e st = some r → ∃ e st' c',codeAt c none = some c' ∧ k e st' = some r ∧ CodeSem P base c' st e st' := fun hc hk =>
  ⟨_,_,_,rfl,hk,rfl,fun hro hS Q hQ => hc (hQ _ _ _ _ hS (.refl _ _ _ _ _) (fun _ => rfl))⟩
 induction c with
 | skip =>
  intro fr st k r h
  cases fr with
  | some l => cases h
  | none => exact here wpIn_skip h
 | label l' =>
  intro fr st k r h
  cases fr with
  | none => exact here wpIn_label h
  | some l =>
   simp only [codeF] at h
   split at h
   ·rename_i hl
    exact ⟨_,_,.skip,by simp [codeAt,findLabel,hl],h,rfl,fun hro hS Q hQ => wpIn_skip (hQ _ _ _ _ hS (.refl _ _ _ _ _) (fun _ => rfl))⟩
   ·cases h
 | ret =>
  intro fr st k r h
  cases fr with
  | some l => cases h
  | none => exact here wpIn_ret h
 | exit id =>
  intro fr st k r h
  cases fr with
  | some l => cases h
  | none => exact here wpIn_exit h
 | goto l =>
  intro fr st k r h
  cases fr with
  | some l => cases h
  | none => exact here wpIn_goto h
 | seq x y ihx ihy =>
  intro fr st k r h
  simp only [codeF] at h
  have behind : ∀ {x' : Code} {e : Ex} {st1 : St},(match e with
   | .normal => match fh.cuts.lookup (firstRegion y) with
    | some M => promK M.prom st1 fun st' => maskK M.keep base.base (topOf M base.base st'.L) st' fun st' => cutK m (codeF P sp base or m fh y none st' k)
    | none => codeF P sp base or m fh y none st1 k
   | e => k e st1) = some r → CodeSem P base x' st e st1 → ∃ e2 st2,k e2 st2 = some r ∧ CodeSem P base (.seq x' y) st e2 st2 := by
   intro x' e st1 h1 hs1
   have stop : ∀ {e : Ex},toExit e ≠ .normal → CodeSem P base x' st e st1 → CodeSem P base (.seq x' y) st e st1 := fun {e} he hs => by
    refine ⟨hs.1,fun {ro B0 w0 ok E a w} hro hS Q hQ => wpIn_seq (hs.2 hro hS _ fun ok1 E1 a1 w1 hS1 g1 hd => ?_)⟩
    have := hQ ok1 E1 a1 w1 hS1 g1 hd
    cases e <;> first | exact this | exact absurd rfl he
   cases e with
   | normal =>
    simp only at h1
    split at h1
    ·obtain ⟨st2,h2,hl2,hs2⟩ := prom_sound h1
     obtain ⟨st3,h3,hl3,hs3⟩ := Zvo h2
     obtain ⟨e,st4,c',hc',h4,hs4⟩ := ihy (show codeF _ _ _ _ _ _ _ _ _ _ = _ by rw [Zms] at h3; exact h3)
     cases hc'
     exact ⟨e,st4,h4,hs1.trans_seq (by rw [hl3,hl2]) (fun hS => hs3 (hs2 hS)) hs4⟩
    ·obtain ⟨e,st4,c',hc',h4,hs4⟩ := ihy h1
     cases hc'
     exact ⟨e,st4,h4,hs1.trans_seq rfl (fun hS => ⟨_,_,hS,.refl _ _ _ _ _⟩) hs4⟩
   | exit id => exact ⟨_,st1,h1,stop (by simp [toExit]) hs1⟩
   | goto l => exact ⟨_,st1,h1,stop (by simp [toExit]) hs1⟩
   | ret => exact ⟨_,st1,h1,stop (by simp [toExit]) hs1⟩
  cases fr with
  | none =>
   simp only at h
   obtain ⟨e,st1,c',hc',h1,hs1⟩ := ihx h
   cases hc'
   obtain ⟨e2,st2,hk,hs⟩ := behind h1 hs1
   exact ⟨e2,st2,_,rfl,hk,hs⟩
  | some l =>
   simp only at h
   cases hf : findLabel x l with
   | some rest =>
    rw [hf] at h
    obtain ⟨e,st1,c',hc',h1,hs1⟩ := ihx h
    rw [codeAt,hf] at hc'
    cases hc'
    obtain ⟨e2,st2,hk,hs⟩ := behind h1 hs1
    exact ⟨e2,st2,_,by simp [codeAt,findLabel,hf],hk,hs⟩
   | none =>
    rw [hf] at h
    obtain ⟨e,st1,c',hc',h1,hs1⟩ := ihy h
    exact ⟨e,st1,c',by simpa [codeAt,findLabel,hf] using hc',h1,hs1⟩
 | region id ops draw =>
  intro fr st k r h
  cases fr with
  | some l => cases h
  | none =>
  simp only [codeF] at h
  cases draw with
  | true =>
   simp only [if_true] at h
   split at h
   case isFalse =>
    split at h
    case isFalse =>
     obtain ⟨st',hk,hl,hs⟩ := Z1k0 hsp hm hor h
     exact ⟨.normal,st',_,rfl,hk,hl,fun hro hS Q hQ => hs hS id Q fun ok' E' a' w' hS' g hd => hQ ok' E' a' w' hS' g (fun _ => hd)⟩
    rename_i hd
    obtain ⟨st',hk,hl,hs⟩ := Z1gz hm hd h
    exact ⟨.normal,st',_,rfl,hk,hl,fun hro hS Q hQ => hs hS id Q fun ok' E' a' w' hS' g hd => hQ ok' E' a' w' hS' g (fun _ => hd)⟩
   rename_i hd
   obtain ⟨st',hk,hl,hs⟩ := Z1iy hsp hm hor hd h
   exact ⟨.normal,st',_,rfl,hk,hl,fun hro hS Q hQ => hs hS id Q fun ok' E' a' w' hS' g hd => hQ ok' E' a' w' hS' g (fun _ => hd)⟩
  | false =>
   simp only [Bool.false_eq_true,if_false] at h
   obtain ⟨st',hk,hl,hs⟩ := Z1b9 hsp hor h
   exact ⟨.normal,st',_,rfl,hk,hl,fun hro hS Q hQ => wpIn_region_list (hs hS Q fun ok' E' a' w' hS' g hd => hQ ok' E' a' w' hS' g (fun _ => hd))⟩
 | cond c x y ihx ihy =>
  intro fr st k r h
  cases fr with
  | some l => cases h
  | none =>
  simp only [codeF] at h
  split at h
  case h_2 => cases h
  rename_i b hc
  have hev : ∀ {B0 w0 ok E a w},Sim B0 w0 ok E st a w → a.eval c = .bool b := fun hS => by
   have := hS.sl.ev hS.mem.gl c
   rw [hc] at this
   exact this.v_inv.1
  cases b with
  | true =>
   simp only [cond_true] at h
   rw [Z15g hc] at h
   obtain ⟨e,st',c',hc',hk,hl,hs⟩ := ihx h
   cases hc'
   exact ⟨e,st',_,rfl,hk,hl,fun hro hS Q hQ => wpIn_cond_true (hev hS) (hs hro hS Q hQ)⟩
  | false =>
   simp only [cond_false] at h
   rw [Z15g hc] at h
   obtain ⟨e,st',c',hc',hk,hl,hs⟩ := ihy h
   cases hc'
   exact ⟨e,st',_,rfl,hk,hl,fun hro hS Q hQ => wpIn_cond_false (hev hS) (hs hro hS Q hQ)⟩
 | block id body ih =>
  intro fr st k r h
  cases fr with
  | some l => cases h
  | none =>
  simp only [codeF] at h
  obtain ⟨e,st1,c',hc',h1,hl,hs⟩ := ih h
  cases hc'
  cases e with
  | normal => exact ⟨.normal,st1,_,rfl,h1,hl,fun hro hS Q hQ => wpIn_block (hs hro hS _ hQ)⟩
  | exit i =>
   simp only at h1
   split at h1
   ·rename_i hi
    exact ⟨.normal,st1,_,rfl,h1,hl,fun hro hS Q hQ => wpIn_block (hs hro hS _ fun ok' E' a' w' hS' g hd => by
     simp only [toExit,Exit.inBlock,hi,if_true]; exact hQ _ _ _ _ hS' g hd)⟩
   ·rename_i hi
    exact ⟨.exit i,st1,_,rfl,h1,hl,fun hro hS Q hQ => wpIn_block (hs hro hS _ fun ok' E' a' w' hS' g hd => by
     simp only [toExit,Exit.inBlock,hi,if_false]; exact hQ _ _ _ _ hS' g hd)⟩
  | goto l => exact ⟨_,st1,_,rfl,h1,hl,fun hro hS Q hQ => wpIn_block (hs hro hS _ hQ)⟩
  | ret => exact ⟨_,st1,_,rfl,h1,hl,fun hro hS Q hQ => wpIn_block (hs hro hS _ hQ)⟩
 | loop body ih =>
  intro fr st k r h
  cases fr with
  | some l => cases h
  | none =>
  simp only [codeF] at h
  split at h
  case h_2 => cases h
  obtain ⟨st1,h1,hl1,hs1⟩ := prom_sound h
  obtain ⟨st2,h2,hl2,hs2⟩ := Zvo h1
  obtain ⟨e,st3,h3,hl3,hs3⟩ := Z1e1 (c := body) (fun hb => by obtain ⟨e,st',c',hc',hk,hs⟩ := ih hb; cases hc'; exact ⟨e,st',hk,hs⟩) h2
  refine ⟨e,st3,_,rfl,h3,by rw [hl3,hl2,hl1],fun hro hS Q hQ => ?_⟩
  obtain ⟨ok2,E2,hS2,g2⟩ := hs2 (hs1 hS)
  exact (hs3 hro hS2 Q fun ok' E' a' w' hS' g hd => hQ ok' E' a' w' hS' (g2.trans g) hd).loop
 | scope body ih =>
  intro fr st k r h
  cases fr with
  | some l => cases h
  | none =>
  simp only [codeF] at h
  obtain ⟨e1,st1,c',hc',h1,hs1⟩ := ih h
  cases hc'
  obtain ⟨e2,st2,h2,hl2,hs2⟩ := Z1h4 (c0 := body) (fun {l rest st k r} hf hb => by
   obtain ⟨e,st',c',hc',hk,hs⟩ := ih hb
   rw [codeAt,hf] at hc'; cases hc'
   exact ⟨e,st',hk,hs⟩) h1
  refine ⟨e2,st2,_,rfl,h2,by rw [hl2,hs1.1],fun hro hS Q hQ => ?_⟩
  exact (ScopeWp.of (hs1.2 hro hS _ fun ok1 E1 a1 w1 hS1 g1 hd1 => hs2 hro hS1 Q fun ok' E' a' w' hS' g hd => hQ ok' E' a' w' hS' (g1.trans g) (fun hh => (hd hh).trans (hd1 hh)))).scope
 | rangeFunc g ps x y _ _ =>
  intro fr st k r h
  cases fr with
  | some l => cases h
  | none =>
  simp only [codeF] at h
  split at h
  ·cases h
  rename_i hrd
  split at h
  case h_2 => cases h
  cases hg : ev st.sl g <;> rw [hg] at h <;> try (simp only at h) <;> try (cases h; done)
  case d z =>
   cases z <;> try (simp only at h) <;> try (cases h; done)
   case fn f ds =>
    obtain ⟨e,st',hk,hs⟩ := Z1bk hor (by simpa using hrd) (fun {E w ok a} hS hgl => by
     have := hS.ev hgl g
     rw [hg] at this
     generalize a.eval g = u at this ⊢
     cases this with
     | d hh => cases hh with
      | fn hl hr => exact ⟨_,rfl,by simpa using hl,fun i x c hx hc => by
        rw [List.getElem?_map] at hc
        cases hd : ds[i]? with
        | none => rw [hd] at hc; cases hc
        | some d => rw [hd] at hc; cases hc; exact .d (hr i x d hx hd)⟩) h
    exact ⟨e,st',_,rfl,hk,hs⟩
  case clo f cs =>
   obtain ⟨e,st',hk,hs⟩ := Z1bk hor (by simpa using hrd) (fun {E w ok a} hS hgl => by
    have := hS.ev hgl g
    rw [hg] at this
    generalize a.eval g = u at this ⊢
    cases this with
    | clo hl hr => exact ⟨_,rfl,hl,hr⟩) h
   exact ⟨e,st',_,rfl,hk,hs⟩
 | _ => intro fr st k r h; cases fr <;> cases h
theorem Z199 {t : TypeId} {u y : Value} {w : World} (h : (Instr.loadAt t u).run P w = .ok y w) : ((do loadVar t (← asAddr u)) : Sem Value).run P w = .ok y w := by
 unfold Instr.loadAt at h
 cases u <;> try (simp [Instr.sureAddr,stuck,Sem.run_bind] at h; done)
 rename_i a
 cases a with
 | none => simp [Instr.sureAddr,stuck,Sem.run_bind] at h
 | some a => simpa [Instr.sureAddr,asAddr,Sem.run_bind] using h
def Z126 (tmps : Array Value) : ResultVar → Sem Value
 | .tmp t => pure (tmps.getD t undef)
 | .cell a t => do loadVar t (← asAddr (tmps.getD a undef))
theorem Z1f0 {sl : List AV} {L : Heap} : ∀ {rs : List ResultVar} {k : List AV → Option R} {r : R},resK P sl L rs k = some r →
  ∃ vs,k vs = some r ∧ ∀ X {B0 w0 ok E w tmps},Mem B0 w0 ok E (L ++ X) w → SlRep E w ok tmps sl → ∃ us : List Value,(rs.mapM (Z126 tmps)).run P w = .ok us w ∧ Reps E w ok us vs
 | [],k,r,h => ⟨[],h,fun X _ _ _ _ _ _ hM hS => ⟨[],by simp,rfl,fun i x c hx => by simp at hx⟩⟩
 | .tmp t :: rs,k,r,h => by
  simp only [resK] at h
  obtain ⟨vs,hk,hs⟩ := Z1f0 h
  refine ⟨_,hk,fun X {B0 w0 ok E w tmps} hM hS => ?_⟩
  obtain ⟨us,hr,hl,hi⟩ := hs X hM hS
  refine ⟨tmps.getD t undef :: us,by simp [List.mapM_cons,Z126,Sem.run_bind,hr],by simp [hl],fun i x c hx hc => ?_⟩
  cases i with
  | zero =>
   simp at hx hc
   subst hx hc
   have := SlRep.ev (a := ⟨tmps,[]⟩) hS hM.gl (.tmp t)
   simpa [Act.eval,ev] using this
  | succ i => exact hi i x c (by simpa using hx) (by simpa using hc)
 | .cell a t :: rs,k,r,h => by
  simp only [resK] at h
  obtain ⟨v,hk0,hld⟩ := Z1ii h
  obtain ⟨vs,hk,hs⟩ := Z1f0 hk0
  refine ⟨_,hk,fun X {B0 w0 ok E w tmps} hM hS => ?_⟩
  obtain ⟨us,hr,hl,hi⟩ := hs X hM hS
  have hev := SlRep.ev (a := ⟨tmps,[]⟩) hS hM.gl (.tmp a)
  obtain ⟨y,hy,hv⟩ := hld X hM (show Rep E w ok (tmps.getD a undef) (sl.getD a .junk) from hev)
  refine ⟨y :: us,by
   have h1 := Z199 hy
   simp only [List.mapM_cons,Z126,Sem.run_bind] at h1 ⊢
   rw [h1]
   simp [Result.andThen,hr],by simp [hl],fun i x c hx hc => ?_⟩
  cases i with
  | zero =>
   simp at hx hc
   subst hx hc
   exact hv
  | succ i => exact hi i x c (by simpa using hx) (by simpa using hc)
theorem Z1bl {sl : List AV} {L : Heap} {rs : List ResultVar} {k : List AV → Option R} {r : R} (h : resK P sl L rs k = some r) :
  ∃ vs,k vs = some r ∧ ∀ {B0 w0 ok E w tmps},Mem B0 w0 ok E L w → SlRep E w ok tmps sl → ∃ us : List Value,(rs.mapM (Z126 tmps)).run P w = .ok us w ∧ Reps E w ok us vs := by
 obtain ⟨vs,hk,hs⟩ := Z1f0 h
 refine ⟨vs,hk,fun {B0 w0 ok E w tmps} hM hS => hs [] (by rw [List.append_nil]; exact hM) hS⟩
theorem Zy6 {fn : Func} {tmps : Array Value} {w : World} {us : List Value} (h : (fn.results.toList.mapM (Z126 tmps)).run P w = .ok us w) :
  (results fn tmps).run P w = .ok (if h : us.toArray.size = 1 then us.toArray[0] else .tuple us.toArray) w := by
 have e : fn.results.mapM (Z126 tmps) = (do pure (← fn.results.toList.mapM (Z126 tmps)).toArray : Sem (Array Value)) := by
  simp
  exact Array.mapM_eq_mapM_toList
 have h1 : (fn.results.mapM (Z126 tmps)).run P w = .ok us.toArray w := by
  rw [e,Sem.run_bind,h]; rfl
 unfold results
 rw [Sem.run_bind]
 erw [h1]
 rfl
def resV (us : List Value) : Value := if h : us.toArray.size = 1 then us.toArray[0] else .tuple us.toArray
def resA (vs : List AV) : AV := match vs with | [v] => v | vs => mkTup vs
theorem Z1f1 {E : Env} {w : World} {ok : Nat → Prop} {us : List Value} {vs : List AV} (h : Reps E w ok us vs) : Rep E w ok (resV us) (resA vs) := by
 unfold resA
 have tup : ∀ {us : List Value} {vs : List AV},Reps E w ok us vs → Rep E w ok (.tuple us.toArray) (mkTup vs) := fun {us vs} h => by
  unfold mkTup
  cases hd : allD vs with
  | none => exact .tup h.1 h.2
  | some ds =>
   have := allD_some hd
   subst this
   refine .d (.tup (by simpa using h.1) fun i x d hx hd => ?_)
   have := h.2 i x (.d d) hx (by rw [List.getElem?_map,hd]; rfl)
   cases this with
   | d h => exact h
 match us,vs,h with
 | [],[],h => exact tup h
 | [u],[v],h => exact h.2 0 u v rfl rfl
 | u :: u' :: us,v :: v' :: vs,h =>
  have : ¬ ((u :: u' :: us).toArray.size = 1) := by simp
  rw [show resV (u :: u' :: us) = .tuple (u :: u' :: us).toArray from by unfold resV; rw [dif_neg this]]
  exact tup h
 | [],v :: vs,h => exact absurd h.1 (by simp)
 | u :: us,[],h => exact absurd h.1 (by simp)
 | [u],v :: v' :: vs,h => exact absurd h.1 (by simp)
 | u :: u' :: us,[v],h => exact absurd h.1 (by simp)
theorem Z15h {B0 : Nat} {w0 : World} {ok : Nat → Prop} {E : Env} {w : World} {L : Heap} {fn : Func} {args : List AV} {vals : List Value} (hM : Mem B0 w0 ok E L w) (hvl : vals.length = args.length) (hvr : ∀ (i : Nat) x a,vals[i]? = some x → args[i]? = some a → Rep E w ok x a) :
  Sim B0 w0 ok E ⟨args ++ List.replicate (fn.ntmps - args.length) .junk,L⟩ { tmps := vals.toArray ++ Array.replicate (fn.ntmps - vals.toArray.size) undef,defers := [] } w := by
 have hlen : (vals.toArray ++ Array.replicate (fn.ntmps - vals.toArray.size) undef).size = (args ++ List.replicate (fn.ntmps - args.length) AV.junk).length := by simp [hvl]
 refine ⟨hM,fun t x hx => ?_,hlen,.nil⟩
 by_cases hlt : t < args.length
 ·rw [List.getElem?_append_left hlt] at hx
  have hv : vals[t]? = some vals[t] := List.getElem?_eq_getElem (by omega)
  have := hvr t _ x hv hx
  have e1 : (vals.toArray ++ Array.replicate (fn.ntmps - vals.toArray.size) undef).getD t undef = vals[t] := by
   rw [Array.getD_eq_getD_getElem?,Array.getElem?_append_left (by simpa [hvl] using hlt)]
   simp [hv]
  rw [e1]; exact this
 ·rw [List.getElem?_append_right (by omega),List.getElem?_replicate] at hx
  split at hx <;> cases hx
  exact .junk
def Zt0 (w w' : World) : Prop := ∀ (b : Nat) o,w.heap[b]? = some o → (∀ x,o ≠ .deferred x) → w'.heap[b]? = some o
theorem Zt0.cell {w w' : World} (hc : Zt0 w w') {a : Addr} {v : Value} (ha : w.cell? a = some v) : w'.cell? a = some v := by
 unfold World.cell? at ha ⊢
 split at ha
 ·rename_i c e z hb; rw [hc _ _ hb (fun x h => by cases h)]; exact ha
 ·cases ha
theorem RepD.cells {w w' : World} {ok : Nat → Prop} (hc : Zt0 w w') {x : Value} {d : D} (h : RepD w ok x d) : RepD w' ok x d := by
 induction h with
 | v hl => exact .v hl
 | fn hlen _ ih => exact .fn hlen ih
 | agg hlen h1 _ ih => exact .agg hlen h1 ih
 | tup hlen _ ih => exact .tup hlen ih
 | nil hc => exact .nil hc
 | list hb hn hcap h1 hcell _ ih => exact .list hb hn hcap h1 (fun j hj => hc.cell (hcell j hj)) ih
 | mp hb hm hl _ _ ih1 ih2 => exact .mp hb (hc _ _ hm (fun x h => by cases h)) hl ih1 ih2
theorem Rep.cells {E : Env} {w w' : World} {ok : Nat → Prop} (hc : Zt0 w w') {x : Value} {c : AV} (h : Rep E w ok x c) : Rep E w' ok x c := by
 induction h with
 | d h => exact .d (h.cells hc)
 | agg hlen h1 _ ih => exact .agg hlen h1 ih
 | tup hlen _ ih => exact .tup hlen ih
 | ptr he => exact .ptr he
 | sl he hn hc hm ho => exact .sl he hn hc hm ho
 | slz hc => exact .slz hc
 | lp hb h1 hcell hrep => exact .lp hb h1 (fun j hj => hc.cell (hcell j hj)) (fun j d hd => (hrep j d hd).cells hc)
 | clo hlen _ ih => exact .clo hlen ih
 | bnd hlen _ ih => exact .bnd hlen ih
 | yld he => exact .yld he
 | it he => exact .it he
 | mp he => exact .mp he
 | junk => exact .junk
theorem Mem.butMarks {B0 : Nat} {w0 : World} {ok : Nat → Prop} {E : Env} {L : Heap} {w w' : World} (h : Mem B0 w0 ok E L w) (hb : Below B0 w0 w') (hs : w'.heap.size = w.heap.size) (hc : Zt0 w w') : Mem B0 w0 ok E L w' := by
 refine ⟨hb,fun b hk => ⟨by rw [hs]; exact (h.okb b hk).1,(h.okb b hk).2⟩,h.inj,fun id b m he => ?_,by rw [hs]; exact h.b0,h.wf,fun g cs hg => ?_,fun id l hy => ?_,h.yinj,h.yok⟩
 ·obtain ⟨h0,c,e,B,hbb,hs',h1,hB,hcc⟩ := h.loc id b m he
  refine ⟨h0,c,e,B,hc _ _ hbb (fun x hx => by cases hx),hs',h1,hB,?_⟩
  cases B with
  | dead => exact hcc
  | d n cs => exact ⟨hcc.1,hcc.2.1,hcc.2.2.1,fun j d hd => let ⟨x,hx,hr⟩ := hcc.2.2.2 j d hd; ⟨x,hx,hr.cells hc⟩⟩
  | a n cs => exact ⟨hcc.1,hcc.2.1,fun j d hd => let ⟨x,hx,hr⟩ := hcc.2.2 j d hd; ⟨x,hx,hr.cells hc⟩⟩
  | t ty n cs => exact ⟨hcc.1,hcc.2.1,hcc.2.2.1,fun j d hd => let ⟨x,hx,hr⟩ := hcc.2.2.2 j d hd; ⟨x,hx,hr.cells hc⟩⟩
  | td ty n cs => exact ⟨hcc.1,hcc.2.1,hcc.2.2.1,hcc.2.2.2.1,fun j d hd => let ⟨x,hx,hr⟩ := hcc.2.2.2.2 j d hd; ⟨x,hx,hr.cells hc⟩⟩
  | iter s pos => exact hcc
  | map => exact hcc
  | loop => exact hcc
 ·obtain ⟨h1,h2,f,h3,h4⟩ := h.gl g cs hg
  exact ⟨h1,h2,f,fun j hj => hc.cell (h3 j hj),fun j d hd => (h4 j d hd).cells hc⟩
 ·obtain ⟨h0,o,B,hl,hB,ho⟩ := h.obj id l hy
  refine ⟨h0,o,B,hc _ _ hl (fun x hx => by subst hx; cases B <;> exact ho.elim),hB,?_⟩
  cases o <;> cases B <;> first | exact ho | exact ho.elim | exact ⟨ho.1,ho.2.1,fun t c hc' => (ho.2.2.1 t c hc').cells hc,ho.2.2.2⟩ | exact ⟨ho.1,fun j e p he hp => ⟨(ho.2 j e p he hp).1.cells hc,(ho.2 j e p he hp).2.cells hc⟩⟩
theorem Z127 {fn : Func} {tmps : Array Value} {B0 : Nat} {w0 w1 : World} {R : Ending → World → Prop}
  (hres : ∀ w',Below B0 w0 w' → w'.heap.size = w1.heap.size → Zt0 w1 w' → ∃ v,(results fn tmps).run P w' = .ok v w' ∧ R (.returned v) w') :
  ∀ (ds : List Deferred) (w : World),DefOk B0 w ds → Below B0 w0 w → w.heap.size = w1.heap.size → Zt0 w1 w → LeavesInM (Fw none) 0 P fn tmps R ds .returning w
 | [],w,hd,hb,hs,hc => by
  obtain ⟨v,h1,h2⟩ := hres w hb hs hc
  exact ⟨v,h1,h2⟩
 | d :: ds,w,hd,hb,hs,hc => by
  obtain ⟨rs,h1,h2,h3⟩ := hd
  cases rs with
  | nil => cases h1
  | cons r rs =>
   simp only [List.map_cons,List.cons.injEq] at h1
   obtain ⟨rfl,rfl⟩ := h1
   have hr := h3 r (by simp)
   have hcell : Zt0 w1 (w.putObj r (.deferred none)) := fun b o hbc hno => by
    have := hc b o hbc hno
    by_cases hbr : b = r
    ·subst hbr; rw [hr.2] at this; cases this; exact absurd rfl (hno _)
    ·rw [World.putObj_heap_other hbr]; exact this
   refine ⟨by simp,.inl ⟨r,_,rfl,run_takeDeferred hr.2,?_⟩⟩
   refine Z127 hres _ _ ⟨rs,rfl,(List.nodup_cons.1 h2).2,fun q hq => ⟨(h3 q (by simp [hq])).1,?_⟩⟩ (Z191 hb hr.1 _) (by simpa using hs) hcell
   rw [World.putObj_heap_other (fun e => (List.nodup_cons.1 h2).1 (by rw [← e]; exact hq))]
   exact (h3 q (by simp [hq])).2
theorem Z1bm (hsp : SpOk P sp) (hm : P.follows .mixedOrders = true) {or : Orc R} (hor : OrOk P or) {m : Nat} {fh : FnH} {f : FuncId} {fn : Func} (hf : P.funcs[f]? = some fn) {ow : Own} {args : List AV} {L : Heap} {k : AV → Heap → Option R} {r : R} (how : ow.base = L.length) (hrd : ow.rd = true) (h : funK P sp ow or m fh fn args L k = some r) :
  ∃ v L',k v L' = some r ∧ CallSem P ow f args L v L' := by
 unfold funK at h
 cases hb : fn.body with
 | none => rw [hb] at h; cases h
 | some c =>
  rw [hb] at h
  simp only at h
  obtain ⟨e,st',c',hc',h1,hl,hs⟩ := Zvr (base := ow) hsp hm hor h
  cases hc'
  unfold endK at h1
  have fin : (e = .normal ∨ e = .ret) → (resK P st'.sl st'.L fn.results.toList fun vs => match vs with | [v] => k v st'.L | vs => k (mkTup vs) st'.L) = some r → ∃ v L',k v L' = some r ∧ CallSem P ow f args L v L' := fun he h2 => by
   obtain ⟨vs,hk,hres⟩ := Z1bl h2
   have hk' : k (resA vs) st'.L = some r := by
    unfold resA
    split at hk <;> exact hk
   refine ⟨_,_,hk',fun {B0 w0 ok E w vals} hM hvl hvr => ?_⟩
   refine Z159 (n := 0) (callsIn_of_wp hf hb trivial ?_)
   have hS := Z15h (fn := fn) hM hvl hvr
   refine hs (ro := none) (fun _ => rfl) hS _ fun ok' E' a' w' hS' g hd => ?_
   have post : a'.defers = [] ∧ ∃ v,(results fn a'.tmps).run P w' = .ok v w' ∧
     (∃ u ok' E',Ending.returned v = .returned u ∧ Mem B0 w0 ok' E' st'.L w' ∧ Rep E' w' ok' u (resA vs) ∧ Step B0 ow E w ok E' w' ok') := by
    obtain ⟨us,hr,hrep⟩ := hres hS'.mem hS'.sl
    exact ⟨hd hrd,_,Zy6 hr,_,ok',E',rfl,hS'.mem,Z1f1 hrep,g⟩
   rcases he with rfl | rfl
   ·exact post
   ·exact post
  cases e with
  | normal => exact fin (.inl rfl) h1
  | ret => exact fin (.inr rfl) h1
  | exit id => cases h1
  | goto l => cases h1
theorem setsSl_length : ∀ (sl : List AV) (ps : List Nat) (xs : List AV),(setsSl sl ps xs).length = sl.length
 | sl,t :: ts,x :: xs => by simp only [setsSl]; rw [setsSl_length]; simp
 | sl,[],_ => by simp [setsSl]
 | sl,_ :: _,[] => by simp [setsSl]
theorem Z1im {E : Env} {w : World} {ok : Nat → Prop} : ∀ {ps : List Nat} {vals : List Value} {args : List AV} {tmps : Array Value} {sl : List AV},SlRep E w ok tmps sl → tmps.size = sl.length → ps.length = args.length → Reps E w ok vals args →
  SlRep E w ok ((ps.zip vals).foldl (fun t (p,v) => t.setIfInBounds p v) tmps) (setsSl sl ps args) ∧ ((ps.zip vals).foldl (fun t (p,v) => t.setIfInBounds p v) tmps).size = sl.length
 | [],vals,args,tmps,sl,h,hs,_,_ => by simpa [setsSl] using ⟨h,hs⟩
 | p :: ps,[],args,tmps,sl,h,hs,hl,hr => by have := hr.1; simp at this hl; omega
 | p :: ps,v :: vals,[],tmps,sl,h,hs,hl,hr => by simp at hl
 | p :: ps,v :: vals,a :: args,tmps,sl,h,hs,hl,hr => by
  have h1 : SlRep E w ok (tmps.setIfInBounds p v) (sl.set p a) := SlRep.put (a := ⟨tmps,[]⟩) h hs (hr.2 0 v a rfl rfl) (some p)
  have := Z1im (ps := ps) (vals := vals) (args := args) h1 (by simp [hs]) (by simpa using hl) ⟨by have := hr.1; simpa using this,fun i x c hx hc => hr.2 (i + 1) x c (by simpa using hx) (by simpa using hc)⟩
  simpa [setsSl] using this
theorem Z1bn (hsp : SpOk P sp) (hm : P.follows .mixedOrders = true) {or : Orc R} (hor : OrOk P or) {m id : Nat} {ow : Own} {args : List AV} {L : Heap} {k : AV → Heap → Option R} {r : R} (how : ow.base = L.length) (hrd : ow.rd = true) (h : roundK P sp ow or m id args L k = some r) :
  ∃ v L',k v L' = some r ∧ RoundSem P ow id args L v L' := by
 unfold roundK at h
 split at h
 case h_2 => cases h
 rename_i sl ps x y fh hL
 split at h
 case isFalse => cases h
 rename_i hpl
 obtain ⟨e1,st1,c1,hc1,h1,hl1,hs1⟩ := Zvr (base := ow) hsp hm hor h
 cases hc1
 cases e1 <;> try (simp only at h1) <;> try (cases h1; done)
 split at h1
 case h_2 => cases h1
 rename_i sl' ps' x' y' fh' hL1
 obtain ⟨e2,st2,c2,hc2,h2,hl2,hs2⟩ := Zvr (base := ow) hsp hm hor h1
 cases hc2
 unfold Z1fl at h2
 split at h2
 case h_2 => cases h2
 rename_i p3 sl3 ps3 x3 y3 fh3 hL2
 have main : ∀ (e : Ex) (v : Bool) (st : Nat) (p : Option Ex),v = (p.isNone) → st = (if p.isNone then 0 else 2) → (∀ q,p = some q → q = e ∧ q ≠ .normal) → (p = none → e = .normal) → e2 = e → RoundSem P ow id args L (.d (.v (.bool v))) (st2.L.set id (.loop st p sl3 ps3 x3 y3 fh3)) := by
  intro e v st p hv hst hp hp0 he
  subst he
  intro B0 w0 ok E w l vals hM hy hvl hvr
  obtain ⟨hB0,o,B,hlo,hLB,ho⟩ := hM.obj _ _ hy
  rw [hL] at hLB; cases hLB
  obtain ⟨rc,rfl⟩ : ∃ rc,o = .loop rc := by cases o <;> first | exact ho.elim | exact ⟨_,rfl⟩
  obtain ⟨hstate,hpe,hslr,hsz,hps,ha,hb⟩ := ho
  have hready : rc.state = .ready := by cases hh : rc.state <;> rw [hh] at hstate <;> first | rfl | cases hstate
  have hargs : vals.toArray.size = rc.params.size := by
   have : rc.params.size = ps.length := by rw [← hps]; simp
   rw [this,hpl,← hvl]; simp
  refine ⟨_,_,_,_,run_yield hlo hargs,?_⟩
  rw [ha,hb]
  obtain ⟨hset,hsets⟩ := Z1im hslr hsz hpl ⟨hvl,hvr⟩
  have e0 : (rc.params.zip vals.toArray).foldl (fun tmps (t,a) => tmps.setIfInBounds t a) rc.tmps = (ps.zip vals).foldl (fun t (p,v) => t.setIfInBounds p v) rc.tmps := by
   rw [← hps,← Array.foldl_toList]
   simp
  refine roundIn_of_wpIn trivial ?_
  have hS0 : Sim B0 w0 ok E ⟨setsSl sl ps args,L⟩ { tmps := (rc.params.zip vals.toArray).foldl (fun tmps (t,a) => tmps.setIfInBounds t a) rc.tmps,defers := [] } w :=
   ⟨hM,by rw [e0]; exact hset,by rw [e0,setsSl_length]; exact hsets,.nil⟩
  refine wpIn_mono (hs1 (ro := some l) (fun hh => by rw [hrd] at hh; cases hh) hS0 (fun e a w' => e = .normal ∧ ∃ ok' E',Sim B0 w0 ok' E' st1 a w' ∧ Step B0 ow E w ok E' w' ok' ∧ a.defers = []) fun ok' E' a' w' hS' g hd => ⟨rfl,ok',E',hS',g,hd hrd⟩) ?_
  rintro _ a1 w1 ⟨rfl,ok1,E1,hS1,g1,hd1⟩
  have hy1 : E1.y id = some l := g1.envy _ _ (by rw [how]; exact hM.yidlt hy) hy
  obtain ⟨_,o1,B1,hlo1,hLB1,ho1⟩ := hS1.mem.obj _ _ hy1
  rw [hL1] at hLB1; cases hLB1
  obtain ⟨rc1,rfl⟩ : ∃ rc,o1 = .loop rc := by cases o1 <;> first | exact ho1.elim | exact ⟨_,rfl⟩
  obtain ⟨hstate1,hpe1,hslr1,hsz1,hps1,ha1,hb1⟩ := ho1
  have hready1 : rc1.state = .ready := by cases hh : rc1.state <;> rw [hh] at hstate1 <;> first | rfl | cases hstate1
  have hobj1 : ObjRep E1 w1 ok1 (.loop { rc1 with state := .busy }) (.loop 1 none sl' ps' x' y' fh') := ⟨rfl,hpe1,hslr1,hsz1,hps1,ha1,hb1⟩
  have hkeep1 : kept (.loop rc1) = true → Keeps (.loop rc1) (.loop { rc1 with state := .busy }) := fun _ => .inr ⟨_,_,rfl,rfl,rfl,rfl⟩
  have hM1 := hS1.mem.putObj hy1 hlo1 hkeep1 hobj1
  have gp1 := Grow.putObj hS1.mem hy1 hlo1 hkeep1
  refine ⟨_,run_beginRound hlo1 hready1,?_⟩
  have hS1' : Sim B0 w0 ok1 E1 ⟨st1.sl,st1.L.set id (.loop 1 none sl' ps' x' y' fh')⟩ a1 (w1.putObj l (.loop { rc1 with state := .busy })) := ⟨hM1,hS1.sl.grow gp1,hS1.size,hS1.defers.keep gp1.df⟩
  refine hs2 (ro := some l) (fun hh => by rw [hrd] at hh; cases hh) hS1' _ fun ok2 E2 a2 w2 hS2 g2 hd2 => ?_
  have gAll : Step B0 ow E w ok E2 w2 ok2 := (g1.trans (.of' gp1)).trans g2
  have hy2 : E2.y id = some l := g2.envy _ _ (by rw [how]; exact hM.yidlt hy) hy1
  obtain ⟨_,o2,B2,hlo2,hLB2,ho2⟩ := hS2.mem.obj _ _ hy2
  rw [hL2] at hLB2; cases hLB2
  obtain ⟨rc2,rfl⟩ : ∃ rc,o2 = .loop rc := by cases o2 <;> first | exact ho2.elim | exact ⟨_,rfl⟩
  obtain ⟨hstate2,hpe2,hslr2,hsz2,hps2,ha2,hb2⟩ := ho2
  have done : ∀ jump : Option Code,jump = p.map exCode → ∃ v' w',(Instr.endRound l jump).run P w2 = .ok v' w' ∧ ∃ u ok' E',Ending.returned v' = .returned u ∧ Mem B0 w0 ok' E' (st2.L.set id (.loop st p sl3 ps3 x3 y3 fh3)) w' ∧ Rep E' w' ok' u (.d (.v (.bool v))) ∧ Step B0 ow E w ok E' w' ok' := by
   intro jump hj
   have hjn : jump.isNone = p.isNone := by rw [hj]; cases p <;> rfl
   have hobj2 : ObjRep E2 w2 ok2 (.loop { rc2 with state := if jump.isNone then .ready else .done,pending := jump }) (.loop st p sl3 ps3 x3 y3 fh3) := by
    refine ⟨?_,hj,hslr2,hsz2,hps2,ha2,hb2⟩
    rw [hst,hjn]
    cases p <;> rfl
   have hkeep2 : kept (.loop rc2) = true → Keeps (.loop rc2) (.loop { rc2 with state := if jump.isNone then .ready else .done,pending := jump }) := fun _ => .inr ⟨_,_,rfl,rfl,rfl,rfl⟩
   refine ⟨_,_,run_endRound jump hlo2,.bool jump.isNone,ok2,E2,rfl,hS2.mem.putObj hy2 hlo2 hkeep2 hobj2,?_,gAll.trans (.of' (Grow.putObj hS2.mem hy2 hlo2 hkeep2))⟩
   rw [hv,hjn]
   exact .d (.v rfl)
  cases e2 with
  | normal =>
   cases p with
   | none => exact done none rfl
   | some q =>
    obtain ⟨rfl,hn⟩ := hp q rfl
    exact absurd rfl hn
  | ret =>
   cases p with
   | none => cases hp0 rfl
   | some q => obtain ⟨rfl,_⟩ := hp q rfl; exact done _ rfl
  | exit i =>
   cases p with
   | none => cases hp0 rfl
   | some q => obtain ⟨rfl,_⟩ := hp q rfl; exact done _ rfl
  | goto t =>
   cases p with
   | none => cases hp0 rfl
   | some q => obtain ⟨rfl,_⟩ := hp q rfl; exact done _ rfl
 cases e2 with
 | normal => exact ⟨_,_,h2,main .normal true 0 none rfl rfl (fun q hq => by cases hq) (fun _ => rfl) rfl⟩
 | ret => exact ⟨_,_,h2,main .ret false 2 (some .ret) rfl rfl (fun q hq => by cases hq; exact ⟨rfl,fun h => by cases h⟩) (fun hq => by cases hq) rfl⟩
 | exit i => exact ⟨_,_,h2,main (.exit i) false 2 (some (.exit i)) rfl rfl (fun q hq => by cases hq; exact ⟨rfl,fun h => by cases h⟩) (fun hq => by cases hq) rfl⟩
 | goto t => exact ⟨_,_,h2,main (.goto t) false 2 (some (.goto t)) rfl rfl (fun q hq => by cases hq; exact ⟨rfl,fun h => by cases h⟩) (fun hq => by cases hq) rfl⟩
structure QIn (B0 : Nat) (w0 : World) (ok : Nat → Prop) (E : Env) (w : World) (H : Heap) (ok' : Nat → Prop) (sl : List AV) (a : Act) (w' : World) : Prop where
 mem : Mem B0 w0 ok' E H w'
 slr : SlRep E w' ok' a.tmps sl
 size : a.tmps.size = sl.length
 defers : a.defers = []
 below : Below w.heap.size w w'
 grow : Grow E w ok E w' ok'
 ext : ∀ b,ok' b → ok b ∨ B0 ≤ b
theorem Z17e (hsp : SpOk P sp) {or : Orc R} (hor : OrOk P or) {ops : Array Oper} : ∀ {rest : List Oper} {st : St} {k : St → Option R} {r : R},rest.all (fun o => Z11w sp o.op) = true → opsK P sp base (rest.map fun _ => false) or ops rest st k = some r →
  ∃ sl',k ⟨sl',st.L⟩ = some r ∧ ∀ X {ro B0 w0 ok E w ok1 a w1},QIn B0 w0 ok E w (st.L ++ X) ok1 st.sl a w1 → ∀ (Q : Exit → Act → World → Prop),
   (∀ ok2 a2 w2,QIn B0 w0 ok E w (st.L ++ X) ok2 sl' a2 w2 → Q .normal a2 w2) → wpListIn (Fw ro) 0 P ops Q rest a w1
 | [],st,k,r,hq,h => ⟨st.sl,h,fun X {ro B0 w0 ok E w ok1 a w1} hS Q hQ => hQ ok1 a w1 hS⟩
 | o :: rest,st,k,r,hq,h => by
  simp only [List.all_cons,Bool.and_eq_true] at hq
  rcases Z1b8 h with ⟨hG,h1⟩ | ⟨hG,h1⟩
  ·simp only [List.map_cons,List.headD_cons,List.tail_cons] at h1
   obtain ⟨v,h2,hop⟩ := Z15e hsp hor hq.1 h1
   obtain ⟨sl',hk,hs⟩ := Z17e hsp hor hq.2 h2
   refine ⟨sl',hk,fun X {ro B0 w0 ok E w ok1 a w1} hS Q hQ => ?_⟩
   have hw := hG.wanted hS.size (fun j want g d c _ _ _ hc => hS.slr d c hc)
   unfold wpListIn
   rw [if_pos hw]
   refine hop X (Zhd h1) ⟨hS.mem,fun x _ => hS.slr.ev hS.mem.gl x⟩ _ Q fun ok' u w' hb hM g ext hv => ?_
   refine hs X (ok1 := ok') ⟨hM,(hS.slr.grow g).put hS.size hv o.dst,by rw [Ziy,Zo,hS.size],by rw [Z4v]; exact hS.defers,hS.below.trans (hb.mono hS.below.size),hS.grow.trans g,fun b hb => (ext b hb).elim (hS.ext b) .inr⟩ Q hQ
  ·simp only [List.map_cons,List.tail_cons] at h1
   obtain ⟨sl',hk,hs⟩ := Z17e hsp hor hq.2 h1
   refine ⟨sl',hk,fun X {ro B0 w0 ok E w ok1 a w1} hS Q hQ => ?_⟩
   have hw := hG.wanted hS.size (fun j want g d c _ _ _ hc => hS.slr d c hc)
   unfold wpListIn
   rw [if_neg (by simp [hw])]
   exact ⟨fun _ _ => trivial,hs X (ok1 := ok1) ⟨hS.mem,hS.slr.put hS.size Zfw o.dst,by rw [Ziy,Zo,hS.size],by rw [Z4v]; exact hS.defers,hS.below,hS.grow,hS.ext⟩ Q hQ⟩
def QCode (P : Program) (c : Code) (L : Heap) (sl : List AV) (e : Ex) (sl' : List AV) : Prop :=
 ∀ X {ro B0 w0 ok E w ok1 a w1},QIn B0 w0 ok E w (L ++ X) ok1 sl a w1 → ∀ (Q : Exit → Act → World → Prop),
  (∀ ok2 a2 w2,QIn B0 w0 ok E w (L ++ X) ok2 sl' a2 w2 → Q (toExit e) a2 w2) → c.wpIn (Fw ro) 0 P Q a w1
theorem Z1h5 (hsp : SpOk P sp) {or : Orc R} (hor : OrOk P or) {L : Heap} : ∀ {c : Code} {sl : List AV} {k : Ex → List AV → Option R} {r : R},codeQ P sp base or L c sl k = some r → ∃ e sl',k e sl' = some r ∧ QCode P c L sl e sl' := by
 intro c
 have here : ∀ {c : Code} {sl : List AV} {e : Ex} {k : Ex → List AV → Option R} {r : R},(∀ {ro a w} {Q : Exit → Act → World → Prop},Q (toExit e) a w → c.wpIn (Fw ro) 0 P Q a w) → k e sl = some r → ∃ e sl',k e sl' = some r ∧ QCode P c L sl e sl' := fun hc hk =>
  ⟨_,_,hk,fun X {ro B0 w0 ok E w ok1 a w1} hS Q hQ => hc (hQ _ _ _ hS)⟩
 induction c with
 | skip => intro sl k r h; exact here wpIn_skip h
 | label l => intro sl k r h; exact here wpIn_label h
 | ret => intro sl k r h; exact here wpIn_ret h
 | exit id => intro sl k r h; exact here wpIn_exit h
 | seq x y ihx ihy =>
  intro sl k r h
  simp only [codeQ] at h
  obtain ⟨e,sl1,h1,hs1⟩ := ihx h
  have stop : ∀ {e : Ex},toExit e ≠ .normal → QCode P x L sl e sl1 → QCode P (.seq x y) L sl e sl1 := fun {e} he hs X {ro B0 w0 ok E w ok1 a w1} hS Q hQ => by
   refine wpIn_seq (hs X hS _ fun ok2 a2 w2 hS2 => ?_)
   have := hQ ok2 a2 w2 hS2
   cases e <;> first | exact this | exact absurd rfl he
  cases e with
  | normal =>
   obtain ⟨e2,sl2,h2,hs2⟩ := ihy h1
   exact ⟨e2,sl2,h2,fun X {ro B0 w0 ok E w ok1 a w1} hS Q hQ => wpIn_seq (hs1 X hS _ fun ok2 a2 w2 hS2 => hs2 X hS2 Q hQ)⟩
  | exit id => exact ⟨_,_,h1,stop (by simp [toExit]) hs1⟩
  | goto l => exact ⟨_,_,h1,stop (by simp [toExit]) hs1⟩
  | ret => exact ⟨_,_,h1,stop (by simp [toExit]) hs1⟩
 | region id ops draw =>
  intro sl k r h
  simp only [codeQ] at h
  cases draw with
  | true => simp at h
  | false =>
   simp only [Bool.false_eq_true,if_false] at h
   split at h
   case isFalse => cases h
   rename_i hq
   obtain ⟨sl',hk,hs⟩ := Z17e hsp hor hq h
   exact ⟨.normal,sl',hk,fun X {ro B0 w0 ok E w ok1 a w1} hS Q hQ => wpIn_region_list (hs X hS Q hQ)⟩
 | cond c x y ihx ihy =>
  intro sl k r h
  simp only [codeQ] at h
  split at h
  case h_2 => cases h
  rename_i b hc
  have hev : ∀ {B0 w0 ok E w H ok1 a w1},QIn B0 w0 ok E w H ok1 sl a w1 → a.eval c = .bool b := fun hS => by
   have := hS.slr.ev hS.mem.gl c
   rw [hc] at this
   exact this.v_inv.1
  cases b with
  | true =>
   simp only [cond_true] at h
   rw [Z15g hc] at h
   obtain ⟨e,sl',hk,hs⟩ := ihx h
   exact ⟨e,sl',hk,fun X {ro B0 w0 ok E w ok1 a w1} hS Q hQ => wpIn_cond_true (hev hS) (hs X hS Q hQ)⟩
  | false =>
   simp only [cond_false] at h
   rw [Z15g hc] at h
   obtain ⟨e,sl',hk,hs⟩ := ihy h
   exact ⟨e,sl',hk,fun X {ro B0 w0 ok E w ok1 a w1} hS Q hQ => wpIn_cond_false (hev hS) (hs X hS Q hQ)⟩
 | block id body ih =>
  intro sl k r h
  simp only [codeQ] at h
  obtain ⟨e,sl1,h1,hs⟩ := ih h
  cases e with
  | normal => exact ⟨.normal,sl1,h1,fun X {ro B0 w0 ok E w ok1 a w1} hS Q hQ => wpIn_block (hs X hS _ hQ)⟩
  | exit i =>
   simp only at h1
   split at h1
   ·rename_i hi
    exact ⟨.normal,sl1,h1,fun X {ro B0 w0 ok E w ok1 a w1} hS Q hQ => wpIn_block (hs X hS _ fun ok2 a2 w2 hS2 => by
     simp only [toExit,Exit.inBlock,hi,if_true]; exact hQ _ _ _ hS2)⟩
   ·rename_i hi
    exact ⟨.exit i,sl1,h1,fun X {ro B0 w0 ok E w ok1 a w1} hS Q hQ => wpIn_block (hs X hS _ fun ok2 a2 w2 hS2 => by
     simp only [toExit,Exit.inBlock,hi,if_false]; exact hQ _ _ _ hS2)⟩
  | goto l => exact ⟨_,sl1,h1,fun X {ro B0 w0 ok E w ok1 a w1} hS Q hQ => wpIn_block (hs X hS _ hQ)⟩
  | ret => exact ⟨_,sl1,h1,fun X {ro B0 w0 ok E w ok1 a w1} hS Q hQ => wpIn_block (hs X hS _ hQ)⟩
 | _ => intro sl k r h; cases h
theorem Z1e2 (hsp : SpOk P sp) {or : Orc R} (hor : OrOk P or) {f : FuncId} {fn : Func} (hf : P.funcs[f]? = some fn) {ow : Own} {args : List AV} {L : Heap} {k : AV → Heap → Option R} {r : R} (h : funQ P sp ow or fn args L k = some r) :
  ∃ v,k v L = some r ∧ ∀ X,QCall P f args (L ++ X) v := by
 unfold funQ at h
 cases hb : fn.body with
 | none => rw [hb] at h; cases h
 | some c =>
  rw [hb] at h
  simp only at h
  obtain ⟨e,sl',h1,hs⟩ := Z1h5 hsp hor h
  unfold endK at h1
  have fin : (e = .normal ∨ e = .ret) → (resK P sl' L fn.results.toList fun vs => match vs with | [v] => k v L | vs => k (mkTup vs) L) = some r → ∃ v,k v L = some r ∧ ∀ X,QCall P f args (L ++ X) v := fun he h2 => by
   obtain ⟨vs,hk,hres⟩ := Z1f0 h2
   have hk' : k (resA vs) L = some r := by
    unfold resA
    split at hk <;> exact hk
   refine ⟨_,hk',fun X {B0 w0 ok E w vals} hM hr => ?_⟩
   refine Z159 (n := 0) (callsIn_of_wp hf hb trivial ?_)
   have hS := Z15h (fn := fn) hM hr.1 hr.2
   refine hs X (ro := none) (ok := ok) (w := w) ⟨hS.mem,hS.sl,hS.size,rfl,Below.refl _ _,Grow.refl _ _ _,fun _ h => .inl h⟩ _ fun ok' a' w' hS' => ?_
   have post : a'.defers = [] ∧ ∃ v,(results fn a'.tmps).run P w' = .ok v w' ∧
     (∃ u ok',Ending.returned v = .returned u ∧ Below w.heap.size w w' ∧ Mem B0 w0 ok' E (L ++ X) w' ∧ Grow E w ok E w' ok' ∧ (∀ b,ok' b → ok b ∨ B0 ≤ b) ∧ Rep E w' ok' u (resA vs)) := by
    obtain ⟨us,hr,hrep⟩ := hres X hS'.mem hS'.slr
    exact ⟨hS'.defers,_,Zy6 hr,_,ok',rfl,hS'.below,hS'.mem,hS'.grow,hS'.ext,Z1f1 hrep⟩
   rcases he with rfl | rfl
   ·exact post
   ·exact post
  cases e with
  | normal => exact fin (.inl rfl) h1
  | ret => exact fin (.inr rfl) h1
  | exit id => cases h1
  | goto l => cases h1
def InlOk (P : Program) (H : Hints) : Prop := ∀ f fn fh,H.inl.lookup f = some (fn,fh) → P.funcs[f]? = some fn ∧ Enters P f
theorem Z15i {H : Hints} (hsp : SpOk P H.sp) (hm : P.follows .mixedOrders = true) (hi : InlOk P H) {m : Nat} : ∀ n,OrOk P (inlK (R := R) P H m n)
 | 0 => fun ow t args L k r _ _ h => by cases h
 | n + 1 => fun ow t args L k r how hrd h => by
  simp only [inlK] at h
  cases t with
  | fn f =>
   simp only at h
   split at h
   ·rename_i fn fh hl
    obtain ⟨hf,hen⟩ := hi f fn fh hl
    obtain ⟨v,L',hk,hcs⟩ := Z1bm hsp hm (Z15i hsp hm hi n) hf how hrd h
    exact ⟨v,L',hk,hen,hcs⟩
   ·cases h
  | yld id =>
   obtain ⟨v,L',hk,hcs⟩ := Z1bn hsp hm (Z15i hsp hm hi n) how hrd h
   exact ⟨v,L',hk,hcs⟩
  | qfn f =>
   simp only at h
   split at h
   ·rename_i fn fh hl
    obtain ⟨hf,hen⟩ := hi f fn fh hl
    obtain ⟨v,hk,hq⟩ := Z1e2 hsp (Z15i hsp hm hi n) hf h
    exact ⟨v,L,hk,rfl,hen,hq⟩
   ·cases h
theorem Z1e3 {B0 : Nat} {w0 : World} {ok ok' : Nat → Prop} {E : Env} {L : Heap} {w : World} {x : AV} {d : D} {u : Value} (h : endV x L = some d) (hM : Mem B0 w0 ok E L w) (h1 : ∀ b,ok b → ok' b) (h2 : ∀ id b m,E id = some (b,m) → ok' b) (h3 : ∀ id l,E.y id = some l → ok' l) (hr : Rep E w ok u x) : RepD w ok' u d := by
 have plain : viewK L 8 x some = some d → RepD w ok' u d := fun hv => by
  rw [Z1as] at hv
  have hv' : viewD L 8 x = some d := by cases hq : viewD L 8 x <;> rw [hq] at hv <;> exact hv
  exact viewD_sound hv' hM h1 h2 hr
 unfold endV at h
 split at h
 ·rename_i id
  cases hr with
  | mp he =>
   rename_i l
   obtain ⟨_,o,B,hl,hB,ho⟩ := hM.obj id l he
   rw [hB] at h
   cases B <;> (try simp only at h) <;> try (cases h; done)
   cases h
   cases o <;> try exact ho.elim
   exact .mp (h3 _ _ he) hl ho.1 (fun j e p hj hp => (ho.2 j e p hj hp).1.mono h1 (fun _ _ => rfl)) (fun j e p hj hp => (ho.2 j e p hj hp).2.mono h1 (fun _ _ => rfl))
 ·exact plain h
theorem Z0 {H : Hints} (hsp : SpOk P H.sp) (hm : P.follows .mixedOrders = true) (hi : InlOk P H) {m n : Nat} {fh : FnH} {f : FuncId} {fn : Func} (hf : P.funcs[f]? = some fn) (hen : Enters P f) {ds : List D} {d : D} (h : funD P H m n fh fn ds = some d) : DataSem P f ds d := by
 unfold funD funK at h
 cases hb : fn.body with
 | none => rw [hb] at h; cases h
 | some c =>
 rw [hb] at h
 simp only at h
 obtain ⟨e,st',c',hc',h1,hl,hs⟩ := Zvr (base := ⟨0,[],false,H.mv⟩) hsp hm (Z15i hsp hm hi n) h
 cases hc'
 have fin : (e = .normal ∨ e = .ret) → (resK P st'.sl st'.L fn.results.toList fun vs => match vs with | [v] => endV v st'.L | vs => endV (mkTup vs) st'.L) = some d → DataSem P f ds d := fun he h2 => by
  obtain ⟨vs,hk,hres⟩ := Z1bl h2
  have hk' : endV (resA vs) st'.L = some d := by
   unfold resA
   split at hk <;> exact hk
  refine ⟨hen,fun {w ok vals} hok hgl hv => ?_⟩
  have hM : Mem w.heap.size w ok Env.nil [] w := { below := Below.refl _ _,okb := fun b hb => ⟨hok b hb,fun id m he => nomatch he⟩,inj := fun i j b m m' hi => (nomatch hi),loc := fun id b m he => (nomatch he),b0 := Nat.le_refl _,wf := fun i B hB => by simp at hB,gl := hgl,obj := fun id l hy => (nomatch hy),yinj := fun i j l hi => (nomatch hi),yok := fun b _ id hy => (nomatch hy) }
  have hvr : ∀ (i : Nat) x a,vals[i]? = some x → (ds.map AV.d)[i]? = some a → Rep Env.nil w ok x a := fun i x a hx ha => by
   rw [List.getElem?_map] at ha
   cases hd : ds[i]? with
   | none => rw [hd] at ha; cases ha
   | some d => rw [hd] at ha; cases ha; exact .d (hv.2 i x d hx hd)
  have hS := Z15h (fn := fn) (args := ds.map .d) hM (by simpa using hv.1) hvr
  refine Z159 (n := 0) (callsIn_of_wp_marks hf hb trivial ?_)
  refine hs (ro := none) (fun _ => rfl) hS _ fun ok' E' a' w' hS' g hd => ?_
  have post : LeavesInM (Fw none) 0 P fn a'.tmps (fun e w' => ∃ u ok',e = .returned u ∧ Below w.heap.size w w' ∧ (∀ b,ok' b → b < w'.heap.size ∧ (ok b ∨ w.heap.size ≤ b)) ∧ RepD w' ok' u d) a'.defers .returning w' := by
   refine Z127 (w1 := w') (fun w2 hb hs hc => ?_) _ _ hS'.defers hS'.mem.below rfl (fun _ _ h _ => h)
   have hM2 := hS'.mem.butMarks hb hs hc
   obtain ⟨us,hr,hrep⟩ := hres hM2 (fun t c hc' => (hS'.sl t c hc').cells hc)
   exact ⟨_,Zy6 hr,_,fun b => b < w2.heap.size ∧ (ok b ∨ w.heap.size ≤ b),rfl,hb,fun b hb => hb,Z1e3 hk' hM2 (fun b hb => ⟨(hM2.okb b hb).1,g.ext b hb⟩) (fun id b m he => ⟨hM2.lt he,.inr (hM2.loc id b m he).1⟩) (fun id l hy => ⟨hM2.ylt hy,.inr (hM2.obj id l hy).1⟩) (Z1f1 hrep)⟩
  rcases he with rfl | rfl
  ·exact post
  ·exact post
 unfold endK at h1
 cases e with
 | normal => exact fin (.inl rfl) h1
 | ret => exact fin (.inr rfl) h1
 | exit id => cases h1
 | goto l => cases h1
end Go.Ev
/-
 What an argument of a row stands for; the law that says 'true' whatever the input.
-/
set_option linter.unusedSimpArgs false
set_option linter.unusedVariables false
namespace Go.Ev
open Go Go.RowKit Go.ChangeShapes Go.WideShapes Go.ChangeAt
variable {P : Program}
def offsB (P : Program) : Nat → List Field → Nat → Bool
 | off,[],n => off == n
 | off,f :: fs,n => f.offset == off && offsB P (off + P.cellsOf f.type) fs n
def Z1f2 (P : Program) (ts : List TypeId) : Bool := ts.all fun t =>
 match P.underlying t with
 | some .bool | some .string => P.cellsOf t == 1
 | some (.int _) => P.cellsOf t == 1
 | some (.slice e) => P.cellsOf t == 1 && ts.contains e && decide (0 < P.cellsOf e)
 | some (.struct fs) => offsB P 0 fs.toList (P.cellsOf t) && fs.toList.all fun f => ts.contains f.type
 | some (.array n e) => ts.contains e && P.cellsOf t == n * P.cellsOf e
 | _ => false
def Fits (P : Program) : Nat → TypeId → List D → Prop
 | 0,_,_ => False
 | n + 1,t,ds =>
  match P.underlying t with
  | some .bool => ∃ b,ds = [.v (.bool b)]
  | some (.int k) => ∃ i,ds = [.v (.int k i)] ∧ (Lit.int k i).wf = true
  | some .string => ∃ s,ds = [.v (.string s)] ∧ s.size ≤ maxLen
  | some (.slice e) => ∃ m cp cs,ds = [.list m (some cp) cs] ∧ m ≤ cp ∧ cp ≤ maxLen ∧ cs.length = m * P.cellsOf e ∧ ∀ i,i < m → Fits P n e ((cs.drop (i * P.cellsOf e)).take (P.cellsOf e))
  | some (.struct fs) => ds.length = P.cellsOf t ∧ ∀ f,f ∈ fs.toList → Fits P n f.type ((ds.drop f.offset).take (P.cellsOf f.type))
  | some (.array m e) => ds.length = P.cellsOf t ∧ ∀ i,i < m → Fits P n e ((ds.drop (i * P.cellsOf e)).take (P.cellsOf e))
  | _ => False
theorem Z1h6 {c : Nat} {Q : Nat → List D → Prop} : ∀ (m : Nat),(∀ i,i < m → ∃ l : List D,l.length = c ∧ Q i l) → ∃ L : List D,L.length = m * c ∧ ∀ i,i < m → Q i ((L.drop (i * c)).take c)
 | 0,_ => ⟨[],by simp,fun i hi => by omega⟩
 | m + 1,h => by
  obtain ⟨L,hL,hQ⟩ := Z1h6 m (fun i hi => h i (by omega))
  obtain ⟨l,hl,hq⟩ := h m (by omega)
  have hmul : (m + 1) * c = m * c + c := Nat.succ_mul m c
  refine ⟨L ++ l,by simp [hL,hl,hmul],fun i hi => ?_⟩
  by_cases him : i < m
  ·have h1 : (i + 1) * c ≤ m * c := Nat.mul_le_mul_right _ him
   have h2 : (i + 1) * c = i * c + c := Nat.succ_mul i c
   rw [List.drop_append_of_le_length (by omega),List.take_append_of_le_length (by simp; omega)]
   exact hQ i him
  ·have : i = m := by omega
   subst this
   rw [show i * c = L.length from hL.symm,List.drop_left,List.take_of_length_le (by omega)]
   exact hq
section
variable {H : Type} {enc : TypeId × Value → H} {w : World} {held : Bool}
theorem getElem?_rows {α : Type} {L : List α} {c j : Nat} (hc : 0 < c) {x : α} (h : L[j]? = some x) : ((L.drop ((j / c) * c)).take c)[j % c]? = some x := by
 rw [List.getElem?_take,if_pos (Nat.mod_lt _ hc),List.getElem?_drop]
 have : j / c * c + j % c = j := by rw [Nat.mul_comm]; exact Nat.div_add_mod j c
 rw [this]; exact h
theorem Z15j {ts : List TypeId} (hcl : Z1f2 P ts = true) : ∀ (fuel : Nat) (t : TypeId) (cs : List Value) (x : DataW H × List MemPlace),t ∈ ts →
  DataW.trod enc P w 0 (fun _ => true) held fuel t cs = some x → ∃ ds,RepDs w (okAll w) cs ds ∧ (∀ d,d ∈ ds → d.one = true) ∧ Fits P fuel t ds ∧ cs.length = P.cellsOf t
 | 0,t,cs,x,_,h => by simp [DataW.trod] at h
 | n + 1,t,cs,x,ht,h => by
  have hc := List.all_eq_true.1 hcl t ht
  have one : ∀ {v : Value},leaf v = true → cs = [v] → P.cellsOf t = 1 → (Fits P (n + 1) t [.v v]) → ∃ ds,RepDs w (okAll w) cs ds ∧ (∀ d,d ∈ ds → d.one = true) ∧ Fits P (n + 1) t ds ∧ cs.length = P.cellsOf t := fun {v} hl hcs h1 hf =>
   ⟨[.v v],by
    subst hcs
    refine ⟨rfl,fun i x d hx hd => ?_⟩
    cases i with
    | zero => simp at hx hd; subst hx hd; exact .v hl
    | succ i => simp at hx,by simp [D.one],hf,by rw [hcs,h1]; rfl⟩
  cases hu : P.underlying t with
  | none => rw [hu] at hc; cases hc
  | some d =>
   rw [hu] at hc
   cases d <;> simp only at hc <;> try (cases hc; done)
   case bool =>
    obtain ⟨b,rfl,_⟩ := DataW.trod_bool hu h
    exact one rfl rfl (by simpa using hc) (by simp only [Fits,hu]; exact ⟨b,rfl⟩)
   case int k =>
    obtain ⟨i,rfl,_,hw⟩ := DataW.trod_int hu h
    exact one rfl rfl (by simpa using hc) (by simp only [Fits,hu]; exact ⟨i,rfl,hw⟩)
   case string =>
    obtain ⟨s,rfl,_,hs⟩ := DataW.trod_string hu h
    exact one rfl rfl (by simpa using hc) (by simp only [Fits,hu]; exact ⟨s,rfl,hs⟩)
   case slice e =>
    simp only [Bool.and_eq_true,beq_iff_eq,decide_eq_true_eq] at hc
    obtain ⟨⟨hc1,hce⟩,hpos⟩ := hc
    have hem : e ∈ ts := by simpa using hce
    have fin : ∀ {a : Option Addr} {m cp : Nat} {cs' : List D},cs = [.slice a m cp] → RepD w (okAll w) (.slice a m cp) (.list m (some cp) cs') → m ≤ cp → cp ≤ maxLen → cs'.length = m * P.cellsOf e →
      (∀ i,i < m → Fits P n e ((cs'.drop (i * P.cellsOf e)).take (P.cellsOf e))) → ∃ ds,RepDs w (okAll w) cs ds ∧ (∀ d,d ∈ ds → d.one = true) ∧ Fits P (n + 1) t ds ∧ cs.length = P.cellsOf t := fun {a m cp cs'} hcs hr h1 h2 h3 h4 =>
     ⟨[.list m (some cp) cs'],by
      subst hcs
      refine ⟨rfl,fun i x d hx hd => ?_⟩
      cases i with
      | zero => simp at hx hd; subst hx hd; exact hr
      | succ i => simp at hx,by simp [D.one],by simp only [Fits,hu]; exact ⟨m,cp,cs',rfl,h1,h2,h3,h4⟩,by rw [hcs,hc1]; rfl⟩
    rcases DataW.trod_slice hu h with ⟨rfl,_⟩ | ⟨a,len,cap,elems,rest,n',hn',rfl,_,_,hlc,hcm,hlen,hel,hsp,_⟩
    ·exact fin rfl (.nil (.inr rfl)) (Nat.le_refl _) (Nat.zero_le _) (by simp) (fun i hi => by omega)
    ·have hnn : n' = n := by omega
     subst hnn
     obtain ⟨hrl,hrest⟩ := hsp rfl
     have each : ∀ i,i < len → ∃ l : List D,l.length = P.cellsOf e ∧ ((∀ d,d ∈ l → d.one = true) ∧ Fits P n' e l ∧ ∀ (j : Nat) d,l[j]? = some d → ∃ v,w.cell? (a.add (i * P.cellsOf e + j)) = some v ∧ RepD w (okAll w) v d) := fun i hi => by
      have h1 := hel i hi
      rw [List.getElem?_eq_getElem (by omega)] at h1
      obtain ⟨vs,hvs,h2⟩ := Option.bind_eq_some_iff.1 h1
      obtain ⟨ds,hr,ho,hf,hl⟩ := Z15j hcl n' e vs _ hem h2
      obtain ⟨_,hvl,hcell⟩ := World.cells?_some hvs
      refine ⟨ds,by rw [← hr.1,hvl],ho,hf,fun j d hj => ?_⟩
      have hjl : j < vs.length := by rw [hr.1]; exact (List.getElem?_eq_some_iff.1 hj).1
      have hv := List.getElem?_eq_getElem hjl
      refine ⟨vs[j],?_,hr.2 j _ d hv hj⟩
      rw [← hv,← hcell j (by omega)]
      congr 1
      unfold Addr.add
      by_cases h0 : i * P.cellsOf e = 0
      ·simp [h0]
      ·by_cases hj0 : j = 0
       ·simp [hj0]
       ·simp [h0,hj0,Nat.add_assoc]
     obtain ⟨L,hL,hQ⟩ := Z1h6 len each
     by_cases hcap : cap = 0
     ·have hl0 : len = 0 := by omega
      subst hcap hl0
      have : L = [] := List.eq_nil_of_length_eq_zero (by rw [hL]; simp)
      subst this
      exact fin rfl (.nil (.inr rfl)) (Nat.le_refl _) hcm (by simp) (fun i hi => by omega)
     ·-- the address has no spot,and its block is there
      have hcell0 : ∃ v,w.cell? a = some v := by
       by_cases hl0 : len = 0
       ·subst hl0
        have h1 := hrest 0 (by omega)
        rw [List.getElem?_eq_getElem (by omega)] at h1
        obtain ⟨vs,hvs,_⟩ := Option.bind_eq_some_iff.1 h1
        obtain ⟨_,hvl,hcell⟩ := World.cells?_some hvs
        have := hcell 0 hpos
        rw [List.getElem?_eq_getElem (by omega)] at this
        exact ⟨_,by simpa [Addr.add] using this⟩
       ·have h1 := hel 0 (by omega)
        rw [List.getElem?_eq_getElem (by omega)] at h1
        obtain ⟨vs,hvs,_⟩ := Option.bind_eq_some_iff.1 h1
        obtain ⟨_,hvl,hcell⟩ := World.cells?_some hvs
        have := hcell 0 hpos
        rw [List.getElem?_eq_getElem (by omega)] at this
        exact ⟨_,by simpa [Addr.add] using this⟩
      obtain ⟨v0,hv0⟩ := hcell0
      obtain ⟨b,off,spot⟩ := a
      have hsb : spot = none ∧ b < w.heap.size := by
       unfold World.cell? at hv0
       split at hv0
       ·rename_i c _ _ hb
        cases spot with
        | none => exact ⟨rfl,(Array.getElem?_eq_some_iff.1 hb).1⟩
        | some s => simp at hv0
       ·cases hv0
      obtain ⟨rfl,hblt⟩ := hsb
      refine fin rfl (.list (f := fun j => (w.cell? ⟨b,off + j,none⟩).getD undef) hblt hlc (fun c hc => by cases hc; rfl) (fun d hd => ?_) (fun j hj => ?_) (fun j d hd => ?_)) hlc hcm hL (fun i hi => (hQ i hi).2.1)
      ·obtain ⟨j,hj⟩ := List.getElem?_of_mem hd
       have hjl := (List.getElem?_eq_some_iff.1 hj).1
       have hdiv : j / P.cellsOf e < len := Nat.div_lt_of_lt_mul (by rw [Nat.mul_comm]; omega)
       exact (hQ _ hdiv).1 d (List.mem_of_getElem? (getElem?_rows hpos hj))
      ·have hj' := List.getElem?_eq_getElem hj
       have hdiv : j / P.cellsOf e < len := Nat.div_lt_of_lt_mul (by rw [Nat.mul_comm]; omega)
       obtain ⟨v,hv,_⟩ := (hQ _ hdiv).2.2 _ _ (getElem?_rows hpos hj')
       have e1 : j / P.cellsOf e * P.cellsOf e + j % P.cellsOf e = j := by rw [Nat.mul_comm]; exact Nat.div_add_mod j _
       rw [e1,Addr.add_mid] at hv
       rw [hv]; rfl
      ·have hjl := (List.getElem?_eq_some_iff.1 hd).1
       have hdiv : j / P.cellsOf e < len := Nat.div_lt_of_lt_mul (by rw [Nat.mul_comm]; omega)
       obtain ⟨v,hv,hr⟩ := (hQ _ hdiv).2.2 _ _ (getElem?_rows hpos hd)
       have e1 : j / P.cellsOf e * P.cellsOf e + j % P.cellsOf e = j := by rw [Nat.mul_comm]; exact Nat.div_add_mod j _
       rw [e1,Addr.add_mid] at hv
       rw [hv]; exact hr
   case struct fs =>
    simp only [Bool.and_eq_true] at hc
    obtain ⟨hoff,hall⟩ := hc
    obtain ⟨xs,n',hn',_,hcl',hxl,hf⟩ := DataW.trod_struct hu h
    have hnn : n' = n := by omega
    subst hnn
    have key : ∀ (gs : List Field) (off : Nat),(∀ f,f ∈ gs → f ∈ fs.toList) → offsB P off gs (P.cellsOf t) = true → off ≤ cs.length → ∃ ds,RepDs w (okAll w) (cs.drop off) ds ∧ (∀ d,d ∈ ds → d.one = true) ∧
      ∀ f,f ∈ gs → off ≤ f.offset ∧ Fits P n' f.type ((ds.drop (f.offset - off)).take (P.cellsOf f.type)) := by
     intro gs
     induction gs with
     | nil =>
      intro off _ ho hle
      have : off = P.cellsOf t := by simpa [offsB] using ho
      exact ⟨[],⟨by simp [this,hcl'],fun i x d _ hd => by simp at hd⟩,by simp,fun f hf => by simp at hf⟩
     | cons f gs ih =>
      intro off hm ho hle
      simp only [offsB,Bool.and_eq_true,beq_iff_eq] at ho
      obtain ⟨hfo,hrest⟩ := ho
      obtain ⟨i,hi⟩ := List.getElem?_of_mem (hm f (by simp))
      have h1 := hf i f (by simpa using hi)
      have hil : i < xs.length := by rw [hxl]; have := (List.getElem?_eq_some_iff.1 hi).1; simpa using this
      rw [List.getElem?_eq_getElem hil] at h1
      have hft : f.type ∈ ts := by simpa using List.all_eq_true.1 hall f (hm f (by simp))
      obtain ⟨d1,hr1,ho1,hf1,hl1⟩ := Z15j hcl n' f.type _ _ hft h1
      have hle2 : off + P.cellsOf f.type ≤ cs.length := by
       rw [hfo] at hl1
       simp at hl1
       omega
      obtain ⟨d2,hr2,ho2,hf2⟩ := ih (off + P.cellsOf f.type) (fun f hf => hm f (by simp [hf])) hrest hle2
      have hd1 : d1.length = P.cellsOf f.type := by rw [← hr1.1,hl1]
      have hsplit : cs.drop off = (cs.drop f.offset).take (P.cellsOf f.type) ++ cs.drop (off + P.cellsOf f.type) := by
       rw [hfo,← List.drop_drop]
       exact (List.take_append_drop _ _).symm
      refine ⟨d1 ++ d2,by rw [hsplit]; exact hr1.append hr2,fun d hd => ?_,fun g hg => ?_⟩
      ·rcases List.mem_append.1 hd with hd | hd
       ·exact ho1 d hd
       ·exact ho2 d hd
      ·rcases List.mem_cons.1 hg with rfl | hg
       ·refine ⟨by omega,?_⟩
        rw [hfo,Nat.sub_self,List.drop_zero,← hd1,List.take_left]
        exact hf1
       ·obtain ⟨hge,hfit⟩ := hf2 g hg
        refine ⟨by omega,?_⟩
        rw [List.drop_append,List.drop_eq_nil_of_le (by omega),List.nil_append,hd1]
        rw [show g.offset - off - P.cellsOf f.type = g.offset - (off + P.cellsOf f.type) by omega]
        exact hfit
    obtain ⟨ds,hr,ho,hfit⟩ := key fs.toList 0 (fun _ h => h) hoff (Nat.zero_le _)
    rw [List.drop_zero] at hr
    exact ⟨ds,hr,ho,by simp only [Fits,hu]; exact ⟨by rw [← hr.1,hcl'],fun f hf => by simpa using (hfit f hf).2⟩,hcl'⟩
   case array m e =>
    simp only [Bool.and_eq_true,beq_iff_eq] at hc
    obtain ⟨hce,hsz⟩ := hc
    have hem : e ∈ ts := by simpa using hce
    obtain ⟨xs,n',hn',_,hcl',hxl,hf⟩ := DataW.trod_array hu h
    have hnn : n' = n := by omega
    subst hnn
    have each : ∀ i,i < m → ∃ l : List D,l.length = P.cellsOf e ∧ ((∀ d,d ∈ l → d.one = true) ∧ Fits P n' e l ∧ RepDs w (okAll w) ((cs.drop (i * P.cellsOf e)).take (P.cellsOf e)) l) := fun i hi => by
     have h1 := hf i hi
     rw [List.getElem?_eq_getElem (by omega)] at h1
     obtain ⟨ds,hr,ho,hfit,hl⟩ := Z15j hcl n' e _ _ hem h1
     exact ⟨ds,by rw [← hr.1,hl],ho,hfit,hr⟩
    obtain ⟨L,hL,hQ⟩ := Z1h6 m each
    have hlen : cs.length = L.length := by rw [hcl',hsz,hL]
    have hpos : ∀ (j : Nat),j < L.length → 0 < P.cellsOf e := fun j hj => by
     rcases Nat.eq_zero_or_pos (P.cellsOf e) with h0 | h0
     ·rw [h0,Nat.mul_zero] at hL; omega
     ·exact h0
    refine ⟨L,⟨hlen,fun j x d hx hd => ?_⟩,fun d hd => ?_,by simp only [Fits,hu]; exact ⟨by rw [← hlen,hcl'],fun i hi => (hQ i hi).2.1⟩,hcl'⟩
    ·have hjl := (List.getElem?_eq_some_iff.1 hd).1
     have hp := hpos j hjl
     have hdiv : j / P.cellsOf e < m := Nat.div_lt_of_lt_mul (by rw [Nat.mul_comm]; omega)
     exact (hQ _ hdiv).2.2.2 _ x d (getElem?_rows hp hx) (getElem?_rows hp hd)
    ·obtain ⟨j,hj⟩ := List.getElem?_of_mem hd
     have hjl := (List.getElem?_eq_some_iff.1 hj).1
     have hp := hpos j hjl
     have hdiv : j / P.cellsOf e < m := Nat.div_lt_of_lt_mul (by rw [Nat.mul_comm]; omega)
     exact (hQ _ hdiv).1 d (List.mem_of_getElem? (getElem?_rows hp hj))
def ArgFits (P : Program) (t : TypeId) (d : D) : Prop :=
 ∃ n,match P.underlying t with
  | some (.struct _) | some (.array _ _) => ∃ cs,d = .agg cs ∧ Fits P n t cs
  | _ => Fits P n t [d]
theorem Z1kt {ts : List TypeId} (hcl : Z1f2 P ts = true) {t : TypeId} (ht : t ∈ ts) {r : Reach} {b0 : Nat} {v : Value} {d : DataW H} {ps : List MemPlace} (hval : Value.okWide P w r b0 t v) (h : DataW.Trod enc P w 0 (fun _ => true) held t v d ps) :
  ∃ x,RepD w (okAll w) v x ∧ ArgFits P t x := by
 obtain ⟨fuel,h⟩ := h
 obtain ⟨ds,h1,h2,h3,h4⟩ := Z15j hcl fuel t _ _ ht h
 have hc := List.all_eq_true.1 hcl t ht
 have row : (∃ cs,v = .agg cs) → RepD w (okAll w) v (.agg ds) := by
  rintro ⟨cs,rfl⟩
  have e : (Value.agg cs).cells.toList = cs.toList := rfl
  rw [e] at h1
  have := RepD.agg (w := w) (ok := okAll w) h1.1 h2 h1.2
  simpa using this
 have cell : v.oneCell' = true → P.cellsOf t = 1 → ∃ d,ds = [d] ∧ RepD w (okAll w) v d := fun hv hone => by
  rw [Ziv hv] at h1
  match ds,h1 with
  | [d],h1 => exact ⟨d,rfl,h1.2 0 v d rfl rfl⟩
  | [],h1 => exact absurd h1.1 (by simp)
  | _ :: _ :: _,h1 => exact absurd h1.1 (by simp)
 cases hu : P.underlying t with
 | none => rw [hu] at hc; cases hc
 | some q =>
  unfold Value.okWide at hval
  rw [hu] at hc hval
  cases q <;> simp only at hc hval <;> try (cases hc; done)
  case struct fs => obtain ⟨cs,rfl,_⟩ := hval; exact ⟨_,row ⟨cs,rfl⟩,fuel,by rw [hu]; exact ⟨ds,rfl,h3⟩⟩
  case array m e => obtain ⟨cs,rfl,_⟩ := hval; exact ⟨_,row ⟨cs,rfl⟩,fuel,by rw [hu]; exact ⟨ds,rfl,h3⟩⟩
  all_goals
   have hv : v.oneCell' = true := by
    unfold Cell.okWide Cell.ok at hval
    rw [hu] at hval
    cases v <;> first | rfl | exact hval.elim
   have h1c : P.cellsOf t = 1 := by
    first
     | exact of_decide_eq_true (by simpa using hc)
     | (simp only [Bool.and_eq_true,beq_iff_eq] at hc; exact hc.1.1)
     | simpa using hc
   obtain ⟨d,rfl,hd⟩ := cell hv h1c
   exact ⟨d,hd,fuel,by rw [hu]; exact h3⟩
theorem Z1in {ts : List TypeId} (hcl : Z1f2 P ts = true) : ∀ {ps : List TypeId} {vs : List Value} {ds : List (DataW H)} {pl : List MemPlace},(∀ t,t ∈ ps → t ∈ ts) →
  (∀ (j : Nat) t v,ps[j]? = some t → vs[j]? = some v → ∃ r b0,Value.okWide P w r b0 t v) → DataW.TrodAll enc P w 0 (fun _ => true) held ps vs ds pl →
  ∃ xs : List D,RepDs w (okAll w) vs xs ∧ xs.length = ps.length ∧ ∀ (j : Nat) t x,ps[j]? = some t → xs[j]? = some x → ArgFits P t x
 | [],[],[],pl,_,_,_ => ⟨[],⟨rfl,fun i x d hx => by simp at hx⟩,rfl,fun j t x hj => by simp at hj⟩
 | t :: ps,v :: vs,d :: ds,pl,hts,hval,h => by
  obtain ⟨p,q,h1,h2,_⟩ := h
  obtain ⟨r,b0,hv⟩ := hval 0 t v rfl rfl
  obtain ⟨x,hx,hf⟩ := Z1kt hcl (hts t (by simp)) hv h1
  obtain ⟨xs,hxs,hl,hfs⟩ := Z1in hcl (fun t ht => hts t (by simp [ht])) (fun j t v hj hv => hval (j + 1) t v (by simpa using hj) (by simpa using hv)) h2
  refine ⟨x :: xs,⟨by simp [hxs.1],fun i y d hy hd => ?_⟩,by simp [hl],fun j t' y hj hy => ?_⟩
  ·cases i with
   | zero => simp at hy hd; subst hy hd; exact hx
   | succ i => exact hxs.2 i y d (by simpa using hy) (by simpa using hd)
  ·cases j with
   | zero => simp at hj hy; subst hj hy; exact hf
   | succ j => exact hfs j t' y (by simpa using hj) (by simpa using hy)
 | [],_ :: _,_,_,_,_,h => h.elim
 | [],[],_ :: _,_,_,_,h => h.elim
 | _ :: _,[],_,_,_,_,h => h.elim
 | _ :: _,_ :: _,[],_,_,_,h => h.elim
theorem Z15k (hl : laidOutB P = true) {W W' : World} {sp : Nat → Bool} (hb : Below W.heap.size W W') : ∀ {ts : List TypeId} {vs : List Value} {ds : List (DataW H)} {ps : List MemPlace},(∀ t,t ∈ ts → P.readableRec t = true ∧ t < P.types.size) →
  DataW.TrodAll enc P W 0 (fun _ => true) true ts vs ds ps → (∀ p,p ∈ ps → p.block < W.heap.size ∧ sp p.block = true) → DataW.TrodAll enc P W' 0 sp true ts vs ds ps
 | [],[],[],ps,_,h,_ => h
 | t :: ts,v :: vs,d :: ds,ps,hr,⟨p,q,h1,h2,he⟩,hp => by
  subst he
  exact ⟨p,q,WideElems.Trod_stays hl (hr t (by simp)).1 (hr t (by simp)).2 h1 (fun x hx => hb.same (hp x (by simp [hx])).1) (fun x hx => (hp x (by simp [hx])).2),
   Z15k hl hb (fun t ht => hr t (by simp [ht])) h2 (fun x hx => hp x (by simp [hx])),rfl⟩
 | [],_ :: _,_,_,_,h,_ => h.elim
 | [],[],_ :: _,_,_,h,_ => h.elim
 | _ :: _,[],_,_,_,h,_ => h.elim
 | _ :: _,_ :: _,[],_,_,h,_ => h.elim
theorem Z1ku (hl : laidOutB P = true) {f : Func} {s : ChangeSpec} {fresh handsOn again : Bool} {tb : TypeId} (htb : P.underlying tb = some .bool) (hres : f.resultTypes = #[tb]) (hvars : s.vars = [])
  (hr : ∀ t,t ∈ f.params.toList → P.readableRec t = true ∧ t < P.types.size) (hfn : ∀ (H : Type) (ds : List (DataW H)),ds.length = f.params.size → s.fn H ds = { results := [.lit (.bool true)],args := ds })
  {W W' : World} {args : Array Value} {ds gs : List (DataW H)} {before : List MemPlace} (hW : DataW.Whole enc P f.params.toList s.vars false W args.toList ds gs before) (hb : Below W.heap.size W W') :
  s.post enc P f false fresh handsOn again W args (.bool true) W' := by
 have hlt := hW.lt
 have hW0 := hW
 obtain ⟨p,q,hA,hV,rfl,hz,hn⟩ := hW
 rw [hvars] at hV
 obtain ⟨rfl,rfl⟩ := trodVars_none hV
 have hlen : ds.length = f.params.size := by
  have : ∀ {ts : List TypeId} {vs : List Value} {ds : List (DataW H)} {ps : List MemPlace},DataW.TrodAll enc P W 0 (fun _ => true) true ts vs ds ps → ds.length = ts.length := by
   intro ts
   induction ts with
   | nil => intro vs ds ps h; cases vs <;> cases ds <;> first | rfl | exact h.elim
   | cons t ts ih =>
    intro vs ds ps h
    cases vs <;> cases ds <;> first | exact h.elim | skip
    obtain ⟨_,_,_,h2,_⟩ := h
    simp [ih h2]
  simpa using this hA
 have hspec : s.fn H (ds ++ []) = { results := [.lit (.bool true)],args := ds } := by rw [List.append_nil]; exact hfn H ds hlen
 have hres' : ∀ (b : Nat) (sp : Nat → Bool) (hd : Bool),DataW.TrodAll enc P W' b sp hd f.resultTypes.toList ((Value.bool true).resultList f.resultTypes.size) (s.fn H (ds ++ [])).results [] := fun b sp hd => by
  rw [hspec,hres]
  exact trodAll_cons_mk (shut_bool htb _) trodAll_mk0
 have hargs : ∀ sp : Nat → Bool,(∀ x ∈ p ++ [],sp x.block = true) → DataW.TrodAll enc P W' 0 sp true f.params.toList args.toList (s.fn H (ds ++ [])).args p := fun sp hsp => by
  rw [hspec]
  exact Z15k hl hb hr hA (fun x hx => ⟨hlt x (by simp [hx]),hsp x (by simp [hx])⟩)
 have hvars' : ∀ sp : Nat → Bool,DataW.TrodVars enc P W' sp s.vars (s.fn H (ds ++ [])).vars [] := fun sp => by rw [hvars,hspec]; rfl
 have hold : ∀ x ∈ p ++ [],(fun b => decide (b < W.heap.size)) x.block = true := fun x hx => by simpa using hlt x hx
 refine ⟨ds,[],p ++ [],[],p,[],hW0,hres' _ _ _,hargs _ hold,hvars' _,hb.frame _,fun _ => ?_⟩
 refine ⟨ok_one hres rfl (okWide_bool_mk htb _),_,_,([] ++ p) ++ [],⟨[] ++ p,[],trodAll_append (hargs _ (fun _ _ => rfl)) (hres' _ _ _),hvars' _,rfl,?_,?_⟩,?_⟩
 ·intro b off hp
  have hp' : MemPlace.cell b off ∈ p ++ [] := by simpa using hp
  rw [hb.frozen (p := ⟨b,off,none⟩) (hlt _ hp')]
  exact hz b off hp'
 ·intro ha; cases ha
 ·intro x hx _
  simpa using hx
theorem Z1ge (hl : laidOutB P = true) {f : FuncId} {fn : Func} {s : ChangeSpec} {fresh handsOn again : Bool} {tb : TypeId} (htb : P.underlying tb = some .bool) (hres : fn.resultTypes = #[tb]) (hvars : s.vars = [])
  {ts : List TypeId} (hcl : Z1f2 P ts = true) (hts : ∀ t,t ∈ fn.params.toList → t ∈ ts) (hr : ∀ t,t ∈ fn.params.toList → P.readableRec t = true ∧ t < P.types.size)
  (hfn : ∀ (H : Type) (ds : List (DataW H)),ds.length = fn.params.size → s.fn H ds = { results := [.lit (.bool true)],args := ds })
  (hdata : ∀ xs : List D,xs.length = fn.params.toList.length → (∀ (j : Nat) t x,fn.params.toList[j]? = some t → xs[j]? = some x → ArgFits P t x) → DataSem P f xs (.v (.bool true)))
  {W : World} {base : Nat} {args : Array Value} {ds gs : List (DataW H)} {before : List MemPlace} (hval : ∀ (j : Nat) t v,fn.params[j]? = some t → args[j]? = some v → Value.okWide P W .any base t v)
  (hW : DataW.Whole enc P fn.params.toList s.vars false W args.toList ds gs before) (hgl : GlOk W (okAll W)) :
  Calls P f args W fun e W' => ∃ v,e = .returned v ∧ s.post enc P fn false fresh handsOn again W args v W' := by
 have hW0 := hW
 obtain ⟨p,q,hA,_,_,_,_⟩ := hW
 obtain ⟨xs,hxs,hlen,hfit⟩ := Z1in hcl hts (fun j t v hj hv => ⟨.any,base,hval j t v (by simpa using hj) (by simpa using hv)⟩) hA
 have := (hdata xs hlen hfit).2 (w := W) (ok := okAll W) (fun b hb => hb) hgl hxs
 have e : args.toList.toArray = args := by simp
 rw [e] at this
 refine this.mono ?_
 rintro e W' ⟨u,ok',rfl,hb,_,hu⟩
 cases hu
 exact ⟨_,rfl,Z1ku hl htb hres hvars hr hfn hW0 hb⟩
end
end Go.Ev
/-
 Tables of functions,built up one by one.
-/
namespace Go.Ev
open Go
variable {P : Program}
def M : Nat := 18446744073709551616
theorem SpOk.nil : SpOk P [] := fun _ _ _ _ h => by cases h
theorem SpOk.cons {f : FuncId} {s : List D → Option D} {sp : SpTab} (h : ∀ ds d,s ds = some d → DataSem P f ds d) (hs : SpOk P sp) : SpOk P ((f,s) :: sp) := by
 intro g t ds d hl hd
 simp only [List.lookup] at hl
 split at hl
 ·rename_i he
  cases hl
  rw [show g = f from by simpa using he]
  exact h ds d hd
 ·exact hs g t ds d hl hd
theorem InlOk.nil {sp : SpTab} {mv : List FuncId} : InlOk P ⟨sp,[],mv⟩ := fun _ _ _ h => by cases h
theorem InlOk.cons {f : FuncId} {fn : Func} {fh : FnH} {sp : SpTab} {mv : List FuncId} {l : List (FuncId × Func × FnH)} (hf : P.funcs[f]? = some fn) (he : Enters P f) (h : InlOk P ⟨sp,l,mv⟩) : InlOk P ⟨sp,(f,fn,fh) :: l,mv⟩ := by
 intro g gn gh hl
 simp only [List.lookup] at hl
 split at hl
 ·rename_i hg
  cases hl
  rw [show g = f from by simpa using hg]
  exact ⟨hf,he⟩
 ·exact h g gn gh hl
def capO {R : Type} (c : Option Nat) (k : Nat → Option R) : Option R :=
 match AV.d (D.list 0 c []) with
 | .d (.list _ (some c) _) => k c
 | .sl _ _ _ (some c) _ => k c
 | _ => none
end Go.Ev