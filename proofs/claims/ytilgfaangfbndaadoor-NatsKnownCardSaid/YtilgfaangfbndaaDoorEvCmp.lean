/-
  bytes.Compare: from data to data; the function without a body that it calls by the model's own entry.
-/
import Derived.Test.YtilgfaangfbndaaDoorEvClone
import Derived.Lib.BytesEntry
set_option linter.unusedSimpArgs false
set_option linter.unusedVariables false
set_option maxRecDepth 100000
namespace Go.Ev
open Go Go.Proofs Go.RowKit

/-- What the entry reads. -/
theorem bytes_read {P : Program} {w : World} {ok : Nat → Prop} {u : Value} {n : Nat} {c : Option Nat} {cs : List D} {l : List UInt8} (h : RepD w ok u (.list n c cs)) (hn : cs.length = n) (hl : bytesOf cs = some l) : (Extern.Bytes.bytesOf u).run P w = .ok ⟨l.toArray⟩ w := by
  cases h with
  | nil hc =>
    have : l = [] := by simpa [bytesOf] using hl.symm
    subst this
    rename_i a
    cases a with
    | none => rfl
    | some a => rfl
  | list hb hn' hcap h1 hcell hrep =>
    rename_i b off cp f
    have hpw : PW (RepD w ok) ((List.range cs.length).map f) cs := fun j d hd => by
      have hj := (List.getElem?_eq_some_iff.1 hd).1
      exact ⟨f j, by simp [hj], hrep j d hd⟩
    obtain ⟨ns, e1, rfl⟩ := bytesOf_some hl (by simp) hpw
    have hlen : ns.length = n := by have := congrArg List.length e1; simp at this; omega
    have hrun := Lib.run_loadBytesX (P := P) w ns ⟨b, off, none⟩ .empty (fun j x hj => by
      have hjl : j < ns.length := (List.getElem?_eq_some_iff.1 hj).1
      have e : (⟨b, off, none⟩ : Addr).add j = ⟨b, off + j, none⟩ := by unfold Addr.add; split <;> simp_all
      rw [e, hcell j (by omega)]
      have h2 : (ns.map (Value.int .u8))[j]? = some (f j) := by rw [← e1]; simp [show j < cs.length by omega]
      rw [List.getElem?_map, hj] at h2
      simpa using h2.symm)
    rw [hlen] at hrun
    have he : (⟨ByteArray.empty.data ++ (Lib.bytesOf ns).toArray⟩ : ByteArray) = ⟨(ns.map fun n => UInt8.ofNat n.toNat).toArray⟩ := by
      apply ByteArray.ext
      show (#[] : Array UInt8) ++ (Lib.bytesOf ns).toArray = (Lib.bytesOf ns).toArray
      simp
    rw [he] at hrun
    exact hrun

def sp92 : List D → Option D
  | [.list n _ cs, .list m _ ds] => if cs.length = n ∧ ds.length = m then (bytesOf cs).bind fun l => (bytesOf ds).bind fun k => some (.v (.int .i64 (Lib.compareBytes l k))) else none
  | _ => none

namespace Cmp
noncomputable def A : Code := subc [0] (bodyOf Tryd.f92)
noncomputable def B : Code := subc [1, 0] (bodyOf Tryd.f92)
theorem body : Tryd.f92.body = some (.seq A (.seq B .ret)) := by kernel_rfl
def st0 (x y : AV) : St := ⟨[x, y, .junk, .junk, .junk, .junk, .junk, .junk], []⟩
def st1 (x y : AV) : St := ⟨[x, y, .junk, .junk, .d (.v (.int .i64 0)), .junk, .junk, .junk], []⟩
theorem eA (x y : AV) : codeK Tryd.prog [] 0 or3 0 fh0 A (st0 x y) fin3 = some (.normal, st1 x y) := by kernel_rfl
theorem results : Tryd.f92.results.toList = [.tmp 4] := by kernel_rfl
theorem Bops : B = .region 1 (regOps B) false := by kernel_rfl
noncomputable def o0 : Oper := (regOps B).toList.getD 0 default
noncomputable def o1 : Oper := (regOps B).toList.getD 1 default
noncomputable def o2 : Oper := (regOps B).toList.getD 2 default
noncomputable def o3 : Oper := (regOps B).toList.getD 3 default
theorem Blist : (regOps B).toList = [o0, o1, o2, o3] := by kernel_rfl
theorem o0op : o0.op = .move (.tmp 0) := by kernel_rfl
theorem o0dst : o0.dst = some 5 := by kernel_rfl
theorem o0g : o0.guard = none := by kernel_rfl
theorem o1op : o1.op = .move (.tmp 1) := by kernel_rfl
theorem o1dst : o1.dst = some 6 := by kernel_rfl
theorem o1g : o1.guard = none := by kernel_rfl
theorem o2op : o2.op = .call { callee := .value (.func 99), args := #[.tmp 5, .tmp 6], argTypes := #[22, 22] } := by kernel_rfl
theorem o2dst : o2.dst = some 7 := by kernel_rfl
theorem o2g : o2.guard = none := by kernel_rfl
theorem o3op : o3.op = .assign (.tmp 7) := by kernel_rfl
theorem o3dst : o3.dst = some 4 := by kernel_rfl
theorem o3g : o3.guard = none := by kernel_rfl
theorem en : Enters Tryd.prog 92 := ⟨Tryd.f92, Tryd.func92, by kernel_rfl, by kernel_rfl⟩

theorem call_run {w : World} {ok : Nat → Prop} {u v : Value} {n m : Nat} {c c' : Option Nat} {cs ds : List D} {l k : List UInt8} (hu : RepD w ok u (.list n c cs)) (hv : RepD w ok v (.list m c' ds)) (hn : cs.length = n) (hm : ds.length = m) (hl : bytesOf cs = some l) (hk : bytesOf ds = some k) :
    (callFunc 99 #[u, v]).run Tryd.prog w = .ok (.value (.int .i64 (Lib.compareBytes l k))) w := by
  rw [run_callFunc_extern Tryd.func99 (by kernel_rfl) (by kernel_rfl) (by kernel_rfl) (e := Extern.BytealgCompare.compare) (by kernel_rfl)]
  have h1 := bytes_read (P := Tryd.prog) hu hn hl
  have h2 := bytes_read (P := Tryd.prog) hv hm hk
  show Result.andThen (((do pure (goInt (Extern.BytealgCompare.cmp (← Extern.Bytes.bytesOf u) (← Extern.Bytes.bytesOf v)))) : Sem Value).run Tryd.prog w) _ = _
  simp only [Sem.run_bind, h1, h2, Result.andThen, Sem.run_pure, Lib.cmp_eq]
  rfl

theorem B_wp {B0 : Nat} {w0 : World} {ok : Nat → Prop} {E : Env} {n m : Nat} {c c' : Option Nat} {cs ds : List D} {l k : List UInt8} {a : Act} {w : World} (hS : Sim B0 w0 ok E (st1 (.d (.list n c cs)) (.d (.list m c' ds))) a w) (hn : cs.length = n) (hm : ds.length = m) (hl : bytesOf cs = some l) (hk : bytesOf ds = some k) (Q : Exit → Act → World → Prop)
    (hQ : ∀ a' st', Sim B0 w0 ok E st' a' w → st'.L = [] → st'.sl.getD 4 .junk = .d (.v (.int .i64 (Lib.compareBytes l k))) → Q .normal a' w) : B.wp Tryd.prog Q a w := by
  rw [Bops]
  refine wp_region_list ?_
  rw [Blist]
  have hr := hS.sl.ev (.tmp 0)
  have hr' := hS.sl.ev (.tmp 1)
  generalize hu : a.eval (.tmp 0) = u at hr
  generalize hv : a.eval (.tmp 1) = v at hr'
  have hD : RepD w ok u (.list n c cs) := by
    have : ev (st1 (.d (.list n c cs)) (.d (.list m c' ds))).sl (.tmp 0) = .d (.list n c cs) := rfl
    rw [this] at hr
    cases hr with
    | d h => exact h
  have hD' : RepD w ok v (.list m c' ds) := by
    have : ev (st1 (.d (.list n c cs)) (.d (.list m c' ds))).sl (.tmp 1) = .d (.list m c' ds) := rfl
    rw [this] at hr'
    cases hr' with
    | d h => exact h
  have hsz : a.tmps.size = 8 := hS.size
  unfold wpList
  rw [if_pos (wanted_none o0g _)]
  refine .inl (wp_value (u := u) (w' := w) (by simp [execOp, o0op, hu]) ?_)
  have hS2 := hS.put hS.mem (.d hD) hS.sl rfl (some 5)
  rw [o0dst]
  unfold wpList
  rw [if_pos (wanted_none o1g _)]
  have hv2 : (a.put (some 5) u).eval (.tmp 1) = v := by
    rw [← hv]
    simp [Act.put, Act.eval, hsz]
  refine .inl (wp_value (u := v) (w' := w) (by simp [execOp, o1op, hv2]) ?_)
  have hS3 := hS2.put hS2.mem (.d hD') hS2.sl rfl (some 6)
  rw [o1dst]
  unfold wpList
  rw [if_pos (wanted_none o2g _)]
  have he5 : ((a.put (some 5) u).put (some 6) v).eval (.tmp 5) = u := by simp [Act.put, Act.eval, hsz]
  have he6 : ((a.put (some 5) u).put (some 6) v).eval (.tmp 6) = v := by simp [Act.put, Act.eval, hsz]
  refine .inl (wp_value (u := .int .i64 (Lib.compareBytes l k)) (w' := w) ?_ ?_)
  · have h1 := call_run hD hD' hn hm hl hk
    have hf : ((a.put (some 5) u).put (some 6) v).eval (.func 99) = .func (.func 99) #[] #[] := rfl
    simp only [execOp, o2op, resolve, hf, Deferred.ofValue]
    have e1 : #[] ++ (#[Operand.tmp 5, Operand.tmp 6] : Array Operand).map ((a.put (some 5) u).put (some 6) v).eval ++ #[] = #[u, v] := by
      apply Array.ext'; simp [he5, he6]
    simp only [invoke, Sem.run_pure, Sem.run_bind, Result.andThen, e1]
    exact h1
  have hS4 := hS3.put hS3.mem (.d (RepD.v (w := w) (ok := ok) (x := .int .i64 (Lib.compareBytes l k)) rfl)) hS3.sl rfl (some 7)
  rw [o2dst]
  unfold wpList
  rw [if_pos (wanted_none o3g _)]
  have he7 : (((a.put (some 5) u).put (some 6) v).put (some 7) (.int .i64 (Lib.compareBytes l k))).eval (.tmp 7) = .int .i64 (Lib.compareBytes l k) := by simp [Act.put, Act.eval, hsz]
  refine .inl (wp_value (u := .int .i64 (Lib.compareBytes l k)) (w' := w) (by simp [execOp, o3op, he7]) ?_)
  have hS5 := hS4.put hS4.mem (.d (RepD.v (w := w) (ok := ok) (x := .int .i64 (Lib.compareBytes l k)) rfl)) hS4.sl rfl (some 4)
  rw [o3dst]
  exact hQ _ _ hS5 rfl rfl

/-- What leaves. -/
theorem fin {w : World} {ok ok' : Nat → Prop} {E' : Env} {st : St} {a : Act} {w' : World} {d : D} (hS : Sim w.heap.size w ok' E' st a w') (ext : ∀ b, ok' b → ok b ∨ w.heap.size ≤ b) (hv : viewD st.L 8 (st.sl.getD 4 .junk) = some d) :
    bodyPost Tryd.prog Tryd.f92 (fun e w' => ∃ u ok', e = .returned u ∧ Below w.heap.size w w' ∧ (∀ b, ok' b → b < w'.heap.size ∧ (ok b ∨ w.heap.size ≤ b)) ∧ RepD w' ok' u d) .ret a w' := by
  refine ⟨hS.defers, _, run_results (us := [a.tmps.getD 4 undef]) (by rw [results]; simp [List.mapM_cons, resultM]), ?_⟩
  have hr : Rep E' w' ok' (a.tmps.getD 4 undef) (st.sl.getD 4 .junk) := hS.sl.ev (.tmp 4)
  exact ⟨_, fun b => b < w'.heap.size ∧ (ok b ∨ w.heap.size ≤ b), rfl, hS.mem.below, fun b hb => hb, viewD_sound hv hS.mem (fun b hb => ⟨(hS.mem.okb b hb).1, ext b hb⟩) (fun id b m he => ⟨hS.mem.lt he, .inr (hS.mem.loc id b m he).1⟩) hr⟩

theorem main (n m : Nat) (c c' : Option Nat) (cs ds : List D) (l k : List UInt8) (hn : cs.length = n) (hm : ds.length = m) (hl : bytesOf cs = some l) (hk : bytesOf ds = some k) : DataSem Tryd.prog 92 [.list n c cs, .list m c' ds] (.v (.int .i64 (Lib.compareBytes l k))) := by
  refine ⟨en, fun {w ok vals} hok hv => ?_⟩
  obtain ⟨hvl, hvr⟩ := hv
  match vals, hvl with
  | [v, v'], _ =>
    have hv := hvr 0 v _ rfl rfl
    have hv' := hvr 1 v' _ rfl rfl
    refine calls_of_wp Tryd.func92 body ?_
    have hntmps : Tryd.f92.ntmps = 8 := by kernel_rfl
    rw [hntmps]
    have hS0 : Sim w.heap.size w ok (fun _ => none) (st0 (.d (.list n c cs)) (.d (.list m c' ds))) { tmps := #[v, v'] ++ Array.replicate (8 - (#[v, v'] : Array Value).size) undef, defers := [] } w := by
      refine ⟨{ below := Below.refl _ _, okb := fun b hb => ⟨hok b hb, fun id m he => (nomatch he)⟩, inj := fun i j b m m' hi => (nomatch hi), loc := fun id b m he => (nomatch he), b0 := Nat.le_refl _, wf := fun i B hB => by simp [st0] at hB }, fun t x hx => ?_, rfl, rfl⟩
      match t, hx with
      | 0, hx => cases hx; exact .d hv
      | 1, hx => cases hx; exact .d hv'
      | 2, hx => cases hx; exact .junk
      | 3, hx => cases hx; exact .junk
      | 4, hx => cases hx; exact .junk
      | 5, hx => cases hx; exact .junk
      | 6, hx => cases hx; exact .junk
      | 7, hx => cases hx; exact .junk
      | t + 8, hx => cases hx
    refine wp_seq ((code3 Clone.mixed (eA _ _)).2 hS0 _ fun ok1 E1 a1 w1 hS1 g1 => ?_)
    refine wp_seq (B_wp hS1 hn hm hl hk _ fun a2 st2 hS2 hL h4 => ?_)
    refine wp_ret ?_
    exact fin hS2 g1.ext (by rw [h4]; rfl)
  | [], h => exact absurd h (by simp)
  | [_], h => exact absurd h (by simp)
  | _ :: _ :: _ :: _, h => exact absurd h (by simp)
end Cmp

theorem ds92 : ∀ ds d, sp92 ds = some d → DataSem Tryd.prog 92 ds d := by
  intro ds d h
  unfold sp92 at h
  split at h
  · split at h
    · rename_i hc
      obtain ⟨l, hl, h1⟩ := Option.bind_eq_some_iff.1 h
      obtain ⟨k, hk, h2⟩ := Option.bind_eq_some_iff.1 h1
      cases h2
      exact Cmp.main _ _ _ _ _ _ l k hc.1 hc.2 hl hk
    · cases h
  · cases h
end Go.Ev
