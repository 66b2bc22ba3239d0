/-
 The package variables of the row's condition are those that are known.
-/
import Derived.Test.YthakkigkdhaihaaGreatDoorEzXD
import Derived.Lib.LaidTab
set_option linter.unusedSimpArgs false
set_option linter.unusedVariables false
namespace Go.Ev
open Go
theorem Z1h7 {P : Program} {w : World} {n : String} {d : DataW Unit} : ∀ {laid : List (String × DataW Unit)} {ps : List MemPlace}, DataW.LaidVars P w laid ps → (n, d) ∈ laid →
  ∃ g t cs fuel p, P.globalNamed n = some g ∧ (P.globals[g]?).map (·.type) = some t ∧ w.var? P n = some cs ∧ DataW.trod (fun _ => ()) P w 0 (fun _ => true) false fuel t cs.toList = some (d, p)
 | [], _, _, hm => by cases hm
 | (n', d') :: r, ps, h, hm => by
  obtain ⟨g, t, cs, fuel, p, q, h1, h2, h3, h4, h5, _⟩ := h
  rcases List.mem_cons.1 hm with e | hm
  ·cases e; exact ⟨g, t, cs, fuel, p, h1, h2, h3, h4⟩
  ·exact Z1h7 h5 hm
structure VarIs (P : Program) (w : World) (g : Nat) (vs : List Value) : Prop where
 one : ∃ n cs, P.globalNamed n = some g ∧ w.var? P n = some cs ∧ cs.toList = vs
theorem Z1lj {P : Program} {w : World} {laid : List (String × DataW Unit)} (h : laidMet P laid w) {n : String} {g : Nat} {t : TypeId} {fs : Array Field} {f1 f2 f3 : Field} {a c : Int} {b : Bool}
  (hm : (n, (.agg [.lit (.int .u8 a), .lit (.bool b), .lit (.int .u32 c)] : DataW Unit)) ∈ laid) (hg : P.globalNamed n = some g) (hty : (P.globals[g]?).map (·.type) = some t)
  (ht : P.underlying t = some (.struct fs)) (hfs : fs.toList = [f1, f2, f3]) (hct : P.cellsOf t = 3) (o1 : f1.offset = 0) (o2 : f2.offset = 1) (o3 : f3.offset = 2)
  (u1 : P.underlying f1.type = some (.int .u8)) (k1 : P.cellsOf f1.type = 1) (u2 : P.underlying f2.type = some .bool) (k2 : P.cellsOf f2.type = 1) (u3 : P.underlying f3.type = some (.int .u32)) (k3 : P.cellsOf f3.type = 1) :
  VarIs P w g [.int .u8 a, .bool b, .int .u32 c] := by
 obtain ⟨ps, hl, _⟩ := h
 obtain ⟨g', t', cs, fuel, p, hg', hty', hv, hd⟩ := Z1h7 hl hm
 obtain rfl := Option.some.inj (hg.symm.trans hg')
 obtain rfl := Option.some.inj (hty.symm.trans hty')
 refine ⟨n, cs, hg, hv, ?_⟩
 cases fuel with
 | zero => simp [DataW.trod] at hd
 | succ fuel =>
  simp only [DataW.trod, ht] at hd
  split at hd
  ·rename_i hlen
   rw [hct] at hlen
   rw [hfs] at hd
   obtain ⟨x, y, z, e⟩ : ∃ x y z, cs.toList = [x, y, z] := by
    match hc : cs.toList, hlen with
    | [x, y, z], _ => exact ⟨x, y, z, rfl⟩
   rw [e] at hd ⊢
   simp only [List.mapM_cons, List.mapM_nil, o1, o2, o3, k1, k2, k3, List.drop_zero, List.drop_succ_cons, List.take_succ_cons, List.take_zero] at hd
   obtain ⟨xs, hm, hx⟩ := Option.map_eq_some_iff.1 hd
   obtain ⟨r1, h1, hm⟩ := Option.bind_eq_some_iff.1 hm
   obtain ⟨rr, hrr, hm⟩ := Option.bind_eq_some_iff.1 hm
   cases hm
   obtain ⟨r2, h2, hrr⟩ := Option.bind_eq_some_iff.1 hrr
   obtain ⟨rr, hr3, hrr⟩ := Option.bind_eq_some_iff.1 hrr
   cases hrr
   obtain ⟨r3, h3, hr3⟩ := Option.bind_eq_some_iff.1 hr3
   obtain ⟨rr, hr4, hr3⟩ := Option.bind_eq_some_iff.1 hr3
   cases hr3
   obtain ⟨n1, e1, rfl, _⟩ := DataW.trod_int u1 h1
   obtain ⟨b2, e2, rfl⟩ := DataW.trod_bool u2 h2
   obtain ⟨n3, e3, rfl, _⟩ := DataW.trod_int u3 h3
   cases e1; cases e2; cases e3
   cases hr4
   simp at hx
   obtain ⟨⟨rfl, rfl, rfl⟩, _⟩ := hx
   rfl
  ·cases hd
theorem Z1lk {P : Program} {w : World} {laid : List (String × DataW Unit)} (h : laidMet P laid w) {n : String} {g : Nat} {t e : TypeId} {m : Nat} {k : IntKind} {zs : List Int}
  (hm : (n, (Lib.tabData k zs : DataW Unit)) ∈ laid) (hg : P.globalNamed n = some g) (hty : (P.globals[g]?).map (·.type) = some t) (ht : P.underlying t = some (.array m e)) (he : P.underlying e = some (.int k)) (hce : P.cellsOf e = 1) (hct : P.cellsOf t = m) :
  VarIs P w g (zs.map fun z => .int k z) := by
 obtain ⟨ps, hl, _⟩ := h
 obtain ⟨g', t', cs, fuel, p, hg', hty', hv, hd⟩ := Z1h7 hl hm
 obtain rfl := Option.some.inj (hg.symm.trans hg')
 obtain rfl := Option.some.inj (hty.symm.trans hty')
 exact ⟨n, cs, hg, hv, Lib.cells_of_tab ht he hce hct hd⟩
theorem Z1e4 {g : Nat} {cs : List D} : ∀ {l : List (Nat × List D)}, l.lookup g = some cs → (g, cs) ∈ l
 | [], h => by cases h
 | (k, v) :: r, h => by
  simp only [List.lookup] at h
  split at h
  ·rename_i e
   cases h
   have : g = k := by simpa using e
   subst this
   simp
  ·exact List.mem_cons_of_mem _ (Z1e4 h)
theorem Z1ll {P : Program} {w : World} (h : ∀ g cs, (g, cs) ∈ GlT → ∃ vs : List Value, cs = vs.map D.v ∧ vs ≠ [] ∧ (∀ v, v ∈ vs → leaf v = true) ∧ VarIs P w g vs) : GlOk w (okAll w) := fun g cs hg => by
 obtain ⟨vs, rfl, hne, hleaf, ⟨n, a, hn, hv, ha⟩⟩ := h g cs (Z1e4 hg)
 have hcell : ∀ i, w.cell? ⟨g, i, none⟩ = vs[i]? := fun i => by
  rw [World.var?_cell hn hv i, ← ha]; simp
 refine ⟨?_, fun d hd => ?_, fun i => vs.getD i undef, fun j hj => ?_, fun j d hd => ?_⟩
 ·obtain ⟨x, xs, rfl⟩ : ∃ x xs, vs = x :: xs := by
   cases vs with
   | nil => exact absurd rfl hne
   | cons x xs => exact ⟨x, xs, rfl⟩
  have := hcell 0
  unfold okAll
  refine Nat.lt_of_not_le fun hle => ?_
  have hnone : w.heap[g]? = none := Array.getElem?_eq_none hle
  simp [World.cell?, hnone] at this
 ·obtain ⟨v, _, rfl⟩ := List.mem_map.1 hd; rfl
 ·rw [Nat.zero_add, hcell]
  simp at hj
  simp [List.getD, hj]
 ·rw [List.getElem?_map] at hd
  cases hx : vs[j]? with
  | none => rw [hx] at hd; cases hd
  | some v =>
   rw [hx] at hd; cases hd
   simp only [List.getD, hx, Option.getD_some]
   exact .v (hleaf v (List.mem_of_getElem? hx))
end Go.Ev