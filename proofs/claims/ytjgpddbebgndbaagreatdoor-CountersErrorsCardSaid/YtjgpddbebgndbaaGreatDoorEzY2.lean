/-
  Records as arguments: rows of plain values; qualifiers as they come.
-/
import Derived.Test.YtjgpddbebgndbaaGreatDoorEzY1
import Derived.Test.YtjgpddbebgndbaaGreatDoorEzLC
set_option linter.unusedVariables false
set_option maxRecDepth 100000
namespace Go.Ev
open Go Go.Proofs
theorem RowOf.anySlice {P : Program} {t e : TypeId} (ht : P.underlying t = some (.slice e)) : RowOf P t (fun q : Nat × Nat × List D => [.list q.1 (some q.2.1) q.2.2]) (fun _ => True) := fun n ds h => by
  cases n with
  | zero => exact h.elim
  | succ n =>
    simp only [Fits, ht] at h
    obtain ⟨m, cp, cs, rfl, _⟩ := h
    exact ⟨(m, cp, cs), trivial, rfl⟩
theorem u76 : Tryz.prog.underlying 76 = some (.slice 113) := by kernel_rfl
theorem u53 : Tryz.prog.underlying 53 = some (.slice 78) := by kernel_rfl
theorem u54 : Tryz.prog.underlying 54 = some (.slice 100) := by kernel_rfl
theorem u78 : Tryz.prog.underlying 78 = some (.struct #[{ name := "ID", type := 75, offset := 0, embedded := false, tag := "", pkgPath := "", byteOffset := 0 }, { name := "Qualifiers", type := 76, offset := 17, embedded := false, tag := "", pkgPath := "", byteOffset := 72 }]) := by kernel_rfl
theorem u100 : Tryz.prog.underlying 100 = some (.struct #[{ name := "Issuer", type := 75, offset := 0, embedded := false, tag := "", pkgPath := "", byteOffset := 0 }, { name := "Subject", type := 75, offset := 17, embedded := false, tag := "", pkgPath := "", byteOffset := 68 }]) := by kernel_rfl
theorem u56 : Tryz.prog.underlying 56 = some (.struct #[{ name := "SelfIssued", type := 4, offset := 0, embedded := false, tag := "", pkgPath := "", byteOffset := 0 }, { name := "HasPolicies", type := 4, offset := 1, embedded := false, tag := "", pkgPath := "", byteOffset := 1 }, { name := "Policies", type := 53, offset := 2, embedded := false, tag := "", pkgPath := "", byteOffset := 8 }, { name := "HasMappings", type := 4, offset := 3, embedded := false, tag := "", pkgPath := "", byteOffset := 32 }, { name := "Mappings", type := 54, offset := 4, embedded := false, tag := "", pkgPath := "", byteOffset := 40 }, { name := "Require", type := 3, offset := 5, embedded := false, tag := "", pkgPath := "", byteOffset := 64 }, { name := "Inhibit", type := 3, offset := 6, embedded := false, tag := "", pkgPath := "", byteOffset := 72 }, { name := "InhibitAny", type := 3, offset := 7, embedded := false, tag := "", pkgPath := "", byteOffset := 80 }]) := by kernel_rfl
theorem row_pol : RowOf Tryz.prog 78 Pol.cells (fun p => p.id.ok) := fun n ds h => by
  have := RowOf.struct (len := 17 + 1) u78 (by kernel_rfl) (FieldsOf.cons rfl c75 row_oid (by simp) (FieldsOf.one rfl (by kernel_rfl) (RowOf.anySlice u76)))
  obtain ⟨⟨o, m, cp, cs⟩, ⟨ho, _⟩, rfl⟩ := this n ds h
  exact ⟨⟨o, m, some cp, cs⟩, ho, rfl⟩
theorem row_map : RowOf Tryz.prog 100 Mp.cells Mp.ok := fun n ds h => by
  have := RowOf.struct (len := 17 + 17) u100 (by kernel_rfl) (FieldsOf.cons rfl c75 row_oid (by simp) (FieldsOf.one rfl c75 row_oid))
  obtain ⟨⟨o, p⟩, ⟨ho, hp⟩, rfl⟩ := this n ds h
  exact ⟨⟨o, p⟩, ⟨ho, hp⟩, rfl⟩
theorem arg_record {d : D} (h : ArgFits Tryz.prog 56 d) : ∃ q : Rcd, (∀ p, p ∈ q.ps → p.id.ok) ∧ (∀ p, p ∈ q.ms → p.ok) ∧ d = .agg q.cells := by
  have rb := RowOf.bool u4
  have ri := RowOf.int u3
  have rp := RowOf.slice (c := 18) u53 (by kernel_rfl) row_pol
  have rm := RowOf.slice (c := 34) u54 (by kernel_rfl) row_map
  have := RowOf.struct (len := 1 + (1 + (1 + (1 + (1 + (1 + (1 + 1))))))) u56 (by kernel_rfl) (FieldsOf.cons rfl c4 rb (by simp) (FieldsOf.cons rfl c4 rb (by simp) (FieldsOf.cons rfl (by kernel_rfl) rp (by simp) (FieldsOf.cons rfl c4 rb (by simp) (FieldsOf.cons rfl (by kernel_rfl) rm (by simp)
    (FieldsOf.cons rfl c3 ri (by simp) (FieldsOf.cons rfl c3 ri (by simp) (FieldsOf.one rfl c3 ri))))))))
  obtain ⟨⟨s, hp, ⟨ps, pc⟩, hm, ⟨ms, mc⟩, r, i, y⟩, ⟨_, _, ⟨_, _, h1⟩, _, ⟨_, _, h2⟩, _⟩, rfl⟩ := this.agg ⟨_, u56⟩ h
  exact ⟨⟨s, hp, ps, some pc, hm, ms, some mc, r, i, y⟩, h1, h2, rfl⟩
end Go.Ev
