/-
  Indexing, fields, lengths, tuples, function values.
-/
import Derived.Test.YtilgfaangfbndaaDoorEvOps4
set_option linter.unusedSimpArgs false
set_option linter.unusedVariables false
namespace Go.Ev
open Go Go.RowKit
variable {R : Type} {P : Program}

theorem run_indexAt_slice {t e : TypeId} {i : TypeInfo} (hu : P.underlying t = some (.slice e)) (hi : P.info? e = some i) {w : World} {a : Addr} {n cap : Nat} {kd : IntKind} {j : Int} (h0 : 0 ≤ j) (h1 : j < n) :
    (Instr.indexAt t (.slice (some a) n cap) (.int kd j)).run P w = .ok (.pointer (some (a.add (j.toNat * i.size)))) w := by
  simp [Instr.indexAt, asIntOf, Sem.run_bind, run_underlying hu, sizeOf, typeInfo, hi, h0, h1]
theorem run_indexAt_array {t e : TypeId} {i : TypeInfo} {n : Nat} (hu : P.underlying t = some (.array n e)) (hi : P.info? e = some i) {w : World} {a : Addr} {kd : IntKind} {j : Int} (h0 : 0 ≤ j) (h1 : j < n) :
    (Instr.indexAt t (.pointer (some a)) (.int kd j)).run P w = .ok (.pointer (some (a.add (j.toNat * i.size)))) w := by
  simp [Instr.indexAt, Instr.sureAddr, asIntOf, Sem.run_bind, run_underlying hu, sizeOf, typeInfo, hi, h0, h1]

theorem indexAddr_sound {t : TypeId} {x i : AV} {k : AV → Option R} {r : R} (h : indexAddrK P t x i k = some r) :
    ∃ v, k v = some r ∧ ∀ {E w ok u j}, Rep E w ok u x → Rep E w ok j i → ∃ z, (Instr.indexAt t u j).run P w = .ok z w ∧ Rep E w ok z v := by
  unfold indexAddrK at h
  obtain ⟨p, hp, h1⟩ := Option.bind_eq_some_iff.1 h
  clear h
  have hi := asI_some hp
  subst hi
  cases hu : P.underlying t with
  | none => rw [hu] at h1; cases h1
  | some d =>
    rw [hu] at h1
    cases d <;> (try simp only at h1) <;> try (cases h1; done)
    case slice e =>
      obtain ⟨ei, hei, h2⟩ := Option.bind_eq_some_iff.1 h1
      clear h1
      cases x <;> (try simp only at h2) <;> try (cases h2; done)
      case d xd =>
        cases xd <;> (try simp only at h2) <;> try (cases h2; done)
        rename_i n cap cs
        split at h2
        · rename_i hb
          refine ⟨_, h2, fun {E w ok u j} hx hj => ?_⟩
          obtain ⟨rfl, _⟩ := hj.v_inv
          cases hx with
          | d hx =>
            cases hx with
            | nil _ => omega
            | list hok hn hcap h1' hcell hrep =>
              refine ⟨_, run_indexAt_slice hu hei hb.1 hb.2, ?_⟩
              rw [addr_add]
              exact .lp hok h1' hcell hrep
        · cases h2
      case sl id off n cap sz =>
        split at h2
        · rename_i hsz
          split at h2
          · rename_i hb
            refine ⟨_, h2, fun {E w ok u j} hx hj => ?_⟩
            obtain ⟨rfl, _⟩ := hj.v_inv
            cases hx with
            | slz => omega
            | sl hE hn hcap hfit hoff =>
              refine ⟨_, run_indexAt_slice hu hei hb.1 hb.2, ?_⟩
              rw [addr_add]
              rcases hoff with rfl | h0
              · exact .ptr hE
              · omega
          · cases h2
        · cases h2
    case array n e =>
      obtain ⟨ei, hei, h2⟩ := Option.bind_eq_some_iff.1 h1
      clear h1
      split at h2
      · cases x <;> (try simp only at h2) <;> try (cases h2; done)
        case ptr id off =>
          split at h2
          · rename_i hb
            refine ⟨_, h2, fun {E w ok u j} hx hj => ?_⟩
            obtain ⟨rfl, _⟩ := hj.v_inv
            cases hx with
            | ptr hE =>
              refine ⟨_, run_indexAt_array hu hei hb.1 hb.2, ?_⟩
              rw [addr_add]
              exact .ptr hE
          · cases h2
        case lp cs off =>
          split at h2
          · rename_i hb
            refine ⟨_, h2, fun {E w ok u j} hx hj => ?_⟩
            obtain ⟨rfl, _⟩ := hj.v_inv
            cases hx with
            | lp hok h1' hcell hrep =>
              refine ⟨_, run_indexAt_array hu hei hb.1 hb.2, ?_⟩
              rw [addr_add, Nat.add_assoc]
              exact .lp hok h1' hcell hrep
          · cases h2
      · cases h2

theorem fieldOf_some {s : TypeId} {f : Nat} {p : Nat × Nat} (h : fieldOf P s f = some p) : ∃ fs g i, P.underlying s = some (.struct fs) ∧ fs[f]? = some g ∧ P.info? g.type = some i ∧ i.size ≠ 0 ∧ p = (g.offset, i.size) := by
  unfold fieldOf at h
  split at h
  · rename_i fs hu
    obtain ⟨g, hg, h1⟩ := Option.bind_eq_some_iff.1 h
    obtain ⟨i, hi, h2⟩ := Option.bind_eq_some_iff.1 h1
    split at h2
    · cases h2
    · rename_i hz; cases h2; exact ⟨fs, g, i, hu, hg, hi, hz, rfl⟩
  · cases h

theorem run_fieldAt {s : TypeId} {f : Nat} {p : Nat × Nat} (h : fieldOf P s f = some p) {w : World} {a : Addr} : (Instr.fieldAt s (.pointer (some a)) f).run P w = .ok (.pointer (some (a.add p.1))) w := by
  obtain ⟨fs, g, i, hu, hg, hi, hz, rfl⟩ := fieldOf_some h
  simp [Instr.fieldAt, Instr.sureAddr, Sem.run_bind, run_underlying hu, hg, fieldPlace, sizeOf, typeInfo, hi, hz]

theorem part_sound {t : TypeId} {cs : List D} {off : Nat} {k : AV → Option R} {r : R} (h : partK P t cs off k = some r) :
    ∃ v, k v = some r ∧ ∀ {E w ok u}, RepD w ok u (.agg cs) → ∃ c, u = .agg c ∧ ∃ z, (part t c off).run P w = .ok z w ∧ Rep E w ok z v := by
  unfold partK at h
  obtain ⟨d, hu, h1⟩ := Option.bind_eq_some_iff.1 h
  obtain ⟨i, hi, h2⟩ := Option.bind_eq_some_iff.1 h1
  clear h h1
  split at h2
  · rename_i hrow
    split at h2
    · rename_i hfit
      refine ⟨_, h2, fun {E w ok u} hx => ?_⟩
      obtain ⟨l1, p1, o1, _⟩ := repD_agg_inv hx
      have e1 := cells_whole_agg hx
      refine ⟨u.cells.toList.toArray, e1, _, run_part (P := P) hu (by rw [hi]; rfl) (fun hr => by rw [hrow] at hr; cases hr) (by rw [← l1] at hfit; simpa using hfit) w, ?_⟩
      simp only [whole, hrow, if_true]
      refine .d (.agg (by simp only [List.toList_toArray, List.length_take, List.length_drop, l1]) (fun d hd => o1 d (List.mem_of_mem_drop (List.mem_of_mem_take hd))) (fun j x d hx hd => ?_))
      rw [List.getElem?_take] at hx hd
      split at hd
      · rename_i hj
        rw [if_pos hj, List.getElem?_drop] at hx
        rw [List.getElem?_drop] at hd
        obtain ⟨y, hy, hr⟩ := p1 _ d hd
        rw [hy] at hx; cases hx; exact hr
      · cases hd
    · cases h2
  · rename_i hrow
    obtain ⟨d', hd', hk, _⟩ := rdK_some h2
    refine ⟨_, hk, fun {E w ok u} hx => ?_⟩
    obtain ⟨l1, p1, o1, _⟩ := repD_agg_inv hx
    have e1 := cells_whole_agg hx
    obtain ⟨y, hy, hr⟩ := p1 _ _ hd'
    refine ⟨u.cells.toList.toArray, e1, y, ?_, .d hr⟩
    unfold part
    simp only [Sem.run_bind, run_isAgg hu, hrow, Result.andThen_ok, Bool.false_eq_true, if_false]
    have : u.cells.toList.toArray[off]? = some y := by rw [List.getElem?_toArray]; exact hy
    rw [this]; rfl

theorem index_sound {t : TypeId} {x i : AV} {k : AV → Option R} {r : R} (h : indexK P t x i k = some r) :
    ∃ v, k v = some r ∧ ∀ {E w ok u j}, Rep E w ok u x → Rep E w ok j i → ∃ z, (Instr.index t u j).run P w = .ok z w ∧ Rep E w ok z v := by
  unfold indexK at h
  obtain ⟨p, hp, h1⟩ := Option.bind_eq_some_iff.1 h
  clear h
  have hi := asI_some hp
  subst hi
  split at h1
  · rename_i n e cs hu
    obtain ⟨ei, hei, h2⟩ := Option.bind_eq_some_iff.1 h1
    clear h1
    split at h2
    · rename_i hb
      obtain ⟨v, hk, hs⟩ := part_sound h2
      refine ⟨v, hk, fun {E w ok u j} hx hj => ?_⟩
      obtain ⟨rfl, _⟩ := hj.v_inv
      cases hx with
      | d hx =>
        obtain ⟨c, rfl, z, hz, hr⟩ := hs (E := E) hx
        exact ⟨z, by simp [Instr.index, asIntOf, Sem.run_bind, run_underlying hu, hb.1, hb.2, sizeOf, typeInfo, hei, hz], hr⟩
    · cases h2
  · rename_i s hu
    split at h1
    · rename_i hb
      refine ⟨_, h1, fun {E w ok u j} hx hj => ?_⟩
      obtain ⟨rfl, _⟩ := hj.v_inv
      obtain ⟨rfl, _⟩ := hx.v_inv
      refine ⟨_, ?_, .ofV rfl⟩
      have hlt : p.2.toNat < s.size := by omega
      have : s[p.2.toNat]? = some (s.data.toList.getD p.2.toNat 0) := by
        rw [getElem?_pos s p.2.toNat hlt]
        have h2 : p.2.toNat < s.data.toList.length := by simpa using hlt
        rw [List.getD_eq_getElem?_getD, List.getElem?_eq_getElem h2]
        rfl
      simp [Instr.index, asIntOf, Sem.run_bind, run_underlying hu, hb.1, this]
    · cases h1
  · cases h1

theorem field_sound {t : TypeId} {x : AV} {f : Nat} {k : AV → Option R} {r : R} (h : fieldK P t x f k = some r) :
    ∃ v, k v = some r ∧ ∀ {E w ok u}, Rep E w ok u x → ∃ z, (Instr.field t u f).run P w = .ok z w ∧ Rep E w ok z v := by
  unfold fieldK at h
  split at h
  · rename_i fs cs hu
    obtain ⟨g, hg, h2⟩ := Option.bind_eq_some_iff.1 h
    obtain ⟨v, hk, hs⟩ := part_sound h2
    refine ⟨v, hk, fun {E w ok u} hx => ?_⟩
    cases hx with
    | d hx =>
      obtain ⟨c, rfl, z, hz, hr⟩ := hs (E := E) hx
      exact ⟨z, by simp [Instr.field, Sem.run_bind, run_underlying hu, hg, asAgg, hz], hr⟩
  · cases h

theorem len_sound {t : TypeId} {ty : TypeId} {x : AV} {k : AV → Option R} {r : R} (h : lenK P t x k = some r) :
    ∃ v, k v = some r ∧ ∀ {E w ok u}, Rep E w ok u x → ∃ z, (Builtin.len_ #[t] ty #[u]).run P w = .ok z w ∧ Rep E w ok z v := by
  unfold lenK at h
  split at h
  · rename_i hu
    split at h
    · refine ⟨_, h, fun {E w ok u} hx => ⟨_, ?_, .ofV rfl⟩⟩
      obtain ⟨rfl, _⟩ := hx.v_inv
      simp [Builtin.len_, Sem.run_bind, run_underlying hu, goInt]
    · cases h
  · rename_i e hu
    split at h
    · refine ⟨_, h, fun {E w ok u} hx => ⟨_, ?_, .ofV rfl⟩⟩
      cases hx with
      | d hx =>
        obtain ⟨a, cp, rfl, _⟩ := repD_cap hx
        simp [Builtin.len_, Sem.run_bind, run_underlying hu, goInt]
    · refine ⟨_, h, fun {E w ok u} hx => ⟨_, ?_, .ofV rfl⟩⟩
      obtain ⟨a, cp, rfl, _⟩ := rep_sl_inv hx
      simp [Builtin.len_, Sem.run_bind, run_underlying hu, goInt]
    · cases h
  · cases h

theorem cap_sound {t : TypeId} {ty : TypeId} {x : AV} {k : AV → Option R} {r : R} (h : capK P t x k = some r) :
    ∃ v, k v = some r ∧ ∀ {E w ok u}, Rep E w ok u x → ∃ z, (Builtin.cap_ #[t] ty #[u]).run P w = .ok z w ∧ Rep E w ok z v := by
  unfold capK at h
  split at h
  · rename_i e hu
    split at h
    · refine ⟨_, h, fun {E w ok u} hx => ⟨_, ?_, .ofV rfl⟩⟩
      cases hx with
      | d hx =>
        obtain ⟨a, cp, rfl, _, hc⟩ := repD_cap hx
        simp [Builtin.cap_, Sem.run_bind, run_underlying hu, goInt, hc _ rfl]
    · refine ⟨_, h, fun {E w ok u} hx => ⟨_, ?_, .ofV rfl⟩⟩
      obtain ⟨a, cp, rfl, _, hc⟩ := rep_sl_inv hx
      simp [Builtin.cap_, Sem.run_bind, run_underlying hu, goInt, hc _ rfl]
    · cases h
  · cases h

theorem minmax_sound {mn : Bool} {xs : List AV} {k : AV → Option R} {r : R} (h : minmaxK mn xs k = some r) :
    ∃ v, k v = some r ∧ ∀ {E w ok} {us : List Value} (at_ : Array TypeId) (ty : TypeId), us.length = xs.length → (∀ (i : Nat) u x, us[i]? = some u → xs[i]? = some x → Rep E w ok u x) →
      ∃ z, (if mn then Builtin.min_ at_ ty us.toArray else Builtin.max_ at_ ty us.toArray).run P w = .ok z w ∧ Rep E w ok z v := by
  unfold minmaxK at h
  split at h
  · rename_i k1 a k2 b g
    refine ⟨_, h, fun {E w ok us} at_ ty hl hr => ?_⟩
    match us, hl with
    | [u1, u2], _ =>
      obtain ⟨rfl, _⟩ := (hr 0 u1 _ rfl rfl).v_inv
      obtain ⟨rfl, _⟩ := (hr 1 u2 _ rfl rfl).v_inv
      refine ⟨_, ?_, .ofV rfl⟩
      cases mn <;> simp [Builtin.min_, Builtin.max_, Builtin.min2, Builtin.max2, mm]
  · rename_i k1 a k2 b k3 c g
    refine ⟨_, h, fun {E w ok us} at_ ty hl hr => ?_⟩
    match us, hl with
    | [u1, u2, u3], _ =>
      obtain ⟨rfl, _⟩ := (hr 0 u1 _ rfl rfl).v_inv
      obtain ⟨rfl, _⟩ := (hr 1 u2 _ rfl rfl).v_inv
      obtain ⟨rfl, _⟩ := (hr 2 u3 _ rfl rfl).v_inv
      refine ⟨_, ?_, .ofV rfl⟩
      cases mn <;> simp [Builtin.min_, Builtin.max_, Builtin.min2, Builtin.max2, mm]
  · cases h

end Go.Ev
