/-
  Operations that make a value out of values: each sound; the world stays.
-/
import Derived.Test.YtilgfaangfbndaaDoorEvOps2
import Derived.Lib.ConvBytes
import Derived.Laws.BytesArg
import Derived.Laws.BytesString
set_option linter.unusedSimpArgs false
set_option linter.unusedVariables false
namespace Go.Ev
open Go Go.RowKit
variable {R : Type} {P : Program}

theorem und_of_kinds {n : Nat} {t : TypeId} {ks : List Kd} (h : kinds P n t = some ks) : ∃ d, P.underlying t = some d := by
  cases n with
  | zero => simp [kinds] at h
  | succ n =>
    cases hu : P.underlying t with
    | none => simp [kinds, hu] at h
    | some d => exact ⟨d, rfl⟩

theorem cells_whole_agg {w : World} {ok : Nat → Prop} {u : Value} {xs : List D} (h : RepD w ok u (.agg xs)) : u = .agg u.cells.toList.toArray := by
  cases h; simp [Value.cells]

theorem bin_sound {op : BinOp} {t : TypeId} {x y : AV} {k : AV → Option R} {r : R} (h : binK P op t x y k = some r) :
    ∃ v, k v = some r ∧ ∀ {E w ok u u'} (xo yo : Operand), Rep E w ok u x → Rep E w ok u' y → ∃ z, (do eqGuard op t xo yo u u'; binOp op t u u' : Sem Value).run P w = .ok z w ∧ Rep E w ok z v := by
  unfold binK at h
  split at h
  · -- numbers
    rename_i ka a kb b
    have key : ∃ v, k (.d (.v v)) = some r ∧ leaf v = true ∧ ∀ w, (binOp op t (.int ka a) (.int kb b)).run P w = .ok v w := by
      split at h
      · obtain ⟨v, hk, hl, hr⟩ := shiftK_sound (P := P) (t := t) h
        exact ⟨v, hk, hl, fun w => hr kb w⟩
      · obtain ⟨v, hk, hl, hr⟩ := shiftK_sound (P := P) (t := t) h
        exact ⟨v, hk, hl, fun w => hr kb w⟩
      · split at h
        · rename_i h1 h2 hkk
          subst hkk
          obtain ⟨v, hk, hl, hr⟩ := intD_sound h (by intro e; exact h1 e) (by intro e; exact h2 e) (t := t) (P := P)
          exact ⟨v, hk, hl, hr⟩
        · cases h
    obtain ⟨v, hk, hl, hr⟩ := key
    refine ⟨_, hk, fun {E w ok u u'} xo yo hu hu' => ⟨v, ?_, .ofV hl⟩⟩
    obtain ⟨rfl, _⟩ := hu.v_inv
    obtain ⟨rfl, _⟩ := hu'.v_inv
    simp [Sem.run_bind, eqGuard_ints, hr]
  · rename_i a b
    obtain ⟨v, hk, hl, hr⟩ := strD_sound h (t := t) (P := P)
    refine ⟨_, hk, fun {E w ok u u'} xo yo hu hu' => ⟨v, ?_, .ofV hl⟩⟩
    obtain ⟨rfl, _⟩ := hu.v_inv
    obtain ⟨rfl, _⟩ := hu'.v_inv
    simp [Sem.run_bind, eqGuard_strs, hr]
  · rename_i a b
    split at h
    · rename_i hu0
      refine ⟨_, h, fun {E w ok u u'} xo yo hu hu' => ⟨.bool (a == b), ?_, .ofV rfl⟩⟩
      obtain ⟨rfl, _⟩ := hu.v_inv
      obtain ⟨rfl, _⟩ := hu'.v_inv
      have := run_equalIn_bool' w 9999 t a b hu0
      simp [Sem.run_bind, eqGuard_bools, binOp, Op.equal, Op.maxDepth, this]
    · rename_i hu0
      refine ⟨_, h, fun {E w ok u u'} xo yo hu hu' => ⟨.bool !(a == b), ?_, .ofV rfl⟩⟩
      obtain ⟨rfl, _⟩ := hu.v_inv
      obtain ⟨rfl, _⟩ := hu'.v_inv
      have := run_equalIn_bool' w 9999 t a b hu0
      simp [Sem.run_bind, eqGuard_bools, binOp, Op.equal, Op.maxDepth, this]
    · cases h
  · rename_i xs ys
    split at h
    · cases h
    rename_i hrow0
    split at h
    · cases h
    · rename_i hg
      obtain ⟨ks, hks, h⟩ := Option.bind_eq_some_iff.1 h
      have key : ∀ {b : Bool}, cellsEq ks xs ys = some b → ∀ {E w ok u u'}, Rep E w ok u (.d (.agg xs)) → Rep E w ok u' (.d (.agg ys)) → ∀ (op : BinOp) xo yo, (eqGuard op t xo yo u u').run P w = .ok () w ∧ (Op.equalIn 10000 t u u').run P w = .ok b w ∧ (∃ cx, u = .agg cx) ∧ ∃ cy, u' = .agg cy := by
        intro b hb E w ok u u' hu hu' op xo yo
        cases hu with
        | d hu =>
          cases hu' with
          | d hu' =>
            obtain ⟨l1, p1, _, _⟩ := repD_agg_inv hu
            obtain ⟨l2, p2, _, _⟩ := repD_agg_inv hu'
            have hv := valsEq_of_cells hb l1 l2 p1 p2
            obtain ⟨d, hd⟩ := und_of_kinds hks
            have e1 := cells_whole_agg hu
            have e2 := cells_whole_agg hu'
            have hrow : isRow d = true := by simpa [hd] using hrow0
            obtain ⟨_, he⟩ := equalIn_kinds 8 t ks hks 10000 (by omega) _ _ b hv d hd w
            simp only [whole, hrow, if_true] at he
            rw [← e1, ← e2] at he
            refine ⟨?_, he, ⟨_, e1⟩, ⟨_, e2⟩⟩
            rw [e1, e2]
            exact run_eqGuard_agg w op t xo yo _ _ (by simpa using hg)
      split at h
      · obtain ⟨b, hb, hk⟩ := Option.bind_eq_some_iff.1 h
        refine ⟨_, hk, fun {E w ok u u'} xo yo hu hu' => ⟨.bool b, ?_, .ofV rfl⟩⟩
        obtain ⟨g1, g2, ⟨cx, rfl⟩, ⟨cy, rfl⟩⟩ := key hb hu hu' .eql xo yo
        simp [Sem.run_bind, g1, run_eql_struct, g2]
      · obtain ⟨b, hb, hk⟩ := Option.bind_eq_some_iff.1 h
        refine ⟨_, hk, fun {E w ok u u'} xo yo hu hu' => ⟨.bool !b, ?_, .ofV rfl⟩⟩
        obtain ⟨g1, g2, ⟨cx, rfl⟩, ⟨cy, rfl⟩⟩ := key hb hu hu' .neq xo yo
        simp [Sem.run_bind, g1, run_neq_struct, g2]
      · cases h
  · cases h

theorem un_sound {op : UnOp} {x : AV} {k : AV → Option R} {r : R} (h : unK op x k = some r) :
    ∃ v, k v = some r ∧ ∀ {E w ok u}, Rep E w ok u x → ∃ z, (Op.unary op u).run P w = .ok z w ∧ Rep E w ok z v := by
  unfold unK at h
  split at h
  · refine ⟨_, h, fun hu => ⟨_, ?_, .ofV rfl⟩⟩
    obtain ⟨rfl, _⟩ := hu.v_inv
    simp [Op.unary, Op.intArith]
  · refine ⟨_, h, fun hu => ⟨_, ?_, .ofV rfl⟩⟩
    obtain ⟨rfl, _⟩ := hu.v_inv
    simp [Op.unary, Op.intBits]
  · refine ⟨_, h, fun hu => ⟨_, ?_, .ofV rfl⟩⟩
    obtain ⟨rfl, _⟩ := hu.v_inv
    simp [Op.unary]
  · cases h

/-! ### Conversions -/
theorem bytesOf_some : ∀ {cs : List D} {l : List UInt8}, bytesOf cs = some l → ∀ {w : World} {ok : Nat → Prop} {vs : List Value}, vs.length = cs.length → PW (RepD w ok) vs cs →
    (∃ ns : List Int, vs = ns.map (Value.int .u8) ∧ l = ns.map fun n => UInt8.ofNat n.toNat)
  | [], l, h, w, ok, vs, hl, _ => by simp [bytesOf] at h; simp at hl; exact ⟨[], by simp [hl], by simp [h]⟩
  | .v (.int .u8 n) :: r, l, h, w, ok, v :: vs, hl, hp => by
    simp only [bytesOf] at h
    obtain ⟨l', hl', h'⟩ := Option.bind_eq_some_iff.1 h
    cases h'
    obtain ⟨ns, e1, e2⟩ := bytesOf_some hl' (vs := vs) (by simpa using hl) (fun j a ha => by simpa using hp (j + 1) a (by simpa using ha))
    obtain ⟨x, hx, hr⟩ := hp 0 _ rfl
    simp at hx; subst hx
    obtain ⟨rfl, _⟩ := hr.v_inv
    exact ⟨n :: ns, by simp [e1], by simp [e2]⟩
  | _ :: _, _, _, _, _, [], hl, _ => by simp at hl


/-- New blocks that are nobody's own count among those that may be led to. -/
def okNew (ok : Nat → Prop) (w w' : World) : Nat → Prop := fun b => ok b ∨ (w.heap.size ≤ b ∧ b < w'.heap.size)

theorem Mem.grown {B0 : Nat} {w0 : World} {ok : Nat → Prop} {E : Env} {L : Heap} {w w' : World} (h : Mem B0 w0 ok E L w) (hb : Below w.heap.size w w') :
    Mem B0 w0 (okNew ok w w') E L w' ∧ Grow E w ok E w' (okNew ok w w') := by
  have g : Grow E w ok E w' (okNew ok w w') := ⟨fun _ _ h => h, fun b hb => .inl hb, fun b hk => hb.block b (h.okb b hk).1⟩
  refine ⟨⟨h.below.trans (hb.mono h.b0), fun b hk => ?_, h.inj, fun id b m he => ?_, Nat.le_trans h.b0 hb.size, h.wf⟩, g⟩
  · rcases hk with hk | ⟨h1, h2⟩
    · exact ⟨Nat.lt_of_lt_of_le (h.okb b hk).1 hb.size, (h.okb b hk).2⟩
    · exact ⟨h2, fun id m he => by have := h.lt he; omega⟩
  · obtain ⟨h0, c, e, B, hbb, hs, h1, hB, hc⟩ := h.loc id b m he
    exact ⟨h0, c, e, B, (hb.block b (h.lt he)).trans hbb, hs, h1, hB, hc.grow g⟩

theorem strOfNums_eq (ns : List Int) : strOfNums ns = ⟨(ns.map fun n => UInt8.ofNat n.toNat).toArray⟩ := rfl

theorem getD_int {ns : List Int} {i : Nat} {v : Value} (h : (ns.map (Value.int .u8))[i]? = some v) : v = .int .u8 (ns.getD i 0) := by
  rw [List.getElem?_map] at h
  cases hn : ns[i]? with
  | none => rw [hn] at h; cases h
  | some n => rw [hn] at h; cases h; simp [List.getD, hn]

theorem run_convert_bytes_none (w : World) (src e : TypeId) (hs : P.underlying src = some (.slice e)) (he : P.underlying e = some (.int .u8)) (a : Option Addr) :
    ∀ dst, P.underlying dst = some .string → (convert src dst (.slice a 0 0)).run P w = .ok (.string ByteArray.empty) w := by
  intro dst hd
  rw [run_convert_bytes_string w src dst e _ 0 0 hs he hd]
  cases a with
  | none => simp [Conv.bytesToString]
  | some a => simp [Conv.bytesToString, loadCells, loadCellsFrom]

/-- A conversion; a string's bytes come to lie in a block of nobody's. -/
theorem conv_sound {src dst : TypeId} {x : AV} {L : Heap} {k : AV → Heap → Option R} {r : R} (h : convK P src dst x L k = some r) :
    ∃ v, k v L = some r ∧ ∀ {B0 w0 ok E w u}, Mem B0 w0 ok E L w → Rep E w ok u x → ∃ z w' ok', (convert src dst u).run P w = .ok z w' ∧ Below w.heap.size w w' ∧ Mem B0 w0 ok' E L w' ∧ Grow E w ok E w' ok' ∧ (∀ b, ok' b → ok b ∨ B0 ≤ b) ∧ Rep E w' ok' z v := by
  unfold convK at h
  split at h
  · rename_i k0 kd hs hd
    split at h
    · rename_i k1 n
      refine ⟨_, h, fun {B0 w0 ok E w u} hM hu => ⟨_, w, ok, ?_, Below.refl _ _, hM, Grow.refl _ _ _, fun _ h => .inl h, .ofV rfl⟩⟩
      obtain ⟨rfl, _⟩ := hu.v_inv
      simp [convert, run_underlying hs, run_underlying hd, Conv.intToInt]
    · cases h
  · rename_i hs hd
    split at h
    · rename_i s
      refine ⟨_, h, fun {B0 w0 ok E w u} hM hu => ⟨_, w, ok, ?_, Below.refl _ _, hM, Grow.refl _ _ _, fun _ h => .inl h, .ofV rfl⟩⟩
      obtain ⟨rfl, _⟩ := hu.v_inv
      simp [convert, run_underlying hs, run_underlying hd]
    · cases h
  · rename_i e hs hd
    split at h
    · rename_i he
      split at h
      · rename_i n cap cs
        split at h
        · rename_i hn
          obtain ⟨l, hl, hk⟩ := Option.bind_eq_some_iff.1 h
          refine ⟨_, hk, fun {B0 w0 ok E w u} hM hu => ?_⟩
          cases hu with
          | d hu =>
            cases hu with
            | nil hc =>
              have : l = [] := by simpa [bytesOf] using hl.symm
              subst this
              refine ⟨_, w, ok, run_convert_bytes_none w src e hs he _ dst hd, Below.refl _ _, hM, Grow.refl _ _ _, fun _ h => .inl h, ?_⟩
              exact Rep.ofV rfl
            | list hb hn' hcap h1 hcell hrep =>
              rename_i b off cp f
              have hpw : PW (RepD w ok) ((List.range cs.length).map f) cs := fun j d hd => by
                have hj := (List.getElem?_eq_some_iff.1 hd).1
                exact ⟨f j, by simp [hj], hrep j d hd⟩
              obtain ⟨ns, e1, rfl⟩ := bytesOf_some hl (by simp) hpw
              have hlen : ns.length = n := by have := congrArg List.length e1; simp at this; omega
              refine ⟨_, w, ok, run_convert_bytes_arg w src e hs he b off n cp ns hlen (fun i hi => ?_) dst hd, Below.refl _ _, hM, Grow.refl _ _ _, fun _ h => .inl h, by rw [strOfNums_eq]; exact .ofV rfl⟩
              rw [hcell i (by omega)]
              have : (ns.map (Value.int .u8))[i]? = some (f i) := by rw [← e1]; simp [show i < cs.length by omega]
              rw [getD_int this]
        · cases h
      · rename_i id off n cap sz
        split at h
        · rename_i m cs hB
          split at h
          · rename_i hsz
            obtain ⟨xs, hk0, hx⟩ := cut_some h
            obtain ⟨l, hl, hk⟩ := Option.bind_eq_some_iff.1 hk0
            refine ⟨_, hk, fun {B0 w0 ok E w u} hM hu => ?_⟩
            cases hu with
            | slz hc0 =>
              obtain ⟨_, rfl⟩ := hx (hM.wf _ _ hB)
              have : l = [] := by simpa [bytesOf] using hl.symm
              subst this
              exact ⟨_, w, ok, run_convert_bytes_none w src e hs he _ dst hd, Below.refl _ _, hM, Grow.refl _ _ _, fun _ h => .inl h, Rep.ofV rfl⟩
            | sl hE hn' hcap hm hoff =>
              rename_i off' cp b m'
              obtain ⟨_, c, e', B, hb, hs', h1, hB', hc⟩ := hM.loc _ _ _ hE
              rw [hB] at hB'; cases hB'
              obtain ⟨hlen, hle, ho, hcc⟩ := hc
              obtain ⟨hfit, rfl⟩ := hx hlen
              have hle' : m ≤ c.size := by simpa using hle
              have hpw : PW (RepD w ok) ((c.toList.drop off).take n) ((cs.drop off).take n) := fun j d hd => by
                rw [List.getElem?_take] at hd
                split at hd
                · rename_i hj
                  rw [List.getElem?_drop] at hd
                  obtain ⟨x, hx, hr⟩ := hcc _ d hd
                  exact ⟨x, by rw [List.getElem?_take, if_pos hj, List.getElem?_drop]; exact hx, hr⟩
                · cases hd
              obtain ⟨ns, e1, rfl⟩ := bytesOf_some hl (by simp; omega) hpw
              have hlen' : ns.length = n := by have := congrArg List.length e1; simp at this; omega
              refine ⟨_, w, ok, run_convert_bytes_arg w src e hs he b off' n cp ns hlen' (fun i hi => ?_) dst hd, Below.refl _ _, hM, Grow.refl _ _ _, fun _ h => .inl h, by rw [strOfNums_eq]; exact .ofV rfl⟩
              have hoff' : off' = off := by
                rcases hoff with h | h
                · exact h
                · omega
              rw [hoff', cell_of_row w b (off + i) c e' _ hb]
              have : (ns.map (Value.int .u8))[i]? = c.toList[off + i]? := by rw [← e1, List.getElem?_take, if_pos hi, List.getElem?_drop]
              have h2 : c.toList[off + i]? = c[off + i]? := by simp
              rw [← h2, ← this]
              have hlt : i < (ns.map (Value.int .u8)).length := by simp; omega
              rw [List.getElem?_eq_getElem hlt]
              rw [getD_int (List.getElem?_eq_getElem hlt)]
          · cases h
        · cases h
      · cases h
    · cases h
  · rename_i e hs hd
    split at h
    · rename_i he
      split at h
      · rename_i s
        refine ⟨_, h, fun {B0 w0 ok E w u} hM hu => ?_⟩
        obtain ⟨rfl, _⟩ := hu.v_inv
        have hbel : Below w.heap.size w (Lib.bytesWorld w e s) := ⟨rfl, rfl, rfl, by rw [Lib.bytesWorld_size]; omega, fun j hj => Lib.bytesWorld_at_old w e s j hj⟩
        obtain ⟨hM', g⟩ := hM.grown hbel
        refine ⟨_, _, _, Lib.run_convert_string_bytes w src dst e s hs hd he, hbel, hM', g, fun q hq => hq.imp id fun h => Nat.le_trans hM.b0 h.1, .d (.list (f := fun j => .int .u8 (s.data.toList.getD j 0).toNat) (.inr ⟨Nat.le_refl _, by rw [Lib.bytesWorld_size]; omega⟩) (grownCap_ge _ _ _ _) (fun c hc => by cases hc) ?_ (fun j hj => ?_) (fun j d hd => ?_))⟩
        · intro d hd; obtain ⟨x, _, rfl⟩ := List.mem_map.1 hd; rfl
        · simp at hj
          rw [Nat.zero_add]
          exact Lib.bytesWorld_cell w e s j hj
        · rw [List.getElem?_map] at hd
          cases hx : s.data.toList[j]? with
          | none => rw [hx] at hd; cases hd
          | some x => rw [hx] at hd; cases hd; simp [List.getD, hx]; exact .v rfl
      · cases h
    · cases h
  · cases h

end Go.Ev
