/-
  The evaluator: EzOps EzOps2 EzOps3 EzOps4 EzOps5 EzOps6 EzOps7 EzOps8.
-/
import Derived.Test.YthakkigkdhaihaaGreatDoorEzXA
import Derived.Deep.MidRow
import Derived.Laws.StructEq
import Derived.ChangeKeysEq
import Derived.Lib.SliceRun
import Derived.Laws.Cover3
import Derived.Lib.ConvBytes
import Derived.Laws.BytesArg
import Derived.Laws.BytesString
import Derived.Lib.Builder
import Derived.Laws.Append
import Derived.Laws.MakeOwn
import Derived.Laws.AppendOwn
/-
 Each operation that only makes a value is sound: what it comes to in the abstract,the machine's operation comes to.
-/
namespace Go.Ev
open Go Go.RowKit
variable {R : Type} {P : Program}
theorem Znl {α : Type} {n off size : Nat} {cs : List α} {k : List α → Option R} {r : R} (h : cut n cs off size k = some r) :
  ∃ xs,k xs = some r ∧ (cs.length = n → off + size ≤ n ∧ xs = (cs.drop off).take size) := by
 unfold cut at h
 split at h
 ·rename_i hc
  refine ⟨_,h,fun hl => ⟨hc,?_⟩⟩
  unfold cutL
  split
  ·rename_i h0; rw [h0.1,List.drop_zero,List.take_of_length_le (by omega)]
  ·rfl
 ·cases h
theorem Z13l {α : Type} {n off size : Nat} {cs xs : List α} {k : List α → Option R} {r : R} (h : put n cs off size xs k = some r) :
  ∃ ys,k ys = some r ∧ (cs.length = n → xs.length = size → off + size ≤ n ∧ ys = cs.take off ++ (xs ++ cs.drop (off + size))) := by
 unfold put at h
 split at h
 ·rename_i hc
  refine ⟨_,h,fun hl hx => ⟨hc,?_⟩⟩
  unfold putL
  split
  ·rename_i h0; rw [h0.1,List.take_zero,List.nil_append,List.drop_of_length_le (by omega),List.append_nil]
  ·rfl
 ·cases h
theorem Z150 {t : TypeDesc} {x : Option D} {k : AV → Option R} {r : R} (h : rdK t x k = some r) : ∃ d,x = some d ∧ k (.d d) = some r ∧ isRow t = false := by
 unfold rdK at h
 split at h
 ·obtain ⟨i,hi,h'⟩ := Option.bind_eq_some_iff.1 h; clear h; have h := h'; clear h'
  unfold rdI at hi; split at hi
  ·split at hi
   ·rename_i he; cases hi; subst he; exact ⟨_,rfl,h,rfl⟩
   ·cases hi
  ·cases hi
 ·obtain ⟨i,hi,h'⟩ := Option.bind_eq_some_iff.1 h; clear h; have h := h'; clear h'
  unfold rdB at hi; split at hi
  ·cases hi; exact ⟨_,rfl,h,rfl⟩
  ·cases hi
 ·obtain ⟨i,hi,h'⟩ := Option.bind_eq_some_iff.1 h; clear h; have h := h'; clear h'
  unfold rdS at hi; split at hi
  ·cases hi; exact ⟨_,rfl,h,rfl⟩
  ·cases hi
 ·obtain ⟨i,hi,h'⟩ := Option.bind_eq_some_iff.1 h; clear h; have h := h'; clear h'
  unfold rdL at hi; split at hi
  ·cases hi; exact ⟨_,rfl,h,rfl⟩
  ·cases hi
 ·obtain ⟨i,hi,h'⟩ := Option.bind_eq_some_iff.1 h; clear h; have h := h'; clear h'
  unfold rdF at hi; split at hi
  ·cases hi; exact ⟨_,rfl,h,rfl⟩
  ·cases hi; exact ⟨_,rfl,h,rfl⟩
  ·cases hi
 ·cases h
theorem Z151 {t : TypeId} {d : TypeDesc} (hu : P.underlying t = some d) (w : World) : (isAgg t).run P w = .ok (isRow d) w := by
 unfold isAgg
 rw [Sem.run_bind,run_underlying hu w]
 cases d <;> simp [isRow]
theorem Z1em (d : TypeDesc) : d.isRow = isRow d := by cases d <;> rfl
theorem allD_some : ∀ {cs : List AV} {ds : List D},allD cs = some ds → cs = ds.map .d
 | [],ds,h => by simp [allD] at h; simp [← h]
 | .d x :: r,ds,h => by
  simp only [allD] at h
  obtain ⟨e,he,h⟩ := Option.bind_eq_some_iff.1 h
  cases h
  simp [allD_some he]
 | .agg _ :: _,_,h | .tup _ :: _,_,h | .ptr _ _ :: _,_,h | .sl _ _ _ _ _ :: _,_,h | .lp _ _ :: _,_,h | .clo _ _ :: _,_,h | .bnd _ _ :: _,_,h | .junk :: _,_,h => by simp [allD] at h
section
variable {w : World} {ok : Nat → Prop} {E : Env}
theorem Z1fm {vs : List Value} {cs : List AV} (hl : vs.length = cs.length) (h1 : ∀ c,c ∈ cs → c.one = true) (hr : ∀ (i : Nat) x c,vs[i]? = some x → cs[i]? = some c → Rep E w ok x c) :
  Rep E w ok (.agg vs.toArray) (mkAgg cs) := by
 unfold mkAgg
 cases hd : allD cs with
 | none => exact .agg hl h1 hr
 | some ds =>
  have := allD_some hd
  subst this
  refine .d (.agg (by simpa using hl) (fun d hd => by simpa [AV.one] using h1 (.d d) (List.mem_map_of_mem hd)) (fun i x d hx hd => ?_))
  have := hr i x (.d d) hx (by simp [hd])
  cases this; assumption
theorem Z18x {b o : Nat} {c : Array Value} {e : TypeId} {fr : Nat × Nat} (hb : w.heap[b]? = some (.cells c e fr)) (n : Nat) : w.rangeAt b o ((c.toList.drop o).take n) := by
 intro j v hv
 rw [cell_of_row w b (o + j) c e fr hb]
 rw [List.getElem?_take] at hv
 split at hv
 ·rw [List.getElem?_drop] at hv; simpa using hv
 ·cases hv
end
theorem Z172 {t : TypeId} {x : AV} {L : Heap} {k : AV → Heap → Option R} {r : R} (h0 : loadK P t x L k = some r) :
  ∃ v,k v L = some r ∧ ∀ {B0 w0 ok E w u},Mem B0 w0 ok E L w → Rep E w ok u x → ∃ y,(Instr.loadAt t u).run P w = .ok y w ∧ Rep E w ok y v := by
 unfold loadK at h0
 obtain ⟨d,hu,h1⟩ := Option.bind_eq_some_iff.1 h0
 obtain ⟨i,hi,h⟩ := Option.bind_eq_some_iff.1 h1
 clear h0 h1
 have plain : ∀ {w : World} {b off : Nat} {z : Value},isRow d = false → w.cell? ⟨b,off,none⟩ = some z → (Instr.loadAt t (.pointer (some ⟨b,off,none⟩))).run P w = .ok z w := by
  intro w b off z hrow hcell
  simp [Instr.loadAt,Instr.sureAddr,loadVar,Sem.run_bind,Z151 hu,hrow,load,Sem.run,hcell]
 cases x with
 | ptr id off =>
  simp only at h
  cases hB : L[id]? with
  | none => rw [hB] at h; cases h
  | some B =>
   rw [hB] at h
   cases B with
   | dead => cases h
   | iter => cases h
   | map => cases h
   | loop => cases h
   | d n cs =>
    simp only at h
    cases hrow : isRow d with
    | true =>
     rw [hrow,if_pos rfl] at h
     obtain ⟨xs,hk,hx⟩ := Znl h
     refine ⟨_,hk,fun {B0 w0 ok E w u} hM hu' => ?_⟩
     cases hu' with
     | ptr he =>
      rename_i b m
      obtain ⟨_,c,e,B,hb,hs,h1,hB',hc⟩ := hM.loc _ _ _ he
      rw [hB] at hB'; cases hB'
      obtain ⟨hn,hm,ho,hc⟩ := hc
      obtain ⟨hle,rfl⟩ := hx hn
      have hlen : ((c.toList.drop off).take i.size).length = i.size := by simp at hm ⊢; omega
      refine ⟨_,run_loadAt_mid w b off t _ d (Z18x hb i.size) hu (by rw [Z1em]; exact hrow) (by rw [hi,hlen]; rfl),.d (.agg (by rw [hlen]; simp; omega) (fun d hd => ho d ?_) (fun j y d hy hd => ?_))⟩
      ·exact List.mem_of_mem_drop (List.mem_of_mem_take hd)
      ·rw [List.getElem?_take] at hy hd
       split at hy
       ·rename_i hj
        rw [if_pos hj,List.getElem?_drop] at hd
        rw [List.getElem?_drop] at hy
        obtain ⟨z,hz,hr⟩ := hc _ _ hd
        rw [hy] at hz; cases hz; exact hr
       ·cases hy
    | false =>
     rw [hrow] at h; simp only [Bool.false_eq_true,if_false] at h
     obtain ⟨d',hd',hk,_⟩ := Z150 h
     refine ⟨_,hk,fun {B0 w0 ok E w u} hM hu' => ?_⟩
     cases hu' with
     | ptr he =>
      rename_i b m
      obtain ⟨_,c,e,B,hb,hs,h1,hB',hc⟩ := hM.loc _ _ _ he
      rw [hB] at hB'; cases hB'
      obtain ⟨hn,hm,ho,hc⟩ := hc
      obtain ⟨z,hz,hr⟩ := hc _ _ hd'
      exact ⟨z,plain hrow (by rw [cell_of_row w b off c e _ hb]; simpa using hz),.d hr⟩
   | a n cs =>
    simp only at h
    cases hrow : isRow d with
    | true =>
     rw [hrow,if_pos rfl] at h
     obtain ⟨xs,hk,hx⟩ := Znl h
     split at hk
     ·rename_i h1''
      have h1' : ∀ c,c ∈ xs → c.one = true := fun c hc => List.all_eq_true.1 h1'' c hc
      refine ⟨_,hk,fun {B0 w0 ok E w u} hM hu' => ?_⟩
      cases hu' with
      | ptr he =>
       rename_i b m
       obtain ⟨_,c,e,B,hb,hs,h1,hB',hc⟩ := hM.loc _ _ _ he
       rw [hB] at hB'; cases hB'
       obtain ⟨hn,hm,hc⟩ := hc
       obtain ⟨hle,rfl⟩ := hx hn
       have hlen : ((c.toList.drop off).take i.size).length = i.size := by simp at hm ⊢; omega
       refine ⟨_,run_loadAt_mid w b off t _ d (Z18x hb i.size) hu (by rw [Z1em]; exact hrow) (by rw [hi,hlen]; rfl),Z1fm (by rw [hlen]; simp; omega) h1' (fun j y d hy hd => ?_)⟩
       rw [List.getElem?_take] at hy hd
       split at hy
       ·rename_i hj
        rw [if_pos hj,List.getElem?_drop] at hd
        rw [List.getElem?_drop] at hy
        obtain ⟨z,hz,hr⟩ := hc _ _ hd
        rw [hy] at hz; cases hz; exact hr
       ·cases hy
     ·cases hk
    | false =>
     rw [hrow] at h; simp only [Bool.false_eq_true,if_false] at h
     cases hcs : cs[off]? with
     | none => rw [hcs] at h; cases h
     | some a =>
      have key : ∃ v,k v L = some r ∧ v = a := by
       rw [hcs] at h
       cases a with
       | d x =>
        simp only at h
        obtain ⟨d',hd',hk,_⟩ := Z150 h
        cases hd'
        exact ⟨_,hk,rfl⟩
       | _ => exact ⟨_,h,rfl⟩
      obtain ⟨v,hk,rfl⟩ := key
      refine ⟨_,hk,fun {B0 w0 ok E w u} hM hu' => ?_⟩
      cases hu' with
      | ptr he =>
       rename_i b m
       obtain ⟨_,c,e,B,hb,hs,h1,hB',hc⟩ := hM.loc _ _ _ he
       rw [hB] at hB'; cases hB'
       obtain ⟨hn,hm,hc⟩ := hc
       obtain ⟨z,hz,hr⟩ := hc _ _ hcs
       exact ⟨z,plain hrow (by rw [cell_of_row w b off c e _ hb]; simpa using hz),hr⟩
   | td => cases h
   | t ty n cs =>
    simp only at h
    cases hrow : isRow d with
    | true => rw [hrow,if_pos rfl] at h; cases h
    | false =>
     rw [hrow] at h; simp only [Bool.false_eq_true,if_false] at h
     cases hcs : cs[off]? with
     | none => rw [hcs] at h; cases h
     | some a =>
      have key : ∃ v,k v L = some r ∧ v = a := by
       rw [hcs] at h
       cases a with
       | d x =>
        simp only at h
        cases hp : isPtr d with
        | true =>
         rw [hp] at h
         simp only [cond_true] at h
         split at h
         ·exact ⟨_,h,rfl⟩
         ·cases h
        | false =>
         rw [hp] at h
         simp only [cond_false] at h
         obtain ⟨d',hd',hk,_⟩ := Z150 h
         cases hd'
         exact ⟨_,hk,rfl⟩
       | _ => exact ⟨_,h,rfl⟩
      obtain ⟨v,hk,rfl⟩ := key
      refine ⟨_,hk,fun {B0 w0 ok E w u} hM hu' => ?_⟩
      cases hu' with
      | ptr he =>
       rename_i b m
       obtain ⟨_,c,e,B,hb,hs,h1,hB',hc⟩ := hM.loc _ _ _ he
       rw [hB] at hB'; cases hB'
       obtain ⟨_,hn,hm,hc⟩ := hc
       obtain ⟨z,hz,hr⟩ := hc _ _ hcs
       exact ⟨z,plain hrow (by rw [cell_of_row w b off c e _ hb]; simpa using hz),hr⟩
 | lp cs off =>
  simp only at h
  cases hrow : isRow d with
  | true =>
   rw [hrow,if_pos rfl] at h
   split at h
   ·rename_i hle
    refine ⟨_,h,fun {B0 w0 ok E w u} hM hu' => ?_⟩
    cases hu' with
    | lp hb h1 hcell hrep =>
     rename_i b base f
     have hlen : ((List.range i.size).map fun j => f (off + j)).length = i.size := by simp
     have hlen2 : ((cs.drop off).take i.size).length = i.size := by simp; omega
     refine ⟨_,run_loadAt_mid w b (base + off) t ((List.range i.size).map fun j => f (off + j)) d (fun j v hv => ?_) hu (by rw [Z1em]; exact hrow) (by rw [hi,hlen]; rfl),.d (.agg (by rw [hlen,hlen2]) (fun d hd => h1 d (List.mem_of_mem_drop (List.mem_of_mem_take hd))) (fun j y d hy hd => ?_))⟩
     ·rw [List.getElem?_map] at hv
      cases hr : (List.range i.size)[j]? with
      | none => rw [hr] at hv; cases hv
      | some q =>
       rw [hr] at hv; cases hv
       obtain ⟨hq,rfl⟩ := List.getElem?_eq_some_iff.1 hr
       simp at hq ⊢
       rw [Nat.add_assoc]; exact hcell (off + j) (by omega)
     ·rw [List.getElem?_map] at hy
      cases hr : (List.range i.size)[j]? with
      | none => rw [hr] at hy; cases hy
      | some q =>
       rw [hr] at hy; cases hy
       obtain ⟨hq,rfl⟩ := List.getElem?_eq_some_iff.1 hr
       simp at hq ⊢
       rw [List.getElem?_take,if_pos hq,List.getElem?_drop] at hd
       exact hrep _ _ hd
   ·cases h
  | false =>
   rw [hrow] at h; simp only [Bool.false_eq_true,if_false] at h
   obtain ⟨d',hd',hk,_⟩ := Z150 h
   refine ⟨_,hk,fun {B0 w0 ok E w u} hM hu' => ?_⟩
   cases hu' with
   | lp hb h1 hcell hrep =>
    rename_i b base f
    have hlt := (List.getElem?_eq_some_iff.1 hd').1
    exact ⟨f off,plain hrow (hcell off hlt),.d (hrep off _ hd')⟩
 | _ => cases h
def PW {α : Type} (ρ : Value → α → Prop) (c : List Value) (cs : List α) : Prop := ∀ (j : Nat) a,cs[j]? = some a → ∃ x,c[j]? = some x ∧ ρ x a
theorem PW.splice {α : Type} {ρ : Value → α → Prop} {c xs : List Value} {cs ys : List α} {off : Nat} (h : PW ρ c cs) (hx : PW ρ xs ys) (hl : xs.length = ys.length) (ho : off + ys.length ≤ cs.length) (hc : cs.length ≤ c.length) :
  PW ρ (c.take off ++ xs ++ c.drop (off + xs.length)) (cs.take off ++ (ys ++ cs.drop (off + ys.length))) := by
 intro j a ha
 rw [List.append_assoc]
 by_cases h1 : j < off
 ·rw [List.getElem?_append_left (by simp; omega),List.getElem?_take,if_pos h1] at ha ⊢
  exact h j a ha
 ·rw [List.getElem?_append_right (by simp; omega)] at ha ⊢
  simp only [List.length_take] at ha ⊢
  rw [show min off cs.length = off by omega] at ha
  rw [show min off c.length = off by omega]
  by_cases h2 : j - off < ys.length
  ·rw [List.getElem?_append_left (by omega)] at ha ⊢
   exact hx _ a ha
  ·rw [List.getElem?_append_right (by omega)] at ha ⊢
   rw [List.getElem?_drop] at ha ⊢
   rw [hl]
   exact h _ a ha
theorem Zxv {α : Type} {cs ys : List α} {off : Nat} (ho : off + ys.length ≤ cs.length) : (cs.take off ++ (ys ++ cs.drop (off + ys.length))).length = cs.length := by
 simp; omega
theorem Zr4 {α : Type} (cs : List α) (off : Nat) (y : α) (h : off < cs.length) : cs.set off y = cs.take off ++ ([y] ++ cs.drop (off + [y].length)) := by
 rw [List.set_eq_take_append_cons_drop,if_pos h]; rfl
theorem Z173 {α : Type} {p : α → Prop} {cs ys : List α} {off m : Nat} (h : ∀ d,d ∈ cs → p d) (hy : ∀ d,d ∈ ys → p d) : ∀ d,d ∈ cs.take off ++ (ys ++ cs.drop m) → p d := by
 intro d hd
 rcases List.mem_append.1 hd with hd | hd
 ·exact h d (List.mem_of_mem_take hd)
 ·rcases List.mem_append.1 hd with hd | hd
  ·exact hy d hd
  ·exact h d (List.mem_of_mem_drop hd)
theorem Mem.set {B0 : Nat} {w0 : World} {ok : Nat → Prop} {E : Env} {L : Heap} {w : World} (h : Mem B0 w0 ok E L w) {id b m : Nat} (he : E id = some (b,m))
  {c : Array Value} {e : TypeId} (hb : w.heap[b]? = some (.cells c e (0,0))) {c' : Array Value} (hs : c'.size = m) (h1 : ∀ x,x ∈ c'.toList → x.oneCell' = true) {B : Blk} (hB : CellsRep E w ok e c'.toList B) :
  Mem B0 w0 ok E (L.set id B) (w.setRow b c') ∧ Grow E w ok E (w.setRow b c') ok := by
 have hid := h.idlt he
 have g : Grow E w ok E (w.setRow b c') ok := ⟨fun _ _ h => h,fun _ h => h,fun q hq => setRow_other w b q c' (fun e => by subst e; exact (h.okb _ hq).2 _ _ he),fun _ _ h => h,.of fun q o hq hk => setRow_other w b q c' (fun e => by subst e; rw [hb] at hq; cases hq; cases hk)⟩
 refine ⟨⟨?_,fun q hq => by simpa using h.okb q hq,h.inj,fun i q m' hi => ?_,by simpa using h.b0,h.wf.set hB id,h.gl.grow g,fun i l hy => ?_,h.yinj,h.yok⟩,g⟩
 ·refine h.below.trans ⟨rfl,rfl,rfl,by simp,fun q hq => setRow_other w b q c' (fun e => ?_)⟩
  have := (h.loc _ _ _ he).1; omega
 ·by_cases hii : i = id
  ·subst hii
   rw [he] at hi; cases hi
   exact ⟨(h.loc _ _ _ he).1,c',e,B,setRow_heap w _ c c' e _ hb,hs,h1,by simp [hid],hB.grow g⟩
  ·obtain ⟨h0,c2,e2,B2,hb2,hs2,h12,hB2,hc2⟩ := h.loc i q m' hi
   have hq : q ≠ b := fun e => hii (h.inj i id q m' m hi (by rw [e]; exact he))
   exact ⟨h0,c2,e2,B2,(setRow_other w b q c' hq).trans hb2,hs2,h12,by rw [List.getElem?_set_ne (Ne.symm hii)]; exact hB2,hc2.grow g⟩
 ·obtain ⟨h0,o,B',hl,hB',ho⟩ := h.obj i l hy
  exact ⟨h0,o,B',(setRow_other w b l c' (h.yne he hy)).trans hl,by rw [List.getElem?_set_ne (Ne.symm (h.yidne he hy))]; exact hB',ho.grow g⟩
theorem Z1ay {w : World} {b off : Nat} {t : TypeId} {i : TypeInfo} (hi : P.info? t = some i) {c : Array Value} {e : TypeId} (hb : w.heap[b]? = some (.cells c e (0,0))) {x : Value} (hs : x.cells.size = i.size) (hfit : off + x.cells.size ≤ c.size)
  (h1 : ∀ v ∈ x.cells.toList,v.oneCell' = true) :
  (Instr.storeAt t (.pointer (some ⟨b,off,none⟩)) x).run P w = .ok () (w.setRow b (c.toList.take off ++ x.cells.toList ++ c.toList.drop (off + x.cells.toList.length)).toArray) := by
 have := run_storeCells_at (P := P) b off e x.cells.toList 0 c w hb (by simpa using hfit) h1
 simp only [Nat.add_zero] at this
 simp [Instr.storeAt,Instr.sureAddr,storeVar,Sem.run_bind,sizeOf,typeInfo,hi,hs,this]
theorem Mem.splice {B0 : Nat} {w0 : World} {ok : Nat → Prop} {E : Env} {L : Heap} {w : World} (h : Mem B0 w0 ok E L w) {id b m : Nat} (he : E id = some (b,m))
  {c : Array Value} {e : TypeId} (hb : w.heap[b]? = some (.cells c e (0,0))) (hs : c.size = m) (h1 : ∀ x,x ∈ c.toList → x.oneCell' = true)
  {off : Nat} {xs : List Value} (hx1 : ∀ x,x ∈ xs → x.oneCell' = true) (hfit : off + xs.length ≤ c.size) {B : Blk}
  (hB : CellsRep E w ok e (c.toList.take off ++ xs ++ c.toList.drop (off + xs.length)) B) :
  Mem B0 w0 ok E (L.set id B) (w.setRow b (c.toList.take off ++ xs ++ c.toList.drop (off + xs.length)).toArray) ∧ Grow E w ok E (w.setRow b (c.toList.take off ++ xs ++ c.toList.drop (off + xs.length)).toArray) ok := by
 refine h.set he hb (c' := (c.toList.take off ++ xs ++ c.toList.drop (off + xs.length)).toArray) (by simp; omega) (fun x hx => ?_) (by simpa using hB)
 simp only [List.append_assoc] at hx
 exact Z173 (p := fun x => x.oneCell' = true) h1 hx1 x hx
theorem Z3z {w : World} {ok : Nat → Prop} {x : Value} {ys : List D} (h : RepD w ok x (.agg ys)) :
  x.cells.toList.length = ys.length ∧ PW (RepD w ok) x.cells.toList ys ∧ (∀ d,d ∈ ys → d.one = true) ∧ (∀ v,v ∈ x.cells.toList → v.oneCell' = true) := by
 cases h with
 | agg hl h1 hr =>
  rename_i vs
  refine ⟨by simpa [Value.cells] using hl,fun j d hd => ?_,h1,fun v hv => ?_⟩
  ·have hj : j < vs.length := by have := (List.getElem?_eq_some_iff.1 hd).1; omega
   exact ⟨vs[j],by simp [Value.cells,hj],hr j _ d (List.getElem?_eq_getElem hj) hd⟩
  ·simp only [Value.cells] at hv
   have hv' : v ∈ vs := by simpa using hv
   obtain ⟨j,hj,rfl⟩ := List.getElem_of_mem hv'
   have hj' : j < ys.length := by omega
   exact (hr j _ _ (List.getElem?_eq_getElem hj) (List.getElem?_eq_getElem hj')).one (h1 _ (List.getElem_mem hj'))
theorem Zxw {E : Env} {w : World} {ok : Nat → Prop} {x : Value} {ys : List AV} (h : Rep E w ok x (.agg ys)) :
  x.cells.toList.length = ys.length ∧ PW (Rep E w ok) x.cells.toList ys ∧ (∀ d,d ∈ ys → d.one = true) ∧ (∀ v,v ∈ x.cells.toList → v.oneCell' = true) := by
 cases h with
 | agg hl h1 hr =>
  rename_i vs
  refine ⟨by simpa [Value.cells] using hl,fun j d hd => ?_,h1,fun v hv => ?_⟩
  ·have hj : j < vs.length := by have := (List.getElem?_eq_some_iff.1 hd).1; omega
   exact ⟨vs[j],by simp [Value.cells,hj],hr j _ d (List.getElem?_eq_getElem hj) hd⟩
  ·simp only [Value.cells] at hv
   have hv' : v ∈ vs := by simpa using hv
   obtain ⟨j,hj,rfl⟩ := List.getElem_of_mem hv'
   have hj' : j < ys.length := by omega
   exact (hr j _ _ (List.getElem?_eq_getElem hj) (List.getElem?_eq_getElem hj')).one (h1 _ (List.getElem_mem hj'))
theorem PW.toAV {E : Env} {w : World} {ok : Nat → Prop} {c : List Value} {cs : List D} (h : PW (RepD w ok) c cs) : PW (Rep E w ok) c (cs.map AV.d) := by
 intro j a ha
 rw [List.getElem?_map] at ha
 cases hc : cs[j]? with
 | none => rw [hc] at ha; cases ha
 | some d => rw [hc] at ha; cases ha; obtain ⟨x,hx,hr⟩ := h j d hc; exact ⟨x,hx,.d hr⟩
theorem CellsRep.splice_d {e : TypeId} {E : Env} {w : World} {ok : Nat → Prop} {c xs : List Value} {n off : Nat} {cs ys : List D} (h : CellsRep E w ok e c (.d n cs)) (ho : off + ys.length ≤ n) (hl : xs.length = ys.length) (hx : PW (RepD w ok) xs ys) (h1 : ∀ d,d ∈ ys → d.one = true) :
  CellsRep E w ok e (c.take off ++ xs ++ c.drop (off + xs.length)) (.d n (cs.take off ++ (ys ++ cs.drop (off + ys.length)))) := by
 obtain ⟨hn,hm,hd,hc⟩ := h
 exact ⟨by rw [Zxv (by omega)]; exact hn,by simp; omega,Z173 hd h1,PW.splice hc hx hl (by omega) (by omega)⟩
theorem CellsRep.splice_a {e : TypeId} {E : Env} {w : World} {ok : Nat → Prop} {c xs : List Value} {n off : Nat} {cs ys : List AV} (h : CellsRep E w ok e c (.a n cs)) (ho : off + ys.length ≤ n) (hl : xs.length = ys.length) (hx : PW (Rep E w ok) xs ys) :
  CellsRep E w ok e (c.take off ++ xs ++ c.drop (off + xs.length)) (.a n (cs.take off ++ (ys ++ cs.drop (off + ys.length)))) := by
 obtain ⟨hn,hm,hc⟩ := h
 exact ⟨by rw [Zxv (by omega)]; exact hn,by simp; omega,PW.splice hc hx hl (by omega) (by omega)⟩
theorem CellsRep.toA {e : TypeId} {E : Env} {w : World} {ok : Nat → Prop} {c : List Value} {n : Nat} {cs : List D} (h : CellsRep E w ok e c (.d n cs)) : CellsRep E w ok e c (.a n (cs.map AV.d)) := by
 obtain ⟨hn,hm,hd,hc⟩ := h
 exact ⟨by simpa using hn,hm,PW.toAV hc⟩
theorem pw_one {α : Type} {ρ : Value → α → Prop} {x : Value} {a : α} (h : ρ x a) : PW ρ [x] [a] := by
 intro j b hb
 match j,hb with
 | 0,hb => cases hb; exact ⟨x,rfl,h⟩
theorem Zsv {B0 : Nat} {w0 : World} {ok : Nat → Prop} {E : Env} {L : Heap} {w : World} {t : TypeId} {i : TypeInfo} (hi : P.info? t = some i) (hM : Mem B0 w0 ok E L w) {u v : Value} {id off : Nat} (hu : Rep E w ok u (.ptr id off))
  (hs : v.cells.toList.length = i.size) (h1 : ∀ x,x ∈ v.cells.toList → x.oneCell' = true) {B B' : Blk} (hB : L[id]? = some B)
  (hfit : ∀ e c,CellsRep E w ok e c B → off + i.size ≤ c.length ∧ CellsRep E w ok e (c.take off ++ v.cells.toList ++ c.drop (off + v.cells.toList.length)) B') :
  ∃ w',(Instr.storeAt t u v).run P w = .ok () w' ∧ Mem B0 w0 ok E (L.set id B') w' ∧ Grow E w ok E w' ok := by
 cases hu with
 | ptr he =>
  obtain ⟨_,c,e,B1,hb,hs',h1',hB',hc⟩ := hM.loc _ _ _ he
  rw [hB] at hB'; cases hB'
  obtain ⟨hle,hc'⟩ := hfit _ _ hc
  have := hM.splice he hb hs' h1' (off := off) h1 (by simp at hle hs ⊢; omega) hc'
  exact ⟨_,Z1ay hi hb (by simpa using hs) (by simp at hle hs ⊢; omega) h1,this.1,this.2⟩
theorem Z14g {t : TypeId} {a x : AV} {L : Heap} {k : AV → Heap → Option R} {r : R} (h0 : storeK P t a x L k = some r) :
  ∃ L',k .junk L' = some r ∧ ∀ {B0 w0 ok E w u v},Mem B0 w0 ok E L w → Rep E w ok u a → Rep E w ok v x → ∃ w',(Instr.storeAt t u v).run P w = .ok () w' ∧ Mem B0 w0 ok E L' w' ∧ Grow E w ok E w' ok := by
 unfold storeK at h0
 obtain ⟨d,hu,h1⟩ := Option.bind_eq_some_iff.1 h0
 obtain ⟨i,hi,h⟩ := Option.bind_eq_some_iff.1 h1
 clear h0 h1
 cases a with
 | ptr id off =>
  simp only at h
  cases hB : L[id]? with
  | none => rw [hB] at h; cases h
  | some B =>
   rw [hB] at h
   cases B with
   | dead => cases h
   | iter => cases h
   | map => cases h
   | loop => cases h
   | d n cs =>
    simp only at h
    cases hrow : isRow d with
    | true =>
     rw [hrow,if_pos rfl] at h
     split at h
     ·rename_i ys
      split at h
      ·rename_i hys
       obtain ⟨zs,hk,hz⟩ := Z13l h
       refine ⟨_,hk,fun hM hu' hv => ?_⟩
       cases hv with
       | d hv =>
        obtain ⟨v1,v2,v3,v4⟩ := Z3z hv
        refine Zsv hi hM hu' (by omega) v4 hB (fun e c hc => ?_)
        obtain ⟨hle,rfl⟩ := hz hc.1 hys
        have hm := hc.2.1
        exact ⟨by omega,by rw [← hys]; exact hc.splice_d (by omega) v1 v2 v3⟩
      ·cases h
     ·rename_i ys
      split at h
      ·rename_i hys
       obtain ⟨zs,hk,hz⟩ := Z13l h
       refine ⟨_,hk,fun hM hu' hv => ?_⟩
       obtain ⟨v1,v2,v3,v4⟩ := Zxw hv
       refine Zsv hi hM hu' (by omega) v4 hB (fun e c hc => ?_)
       obtain ⟨hle,rfl⟩ := hz (by simpa using hc.1) hys
       have hm := hc.2.1
       exact ⟨by omega,by rw [← hys]; exact hc.toA.splice_a (by omega) v1 v2⟩
      ·cases h
     ·cases h
    | false =>
     rw [hrow] at h; simp only [Bool.false_eq_true,if_false] at h
     split at h
     ·rename_i hsz
      obtain ⟨hsz,hoff⟩ := hsz
      split at h
      ·rename_i y
       split at h
       ·rename_i hy
        refine ⟨_,h,fun hM hu' hv => ?_⟩
        cases hv with
        | d hv =>
         have hc1 := Ziv (hv.one hy)
         refine Zsv hi hM hu' (by simp [hc1,hsz]) (by simp [hc1,hv.one hy]) hB (fun e c hc => ?_)
         have hm := hc.2.1
         refine ⟨by omega,?_⟩
         rw [hc1,Zr4 cs off y (by have := hc.1; omega)]
         exact hc.splice_d (xs := [_]) (by simp; omega) (by simp) (pw_one hv) (by simp [hy])
       ·cases h
      ·rename_i x hx
       split at h
       ·rename_i hy
        refine ⟨_,h,fun hM hu' hv => ?_⟩
        have hc1 := Ziv (hv.one hy)
        refine Zsv hi hM hu' (by simp [hc1,hsz]) (by simp [hc1,hv.one hy]) hB (fun e c hc => ?_)
        have hm := hc.2.1
        refine ⟨by omega,?_⟩
        rw [hc1,Zr4 (cs.map AV.d) off _ (by have := hc.1; simp; omega)]
        exact hc.toA.splice_a (xs := [_]) (by simp; omega) (by simp) (pw_one hv)
       ·cases h
     ·cases h
   | a n cs =>
    simp only at h
    cases hrow : isRow d with
    | true =>
     rw [hrow,if_pos rfl] at h
     split at h
     ·rename_i ys
      split at h
      ·rename_i hys
       obtain ⟨zs,hk,hz⟩ := Z13l h
       refine ⟨_,hk,fun hM hu' hv => ?_⟩
       cases hv with
       | d hv =>
        obtain ⟨v1,v2,v3,v4⟩ := Z3z hv
        refine Zsv hi hM hu' (by omega) v4 hB (fun e c hc => ?_)
        obtain ⟨hle,rfl⟩ := hz hc.1 (by simpa using hys)
        have hm := hc.2.1
        have := hc.splice_a (off := off) (ys := ys.map AV.d) (xs := _) (by simp; omega) (by simpa using v1) (PW.toAV v2)
        exact ⟨by omega,by simpa [hys] using this⟩
      ·cases h
     ·rename_i ys
      split at h
      ·rename_i hys
       obtain ⟨zs,hk,hz⟩ := Z13l h
       refine ⟨_,hk,fun hM hu' hv => ?_⟩
       obtain ⟨v1,v2,v3,v4⟩ := Zxw hv
       refine Zsv hi hM hu' (by omega) v4 hB (fun e c hc => ?_)
       obtain ⟨hle,rfl⟩ := hz hc.1 hys
       have hm := hc.2.1
       exact ⟨by omega,by rw [← hys]; exact hc.splice_a (by omega) v1 v2⟩
      ·cases h
     ·cases h
    | false =>
     rw [hrow] at h; simp only [Bool.false_eq_true,if_false] at h
     split at h
     ·rename_i hsz
      obtain ⟨hsz,hoff,hy⟩ := hsz
      refine ⟨_,h,fun hM hu' hv => ?_⟩
      have hc1 := Ziv (hv.one hy)
      refine Zsv hi hM hu' (by simp [hc1,hsz]) (by simp [hc1,hv.one hy]) hB (fun e c hc => ?_)
      have hm := hc.2.1
      refine ⟨by omega,?_⟩
      rw [hc1,Zr4 cs off x (by have := hc.1; omega)]
      exact hc.splice_a (xs := [_]) (by simp; omega) (by simp) (pw_one hv)
     ·cases h
   | td => cases h
   | t ty n cs =>
    simp only at h
    cases hrow : isRow d with
    | true => rw [hrow,if_pos rfl] at h; cases h
    | false =>
     rw [hrow] at h; simp only [Bool.false_eq_true,if_false] at h
     split at h
     ·rename_i hsz
      obtain ⟨hsz,hoff,hy⟩ := hsz
      refine ⟨_,h,fun hM hu' hv => ?_⟩
      have hc1 := Ziv (hv.one hy)
      refine Zsv hi hM hu' (by simp [hc1,hsz]) (by simp [hc1,hv.one hy]) hB (fun e c hc => ?_)
      have hm := hc.2.2.1
      have hn := hc.2.1
      refine ⟨by omega,?_⟩
      rw [hc1,Zr4 cs off x (by omega)]
      have ha : CellsRep _ _ _ e c (.a n cs) := ⟨hc.2.1,by omega,hc.2.2.2⟩
      have := ha.splice_a (off := off) (ys := [x]) (xs := [_]) (by simp; omega) (by simp) (pw_one hv)
      exact ⟨hc.1,this.1,by simp; omega,this.2.2⟩
     ·cases h
 | _ => cases h
end Go.Ev
/-
 The operations that only reckon: numbers,bools,strings,comparisons.
-/
set_option linter.unusedSimpArgs false
set_option linter.unusedVariables false
namespace Go.Ev
open Go Go.RowKit
variable {R : Type} {P : Program} {w : World} {ok : Nat → Prop} {E : Env}
theorem RepD.v_inv {u x : Value} (h : RepD w ok u (.v x)) : u = x ∧ leaf x = true := by cases h; exact ⟨rfl,by assumption⟩
theorem Rep.v_inv {u x : Value} (h : Rep E w ok u (.d (.v x))) : u = x ∧ leaf x = true := by cases h with | d h => exact h.v_inv
theorem Rep.ofV {x : Value} (h : leaf x = true) : Rep E w ok x (.d (.v x)) := .d (.v h)
theorem Z1fn {op : BinOp} {t : TypeId} {xo yo : Operand} {k k' : IntKind} {a b : Int} : (eqGuard op t xo yo (.int k a) (.int k' b)).run P w = .ok () w := by
 unfold eqGuard; cases op <;> simp
theorem Z152 {op : BinOp} {t : TypeId} {xo yo : Operand} {a b : Bool} : (eqGuard op t xo yo (.bool a) (.bool b)).run P w = .ok () w := by
 unfold eqGuard; cases op <;> simp
theorem Z1fo {op : BinOp} {t : TypeId} {xo yo : Operand} {a b : ByteArray} : (eqGuard op t xo yo (.string a) (.string b)).run P w = .ok () w := by
 unfold eqGuard; cases op <;> simp
theorem Z18y {op : BinOp} {k : IntKind} {a b : Int} {g : Value → Option R} {r : R} (h : shiftK op k a b g = some r) {t : TypeId} :
  ∃ v,g v = some r ∧ leaf v = true ∧ ∀ (yk : IntKind) (w : World),(binOp op t (.int k a) (.int yk b)).run P w = .ok v w := by
 unfold shiftK at h
 split at h
 ·cases h
 ·rename_i hb
  cases op <;> simp only at h <;> try (cases h; done)
  ·exact ⟨_,h,rfl,fun yk w => by simp [binOp,Op.shift,hb]⟩
  ·exact ⟨_,h,rfl,fun yk w => by simp [binOp,Op.shift,hb]⟩
theorem Z1iq {op : BinOp} {k : IntKind} {a b : Int} {g : Value → Option R} {r : R} (h : intD op k a b g = some r) (h1 : op ≠ .shl) (h2 : op ≠ .shr) {t : TypeId} :
  ∃ v,g v = some r ∧ leaf v = true ∧ ∀ w,(binOp op t (.int k a) (.int k b)).run P w = .ok v w := by
 cases op <;> simp only [intD] at h
 case shl => exact absurd rfl h1
 case shr => exact absurd rfl h2
 case quo =>
  split at h
  ·cases h
  ·rename_i hb; exact ⟨_,h,rfl,fun w => by simp [binOp,Op.intDiv,hb]⟩
 case rem =>
  split at h
  ·cases h
  ·rename_i hb; exact ⟨_,h,rfl,fun w => by simp [binOp,Op.intDiv,hb]⟩
 all_goals exact ⟨_,h,rfl,fun w => by simp [binOp,Op.intArith,Op.intBits,Op.intCmp]⟩
theorem Z1ir {op : BinOp} {a b : ByteArray} {g : Value → Option R} {r : R} (h : strD op a b g = some r) {t : TypeId} :
  ∃ v,g v = some r ∧ leaf v = true ∧ ∀ w,(binOp op t (.string a) (.string b)).run P w = .ok v w := by
 cases op <;> simp only [strD] at h
 case add =>
  split at h
  ·rename_i hs
   refine ⟨_,h,rfl,fun w => ?_⟩
   have : ¬ ((a.size + b.size : Nat) : Int) > IntKind.i64.max := by
    have : IntKind.i64.max = 9223372036854775807 := by decide
    omega
   simp only [binOp,Op.stringOp]
   rw [if_neg this]; rfl
  ·cases h
 all_goals first
  | (cases h; done)
  | exact ⟨_,h,rfl,fun w => by simp [binOp,Op.stringOp]⟩
def valEq : Kd → Value → Value → Option Bool
 | .int,.int k a,.int k' b => if k = k' then some (a == b) else none
 | .bool,.bool a,.bool b => some (a == b)
 | .str,.string a,.string b => some (a.toList == b.toList)
 | _,_,_ => none
def valsEq : List Kd → List Value → List Value → Option Bool
 | [],[],[] => some true
 | q :: ks,x :: xs,y :: ys => (valEq q x y).bind fun b => (valsEq ks xs ys).bind fun c => some (b && c)
 | _,_,_ => none
theorem valsEq_len : ∀ {ks : List Kd} {xs ys : List Value} {b : Bool},valsEq ks xs ys = some b → xs.length = ks.length ∧ ys.length = ks.length
 | [],[],[],_,_ => ⟨rfl,rfl⟩
 | q :: ks,x :: xs,y :: ys,b,h => by
  simp only [valsEq] at h
  obtain ⟨_,_,h⟩ := Option.bind_eq_some_iff.1 h
  obtain ⟨_,h,_⟩ := Option.bind_eq_some_iff.1 h
  have := valsEq_len h
  simp [this]
 | [],[],_ :: _,_,h | [],_ :: _,_,_,h | _ :: _,[],_,_,h | _ :: _,_ :: _,[],_,h => by simp [valsEq] at h
theorem valsEq_append : ∀ {k1 k2 : List Kd} {xs ys : List Value} {b : Bool},valsEq (k1 ++ k2) xs ys = some b →
  ∃ b1 b2,valsEq k1 (xs.take k1.length) (ys.take k1.length) = some b1 ∧ valsEq k2 (xs.drop k1.length) (ys.drop k1.length) = some b2 ∧ b = (b1 && b2)
 | [],k2,xs,ys,b,h => ⟨true,b,by simp [valsEq],by simpa using h,by simp⟩
 | q :: k1,k2,x :: xs,y :: ys,b,h => by
  simp only [List.cons_append,valsEq] at h
  obtain ⟨c,hc,h⟩ := Option.bind_eq_some_iff.1 h
  obtain ⟨d,hd,h⟩ := Option.bind_eq_some_iff.1 h
  cases h
  obtain ⟨b1,b2,h1,h2,rfl⟩ := valsEq_append hd
  exact ⟨c && b1,b2,by simp [valsEq,hc,h1],by simpa using h2,by simp [Bool.and_assoc]⟩
 | _ :: _,_,[],_,_,h => by simp [valsEq] at h
 | _ :: _,_,_ :: _,[],_,h => by simp [valsEq] at h
theorem valsEq_of_cells : ∀ {ks : List Kd} {ds es : List D} {b : Bool} {xs ys : List Value},cellsEq ks ds es = some b → xs.length = ds.length → ys.length = es.length →
  PW (RepD w ok) xs ds → PW (RepD w ok) ys es → valsEq ks xs ys = some b
 | [],[],[],b,xs,ys,h,hx,hy,_,_ => by
  simp at hx hy; subst hx; subst hy; simpa [cellsEq,valsEq] using h
 | q :: ks,d :: ds,e :: es,b,xs,ys,h,hx,hy,px,py => by
  simp only [cellsEq] at h
  obtain ⟨c,hc,h⟩ := Option.bind_eq_some_iff.1 h
  obtain ⟨b',hd,h⟩ := Option.bind_eq_some_iff.1 h
  cases h
  match xs,ys,hx,hy with
  | x :: xs,y :: ys,hx,hy =>
   have hx0 := px 0 d rfl
   have hy0 := py 0 e rfl
   simp at hx0 hy0
   have := valsEq_of_cells (xs := xs) (ys := ys) hd (by simpa using hx) (by simpa using hy) (fun j a ha => by simpa using px (j + 1) a (by simpa using ha)) (fun j a ha => by simpa using py (j + 1) a (by simpa using ha))
   have hh : valEq q x y = some c := by
    cases q <;> cases d <;> simp only [scalarEq] at hc <;> try (cases hc; done)
    all_goals
     rename_i u
     cases e <;> try (cases u <;> simp at hc; done)
     rename_i u'
     obtain ⟨rfl,_⟩ := hx0.v_inv
     obtain ⟨rfl,_⟩ := hy0.v_inv
     cases x <;> try (simp at hc; done)
     all_goals (cases y <;> first | (simp at hc; done) | simpa [valEq] using hc)
   simp [valsEq,hh,this]
 | [],[],_ :: _,_,_,_,h,_,_,_,_ | [],_ :: _,_,_,_,_,h,_,_,_,_ | _ :: _,[],_,_,_,_,h,_,_,_,_ | _ :: _,_ :: _,[],_,_,_,h,_,_,_,_ => by simp [cellsEq] at h
def whole (d : TypeDesc) (cs : List Value) : Value := if isRow d then .agg cs.toArray else cs.headD undef
theorem ext_eq {α : Type} (cs : Array α) (off s : Nat) (h : off + s ≤ cs.size) : cs.extract off (off + s) = ((cs.toList.drop off).take s).toArray := by
 apply Array.ext
 ·simp; omega
 ·intro i h1 h2
  simp
theorem Zxx {t : TypeId} {d : TypeDesc} {s : Nat} (hu : P.underlying t = some d) (hi : (P.info? t).map (·.size) = some s) {cs : Array Value} {off : Nat} (h1 : isRow d = false → s = 1) (hfit : off + s ≤ cs.size) (w : World) :
  (part t cs off).run P w = .ok (whole d ((cs.toList.drop off).take s)) w := by
 cases hq : P.info? t with
 | none => rw [hq] at hi; cases hi
 | some i =>
  rw [hq] at hi
  have hs : i.size = s := by simpa using hi
  unfold part whole
  cases hr : isRow d with
  | true =>
   simp only [Sem.run_bind,Z151 hu,hr,Result.andThen_ok,if_true,sizeOf,typeInfo]
   simp [hq,hs,ext_eq cs off s hfit]
  | false =>
   have := h1 hr; subst this
   have hlt : off < cs.size := by omega
   simp only [Sem.run_bind,Z151 hu,hr,Result.andThen_ok,Bool.false_eq_true,if_false]
   rw [Array.getElem?_eq_getElem hlt]
   simp [List.drop_eq_getElem_cons (show off < cs.toList.length by simpa using hlt)]
theorem Zxy {q : Kd} {cx cy : List Value} {b : Bool} (h : valsEq [q] cx cy = some b) : ∃ x y,cx = [x] ∧ cy = [y] ∧ valEq q x y = some b := by
 obtain ⟨h1,h2⟩ := valsEq_len h
 match cx,cy,h1,h2 with
 | [x],[y],_,_ => exact ⟨x,y,rfl,rfl,by simpa [valsEq] using h⟩
theorem Z1fp {x y : Value} {b : Bool} (h : valEq .int x y = some b) : ∃ k i j,x = .int k i ∧ y = .int k j ∧ b = (i == j) := by
 cases x <;> cases y <;> simp [valEq] at h
 obtain ⟨rfl,rfl⟩ := h
 exact ⟨_,_,_,rfl,rfl,rfl⟩
theorem Z1is {x y : Value} {b : Bool} (h : valEq .bool x y = some b) : ∃ i j,x = .bool i ∧ y = .bool j ∧ b = (i == j) := by
 cases x <;> cases y <;> simp [valEq] at h
 exact ⟨_,_,rfl,rfl,h.symm⟩
theorem Z1ji {x y : Value} {b : Bool} (h : valEq .str x y = some b) : ∃ i j,x = .string i ∧ y = .string j ∧ b = (i.toList == j.toList) := by
 cases x <;> cases y <;> simp [valEq] at h
 exact ⟨_,_,rfl,rfl,h.symm⟩
theorem equalIn_kinds : ∀ (n : Nat) (t : TypeId) (ks : List Kd),kinds P n t = some ks → ∀ (d : Nat),n ≤ d → ∀ (cx cy : List Value) (b : Bool),valsEq ks cx cy = some b → ∀ (desc : TypeDesc),P.underlying t = some desc → ∀ w,
  (isRow desc = false → ks.length = 1) ∧ (Op.equalIn d t (whole desc cx) (whole desc cy)).run P w = .ok b w
 | 0,_,_,h => by simp [kinds] at h
 | n + 1,t,ks,h => by
  intro d hd cx cy b hb desc hu w
  obtain ⟨d,rfl⟩ : ∃ e,d = e + 1 := ⟨d - 1,by omega⟩
  simp only [kinds,hu] at h
  cases desc with
  | int k =>
   simp at h; subst h
   refine ⟨fun _ => rfl,?_⟩
   obtain ⟨x,y,rfl,rfl,h1⟩ := Zxy hb
   obtain ⟨k',i,j,rfl,rfl,rfl⟩ := Z1fp h1
   simpa [whole,isRow] using run_equalIn_int w d t k' k i j hu
  | bool =>
   simp at h; subst h
   refine ⟨fun _ => rfl,?_⟩
   obtain ⟨x,y,rfl,rfl,h1⟩ := Zxy hb
   obtain ⟨i,j,rfl,rfl,rfl⟩ := Z1is h1
   simpa [whole,isRow] using run_equalIn_bool' w d t _ _ hu
  | string =>
   simp at h; subst h
   refine ⟨fun _ => rfl,?_⟩
   obtain ⟨x,y,rfl,rfl,h1⟩ := Zxy hb
   obtain ⟨i,j,rfl,rfl,rfl⟩ := Z1ji h1
   simpa [whole,isRow] using run_equalIn_string w d t _ _ hu
  | struct fs =>
   simp only at h
   split at h
   ·cases h
   ·rename_i hp
    refine ⟨fun hr => by simp [isRow] at hr,?_⟩
    have hf : P.fieldsOf t = fs := by simp [Program.fieldsOf,hu]
    have := run_equalIn_struct (P := P) w d t cx.toArray cy.toArray (by rw [hf]; exact hu) (by simpa using hp)
    simp only [whole,isRow,if_true]
    rw [this,hf]
    obtain ⟨hlx,hly⟩ := valsEq_len hb
    have go : ∀ (l : List Field) (off : Nat) (ks' : List Kd) (b : Bool),kindsF (kinds P n) (fun t => (P.info? t).map (·.size)) off l = some ks' → off + ks'.length ≤ cx.length → off + ks'.length ≤ cy.length →
      valsEq ks' ((cx.drop off).take ks'.length) ((cy.drop off).take ks'.length) = some b → (Op.eqFields d cx.toArray cy.toArray l).run P w = .ok b w := by
     intro l
     induction l with
     | nil => intro off ks' b hk _ _ hb; simp [kindsF] at hk; subst hk; simp [valsEq] at hb; subst hb; simp [Op.eqFields]
     | cons f l ih =>
      intro off ks' b hk h1 h2 hb
      simp only [kindsF] at hk
      split at hk
      ·cases hk
      ·rename_i hname
       split at hk
       ·rename_i hoff
        obtain ⟨a,ha,hk1⟩ := Option.bind_eq_some_iff.1 hk
        split at hk1
        ·rename_i hsz
         obtain ⟨rest,hrest,hk2⟩ := Option.bind_eq_some_iff.1 hk1
         cases hk2
         obtain ⟨b1,b2,hb1,hb2,rfl⟩ := valsEq_append hb
         simp only [List.length_append] at h1 h2 hb1 hb2
         rw [List.take_take,List.take_take,Nat.min_eq_left (by omega)] at hb1
         rw [List.drop_take,List.drop_take,List.drop_drop,List.drop_drop,Nat.add_sub_cancel_left] at hb2
         cases hfu : P.underlying f.type with
         | none => cases n with
          | zero => simp [kinds] at ha
          | succ n => simp [kinds,hfu] at ha
         | some fd =>
          obtain ⟨hr1,he⟩ := equalIn_kinds n f.type a ha d (by omega) _ _ b1 hb1 fd hfu w
          have px := Zxx (P := P) (cs := cx.toArray) (off := off) hfu hsz hr1 (by simp; omega) w
          have py := Zxx (P := P) (cs := cy.toArray) (off := off) hfu hsz hr1 (by simp; omega) w
          simp only [Op.eqFields,hname,ne_eq,not_false_eq_true,if_true,Sem.run_bind,hoff,px,py,Result.andThen_ok]
          rw [he]
          cases b1
          ·simp
          ·simpa using ih (off + a.length) rest b2 hrest (by omega) (by omega) hb2
        ·cases hk1
       ·cases hk
    refine go fs.toList 0 ks b h (by omega) (by omega) ?_
    rw [List.drop_zero,List.drop_zero,List.take_of_length_le (by omega),List.take_of_length_le (by omega)]
    exact hb
  | array m e =>
   simp only at h
   obtain ⟨a,ha,h1⟩ := Option.bind_eq_some_iff.1 h
   split at h1
   ·rename_i hsz
    cases h1
    refine ⟨fun hr => by simp [isRow] at hr,?_⟩
    cases hie : P.info? e with
    | none => rw [hie] at hsz; cases hsz
    | some ie =>
     have hco : P.cellsOf e = a.length := by rw [hie] at hsz; simp [Program.cellsOf,hie] at hsz ⊢; exact hsz
     simp only [whole,isRow,if_true]
     rw [run_equalIn_array w d cx.toArray cy.toArray hu hie,hco]
     have go : ∀ (m j : Nat) (b : Bool),j * a.length + m * a.length ≤ cx.length → j * a.length + m * a.length ≤ cy.length →
       valsEq (List.replicate m a).flatten ((cx.drop (j * a.length)).take (m * a.length)) ((cy.drop (j * a.length)).take (m * a.length)) = some b →
       (Op.eqItems d e a.length cx.toArray cy.toArray (List.range' j m)).run P w = .ok b w := by
      intro m
      induction m with
      | zero => intro j b _ _ hb; simp [valsEq] at hb; subst hb; simp [Op.eqItems]
      | succ m ih =>
       intro j b h1 h2 hb
       rw [Nat.succ_mul] at h1 h2 hb
       simp only [List.replicate_succ,List.flatten_cons] at hb
       obtain ⟨b1,b2,hb1,hb2,rfl⟩ := valsEq_append hb
       rw [List.take_take,List.take_take,Nat.min_eq_left (by omega)] at hb1
       rw [List.drop_take,List.drop_take,List.drop_drop,List.drop_drop,Nat.add_sub_cancel] at hb2
       cases hfu : P.underlying e with
       | none => cases n with
        | zero => simp [kinds] at ha
        | succ n => simp [kinds,hfu] at ha
       | some fd =>
        obtain ⟨hr1,he⟩ := equalIn_kinds n e a ha d (by omega) _ _ b1 hb1 fd hfu w
        have px := Zxx (P := P) (cs := cx.toArray) (off := j * a.length) hfu hsz hr1 (by simp; omega) w
        have py := Zxx (P := P) (cs := cy.toArray) (off := j * a.length) hfu hsz hr1 (by simp; omega) w
        rw [List.range'_succ]
        simp only [Op.eqItems,Sem.run_bind,px,py,Result.andThen_ok]
        rw [he]
        cases b1
        ·simp
        ·have := ih (j + 1) b2 (by rw [Nat.succ_mul]; omega) (by rw [Nat.succ_mul]; omega) (by rw [Nat.succ_mul]; exact hb2)
         simpa using this
     obtain ⟨hlx,hly⟩ := valsEq_len hb
     have hl : (List.replicate m a).flatten.length = m * a.length := by simp
     rw [List.range_eq_range']
     refine go m 0 b (by omega) (by omega) ?_
     rw [Nat.zero_mul,List.drop_zero,List.drop_zero,List.take_of_length_le (by omega),List.take_of_length_le (by omega)]
     exact hb
   ·cases h1
  | _ => simp at h
theorem Z1fq {y : Operand} (h : isNilC y = true) : y = .const (.slice none 0 0) := by
 unfold isNilC at h
 split at h
 ·rfl
 ·cases h
theorem Z1fr {op : BinOp} {t : TypeId} {x : AV} {k : AV → Option R} {r : R} (h : nilK P op t x k = some r) :
  ∃ v,k v = some r ∧ ∀ {E : Env} {w : World} {ok : Nat → Prop} {u : Value} (xo yo : Operand),Rep E w ok u x → ∃ z,(do eqGuard op t xo yo u (.slice none 0 0); binOp op t u (.slice none 0 0) : Sem Value).run P w = .ok z w ∧ Rep E w ok z v := by
 unfold nilK at h
 cases hu : P.underlying t with
 | none => rw [hu] at h; cases h
 | some d =>
  rw [hu] at h
  cases d <;> try (simp only at h) <;> try (cases h; done)
  case slice e =>
   have fin : ∀ {n : Nat},(if n = 0 then none else match op with
     | .eql => k (.d (.v (.bool false)))
     | .neq => k (.d (.v (.bool true)))
     | _ => none) = some r → (∀ {E : Env} {w : World} {ok : Nat → Prop} {u : Value},Rep E w ok u x → n ≠ 0 → ∃ b m c,u = .slice (some b) m c) →
     ∃ v,k v = some r ∧ ∀ {E : Env} {w : World} {ok : Nat → Prop} {u : Value} (xo yo : Operand),Rep E w ok u x → ∃ z,(do eqGuard op t xo yo u (.slice none 0 0); binOp op t u (.slice none 0 0) : Sem Value).run P w = .ok z w ∧ Rep E w ok z v := by
    intro n h hx
    split at h
    ·cases h
    rename_i hn
    cases op <;> try (simp only at h) <;> try (cases h; done)
    case eql =>
     refine ⟨_,h,fun {E w ok u} xo yo hr => ?_⟩
     obtain ⟨b,m,c,rfl⟩ := hx hr hn
     refine ⟨.bool false,?_,.d (.v rfl)⟩
     have h1 : (eqGuard .eql t xo yo (.slice (some b) m c) (.slice none 0 0)).run P w = .ok () w := by unfold eqGuard; simp
     have h2 := Lib.run_eql_slice_nil (P := P) w t e (some b) m c 0 0 hu
     simp only [Sem.run_bind,h1,Result.andThen,h2]
     rfl
    case neq =>
     refine ⟨_,h,fun {E w ok u} xo yo hr => ?_⟩
     obtain ⟨b,m,c,rfl⟩ := hx hr hn
     refine ⟨.bool true,?_,.d (.v rfl)⟩
     have h1 : (eqGuard .neq t xo yo (.slice (some b) m c) (.slice none 0 0)).run P w = .ok () w := by unfold eqGuard; simp
     have h2 := run_neq_slice_nil (P := P) (w := w) t e (some b) m c hu
     simp only [Sem.run_bind,h1,Result.andThen,h2]
     rfl
   cases x <;> try (simp only at h) <;> try (cases h; done)
   case d y =>
    cases y <;> try (simp only at h) <;> try (cases h; done)
    case list n cap cs =>
     exact fin h fun {E w ok u} hr hn => by
      cases hr with
      | d hD => cases hD with
       | nil _ => exact absurd rfl hn
       | list _ _ _ _ _ _ => exact ⟨_,_,_,rfl⟩
   case sl id off n cap sz =>
    exact fin h fun {E w ok u} hr hn => by
     cases hr with
     | sl _ _ _ _ _ => exact ⟨_,_,_,rfl⟩
     | slz _ => exact absurd rfl hn
end Go.Ev
/-
 Operations that make a value out of values: each sound; the world stays.
-/
set_option linter.unusedSimpArgs false
set_option linter.unusedVariables false
namespace Go.Ev
open Go Go.RowKit
variable {R : Type} {P : Program}
theorem Z1fs {n : Nat} {t : TypeId} {ks : List Kd} (h : kinds P n t = some ks) : ∃ d,P.underlying t = some d := by
 cases n with
 | zero => simp [kinds] at h
 | succ n =>
  cases hu : P.underlying t with
  | none => simp [kinds,hu] at h
  | some d => exact ⟨d,rfl⟩
theorem Z4h {w : World} {ok : Nat → Prop} {u : Value} {xs : List D} (h : RepD w ok u (.agg xs)) : u = .agg u.cells.toList.toArray := by
 cases h; simp [Value.cells]
theorem Z1ft {op : BinOp} {t : TypeId} {x y : AV} {k : AV → Option R} {r : R} (h : binK P op t x y k = some r) :
  ∃ v,k v = some r ∧ ∀ {E w ok u u'} (xo yo : Operand),Rep E w ok u x → Rep E w ok u' y → ∃ z,(do eqGuard op t xo yo u u'; binOp op t u u' : Sem Value).run P w = .ok z w ∧ Rep E w ok z v := by
 unfold binK at h
 split at h
 ·-- numbers
  rename_i ka a kb b
  have key : ∃ v,k (.d (.v v)) = some r ∧ leaf v = true ∧ ∀ w,(binOp op t (.int ka a) (.int kb b)).run P w = .ok v w := by
   split at h
   ·obtain ⟨v,hk,hl,hr⟩ := Z18y (P := P) (t := t) h
    exact ⟨v,hk,hl,fun w => hr kb w⟩
   ·obtain ⟨v,hk,hl,hr⟩ := Z18y (P := P) (t := t) h
    exact ⟨v,hk,hl,fun w => hr kb w⟩
   ·split at h
    ·rename_i h1 h2 hkk
     subst hkk
     obtain ⟨v,hk,hl,hr⟩ := Z1iq h (by intro e; exact h1 e) (by intro e; exact h2 e) (t := t) (P := P)
     exact ⟨v,hk,hl,hr⟩
    ·cases h
  obtain ⟨v,hk,hl,hr⟩ := key
  refine ⟨_,hk,fun {E w ok u u'} xo yo hu hu' => ⟨v,?_,.ofV hl⟩⟩
  obtain ⟨rfl,_⟩ := hu.v_inv
  obtain ⟨rfl,_⟩ := hu'.v_inv
  simp [Sem.run_bind,Z1fn,hr]
 ·rename_i a b
  obtain ⟨v,hk,hl,hr⟩ := Z1ir h (t := t) (P := P)
  refine ⟨_,hk,fun {E w ok u u'} xo yo hu hu' => ⟨v,?_,.ofV hl⟩⟩
  obtain ⟨rfl,_⟩ := hu.v_inv
  obtain ⟨rfl,_⟩ := hu'.v_inv
  simp [Sem.run_bind,Z1fo,hr]
 ·rename_i a b
  split at h
  ·rename_i hu0
   refine ⟨_,h,fun {E w ok u u'} xo yo hu hu' => ⟨.bool (a == b),?_,.ofV rfl⟩⟩
   obtain ⟨rfl,_⟩ := hu.v_inv
   obtain ⟨rfl,_⟩ := hu'.v_inv
   have := run_equalIn_bool' w 9999 t a b hu0
   simp [Sem.run_bind,Z152,binOp,Op.equal,Op.maxDepth,this]
  ·rename_i hu0
   refine ⟨_,h,fun {E w ok u u'} xo yo hu hu' => ⟨.bool !(a == b),?_,.ofV rfl⟩⟩
   obtain ⟨rfl,_⟩ := hu.v_inv
   obtain ⟨rfl,_⟩ := hu'.v_inv
   have := run_equalIn_bool' w 9999 t a b hu0
   simp [Sem.run_bind,Z152,binOp,Op.equal,Op.maxDepth,this]
  ·cases h
 ·rename_i xs ys
  split at h
  ·cases h
  rename_i hrow0
  split at h
  ·cases h
  ·rename_i hg
   obtain ⟨ks,hks,h⟩ := Option.bind_eq_some_iff.1 h
   have key : ∀ {b : Bool},cellsEq ks xs ys = some b → ∀ {E w ok u u'},Rep E w ok u (.d (.agg xs)) → Rep E w ok u' (.d (.agg ys)) → ∀ (op : BinOp) xo yo,(eqGuard op t xo yo u u').run P w = .ok () w ∧ (Op.equalIn 10000 t u u').run P w = .ok b w ∧ (∃ cx,u = .agg cx) ∧ ∃ cy,u' = .agg cy := by
    intro b hb E w ok u u' hu hu' op xo yo
    cases hu with
    | d hu =>
     cases hu' with
     | d hu' =>
      obtain ⟨l1,p1,_,_⟩ := Z3z hu
      obtain ⟨l2,p2,_,_⟩ := Z3z hu'
      have hv := valsEq_of_cells hb l1 l2 p1 p2
      obtain ⟨d,hd⟩ := Z1fs hks
      have e1 := Z4h hu
      have e2 := Z4h hu'
      have hrow : isRow d = true := by simpa [hd] using hrow0
      obtain ⟨_,he⟩ := equalIn_kinds 8 t ks hks 10000 (by omega) _ _ b hv d hd w
      simp only [whole,hrow,if_true] at he
      rw [← e1,← e2] at he
      refine ⟨?_,he,⟨_,e1⟩,⟨_,e2⟩⟩
      rw [e1,e2]
      exact run_eqGuard_agg w op t xo yo _ _ (by simpa using hg)
   split at h
   ·obtain ⟨b,hb,hk⟩ := Option.bind_eq_some_iff.1 h
    refine ⟨_,hk,fun {E w ok u u'} xo yo hu hu' => ⟨.bool b,?_,.ofV rfl⟩⟩
    obtain ⟨g1,g2,⟨cx,rfl⟩,⟨cy,rfl⟩⟩ := key hb hu hu' .eql xo yo
    simp [Sem.run_bind,g1,run_eql_struct,g2]
   ·obtain ⟨b,hb,hk⟩ := Option.bind_eq_some_iff.1 h
    refine ⟨_,hk,fun {E w ok u u'} xo yo hu hu' => ⟨.bool !b,?_,.ofV rfl⟩⟩
    obtain ⟨g1,g2,⟨cx,rfl⟩,⟨cy,rfl⟩⟩ := key hb hu hu' .neq xo yo
    simp [Sem.run_bind,g1,run_neq_struct,g2]
   ·cases h
 ·cases h
theorem Z1i9 {op : UnOp} {x : AV} {k : AV → Option R} {r : R} (h : unK op x k = some r) :
  ∃ v,k v = some r ∧ ∀ {E w ok u},Rep E w ok u x → ∃ z,(Op.unary op u).run P w = .ok z w ∧ Rep E w ok z v := by
 unfold unK at h
 split at h
 ·refine ⟨_,h,fun hu => ⟨_,?_,.ofV rfl⟩⟩
  obtain ⟨rfl,_⟩ := hu.v_inv
  simp [Op.unary,Op.intArith]
 ·refine ⟨_,h,fun hu => ⟨_,?_,.ofV rfl⟩⟩
  obtain ⟨rfl,_⟩ := hu.v_inv
  simp [Op.unary,Op.intBits]
 ·refine ⟨_,h,fun hu => ⟨_,?_,.ofV rfl⟩⟩
  obtain ⟨rfl,_⟩ := hu.v_inv
  simp [Op.unary]
 ·cases h
theorem bytesOf_some : ∀ {cs : List D} {l : List UInt8},bytesOf cs = some l → ∀ {w : World} {ok : Nat → Prop} {vs : List Value},vs.length = cs.length → PW (RepD w ok) vs cs →
  (∃ ns : List Int,vs = ns.map (Value.int .u8) ∧ l = ns.map fun n => UInt8.ofNat n.toNat)
 | [],l,h,w,ok,vs,hl,_ => by simp [bytesOf] at h; simp at hl; exact ⟨[],by simp [hl],by simp [h]⟩
 | .v (.int .u8 n) :: r,l,h,w,ok,v :: vs,hl,hp => by
  simp only [bytesOf] at h
  obtain ⟨l',hl',h'⟩ := Option.bind_eq_some_iff.1 h
  cases h'
  obtain ⟨ns,e1,e2⟩ := bytesOf_some hl' (vs := vs) (by simpa using hl) (fun j a ha => by simpa using hp (j + 1) a (by simpa using ha))
  obtain ⟨x,hx,hr⟩ := hp 0 _ rfl
  simp at hx; subst hx
  obtain ⟨rfl,_⟩ := hr.v_inv
  exact ⟨n :: ns,by simp [e1],by simp [e2]⟩
 | _ :: _,_,_,_,_,[],hl,_ => by simp at hl
def okNew (ok : Nat → Prop) (w w' : World) : Nat → Prop := fun b => ok b ∨ (w.heap.size ≤ b ∧ b < w'.heap.size)
theorem Mem.grown {B0 : Nat} {w0 : World} {ok : Nat → Prop} {E : Env} {L : Heap} {w w' : World} (h : Mem B0 w0 ok E L w) (hb : Below w.heap.size w w') :
  Mem B0 w0 (okNew ok w w') E L w' ∧ Grow E w ok E w' (okNew ok w w') := by
 have g : Grow E w ok E w' (okNew ok w w') := ⟨fun _ _ h => h,fun b hb => .inl hb,fun b hk => hb.block b (h.okb b hk).1,fun _ _ h => h,.old fun b hlt => hb.block b hlt⟩
 refine ⟨⟨h.below.trans (hb.mono h.b0),fun b hk => ?_,h.inj,fun id b m he => ?_,Nat.le_trans h.b0 hb.size,h.wf,h.gl.grow g,fun id l hy => ?_,h.yinj,fun b hk id hy => ?_⟩,g⟩
 ·rcases hk with hk | ⟨h1,h2⟩
  ·exact ⟨Nat.lt_of_lt_of_le (h.okb b hk).1 hb.size,(h.okb b hk).2⟩
  ·exact ⟨h2,fun id m he => by have := h.lt he; omega⟩
 ·obtain ⟨h0,c,e,B,hbb,hs,h1,hB,hc⟩ := h.loc id b m he
  exact ⟨h0,c,e,B,(hb.block b (h.lt he)).trans hbb,hs,h1,hB,hc.grow g⟩
 ·obtain ⟨h0,o,B,hl,hB,ho⟩ := h.obj id l hy
  exact ⟨h0,o,B,(hb.block l (h.ylt hy)).trans hl,hB,ho.grow g⟩
 ·rcases hk with hk | ⟨h1,_⟩
  ·exact h.yok b hk id hy
  ·have := h.ylt hy; omega
theorem Z18z (ns : List Int) : strOfNums ns = ⟨(ns.map fun n => UInt8.ofNat n.toNat).toArray⟩ := rfl
theorem Z1ia {ns : List Int} {i : Nat} {v : Value} (h : (ns.map (Value.int .u8))[i]? = some v) : v = .int .u8 (ns.getD i 0) := by
 rw [List.getElem?_map] at h
 cases hn : ns[i]? with
 | none => rw [hn] at h; cases h
 | some n => rw [hn] at h; cases h; simp [List.getD,hn]
theorem Zlj (w : World) (src e : TypeId) (hs : P.underlying src = some (.slice e)) (he : P.underlying e = some (.int .u8)) (a : Option Addr) :
  ∀ dst,P.underlying dst = some .string → (convert src dst (.slice a 0 0)).run P w = .ok (.string ByteArray.empty) w := by
 intro dst hd
 rw [run_convert_bytes_string w src dst e _ 0 0 hs he hd]
 cases a with
 | none => simp [Conv.bytesToString]
 | some a => simp [Conv.bytesToString,loadCells,loadCellsFrom]
theorem Z1dm {src dst : TypeId} {x : AV} {L : Heap} {k : AV → Heap → Option R} {r : R} (h : convK P src dst x L k = some r) :
  ∃ v,k v L = some r ∧ ∀ {B0 w0 ok E w u},Mem B0 w0 ok E L w → Rep E w ok u x → ∃ z w' ok',(convert src dst u).run P w = .ok z w' ∧ Below w.heap.size w w' ∧ Mem B0 w0 ok' E L w' ∧ Grow E w ok E w' ok' ∧ (∀ b,ok' b → ok b ∨ B0 ≤ b) ∧ Rep E w' ok' z v := by
 unfold convK at h
 split at h
 ·rename_i k0 kd hs hd
  split at h
  ·rename_i k1 n
   refine ⟨_,h,fun {B0 w0 ok E w u} hM hu => ⟨_,w,ok,?_,Below.refl _ _,hM,Grow.refl _ _ _,fun _ h => .inl h,.ofV rfl⟩⟩
   obtain ⟨rfl,_⟩ := hu.v_inv
   simp [convert,run_underlying hs,run_underlying hd,Conv.intToInt]
  ·cases h
 ·rename_i hs hd
  split at h
  ·rename_i s
   refine ⟨_,h,fun {B0 w0 ok E w u} hM hu => ⟨_,w,ok,?_,Below.refl _ _,hM,Grow.refl _ _ _,fun _ h => .inl h,.ofV rfl⟩⟩
   obtain ⟨rfl,_⟩ := hu.v_inv
   simp [convert,run_underlying hs,run_underlying hd]
  ·cases h
 ·rename_i e hs hd
  split at h
  ·rename_i he
   split at h
   ·rename_i n cap cs
    split at h
    ·rename_i hn
     obtain ⟨l,hl,hk⟩ := Option.bind_eq_some_iff.1 h
     refine ⟨_,hk,fun {B0 w0 ok E w u} hM hu => ?_⟩
     cases hu with
     | d hu =>
      cases hu with
      | nil hc =>
       have : l = [] := by simpa [bytesOf] using hl.symm
       subst this
       refine ⟨_,w,ok,Zlj w src e hs he _ dst hd,Below.refl _ _,hM,Grow.refl _ _ _,fun _ h => .inl h,?_⟩
       exact Rep.ofV rfl
      | list hb hn' hcap h1 hcell hrep =>
       rename_i b off cp f
       have hpw : PW (RepD w ok) ((List.range cs.length).map f) cs := fun j d hd => by
        have hj := (List.getElem?_eq_some_iff.1 hd).1
        exact ⟨f j,by simp [hj],hrep j d hd⟩
       obtain ⟨ns,e1,rfl⟩ := bytesOf_some hl (by simp) hpw
       have hlen : ns.length = n := by have := congrArg List.length e1; simp at this; omega
       refine ⟨_,w,ok,run_convert_bytes_arg w src e hs he b off n cp ns hlen (fun i hi => ?_) dst hd,Below.refl _ _,hM,Grow.refl _ _ _,fun _ h => .inl h,by rw [Z18z]; exact .ofV rfl⟩
       rw [hcell i (by omega)]
       have : (ns.map (Value.int .u8))[i]? = some (f i) := by rw [← e1]; simp [show i < cs.length by omega]
       rw [Z1ia this]
    ·cases h
   ·rename_i id off n cap sz
    split at h
    ·rename_i m cs hB
     split at h
     ·rename_i hsz
      obtain ⟨xs,hk0,hx⟩ := Znl h
      obtain ⟨l,hl,hk⟩ := Option.bind_eq_some_iff.1 hk0
      refine ⟨_,hk,fun {B0 w0 ok E w u} hM hu => ?_⟩
      cases hu with
      | slz hc0 =>
       obtain ⟨_,rfl⟩ := hx (hM.wf _ _ hB)
       have : l = [] := by simpa [bytesOf] using hl.symm
       subst this
       exact ⟨_,w,ok,Zlj w src e hs he _ dst hd,Below.refl _ _,hM,Grow.refl _ _ _,fun _ h => .inl h,Rep.ofV rfl⟩
      | sl hE hn' hcap hm hoff =>
       rename_i off' cp b m'
       obtain ⟨_,c,e',B,hb,hs',h1,hB',hc⟩ := hM.loc _ _ _ hE
       rw [hB] at hB'; cases hB'
       obtain ⟨hlen,hle,ho,hcc⟩ := hc
       obtain ⟨hfit,rfl⟩ := hx hlen
       have hle' : m ≤ c.size := by simpa using hle
       have hpw : PW (RepD w ok) ((c.toList.drop off).take n) ((cs.drop off).take n) := fun j d hd => by
        rw [List.getElem?_take] at hd
        split at hd
        ·rename_i hj
         rw [List.getElem?_drop] at hd
         obtain ⟨x,hx,hr⟩ := hcc _ d hd
         exact ⟨x,by rw [List.getElem?_take,if_pos hj,List.getElem?_drop]; exact hx,hr⟩
        ·cases hd
       obtain ⟨ns,e1,rfl⟩ := bytesOf_some hl (by simp; omega) hpw
       have hlen' : ns.length = n := by have := congrArg List.length e1; simp at this; omega
       refine ⟨_,w,ok,run_convert_bytes_arg w src e hs he b off' n cp ns hlen' (fun i hi => ?_) dst hd,Below.refl _ _,hM,Grow.refl _ _ _,fun _ h => .inl h,by rw [Z18z]; exact .ofV rfl⟩
       have hoff' : off' = off := by
        rcases hoff with h | h
        ·exact h
        ·omega
       rw [hoff',cell_of_row w b (off + i) c e' _ hb]
       have : (ns.map (Value.int .u8))[i]? = c.toList[off + i]? := by rw [← e1,List.getElem?_take,if_pos hi,List.getElem?_drop]
       have h2 : c.toList[off + i]? = c[off + i]? := by simp
       rw [← h2,← this]
       have hlt : i < (ns.map (Value.int .u8)).length := by simp; omega
       rw [List.getElem?_eq_getElem hlt]
       rw [Z1ia (List.getElem?_eq_getElem hlt)]
     ·cases h
    ·cases h
   ·cases h
  ·cases h
 ·rename_i e hs hd
  split at h
  ·rename_i he
   split at h
   ·rename_i s
    refine ⟨_,h,fun {B0 w0 ok E w u} hM hu => ?_⟩
    obtain ⟨rfl,_⟩ := hu.v_inv
    have hbel : Below w.heap.size w (Lib.bytesWorld w e s) := ⟨rfl,rfl,rfl,by rw [Lib.bytesWorld_size]; omega,fun j hj => Lib.bytesWorld_at_old w e s j hj⟩
    obtain ⟨hM',g⟩ := hM.grown hbel
    refine ⟨_,_,_,Lib.run_convert_string_bytes w src dst e s hs hd he,hbel,hM',g,fun q hq => hq.imp id fun h => Nat.le_trans hM.b0 h.1,.d (.list (f := fun j => .int .u8 (s.data.toList.getD j 0).toNat) (.inr ⟨Nat.le_refl _,by rw [Lib.bytesWorld_size]; omega⟩) (grownCap_ge _ _ _ _) (fun c hc => by cases hc) ?_ (fun j hj => ?_) (fun j d hd => ?_))⟩
    ·intro d hd; obtain ⟨x,_,rfl⟩ := List.mem_map.1 hd; rfl
    ·simp at hj
     rw [Nat.zero_add]
     exact Lib.bytesWorld_cell w e s j hj
    ·rw [List.getElem?_map] at hd
     cases hx : s.data.toList[j]? with
     | none => rw [hx] at hd; cases hd
     | some x => rw [hx] at hd; cases hd; simp [List.getD,hx]; exact .v rfl
   ·cases h
  ·cases h
 ·rename_i te hsrc hdst
  cases x <;> (try simp only at h) <;> try (cases h; done)
  rename_i id off
  cases hB : L[id]? with
  | none => rw [hB] at h; cases h
  | some B =>
   rw [hB] at h
   cases B <;> (try simp only at h) <;> try (cases h; done)
   rename_i ty n cs
   split at h
   ·rename_i hc
    obtain ⟨hoff,hany⟩ := hc
    refine ⟨_,h,fun {B0 w0 ok E w u} hM hu' => ?_⟩
    cases hu' with
    | ptr he =>
     rename_i b m
     obtain ⟨_,c,e,B,hb,hs,h1,hB',hcc⟩ := hM.loc _ _ _ he
     rw [hB] at hB'; cases hB'
     obtain ⟨rfl,hn,hm,hcc⟩ := hcc
     cases hj : P.info? te with
     | none => rw [hj] at hany; cases hany
     | some j =>
      rw [hj] at hany
      have hsz : j.size ≠ 0 := by simpa using hany
      have hrun := Lib.run_to_unsafe (w := w) (src := src) (dst := dst) (cells := c.size) (e := e) ⟨b,off,none⟩ hsrc hdst hj hsz (by simp [World.shape?,hb]) (by simp at hm; simp; omega)
      exact ⟨_,w,ok,hrun,Below.refl _ _,hM,Grow.refl _ _ _,fun _ h => .inl h,.ptr he⟩
   ·cases h
 ·rename_i u0 hsrc hdst
  cases x <;> (try simp only at h) <;> try (cases h; done)
  rename_i id off
  cases hB : L[id]? with
  | none => rw [hB] at h; cases h
  | some B =>
   rw [hB] at h
   cases B <;> (try simp only at h) <;> try (cases h; done)
   rename_i ty n cs
   split at h
   ·rename_i hc
    obtain ⟨hany,hlies⟩ := hc
    refine ⟨_,h,fun {B0 w0 ok E w u} hM hu' => ?_⟩
    cases hu' with
    | ptr he =>
     rename_i b m
     obtain ⟨_,c,e,B,hb,hs,h1,hB',hcc⟩ := hM.loc _ _ _ he
     rw [hB] at hB'; cases hB'
     obtain ⟨rfl,hn,hm,hcc⟩ := hcc
     cases hj : P.info? u0 with
     | none => rw [hj] at hany; cases hany
     | some j =>
      have hm' : n = c.size := by simpa using hm
      have hrun := Lib.run_from_unsafe (w := w) (src := src) (dst := dst) (cells := c.size) (e := e) ⟨b,off,none⟩ hsrc hdst hj (by simp [World.shape?,hb]) (by rw [← hm']; exact hlies)
      exact ⟨_,w,ok,hrun,Below.refl _ _,hM,Grow.refl _ _ _,fun _ h => .inl h,.ptr he⟩
   ·cases h
 ·cases h
end Go.Ev
/-
 Slicing,indexing,fields,lengths.
-/
set_option linter.unusedSimpArgs false
set_option linter.unusedVariables false
namespace Go.Ev
open Go Go.RowKit
variable {R : Type} {P : Program}
theorem Zxz {x : AV} {p : IntKind × Int} (h : asI x = some p) : x = .d (.v (.int p.1 p.2)) := by
 unfold asI at h
 split at h
 ·cases h; rfl
 ·cases h
theorem Z1ib {x : AV} {b : Bool} (h : asB x = some b) : x = .d (.v (.bool b)) := by
 unfold asB at h
 split at h
 ·cases h; rfl
 ·cases h
theorem Z3u {x : Option AV} {top dflt : Nat} {k : Nat → Option R} {r : R} (h : bound x top dflt k = some r) :
  ∃ n,k n = some r ∧ ((x = none ∧ n = dflt) ∨ (∃ kd,x = some (.d (.v (.int kd (n : Int)))) ∧ n ≤ top)) := by
 unfold bound at h
 split at h
 ·exact ⟨_,h,.inl ⟨rfl,rfl⟩⟩
 ·obtain ⟨p,hp,h'⟩ := Option.bind_eq_some_iff.1 h
  split at h'
  ·rename_i hle
   refine ⟨_,h',.inr ⟨p.1,?_,by omega⟩⟩
   rw [Zxz hp,show ((p.2.toNat : Nat) : Int) = p.2 by omega]
  ·cases h'
def RepO (E : Env) (w : World) (ok : Nat → Prop) : Option Value → Option AV → Prop
 | none,none => True
 | some u,some x => Rep E w ok u x
 | _,_ => False
theorem RepO.bound {E : Env} {w : World} {ok : Nat → Prop} {u : Option Value} {x : Option AV} (h : RepO E w ok u x) {n top dflt : Nat} (hx : (x = none ∧ n = dflt) ∨ (∃ kd,x = some (.d (.v (.int kd (n : Int)))) ∧ n ≤ top)) :
  (u = none ∧ n = dflt) ∨ ∃ kd,u = some (.int kd (n : Int)) ∧ n ≤ top := by
 rcases hx with ⟨rfl,h1⟩ | ⟨kd,rfl,h1⟩
 ·cases u with
  | none => exact .inl ⟨rfl,h1⟩
  | some u => exact h.elim
 ·cases u with
  | none => exact h.elim
  | some u => obtain ⟨rfl,_⟩ := (show Rep E w ok u _ from h).v_inv; exact .inr ⟨kd,rfl,h1⟩
theorem Ziw {w : World} {kd : IntKind} {n top : Nat} {code : BoundsCode} (h : n ≤ top) : (Instr.sliceBound (.int kd (n : Int)) top code).run P w = .ok n w := by
 have := run_sliceBound (P := P) w kd (n : Int) top code (by omega) (by omega)
 simpa using this
theorem Zr6 {w : World} {isSlice : Bool} {len cap l h : Nat} {lo hi : Option Value} (hc : len ≤ cap)
  (hh : (hi = none ∧ h = len) ∨ ∃ kd,hi = some (.int kd (h : Int)) ∧ h ≤ len) (hl : (lo = none ∧ l = 0) ∨ ∃ kd,lo = some (.int kd (l : Int)) ∧ l ≤ h) :
  (Instr.sliceBounds isSlice len cap lo hi none).run P w = .ok (l,h,cap) w := by
 unfold Instr.sliceBounds
 rcases hh with ⟨rfl,rfl⟩ | ⟨k1,rfl,h1⟩ <;> rcases hl with ⟨rfl,rfl⟩ | ⟨k2,rfl,h2⟩
 ·simp [Sem.run_bind]
 ·simp [Sem.run_bind,Ziw h2]
 ·simp [Sem.run_bind,Ziw (P := P) (w := w) (show h ≤ cap by omega)]
 ·simp [Sem.run_bind,Ziw (P := P) (w := w) (show h ≤ cap by omega),Ziw h2]
theorem Z1az {w : World} {isSlice : Bool} {len cap l h m : Nat} {lo : Option Value} {kh km : IntKind} (hm : m ≤ cap)
  (hh : h ≤ m) (hl : (lo = none ∧ l = 0) ∨ ∃ kd,lo = some (.int kd (l : Int)) ∧ l ≤ h) :
  (Instr.sliceBounds isSlice len cap lo (some (.int kh (h : Int))) (some (.int km (m : Int)))).run P w = .ok (l,h,m) w := by
 unfold Instr.sliceBounds
 rcases hl with ⟨rfl,rfl⟩ | ⟨k2,rfl,h2⟩
 ·simp [Sem.run_bind,Ziw (P := P) (w := w) hm,Ziw (P := P) (w := w) hh]
 ·simp [Sem.run_bind,Ziw (P := P) (w := w) hm,Ziw (P := P) (w := w) hh,Ziw h2]
theorem Znm (b o j : Nat) : (⟨b,o,none⟩ : Addr).add j = ⟨b,o + j,none⟩ := Addr.add_mid b o j
theorem Z174 {w : World} {ok : Nat → Prop} {n cap : Nat} {c : Option Nat} {cs : List D} {a : Option Addr} (h : RepD w ok (.slice a n cap) (.list n c cs)) {l hh s : Nat} (h1 : l ≤ hh) (h2 : hh ≤ n) {m : Nat} (hm : hh ≤ m) (hmc : m ≤ cap)
  {c' : Option Nat} (hc' : ∀ q,c' = some q → q = m - l) :
  RepD w ok (.slice (if m = l then a else a.map (·.add (l * s))) (hh - l) (m - l)) (.list (hh - l) c' ((cs.drop (l * s)).take ((hh - l) * s))) := by
 cases h with
 | nil hcap =>
  have : l = 0 := by omega
  subst this
  have : hh = 0 := by omega
  subst this
  have : m = 0 := by omega
  subst this
  simp
  refine .nil ?_
  cases c' with
  | none => exact .inl rfl
  | some q => have := hc' q rfl; simp at this; subst this; exact .inr rfl
 | list hb hn hcap h1' hcell hrep =>
  rename_i b off f
  by_cases hml : m = l
  ·have : hh = l := by omega
   subst this
   subst hml
   simp only [if_true,Nat.sub_self,Nat.zero_mul,List.take_zero]
   exact .list (f := f) hb (Nat.le_refl _) (fun q hq => by have := hc' q hq; omega) (by simp) (by simp) (by simp)
  ·rw [if_neg hml]
   simp only [Option.map_some,Znm]
   refine .list (f := fun j => f (l * s + j)) hb (by omega) hc' (fun d hd => h1' d (List.mem_of_mem_drop (List.mem_of_mem_take hd))) (fun j hj => ?_) (fun j d hd => ?_)
   ·simp at hj
    rw [Nat.add_assoc]
    exact hcell _ (by omega)
   ·rw [List.getElem?_take] at hd
    split at hd
    ·rw [List.getElem?_drop] at hd; exact hrep _ d hd
    ·cases hd
theorem Zsw {w : World} {ok : Nat → Prop} {n : Nat} {c : Option Nat} {cs : List D} {u : Value} (h : RepD w ok u (.list n c cs)) :
  ∃ a cap,u = .slice a n cap ∧ n ≤ cap ∧ ∀ q,c = some q → q = cap := by
 cases h with
 | nil hc => exact ⟨_,0,rfl,Nat.le_refl _,fun q hq => by rcases hc with h | h <;> rw [h] at hq <;> cases hq; rfl⟩
 | list _ hn hc => exact ⟨_,_,rfl,hn,hc⟩
theorem Zix {t e : TypeId} {i : TypeInfo} (hu : P.underlying t = some (.slice e)) (hi : P.info? e = some i) {w : World} {a : Option Addr} {n cap l h m : Nat} {lo hi' mx : Option Value}
  (hb : (Instr.sliceBounds true n cap lo hi' mx).run P w = .ok (l,h,m) w) :
  (Instr.sliceAt t (.slice a n cap) lo hi' mx).run P w = .ok (.slice (if m = l then a else a.map (·.add (l * i.size))) (h - l) (m - l)) w := by
 simp [Instr.sliceAt,Instr.slice,Sem.run_bind,run_underlying hu,hb,sizeOf,typeInfo,hi]
theorem Z11y {t e : TypeId} {n : Nat} {i : TypeInfo} (hu : P.underlying t = some (.array n e)) (hi : P.info? e = some i) {w : World} {a : Addr} {l h m : Nat} {lo hi' mx : Option Value}
  (hb : (Instr.sliceBounds false n n lo hi' mx).run P w = .ok (l,h,m) w) :
  (Instr.sliceAt t (.pointer (some a)) lo hi' mx).run P w = .ok (.slice (some (if m = l then a else a.add (l * i.size))) (h - l) (m - l)) w := by
 simp [Instr.sliceAt,Instr.sureAddr,Sem.run_bind,run_underlying hu,hb,sizeOf,typeInfo,hi]
theorem RepO.none_right {E : Env} {w : World} {ok : Nat → Prop} {u : Option Value} (h : RepO E w ok u none) : u = none := by
 cases u with
 | none => rfl
 | some u => exact h.elim
theorem Z1b0 {E : Env} {w : World} {ok : Nat → Prop} {n cp id off : Nat} {cap : Option Nat} {sz : Nat} {a : Option Addr} (h : Rep E w ok (.slice a n cp) (.sl id off n cap sz)) {l hh m : Nat} (h1 : l ≤ hh) (hm : hh ≤ m) (hmc : m ≤ cp)
  {c' : Option Nat} (hc' : ∀ q,c' = some q → q = m - l) :
  Rep E w ok (.slice (if m = l then a else a.map (·.add (l * sz))) (hh - l) (m - l)) (.sl id (off + l * sz) (hh - l) c' sz) := by
 cases h with
 | slz hc =>
  have hm0 : m = 0 := by omega
  have hl0 : l = 0 := by omega
  have hh0 : hh = 0 := by omega
  subst hm0 hl0 hh0
  exact .slz (fun q hq => hc' q hq)
 | sl hE hn hcap hfit hoff =>
  rename_i off' b mm
  have hmul : l * sz + (m - l) * sz = m * sz := by rw [← Nat.add_mul,show l + (m - l) = m by omega]
  have hle : m * sz ≤ cp * sz := Nat.mul_le_mul_right _ hmc
  by_cases hml : m = l
  ·subst hml
   simp only [if_true]
   exact .sl hE (by omega) hc' (by omega) (.inr (by omega))
  ·rw [if_neg hml]
   simp only [Option.map_some,Znm]
   refine .sl hE (by omega) hc' (by omega) ?_
   rcases hoff with h | h
   ·exact .inl (by omega)
   ·exact .inr (by omega)
theorem Zvh {E : Env} {w : World} {ok : Nat → Prop} {u : Value} {id off n sz : Nat} {cap : Option Nat} (h : Rep E w ok u (.sl id off n cap sz)) : ∃ a cp,u = .slice a n cp ∧ n ≤ cp ∧ ∀ q,cap = some q → q = cp := by
 cases h with
 | sl hE hn hcap hfit hoff => exact ⟨_,_,rfl,hn,hcap⟩
 | slz hc => exact ⟨_,0,rfl,Nat.le_refl _,hc⟩
theorem Z1jj {cap : Option Nat} {cp l : Nat} (h : ∀ q,cap = some q → q = cp) : ∀ q,cap.map (· - l) = some q → q = cp - l := by
 intro q hq
 cases cap with
 | none => cases hq
 | some c => cases hq; rw [h c rfl]
theorem Z1b1 {t : TypeId} {x : AV} {L : Heap} {lo hi mx : Option AV} {k : AV → Option R} {r : R} (h0 : sliceK P t x L lo hi mx k = some r) :
  ∃ v,k v = some r ∧ ∀ {B0 w0 E w ok u lo' hi' mx'},Mem B0 w0 ok E L w → Rep E w ok u x → RepO E w ok lo' lo → RepO E w ok hi' hi → RepO E w ok mx' mx → ∃ z,(Instr.sliceAt t u lo' hi' mx').run P w = .ok z w ∧ Rep E w ok z v := by
 unfold sliceK at h0
 cases hu : P.underlying t with
 | none => rw [hu] at h0; cases h0
 | some d =>
  rw [hu] at h0
  cases d <;> (try simp only at h0) <;> try (cases h0; done)
  case string =>
   cases x <;> (try simp only at h0) <;> try (cases h0; done)
   rename_i xd
   cases xd <;> (try simp only at h0) <;> try (cases h0; done)
   rename_i xv
   cases xv <;> (try simp only at h0) <;> try (cases h0; done)
   rename_i s
   cases mx with
   | some q => simp at h0
   | none =>
    simp only [Option.isSome_none,Bool.false_eq_true,if_false] at h0
    obtain ⟨hh,h1,hb⟩ := Z3u h0
    obtain ⟨l,hk,hb'⟩ := Z3u h1
    refine ⟨_,hk,fun {B0 w0 E w ok u lo' hi' mx'} hM hx hl hh' hm => ⟨_,?_,.ofV rfl⟩⟩
    obtain ⟨rfl,_⟩ := hx.v_inv
    have := hm.none_right; subst this
    have hbd := Zr6 (P := P) (w := w) (isSlice := false) (Nat.le_refl s.size) (hh'.bound hb) (hl.bound hb')
    simp [Instr.sliceAt,Instr.slice,Sem.run_bind,run_underlying hu,hbd]
  case slice e =>
   obtain ⟨i,hi',h1⟩ := Option.bind_eq_some_iff.1 h0
   clear h0
   cases x <;> (try simp only at h1) <;> try (cases h1; done)
   case d xd =>
    cases xd <;> (try simp only at h1) <;> try (cases h1; done)
    rename_i n cap cs
    cases mx with
    | none =>
     obtain ⟨hh,h2,hb⟩ := Z3u h1
     obtain ⟨l,hk,hb'⟩ := Z3u h2
     refine ⟨_,hk,fun {B0 w0 E w ok u lo' hi2 mx'} hM hx hl hh' hm => ?_⟩
     have := hm.none_right; subst this
     cases hx with
     | d hx =>
      obtain ⟨a,cp,rfl,hn,hcap⟩ := Zsw hx
      have g1 := hh'.bound hb
      have g2 := hl.bound hb'
      have hbd := Zr6 (P := P) (w := w) (isSlice := true) hn g1 g2
      have e1 : hh ≤ n := by rcases hb with ⟨_,h⟩ | ⟨_,_,h⟩ <;> omega
      have e2 : l ≤ hh := by rcases hb' with ⟨_,h⟩ | ⟨_,_,h⟩ <;> omega
      exact ⟨_,Zix hu hi' hbd,.d (Z174 hx e2 e1 (by omega) (Nat.le_refl _) (Z1jj hcap))⟩
    | some mq =>
     obtain ⟨m,h2,hbm⟩ := Z3u h1
     cases hi with
     | none => cases h2
     | some hq =>
      obtain ⟨hh,h3,hb⟩ := Z3u h2
      obtain ⟨l,hk,hb'⟩ := Z3u h3
      refine ⟨_,hk,fun {B0 w0 E w ok u lo' hi2 mx'} hM hx hl hh' hm => ?_⟩
      cases hx with
      | d hx =>
       obtain ⟨a,cp,rfl,hn,hcap⟩ := Zsw hx
       have g1 := hh'.bound hb
       have g2 := hl.bound hb'
       have g3 := hm.bound hbm
       have e3 : m ≤ n := by rcases hbm with ⟨h,_⟩ | ⟨_,_,h⟩; cases h; exact h
       have e1 : hh ≤ m := by rcases hb with ⟨h,_⟩ | ⟨_,_,h⟩; cases h; exact h
       have e2 : l ≤ hh := by rcases hb' with ⟨_,h⟩ | ⟨_,_,h⟩ <;> omega
       rcases g1 with ⟨rfl,_⟩ | ⟨k1,rfl,_⟩
       ·exact hh'.elim
       rcases g3 with ⟨rfl,_⟩ | ⟨k3,rfl,_⟩
       ·exact hm.elim
       have hbd := Z1az (P := P) (w := w) (isSlice := true) (cap := cp) (len := n) (kh := k1) (km := k3) (m := m) (by omega) e1 g2
       exact ⟨_,Zix hu hi' hbd,.d (Z174 hx e2 (by omega) e1 (by omega) (fun q hq => by cases hq; rfl))⟩
   case sl id off n cap sz =>
    by_cases hsz : sz = i.size
    case neg => rw [if_neg hsz] at h1; cases h1
    rw [if_pos hsz] at h1
    subst hsz
    cases mx with
    | none =>
     obtain ⟨hh,h2,hb⟩ := Z3u h1
     obtain ⟨l,hk,hb'⟩ := Z3u h2
     refine ⟨_,hk,fun {B0 w0 E w ok u lo' hi2 mx'} hM hx hl hh' hm => ?_⟩
     have := hm.none_right; subst this
     obtain ⟨a,cp,rfl,hn,hcap⟩ := Zvh hx
     have g1 := hh'.bound hb
     have g2 := hl.bound hb'
     have hbd := Zr6 (P := P) (w := w) (isSlice := true) hn g1 g2
     have e1 : hh ≤ n := by rcases hb with ⟨_,h⟩ | ⟨_,_,h⟩ <;> omega
     have e2 : l ≤ hh := by rcases hb' with ⟨_,h⟩ | ⟨_,_,h⟩ <;> omega
     exact ⟨_,Zix hu hi' hbd,Z1b0 hx e2 (by omega) (Nat.le_refl _) (Z1jj hcap)⟩
    | some mq =>
     obtain ⟨m,h2,hbm⟩ := Z3u h1
     cases hi with
     | none => cases h2
     | some hq =>
      obtain ⟨hh,h3,hb⟩ := Z3u h2
      obtain ⟨l,hk,hb'⟩ := Z3u h3
      refine ⟨_,hk,fun {B0 w0 E w ok u lo' hi2 mx'} hM hx hl hh' hm => ?_⟩
      obtain ⟨a,cp,rfl,hn,hcap⟩ := Zvh hx
      have g1 := hh'.bound hb
      have g2 := hl.bound hb'
      have g3 := hm.bound hbm
      have e3 : m ≤ n := by rcases hbm with ⟨h,_⟩ | ⟨_,_,h⟩; cases h; exact h
      have e1 : hh ≤ m := by rcases hb with ⟨h,_⟩ | ⟨_,_,h⟩; cases h; exact h
      have e2 : l ≤ hh := by rcases hb' with ⟨_,h⟩ | ⟨_,_,h⟩ <;> omega
      rcases g1 with ⟨rfl,_⟩ | ⟨k1,rfl,_⟩
      ·exact hh'.elim
      rcases g3 with ⟨rfl,_⟩ | ⟨k3,rfl,_⟩
      ·exact hm.elim
      have hbd := Z1az (P := P) (w := w) (isSlice := true) (cap := cp) (len := n) (kh := k1) (km := k3) (m := m) (by omega) e1 g2
      exact ⟨_,Zix hu hi' hbd,Z1b0 hx e2 e1 (by omega) (fun q hq => by cases hq; rfl)⟩
  case array n e =>
   obtain ⟨i,hi',h1⟩ := Option.bind_eq_some_iff.1 h0
   clear h0
   cases x <;> (try simp only at h1) <;> try (cases h1; done)
   case ptr id off =>
    split at h1
    ·cases h1
    rename_i hno
    have hmx : mx = none := by cases mx with
     | none => rfl
     | some _ => simp at hno
    subst hmx
    obtain ⟨hh,h2,hb⟩ := Z3u h1
    obtain ⟨l,hk,hb'⟩ := Z3u h2
    refine ⟨_,hk,fun {B0 w0 E w ok u lo' hi2 mx'} hM hx hl hh' hm => ?_⟩
    have := hm.none_right; subst this
    have g1 := hh'.bound hb
    have g2 := hl.bound hb'
    have e1 : hh ≤ n := by rcases hb with ⟨_,h⟩ | ⟨_,_,h⟩ <;> omega
    have e2 : l ≤ hh := by rcases hb' with ⟨_,h⟩ | ⟨_,_,h⟩ <;> omega
    cases hx with
    | ptr hE =>
     rename_i b m
     have hbd := Zr6 (P := P) (w := w) (isSlice := false) (Nat.le_refl n) g1 g2
     obtain ⟨_,c,e',B,_,hs,_,hB,hc⟩ := hM.loc _ _ _ hE
     have hfit : off + n * i.size ≤ m := by
      have h3 : off + n * i.size ≤ B.size := by simpa [hB] using hno
      have h4 : B.size ≤ c.size := by
       cases B with
       | dead => exact hc.elim
       | iter => exact hc.elim
       | map => exact hc.elim
       | loop => exact hc.elim
       | d q cs => have := hc.2.1; simp at this; simp [Blk.size]; omega
       | a q cs => have := hc.2.1; simp at this; simp [Blk.size]; omega
       | t ty q cs => have := hc.2.2.1; simp at this; simp [Blk.size]; omega
       | td ty q cs => have := hc.2.2.1; simp at this; simp [Blk.size]; omega
      omega
     have hS : Rep E w ok (.slice (some ⟨b,off,none⟩) n n) (.sl id off n (some n) i.size) := Rep.sl hE (Nat.le_refl n) (fun q hq => by cases hq; rfl) hfit (.inl rfl)
     have := Z1b0 hS e2 e1 (Nat.le_refl n) (c' := some (n - l)) (fun q hq => by cases hq; rfl)
     refine ⟨_,Z11y hu hi' hbd,?_⟩
     by_cases hnl : n = l
     ·rw [if_pos hnl] at this ⊢; exact this
     ·rw [if_neg hnl] at this ⊢; exact this
   case lp cs off =>
    split at h1
    ·cases h1
    rename_i hno
    have hmx : mx = none := by cases mx with
     | none => rfl
     | some _ => simp at hno
    subst hmx
    obtain ⟨hh,h2,hb⟩ := Z3u h1
    obtain ⟨l,hk,hb'⟩ := Z3u h2
    refine ⟨_,hk,fun {B0 w0 E w ok u lo' hi2 mx'} hM hx hl hh' hm => ?_⟩
    have := hm.none_right; subst this
    have g1 := hh'.bound hb
    have g2 := hl.bound hb'
    have e1 : hh ≤ n := by rcases hb with ⟨_,h⟩ | ⟨_,_,h⟩ <;> omega
    have e2 : l ≤ hh := by rcases hb' with ⟨_,h⟩ | ⟨_,_,h⟩ <;> omega
    cases hx with
    | lp hok h1' hcell hrep =>
     rename_i b base f
     have hbd := Zr6 (P := P) (w := w) (isSlice := false) (Nat.le_refl n) g1 g2
     have hD : RepD w ok (.slice (some ⟨b,base + off,none⟩) n n) (.list n (some n) (cs.drop off)) := by
      refine .list (f := fun j => f (off + j)) hok (Nat.le_refl n) (fun q hq => by cases hq; rfl) (fun d hd => h1' d (List.mem_of_mem_drop hd)) (fun j hj => ?_) (fun j d hd => ?_)
      ·simp at hj
       rw [Nat.add_assoc]; exact hcell _ (by omega)
      ·rw [List.getElem?_drop] at hd; exact hrep _ d hd
     have := Z174 (s := i.size) hD e2 e1 e1 (Nat.le_refl n) (c' := some (n - l)) (fun q hq => by cases hq; rfl)
     rw [List.drop_drop] at this
     refine ⟨_,Z11y hu hi' hbd,.d ?_⟩
     by_cases hnl : n = l
     ·rw [if_pos hnl] at this ⊢; exact this
     ·rw [if_neg hnl] at this ⊢; exact this
end Go.Ev
/-
 Indexing,fields,lengths,tuples,function values.
-/
set_option linter.unusedSimpArgs false
set_option linter.unusedVariables false
namespace Go.Ev
open Go Go.RowKit
variable {R : Type} {P : Program}
theorem Zvi {t e : TypeId} {i : TypeInfo} (hu : P.underlying t = some (.slice e)) (hi : P.info? e = some i) {w : World} {a : Addr} {n cap : Nat} {kd : IntKind} {j : Int} (h0 : 0 ≤ j) (h1 : j < n) :
  (Instr.indexAt t (.slice (some a) n cap) (.int kd j)).run P w = .ok (.pointer (some (a.add (j.toNat * i.size)))) w := by
 simp [Instr.indexAt,asIntOf,Sem.run_bind,run_underlying hu,sizeOf,typeInfo,hi,h0,h1]
theorem Zvj {t e : TypeId} {i : TypeInfo} {n : Nat} (hu : P.underlying t = some (.array n e)) (hi : P.info? e = some i) {w : World} {a : Addr} {kd : IntKind} {j : Int} (h0 : 0 ≤ j) (h1 : j < n) :
  (Instr.indexAt t (.pointer (some a)) (.int kd j)).run P w = .ok (.pointer (some (a.add (j.toNat * i.size)))) w := by
 simp [Instr.indexAt,Instr.sureAddr,asIntOf,Sem.run_bind,run_underlying hu,sizeOf,typeInfo,hi,h0,h1]
theorem Z11z {t : TypeId} {x i : AV} {k : AV → Option R} {r : R} (h : Zr3 P t x i k = some r) :
  ∃ v,k v = some r ∧ ∀ {E w ok u j},Rep E w ok u x → Rep E w ok j i → ∃ z,(Instr.indexAt t u j).run P w = .ok z w ∧ Rep E w ok z v := by
 unfold Zr3 at h
 obtain ⟨p,hp,h1⟩ := Option.bind_eq_some_iff.1 h
 clear h
 have hi := Zxz hp
 subst hi
 cases hu : P.underlying t with
 | none => rw [hu] at h1; cases h1
 | some d =>
  rw [hu] at h1
  cases d <;> (try simp only at h1) <;> try (cases h1; done)
  case slice e =>
   obtain ⟨ei,hei,h2⟩ := Option.bind_eq_some_iff.1 h1
   clear h1
   cases x <;> (try simp only at h2) <;> try (cases h2; done)
   case d xd =>
    cases xd <;> (try simp only at h2) <;> try (cases h2; done)
    rename_i n cap cs
    split at h2
    ·rename_i hb
     refine ⟨_,h2,fun {E w ok u j} hx hj => ?_⟩
     obtain ⟨rfl,_⟩ := hj.v_inv
     cases hx with
     | d hx =>
      cases hx with
      | nil _ => omega
      | list hok hn hcap h1' hcell hrep =>
       refine ⟨_,Zvi hu hei hb.1 hb.2,?_⟩
       rw [Znm]
       exact .lp hok h1' hcell hrep
    ·cases h2
   case sl id off n cap sz =>
    split at h2
    ·rename_i hsz
     split at h2
     ·rename_i hb
      refine ⟨_,h2,fun {E w ok u j} hx hj => ?_⟩
      obtain ⟨rfl,_⟩ := hj.v_inv
      cases hx with
      | slz => omega
      | sl hE hn hcap hfit hoff =>
       refine ⟨_,Zvi hu hei hb.1 hb.2,?_⟩
       rw [Znm]
       rcases hoff with rfl | h0
       ·exact .ptr hE
       ·omega
     ·cases h2
    ·cases h2
  case array n e =>
   obtain ⟨ei,hei,h2⟩ := Option.bind_eq_some_iff.1 h1
   clear h1
   split at h2
   ·cases x <;> (try simp only at h2) <;> try (cases h2; done)
    case ptr id off =>
     split at h2
     ·rename_i hb
      refine ⟨_,h2,fun {E w ok u j} hx hj => ?_⟩
      obtain ⟨rfl,_⟩ := hj.v_inv
      cases hx with
      | ptr hE =>
       refine ⟨_,Zvj hu hei hb.1 hb.2,?_⟩
       rw [Znm]
       exact .ptr hE
     ·cases h2
    case lp cs off =>
     split at h2
     ·rename_i hb
      refine ⟨_,h2,fun {E w ok u j} hx hj => ?_⟩
      obtain ⟨rfl,_⟩ := hj.v_inv
      cases hx with
      | lp hok h1' hcell hrep =>
       refine ⟨_,Zvj hu hei hb.1 hb.2,?_⟩
       rw [Znm,Nat.add_assoc]
       exact .lp hok h1' hcell hrep
     ·cases h2
   ·cases h2
theorem Z1fu {s : TypeId} {f : Nat} {p : Nat × Nat} (h : Z1ec P s f = some p) : ∃ fs g i,P.underlying s = some (.struct fs) ∧ fs[f]? = some g ∧ P.info? g.type = some i ∧ i.size ≠ 0 ∧ p = (g.offset,i.size) := by
 unfold Z1ec at h
 split at h
 ·rename_i fs hu
  obtain ⟨g,hg,h1⟩ := Option.bind_eq_some_iff.1 h
  obtain ⟨i,hi,h2⟩ := Option.bind_eq_some_iff.1 h1
  split at h2
  ·cases h2
  ·rename_i hz; cases h2; exact ⟨fs,g,i,hu,hg,hi,hz,rfl⟩
 ·cases h
theorem Zy0 {s : TypeId} {f : Nat} {p : Nat × Nat} (h : Z1ec P s f = some p) {w : World} {a : Addr} : (Instr.fieldAt s (.pointer (some a)) f).run P w = .ok (.pointer (some (a.add p.1))) w := by
 obtain ⟨fs,g,i,hu,hg,hi,hz,rfl⟩ := Z1fu h
 simp [Instr.fieldAt,Instr.sureAddr,Sem.run_bind,run_underlying hu,hg,fieldPlace,sizeOf,typeInfo,hi,hz]
theorem Z1dn {t : TypeId} {cs : List D} {off : Nat} {k : AV → Option R} {r : R} (h : partK P t cs off k = some r) :
  ∃ v,k v = some r ∧ ∀ {E w ok u},RepD w ok u (.agg cs) → ∃ c,u = .agg c ∧ ∃ z,(part t c off).run P w = .ok z w ∧ Rep E w ok z v := by
 unfold partK at h
 obtain ⟨d,hu,h1⟩ := Option.bind_eq_some_iff.1 h
 obtain ⟨i,hi,h2⟩ := Option.bind_eq_some_iff.1 h1
 clear h h1
 split at h2
 ·rename_i hrow
  split at h2
  ·rename_i hfit
   refine ⟨_,h2,fun {E w ok u} hx => ?_⟩
   obtain ⟨l1,p1,o1,_⟩ := Z3z hx
   have e1 := Z4h hx
   refine ⟨u.cells.toList.toArray,e1,_,Zxx (P := P) hu (by rw [hi]; rfl) (fun hr => by rw [hrow] at hr; cases hr) (by rw [← l1] at hfit; simpa using hfit) w,?_⟩
   simp only [whole,hrow,if_true]
   refine .d (.agg (by simp only [List.toList_toArray,List.length_take,List.length_drop,l1]) (fun d hd => o1 d (List.mem_of_mem_drop (List.mem_of_mem_take hd))) (fun j x d hx hd => ?_))
   rw [List.getElem?_take] at hx hd
   split at hd
   ·rename_i hj
    rw [if_pos hj,List.getElem?_drop] at hx
    rw [List.getElem?_drop] at hd
    obtain ⟨y,hy,hr⟩ := p1 _ d hd
    rw [hy] at hx; cases hx; exact hr
   ·cases hd
  ·cases h2
 ·rename_i hrow
  obtain ⟨d',hd',hk,_⟩ := Z150 h2
  refine ⟨_,hk,fun {E w ok u} hx => ?_⟩
  obtain ⟨l1,p1,o1,_⟩ := Z3z hx
  have e1 := Z4h hx
  obtain ⟨y,hy,hr⟩ := p1 _ _ hd'
  refine ⟨u.cells.toList.toArray,e1,y,?_,.d hr⟩
  unfold part
  simp only [Sem.run_bind,Z151 hu,hrow,Result.andThen_ok,Bool.false_eq_true,if_false]
  have : u.cells.toList.toArray[off]? = some y := by rw [List.getElem?_toArray]; exact hy
  rw [this]; rfl
theorem Z1b2 {t : TypeId} {x i : AV} {k : AV → Option R} {r : R} (h : indexK P t x i k = some r) :
  ∃ v,k v = some r ∧ ∀ {E w ok u j},Rep E w ok u x → Rep E w ok j i → ∃ z,(Instr.index t u j).run P w = .ok z w ∧ Rep E w ok z v := by
 unfold indexK at h
 obtain ⟨p,hp,h1⟩ := Option.bind_eq_some_iff.1 h
 clear h
 have hi := Zxz hp
 subst hi
 split at h1
 ·rename_i n e cs hu
  obtain ⟨ei,hei,h2⟩ := Option.bind_eq_some_iff.1 h1
  clear h1
  split at h2
  ·rename_i hb
   obtain ⟨v,hk,hs⟩ := Z1dn h2
   refine ⟨v,hk,fun {E w ok u j} hx hj => ?_⟩
   obtain ⟨rfl,_⟩ := hj.v_inv
   cases hx with
   | d hx =>
    obtain ⟨c,rfl,z,hz,hr⟩ := hs (E := E) hx
    exact ⟨z,by simp [Instr.index,asIntOf,Sem.run_bind,run_underlying hu,hb.1,hb.2,sizeOf,typeInfo,hei,hz],hr⟩
  ·cases h2
 ·rename_i s hu
  split at h1
  ·rename_i hb
   refine ⟨_,h1,fun {E w ok u j} hx hj => ?_⟩
   obtain ⟨rfl,_⟩ := hj.v_inv
   obtain ⟨rfl,_⟩ := hx.v_inv
   refine ⟨_,?_,.ofV rfl⟩
   have hlt : p.2.toNat < s.size := by omega
   have : s[p.2.toNat]? = some (s.data.toList.getD p.2.toNat 0) := by
    rw [getElem?_pos s p.2.toNat hlt]
    have h2 : p.2.toNat < s.data.toList.length := by simpa using hlt
    rw [List.getD_eq_getElem?_getD,List.getElem?_eq_getElem h2]
    rfl
   simp [Instr.index,asIntOf,Sem.run_bind,run_underlying hu,hb.1,this]
  ·cases h1
 ·cases h1
theorem Z1b3 {t : TypeId} {x : AV} {f : Nat} {k : AV → Option R} {r : R} (h : fieldK P t x f k = some r) :
  ∃ v,k v = some r ∧ ∀ {E w ok u},Rep E w ok u x → ∃ z,(Instr.field t u f).run P w = .ok z w ∧ Rep E w ok z v := by
 unfold fieldK at h
 split at h
 ·rename_i fs cs hu
  obtain ⟨g,hg,h2⟩ := Option.bind_eq_some_iff.1 h
  obtain ⟨v,hk,hs⟩ := Z1dn h2
  refine ⟨v,hk,fun {E w ok u} hx => ?_⟩
  cases hx with
  | d hx =>
   obtain ⟨c,rfl,z,hz,hr⟩ := hs (E := E) hx
   exact ⟨z,by simp [Instr.field,Sem.run_bind,run_underlying hu,hg,asAgg,hz],hr⟩
 ·cases h
theorem Z1fv {t : TypeId} {ty : TypeId} {x : AV} {k : AV → Option R} {r : R} (h : lenK P t x k = some r) :
  ∃ v,k v = some r ∧ ∀ {E w ok u},Rep E w ok u x → ∃ z,(Builtin.len_ #[t] ty #[u]).run P w = .ok z w ∧ Rep E w ok z v := by
 unfold lenK at h
 split at h
 ·rename_i hu
  split at h
  ·refine ⟨_,h,fun {E w ok u} hx => ⟨_,?_,.ofV rfl⟩⟩
   obtain ⟨rfl,_⟩ := hx.v_inv
   simp [Builtin.len_,Sem.run_bind,run_underlying hu,goInt]
  ·cases h
 ·rename_i e hu
  split at h
  ·refine ⟨_,h,fun {E w ok u} hx => ⟨_,?_,.ofV rfl⟩⟩
   cases hx with
   | d hx =>
    obtain ⟨a,cp,rfl,_⟩ := Zsw hx
    simp [Builtin.len_,Sem.run_bind,run_underlying hu,goInt]
  ·refine ⟨_,h,fun {E w ok u} hx => ⟨_,?_,.ofV rfl⟩⟩
   obtain ⟨a,cp,rfl,_⟩ := Zvh hx
   simp [Builtin.len_,Sem.run_bind,run_underlying hu,goInt]
  ·cases h
 ·cases h
theorem Z1fw {t : TypeId} {ty : TypeId} {x : AV} {k : AV → Option R} {r : R} (h : capK P t x k = some r) :
  ∃ v,k v = some r ∧ ∀ {E w ok u},Rep E w ok u x → ∃ z,(Builtin.cap_ #[t] ty #[u]).run P w = .ok z w ∧ Rep E w ok z v := by
 unfold capK at h
 split at h
 ·rename_i e hu
  split at h
  ·refine ⟨_,h,fun {E w ok u} hx => ⟨_,?_,.ofV rfl⟩⟩
   cases hx with
   | d hx =>
    obtain ⟨a,cp,rfl,_,hc⟩ := Zsw hx
    simp [Builtin.cap_,Sem.run_bind,run_underlying hu,goInt,hc _ rfl]
  ·refine ⟨_,h,fun {E w ok u} hx => ⟨_,?_,.ofV rfl⟩⟩
   obtain ⟨a,cp,rfl,_,hc⟩ := Zvh hx
   simp [Builtin.cap_,Sem.run_bind,run_underlying hu,goInt,hc _ rfl]
  ·cases h
 ·cases h
theorem Zsx {mn : Bool} {xs : List AV} {k : AV → Option R} {r : R} (h : Z1eh mn xs k = some r) :
  ∃ v,k v = some r ∧ ∀ {E w ok} {us : List Value} (at_ : Array TypeId) (ty : TypeId),us.length = xs.length → (∀ (i : Nat) u x,us[i]? = some u → xs[i]? = some x → Rep E w ok u x) →
   ∃ z,(if mn then Builtin.min_ at_ ty us.toArray else Builtin.max_ at_ ty us.toArray).run P w = .ok z w ∧ Rep E w ok z v := by
 unfold Z1eh at h
 split at h
 ·rename_i k1 a k2 b g
  refine ⟨_,h,fun {E w ok us} at_ ty hl hr => ?_⟩
  match us,hl with
  | [u1,u2],_ =>
   obtain ⟨rfl,_⟩ := (hr 0 u1 _ rfl rfl).v_inv
   obtain ⟨rfl,_⟩ := (hr 1 u2 _ rfl rfl).v_inv
   refine ⟨_,?_,.ofV rfl⟩
   cases mn <;> simp [Builtin.min_,Builtin.max_,Builtin.min2,Builtin.max2,mm]
 ·rename_i k1 a k2 b k3 c g
  refine ⟨_,h,fun {E w ok us} at_ ty hl hr => ?_⟩
  match us,hl with
  | [u1,u2,u3],_ =>
   obtain ⟨rfl,_⟩ := (hr 0 u1 _ rfl rfl).v_inv
   obtain ⟨rfl,_⟩ := (hr 1 u2 _ rfl rfl).v_inv
   obtain ⟨rfl,_⟩ := (hr 2 u3 _ rfl rfl).v_inv
   refine ⟨_,?_,.ofV rfl⟩
   cases mn <;> simp [Builtin.min_,Builtin.max_,Builtin.min2,Builtin.max2,mm]
 ·cases h
end Go.Ev
/-
 Operations that make memory: variables,boxes,literals,slices; append and copy.
-/
set_option linter.unusedSimpArgs false
set_option linter.unusedVariables false
namespace Go.Ev
open Go Go.RowKit
variable {R : Type} {P : Program}
theorem Z13m {x : Value} {d : D} (h : zeroD x = some d) {w : World} {ok : Nat → Prop} : RepD w ok x d ∧ d.one = true ∧ x.oneCell' = true := by
 have key : RepD w ok x d ∧ d.one = true := by
  unfold zeroD at h
  split at h
  ·cases h; exact ⟨.nil (.inr rfl),rfl⟩
  ·split at h
   ·rename_i hl; cases h; exact ⟨.v hl,rfl⟩
   ·cases h
 exact ⟨key.1,key.2,key.1.one key.2⟩
theorem zerosD_some : ∀ {xs : List Value} {ds : List D},zerosD xs = some ds → xs.length = ds.length ∧ (∀ {w ok},PW (RepD w ok) xs ds) ∧ (∀ d,d ∈ ds → d.one = true) ∧ ∀ x,x ∈ xs → x.oneCell' = true
 | [],ds,h => by simp [zerosD] at h; subst h; exact ⟨rfl,fun j a ha => by simp at ha,by simp,by simp⟩
 | x :: r,ds,h => by
  simp only [zerosD] at h
  obtain ⟨d,hd,h1⟩ := Option.bind_eq_some_iff.1 h
  obtain ⟨es,he,h2⟩ := Option.bind_eq_some_iff.1 h1
  cases h2
  obtain ⟨l,p,o,q⟩ := zerosD_some he
  refine ⟨by simp [l],fun {w ok} j a ha => ?_,?_,?_⟩
  ·cases j with
   | zero => simp at ha; subst ha; exact ⟨x,rfl,(Z13m hd).1⟩
   | succ j => simp at ha; simpa using p j a ha
  ·intro d' hd'
   rcases List.mem_cons.1 hd' with rfl | h
   ·exact (Z13m hd (w := default) (ok := fun _ => True)).2.1
   ·exact o _ h
  ·intro d' hd'
   rcases List.mem_cons.1 hd' with rfl | h
   ·exact (Z13m hd (w := default) (ok := fun _ => True)).2.2
   ·exact q _ h
theorem Z67 {t : TypeId} {z : Nat × List D} (h : Zak P t = some z) : ∃ i zv,P.info? t = some i ∧ i.zero = some zv ∧ z.1 = i.size ∧ z.2.length = i.size ∧ zv.cells.toList.length = i.size ∧ (∀ {w ok},PW (RepD w ok) zv.cells.toList z.2) ∧ (∀ d,d ∈ z.2 → d.one = true) ∧ ∀ x,x ∈ zv.cells.toList → x.oneCell' = true := by
 unfold Zak at h
 obtain ⟨i,hi,h1⟩ := Option.bind_eq_some_iff.1 h
 obtain ⟨zv,hz,h2⟩ := Option.bind_eq_some_iff.1 h1
 obtain ⟨ds,hd,h3⟩ := Option.bind_eq_some_iff.1 h2
 split at h3
 ·rename_i hl
  cases h3
  obtain ⟨l,p,o,q⟩ := zerosD_some hd
  exact ⟨i,zv,hi,hz,rfl,hl,by omega,p,o,q⟩
 ·cases h3
theorem Zvk {B0 : Nat} {w0 : World} {ok : Nat → Prop} {E : Env} {L L' : Heap} {id : Nat} {w w1 : World} (hM : Mem B0 w0 ok E L w) (c : Array Value) (e : TypeId) (B : Blk) (hp : Place E L L' id B)
  (h1 : ∀ x,x ∈ c.toList → x.oneCell' = true) (hc : CellsRep E w ok e c.toList B) (hw : w1 = w.alloc (.cells c e)) :
  ∃ E',Mem B0 w0 ok E' L' w1 ∧ Grow E w ok E' w1 ok ∧ E' id = some (w.heap.size,c.size) ∧ Below w.heap.size w w1 ∧ (∀ i,i ≠ id → E' i = E i) ∧ E'.y = E.y := by
 subst hw
 obtain ⟨h,g⟩ := hM.place c e B hp h1 hc
 exact ⟨E.put id (w.heap.size,c.size),h,g,by simp [Env.put],(Below.refl _ _).alloc (Nat.le_refl _) _,fun i hne => by simp [Env.put,hne],rfl⟩
theorem Z1b4 {t : TypeId} {z : Nat × List D} (h : Zak P t = some z) {B0 : Nat} {w0 : World} {ok : Nat → Prop} {E : Env} {L L' : Heap} {id : Nat} {w : World} (hM : Mem B0 w0 ok E L w) (hp : Place E L L' id (newBlk P t z)) :
  ∃ w' E',(Instr.alloc t true (.tuple #[])).run P w = .ok (.pointer (some ⟨w.heap.size,0,none⟩)) w' ∧ Mem B0 w0 ok E' L' w' ∧ Grow E w ok E' w' ok ∧ Rep E' w' ok (.pointer (some ⟨w.heap.size,0,none⟩)) (.ptr id 0) ∧ Below w.heap.size w w' ∧ (∀ i,i ≠ id → E' i = E i) ∧ E'.y = E.y := by
 obtain ⟨i,zv,hi,hz,e1,e2,e3,p,o,q⟩ := Z67 h
 obtain ⟨E',hM',g,hE,hb,hn⟩ := Zvk (w1 := w.alloc (.cells zv.cells t)) hM zv.cells t (newBlk P t z) hp q (by
  unfold newBlk
  cases selfT P t with
  | false => exact ⟨by omega,by omega,o,p⟩
  | true => exact ⟨rfl,by simp; omega,by omega,PW.toAV p⟩) rfl
 exact ⟨_,E',by simp [Instr.alloc,Sem.run_bind,zeroValue,typeInfo,hi,hz,newVar,newRow,newObj,Sem.run],hM',g,.ptr hE,hb,hn⟩
theorem Z1do {size : Nat} {x : AV} {k : Blk → Option R} {r : R} (h : blkOf size x k = some r) :
  ∃ B,k B = some r ∧ B.ok ∧ ∀ {E w ok u} {e : TypeId},Rep E w ok u x → CellsRep E w ok e u.cells.toList B ∧ ∀ v,v ∈ u.cells.toList → v.oneCell' = true := by
 unfold blkOf at h
 split at h
 ·rename_i cs
  split at h
  ·rename_i hl
   refine ⟨_,h,by first | exact hl | rfl,fun hu => ?_⟩
   cases hu with
   | d hu =>
    obtain ⟨l1,p1,o1,q1⟩ := Z3z hu
    exact ⟨⟨hl,by omega,o1,p1⟩,q1⟩
  ·cases h
 ·rename_i d hd
  split at h
  ·rename_i h1
   refine ⟨_,h,by first | exact hl | rfl,fun hu => ?_⟩
   cases hu with
   | d hu =>
    have hc := Ziv (hu.one h1.2)
    rw [hc]
    exact ⟨⟨rfl,by simp,by simp [h1.2],pw_one hu⟩,by simp [hu.one h1.2]⟩
  ·cases h
 ·rename_i cs
  split at h
  ·rename_i hl
   refine ⟨_,h,by first | exact hl | rfl,fun hu => ?_⟩
   obtain ⟨l1,p1,o1,q1⟩ := Zxw hu
   exact ⟨⟨hl,by omega,p1⟩,q1⟩
  ·cases h
 ·split at h
  ·rename_i h1
   refine ⟨_,h,by first | exact hl | rfl,fun hu => ?_⟩
   have hc := Ziv (hu.one h1.2)
   rw [hc]
   exact ⟨⟨rfl,by simp,pw_one hu⟩,by simp [hu.one h1.2]⟩
  ·cases h
theorem Z1fx {t : TypeId} {B0 : Nat} {w0 : World} {ok : Nat → Prop} {E : Env} {L L' : Heap} {id : Nat} {w : World} (hM : Mem B0 w0 ok E L w) {u : Value} {B : Blk} (hp : Place E L L' id B) (hc : CellsRep E w ok t u.cells.toList B) (h1 : ∀ v,v ∈ u.cells.toList → v.oneCell' = true) :
  ∃ w' E',(Instr.box t u).run P w = .ok (.pointer (some ⟨w.heap.size,0,none⟩)) w' ∧ Mem B0 w0 ok E' L' w' ∧ Grow E w ok E' w' ok ∧ Rep E' w' ok (.pointer (some ⟨w.heap.size,0,none⟩)) (.ptr id 0) ∧ Below w.heap.size w w' ∧ (∀ i,i ≠ id → E' i = E i) ∧ E'.y = E.y := by
 obtain ⟨E',hM',g,hE,hb,hn⟩ := Zvk (w1 := w.alloc (.cells u.cells t)) hM u.cells t B hp h1 hc rfl
 exact ⟨_,E',by simp [Instr.box,Sem.run_bind,newVar,newRow,newObj,Sem.run],hM',g,.ptr hE,hb,hn⟩
theorem Z1dp (o : Nat) : ∀ (vs : List Value) (i : Nat) (cs : Array Value),o + i + vs.length ≤ cs.size →
  ((vs.zipIdx i).foldl (fun cs (c,j) => cs.setIfInBounds (o + j) c) cs).toList = cs.toList.take (o + i) ++ (vs ++ cs.toList.drop (o + i + vs.length))
 | [],i,cs,_ => by simp
 | v :: vs,i,cs,h => by
  simp only [List.zipIdx_cons,List.foldl_cons]
  rw [Z1dp o vs (i + 1) _ (by simp at h ⊢; omega)]
  have e := list_seg_step cs.toList (o + i) v vs (by simp at h ⊢; omega)
  simpa [Array.toList_setIfInBounds,Nat.add_assoc] using e
theorem Zr5 {n : Nat} {place : Nat → Option (Nat × Nat)} : ∀ {parts : List (Nat × AV)} {cs : List AV} {k : List AV → Option R} {r : R},fillK n place cs parts k = some r → cs.length = n →
  ∃ cs',k cs' = some r ∧ cs'.length = n ∧ ∀ {E : Env} {w : World} {ok : Nat → Prop} {c : Array Value} {ps : List (Nat × Value)},c.size = n → PW (Rep E w ok) c.toList cs → (∀ x,x ∈ c.toList → x.oneCell' = true) →
   ps.length = parts.length → (∀ (i : Nat) p q,ps[i]? = some p → parts[i]? = some q → p.1 = q.1 ∧ Rep E w ok p.2 q.2) →
   ∃ c',Instr.fill place c ps = some c' ∧ c'.size = n ∧ PW (Rep E w ok) c'.toList cs' ∧ ∀ x,x ∈ c'.toList → x.oneCell' = true
 | [],cs,k,r,h,hn => ⟨cs,h,hn,fun {E w ok c ps} hc hp h1 hl hr => by
   have : ps = [] := List.eq_nil_of_length_eq_zero (by simpa using hl)
   subst this
   exact ⟨c,rfl,hc,hp,h1⟩⟩
 | (i,x) :: parts,cs,k,r,h,hn => by
  simp only [fillK] at h
  obtain ⟨⟨off,size⟩,hpl,h2⟩ := Option.bind_eq_some_iff.1 h
  clear h
  simp only at h2
  have step : ∀ (ys : List AV),off + ys.length ≤ n → (∀ {E w ok u},Rep E w ok u x → u.cells.toList.length = ys.length ∧ ys.length = size ∧ PW (Rep E w ok) u.cells.toList ys ∧ ∀ v,v ∈ u.cells.toList → v.oneCell' = true) →
    fillK n place (cs.take off ++ (ys ++ cs.drop (off + ys.length))) parts k = some r →
    ∃ cs',k cs' = some r ∧ cs'.length = n ∧ ∀ {E : Env} {w : World} {ok : Nat → Prop} {c : Array Value} {ps : List (Nat × Value)},c.size = n → PW (Rep E w ok) c.toList cs → (∀ x,x ∈ c.toList → x.oneCell' = true) →
     ps.length = ((i,x) :: parts).length → (∀ (j : Nat) p q,ps[j]? = some p → ((i,x) :: parts)[j]? = some q → p.1 = q.1 ∧ Rep E w ok p.2 q.2) →
     ∃ c',Instr.fill place c ps = some c' ∧ c'.size = n ∧ PW (Rep E w ok) c'.toList cs' ∧ ∀ x,x ∈ c'.toList → x.oneCell' = true := by
   intro ys hfit hys hk
   obtain ⟨cs',hk',hl',hs⟩ := Zr5 hk (by rw [Zxv (by omega)]; exact hn)
   refine ⟨cs',hk',hl',fun {E w ok c ps} hc hp h1 hl hr => ?_⟩
   match ps,hl with
   | (i',u) :: ps,hl =>
    obtain ⟨hi,hu⟩ := hr 0 (i',u) (i,x) rfl rfl
    simp only at hi hu
    subst hi
    obtain ⟨l1,l2,p1,o1⟩ := hys hu
    have hsz : u.cells.size = size := by simp at l1; omega
    have hfo := Z1dp off u.cells.toList 0 c (by simp at l1 ⊢; omega)
    simp only [Nat.add_zero] at hfo
    have e1 : u.cells.zipIdx.foldl (fun cs (c,j) => cs.setIfInBounds (off + j) c) c = (u.cells.toList.zipIdx 0).foldl (fun cs (c,j) => cs.setIfInBounds (off + j) c) c := by
     rw [← Array.foldl_toList]; simp
    obtain ⟨c',hc',r1,r2,r3⟩ := hs (E := E) (w := w) (ok := ok) (c := (u.cells.toList.zipIdx 0).foldl (fun cs (c,j) => cs.setIfInBounds (off + j) c) c) (ps := ps)
     (by rw [← Array.length_toList,hfo]; simp at l1 ⊢; omega)
     (by rw [hfo,← List.append_assoc]; exact PW.splice hp p1 l1 (by omega) (by simp; omega))
     (by rw [hfo]; exact Z173 (p := fun (v : Value) => v.oneCell' = true) h1 o1)
     (by simpa using hl) (fun j p q hp hq => hr (j + 1) p q hp hq)
    refine ⟨c',?_,r1,r2,r3⟩
    simp only [Instr.fill,hpl,hsz]
    rw [if_neg (by simp at l1 ⊢; omega),e1]
    exact hc'
  cases x with
  | d xd =>
   cases xd with
   | agg ys =>
    simp only at h2
    split at h2
    ·rename_i hys
     obtain ⟨zs,hk,hz⟩ := Z13l h2
     obtain ⟨hle,rfl⟩ := hz hn (by simpa using hys)
     refine step (ys.map AV.d) (by simp; omega) (fun hu => ?_) (by simpa [hys] using hk)
     cases hu with
     | d hu =>
      obtain ⟨l1,p1,o1,q1⟩ := Z3z hu
      exact ⟨by simpa using l1,by simpa using hys,PW.toAV p1,q1⟩
    ·cases h2
   | _ =>
    simp only at h2
    split at h2
    ·rename_i hx
     obtain ⟨hs1,hoff,hone⟩ := hx
     rw [Zr4 cs off _ (by omega)] at h2
     refine step [_] (by simp; omega) (fun hu => ?_) h2
     have hc := Ziv (hu.one hone)
     rw [hc]
     exact ⟨rfl,by simp [hs1],pw_one hu,by simp [hu.one hone]⟩
    ·cases h2
  | agg ys =>
   simp only at h2
   split at h2
   ·rename_i hys
    obtain ⟨zs,hk,hz⟩ := Z13l h2
    obtain ⟨hle,rfl⟩ := hz hn hys
    refine step ys (by omega) (fun hu => ?_) (by rw [hys]; exact hk)
    obtain ⟨l1,p1,o1,q1⟩ := Zxw hu
    exact ⟨l1,hys,p1,q1⟩
   ·cases h2
  | _ =>
   simp only at h2
   split at h2
   ·rename_i hx
    obtain ⟨hs1,hoff,hone⟩ := hx
    rw [Zr4 cs off _ (by omega)] at h2
    refine step [_] (by simp; omega) (fun hu => ?_) h2
    have hc := Ziv (hu.one hone)
    rw [hc]
    exact ⟨rfl,by simp [hs1],pw_one hu,by simp [hu.one hone]⟩
   ·cases h2
theorem Z1jk {E : Env} {w : World} {ok : Nat → Prop} {c : List Value} {cs : List AV} (h : PW (Rep E w ok) c cs) (hl : c.length = cs.length) : ∀ (i : Nat) x a,c[i]? = some x → cs[i]? = some a → Rep E w ok x a := by
 intro i x a hx ha
 obtain ⟨y,hy,hr⟩ := h i a ha
 rw [hx] at hy; cases hy; exact hr
theorem Z1kk {α β : Type} (f : α → β) (n : Nat) (cs : List α) (off size : Nat) (xs : List α) : putL n (cs.map f) off size (xs.map f) = (putL n cs off size xs).map f := by
 unfold putL
 split
 ·rfl
 ·simp
theorem Zr7 {n : Nat} {place : Nat → Option (Nat × Nat)} : ∀ {parts : List (Nat × AV)} {cs : List D} {k : List D → Option R} {r : R},fillD n place cs parts k = some r →
  ∃ ds,k ds = some r ∧ fillK n place (cs.map AV.d) parts some = some (ds.map AV.d)
 | [],cs,k,r,h => ⟨cs,h,rfl⟩
 | (i,x) :: parts,cs,k,r,h => by
  simp only [fillD] at h
  obtain ⟨⟨off,size⟩,hpl,h2⟩ := Option.bind_eq_some_iff.1 h
  simp only at h2
  cases x <;> try (cases h2; done)
  case d x =>
   cases x
   case agg ys =>
    simp only at h2
    split at h2
    ·rename_i hys
     unfold put at h2
     split at h2
     ·rename_i hle
      obtain ⟨ds,hk,hf⟩ := Zr7 h2
      refine ⟨ds,hk,?_⟩
      simp only [fillK,hpl,Option.bind_some,hys,if_true,put,hle,Z1kk]
      exact hf
     ·cases h2
    ·cases h2
   all_goals
    simp only at h2
    split at h2
    ·rename_i hc
     obtain ⟨ds,hk,hf⟩ := Zr7 h2
     refine ⟨ds,hk,?_⟩
     simp only [fillK,hpl,Option.bind_some]
     rw [if_pos ⟨hc.1,hc.2.1,hc.2.2⟩,← hf]
     simp
    ·cases h2
theorem Z1kl {w : World} {ok : Nat → Prop} {x : Value} {d : D} (h : RepD w ok x d) (h1 : x.oneCell' = true) : d.one = true := by
 cases h <;> first | rfl | (cases h1; done)
theorem Z1en {E : Env} {w : World} {ok : Nat → Prop} {c : Array Value} {ds : List D} (h : PW (Rep E w ok) c.toList (ds.map AV.d)) (h1 : ∀ x,x ∈ c.toList → x.oneCell' = true) :
  (∀ d,d ∈ ds → d.one = true) ∧ PW (RepD w ok) c.toList ds := by
 have hp : PW (RepD w ok) c.toList ds := fun j d hd => by
  obtain ⟨x,hx,hr⟩ := h j (.d d) (by rw [List.getElem?_map,hd]; rfl)
  cases hr with
  | d hr => exact ⟨x,hx,hr⟩
 refine ⟨fun d hd => ?_,hp⟩
 obtain ⟨j,hj,rfl⟩ := List.getElem_of_mem hd
 obtain ⟨x,hx,hr⟩ := hp j _ (List.getElem?_eq_getElem hj)
 exact Z1kl hr (h1 x (List.mem_of_getElem? hx))
theorem Zy1 {t : TypeId} {z : Nat × List D} (hz : Zak P t = some z) {place : Nat → Option (Nat × Nat)} {parts : List (Nat × AV)} {k : AV → Option R} {r : R}
  (h : buildK z place parts k = some r)
  (hb : ∀ (ps : List (Nat × Value)) c c',(∃ i zv,P.info? t = some i ∧ i.zero = some zv ∧ zv.cells = c) → Instr.fill place c ps = some c' → P.built t ps = some c') :
  ∃ v,k v = some r ∧ ∀ {E : Env} {w : World} {ok : Nat → Prop} {ps : List (Nat × Value)},ps.length = parts.length → (∀ (i : Nat) p q,ps[i]? = some p → parts[i]? = some q → p.1 = q.1 ∧ Rep E w ok p.2 q.2) →
   ∃ y,(Instr.build t ps.toArray).run P w = .ok y w ∧ Rep E w ok y v := by
 obtain ⟨i,zv,hi,hzv,e1,e2,e3,p,o,q⟩ := Z67 hz
 unfold buildK at h
 cases hD : parts.all fun p => p.2.isD with
 | true =>
  rw [hD,cond_true] at h
  obtain ⟨ds,hk,hf⟩ := Zr7 h
  obtain ⟨cs',hk',hl',hs⟩ := Zr5 hf (by simp; omega)
  cases hk'
  refine ⟨_,hk,fun {E w ok ps} hl hr => ?_⟩
  obtain ⟨c',hc',r1,r2,r3⟩ := hs (E := E) (w := w) (ok := ok) (c := zv.cells) (by simp at e3; omega) (PW.toAV p) q hl hr
  refine ⟨_,run_build w t ps.toArray c' (hb ps _ _ ⟨i,zv,hi,hzv,rfl⟩ hc'),?_⟩
  obtain ⟨d1,d2⟩ := Z1en r2 r3
  have : RepD w ok (.agg c'.toList.toArray) (.agg ds) := .agg (by simp at hl'; simp; omega) d1 fun i x d hx hd => by
   obtain ⟨y,hy,hr⟩ := d2 i d hd
   rw [hx] at hy; cases hy; exact hr
  exact .d (by simpa using this)
 | false =>
 rw [hD,cond_false] at h
 obtain ⟨cs',hk,hl',hs⟩ := Zr5 h (by simp; omega)
 split at hk
 ·rename_i hall
  refine ⟨_,hk,fun {E w ok ps} hl hr => ?_⟩
  obtain ⟨c',hc',r1,r2,r3⟩ := hs (E := E) (w := w) (ok := ok) (c := zv.cells) (by simp at e3; omega) (PW.toAV p) q hl hr
  refine ⟨_,run_build w t ps.toArray c' (hb ps _ _ ⟨i,zv,hi,hzv,rfl⟩ hc'),?_⟩
  have := Z1fm (E := E) (w := w) (ok := ok) (vs := c'.toList) (cs := cs') (by simp; omega) (fun c hc => List.all_eq_true.1 hall c hc) (Z1jk r2 (by simp; omega))
  simpa using this
 ·cases hk
theorem Z1b5 {α : Type} : ∀ (n : Nat) (ds : List α) (j : Nat),j < n * ds.length → (List.replicate n ds).flatten[j]? = ds[j % ds.length]?
 | 0,ds,j,h => by simp at h
 | n + 1,ds,j,h => by
  rw [List.replicate_succ,List.flatten_cons]
  by_cases hj : j < ds.length
  ·rw [List.getElem?_append_left hj,Nat.mod_eq_of_lt hj]
  ·rw [List.getElem?_append_right (by omega),Z1b5 n ds (j - ds.length) (by rw [Nat.succ_mul] at h; omega)]
   conv => rhs; rw [Nat.mod_eq_sub_mod (by omega)]
theorem Z1ic {z : Array Value} {n s : Nat} (hs : z.size = s) (j : Nat) (hj : j < n * s) : (madeCells z (n * s)).toList[j]? = z.toList[j % s]? := by
 have hs0 : 0 < s := by
  rcases Nat.eq_zero_or_pos s with h | h
  ·subst h; simp at hj
  ·exact h
 have hm : j % s < z.size := by rw [hs]; exact Nat.mod_lt _ hs0
 simp [madeCells,hj,hs,hm]
 rw [getElem!_pos z _ hm,getElem?_pos z _ hm]
theorem Z153 {z : Array Value} {ds : List D} {s : Nat} (hs : z.toList.length = s) (hd : ds.length = s) {w : World} {ok : Nat → Prop} (p : PW (RepD w ok) z.toList ds) (n : Nat) : PW (RepD w ok) (madeCells z (n * s)).toList (List.replicate n ds).flatten := by
 intro j d hj
 have hlt := (List.getElem?_eq_some_iff.1 hj).1
 simp [hd] at hlt
 rw [Z1b5 n ds j (by rw [hd]; exact hlt),hd] at hj
 rw [Z1ic (by simpa using hs) j hlt]
 exact p _ d hj
theorem Z1ar {z : Array Value} {n s : Nat} (hs : z.size = s) (h1 : ∀ x,x ∈ z.toList → x.oneCell' = true) : ∀ x,x ∈ (madeCells z (n * s)).toList → x.oneCell' = true := by
 intro x hx
 obtain ⟨j,hj,rfl⟩ := List.getElem_of_mem hx
 have hj' : j < n * s := by simpa [size_madeCells] using hj
 have := Z1ic hs j hj'
 rw [List.getElem?_eq_getElem hj] at this
 exact h1 _ (List.mem_of_getElem? this.symm)
theorem Z120 {t e : TypeId} (hu : P.underlying t = some (.slice e)) {z : Nat × List D} (hz : Zak P e = some z) {i : TypeInfo} (hi : P.info? e = some i) {n c : Int} {kn kc : IntKind} (h0 : 0 ≤ n) (h1 : n ≤ c) (h2 : Zmr c.toNat i.bytes)
  {B0 : Nat} {w0 : World} {ok : Nat → Prop} {E : Env} {L L' : Heap} {id : Nat} {w : World} (hM : Mem B0 w0 ok E L w) (hp : Place E L L' id (.d (c.toNat * z.1) (List.replicate c.toNat z.2).flatten)) :
  ∃ y w' E',(Instr.makeSlice t (.int kn n) (.int kc c)).run P w = .ok y w' ∧ Mem B0 w0 ok E' L' w' ∧ Grow E w ok E' w' ok ∧
   Rep E' w' ok y (.sl id 0 n.toNat (some c.toNat) z.1) ∧ Below w.heap.size w w' ∧ (∀ i,i ≠ id → E' i = E i) ∧ E'.y = E.y := by
 obtain ⟨i',zv,hi',hzv,e1,e2,e3,p,o,q⟩ := Z67 hz
 rw [hi] at hi'; cases hi'
 obtain ⟨b1,b2⟩ := h2
 have hb : (i.bytes : Int) * c ≤ 281474976710656 := by
  have h3 := Int.ofNat_le.2 b1
  rw [Int.natCast_mul,show ((c.toNat : Nat) : Int) = c by omega,Int.mul_comm] at h3
  omega
 have hrun := run_make (P := P) w t e i zv hu hi hzv kn kc n c h0 h1 hb (by omega)
 obtain ⟨E',hM',g,hE,hbel,hn⟩ := Zvk (w1 := w.alloc (.cells (madeCells zv.cells (c.toNat * i.size)) e)) hM (madeCells zv.cells (c.toNat * i.size)) e (.d (c.toNat * z.1) (List.replicate c.toNat z.2).flatten) hp
  (Z1ar (by simpa using e3) q) ⟨by simp [e1,e2],by simp [size_madeCells,e1],fun d hd => by
   obtain ⟨l,hl,hd⟩ := List.mem_flatten.1 hd
   rw [(List.mem_replicate.1 hl).2] at hd
   exact o d hd,Z153 e3 e2 p _⟩ rfl
 refine ⟨_,_,E',hrun,hM',g,.sl hE (by omega) (fun q hq => by cases hq; rfl) ?_ (.inl rfl),hbel,hn⟩
 simp [size_madeCells,e1]
theorem Z1km {n : Nat} {cs : List AV} (h : cs.length = n) : (mkBlk n cs).ok := by
 unfold mkBlk
 cases hd : allD cs with
 | none => exact h
 | some ds =>
  have := allD_some hd
  subst this
  simpa [Blk.ok] using h
theorem Z1gp {n : Nat} {place : Nat → Option (Nat × Nat)} {cs : List D} {parts : List (Nat × AV)} {k : Blk → Option R} {r : R} (h : Z1ed n place cs parts k = some r) (hn : cs.length = n) :
  ∃ B,k B = some r ∧ B.ok ∧ ∀ {E : Env} {w : World} {ok : Nat → Prop} {c : Array Value} {ps : List (Nat × Value)},c.size = n → PW (RepD w ok) c.toList cs → (∀ x,x ∈ c.toList → x.oneCell' = true) →
   ps.length = parts.length → (∀ (i : Nat) p q,ps[i]? = some p → parts[i]? = some q → p.1 = q.1 ∧ Rep E w ok p.2 q.2) →
   ∃ c',Instr.fill place c ps = some c' ∧ c'.size = n ∧ (∀ e,CellsRep E w ok e c'.toList B) ∧ ∀ x,x ∈ c'.toList → x.oneCell' = true := by
 unfold Z1ed at h
 cases hD : parts.all fun p => p.2.isD with
 | true =>
  rw [hD,cond_true] at h
  obtain ⟨ds,hk,hf⟩ := Zr7 h
  obtain ⟨cs',hk',hl',hs⟩ := Zr5 hf (by simpa using hn)
  cases hk'
  refine ⟨_,hk,by simpa [Blk.ok] using hl',fun {E w ok c ps} hc hp h1 hl hr => ?_⟩
  obtain ⟨c',hc',r1,r2,r3⟩ := hs hc (PW.toAV hp) h1 hl hr
  obtain ⟨d1,d2⟩ := Z1en r2 r3
  exact ⟨c',hc',r1,fun e => ⟨by simpa using hl',by simp; omega,d1,d2⟩,r3⟩
 | false =>
  rw [hD,cond_false] at h
  obtain ⟨cs',hk,hl',hs⟩ := Zr5 h (by simpa using hn)
  split at hk
  case isFalse => cases hk
  rename_i hall
  refine ⟨_,hk,Z1km hl',fun {E w ok c ps} hc hp h1 hl hr => ?_⟩
  obtain ⟨c',hc',r1,r2,r3⟩ := hs hc (PW.toAV hp) h1 hl hr
  refine ⟨c',hc',r1,fun e => ?_,r3⟩
  unfold mkBlk
  cases hd : allD cs' with
  | none => exact ⟨hl',by simp; omega,r2⟩
  | some ds =>
   have := allD_some hd
   subst this
   refine ⟨by simpa using hl',by simp; omega,fun d hd => ?_,fun j d hd => ?_⟩
   ·have := List.all_eq_true.1 hall (.d d) (List.mem_map_of_mem hd); simpa [AV.one] using this
   ·obtain ⟨x,hx,hr⟩ := r2 j (.d d) (by simp [hd])
    cases hr with
    | d hr => exact ⟨x,hx,hr⟩
theorem Zyr {t e : TypeId} (hu : P.underlying t = some (.slice e)) {z : Nat × List D} (hz : Zak P e = some z) {len : Nat} (hlen : len * z.1 ≤ 2 ^ 24) (hpos : 0 < z.1) {parts : List (Nat × AV)} {k : Blk → Option R} {r : R}
  (h : Z1ed (len * z.1) (fun j => some (j * z.1,z.1)) ((List.replicate len z.2).flatten) parts k = some r) :
  ∃ B,k B = some r ∧ B.ok ∧ ∀ {B0 : Nat} {w0 : World} {ok : Nat → Prop} {E : Env} {L L' : Heap} {id : Nat} {w : World},Mem B0 w0 ok E L w → Place E L L' id B → ∀ {ps : List (Nat × Value)},ps.length = parts.length → (∀ (i : Nat) p q,ps[i]? = some p → parts[i]? = some q → p.1 = q.1 ∧ Rep E w ok p.2 q.2) →
   ∃ y w' E',(Instr.buildSlice t len ps.toArray).run P w = .ok y w' ∧ Mem B0 w0 ok E' L' w' ∧ Grow E w ok E' w' ok ∧
    Rep E' w' ok y (.sl id 0 len (some len) z.1) ∧ Below w.heap.size w w' ∧ (∀ i,i ≠ id → E' i = E i) ∧ E'.y = E.y := by
 obtain ⟨i,zv,hi,hzv,e1,e2,e3,p,o,q⟩ := Z67 hz
 obtain ⟨B,hk,hBo,hs⟩ := Z1gp h (by simp [e2,e1])
 refine ⟨B,hk,hBo,fun {B0 w0 ok E L L' id w} hM hp {ps} hl hr => ?_⟩
 have hzs : zv.cells.size = i.size := by simpa using e3
 obtain ⟨c',hc',r1,hcells,r3⟩ := hs (E := E) (w := w) (ok := ok) (c := madeCells zv.cells (len * i.size)) (by simp [size_madeCells,e1])
  (Z153 e3 e2 p len) (Z1ar hzs q) hl hr
 obtain ⟨E',hM',g,hE,hbel,hn⟩ := Zvk (w1 := w.alloc (.cells c' e)) hM c' e B hp r3 (hcells e) rfl
 refine ⟨_,_,E',?_,hM',g,.sl hE (Nat.le_refl _) (fun q hq => by cases hq; rfl) (by omega) (.inl rfl),hbel,hn⟩
 have hno : ¬ (len * i.size > 2 ^ 24) := by rw [← e1]; omega
 have hfill : Instr.fill (fun j => some (j * i.size,i.size)) (madeCells zv.cells (len * i.size)) ps = some c' := by rw [e1] at hc'; exact hc'
 by_cases h0 : len * i.size = 0
 ·have hm0 : madeCells zv.cells (len * i.size) = #[] := by rw [h0]; simp [madeCells]
  rw [hm0] at hfill
  have hl0 : len = 0 := by
   rcases Nat.mul_eq_zero.1 h0 with h | h
   ·exact h
   ·omega
  simp [Instr.buildSlice,Sem.run_bind,run_underlying hu,sizeOf,typeInfo,hi,hl0,Array.range_zero',hfill,newRow,newObj,Sem.run]
 ·have hno' : ¬ (2 ^ 24 < len * i.size) := hno
  simp only [madeCells] at hfill
  simp [Instr.buildSlice,Sem.run_bind,run_underlying hu,sizeOf,typeInfo,zeroValue,hi,hzv,h0,hno',hfill,newRow,newObj,Sem.run]
theorem Z121 {t e : TypeId} (hu : P.underlying t = some (.slice e)) {z : Nat × List D} (hz : Zak P e = some z) {len : Nat} (hlen : len * z.1 ≤ 2 ^ 24) (hpos : 0 < z.1) {parts : List (Nat × AV)} {k : List D → Option R} {r : R}
  (h : fillD (len * z.1) (fun j => some (j * z.1,z.1)) ((List.replicate len z.2).flatten) parts k = some r) :
  ∃ cs,k cs = some r ∧ ∀ {B0 : Nat} {w0 : World} {ok : Nat → Prop} {E : Env} {L : Heap} {w : World},Mem B0 w0 ok E L w → ∀ {ps : List (Nat × Value)},ps.length = parts.length → (∀ (i : Nat) p q,ps[i]? = some p → parts[i]? = some q → p.1 = q.1 ∧ Rep E w ok p.2 q.2) →
   ∃ y w' ok',(Instr.buildSlice t len ps.toArray).run P w = .ok y w' ∧ Below w.heap.size w w' ∧ Mem B0 w0 ok' E L w' ∧ Grow E w ok E w' ok' ∧ (∀ b,ok' b → ok b ∨ B0 ≤ b) ∧ Rep E w' ok' y (.d (.list len (some len) cs)) := by
 obtain ⟨i,zv,hi,hzv,e1,e2,e3,p,o,q⟩ := Z67 hz
 obtain ⟨ds,hk,hf⟩ := Zr7 h
 obtain ⟨cs',hk',hl',hs⟩ := Zr5 hf (by simp [e2,e1])
 cases hk'
 refine ⟨ds,hk,fun {B0 w0 ok E L w} hM {ps} hl hr => ?_⟩
 have hzs : zv.cells.size = i.size := by simpa using e3
 obtain ⟨c',hc',r1,r2,r3⟩ := hs (E := E) (w := w) (ok := ok) (c := madeCells zv.cells (len * i.size)) (by simp [size_madeCells,e1])
  (PW.toAV (Z153 e3 e2 p len)) (Z1ar hzs q) hl hr
 obtain ⟨d1,d2⟩ := Z1en r2 r3
 have hbel : Below w.heap.size w (w.alloc (.cells c' e)) := (Below.refl _ _).alloc (Nat.le_refl _) _
 obtain ⟨hM',g⟩ := hM.grown hbel
 have hdl : ds.length = len * z.1 := by simpa using hl'
 have hb : (w.alloc (.cells c' e)).heap[w.heap.size]? = some (.cells c' e) := heap_alloc_new w _
 refine ⟨_,_,_,?_,hbel,hM',g,fun q hq => hq.imp id fun h => Nat.le_trans hM.b0 h.1,.d (.list (b := w.heap.size) (off := 0) (cp := len) (f := fun j => c'.getD j undef) (.inr ⟨Nat.le_refl _,by simp⟩) (Nat.le_refl _) (fun c hc => by cases hc; rfl) d1 (fun j hj => ?_) (fun j d hd => ?_))⟩
 ·have hno : ¬ (len * i.size > 2 ^ 24) := by rw [← e1]; omega
  have hfill : Instr.fill (fun j => some (j * i.size,i.size)) (madeCells zv.cells (len * i.size)) ps = some c' := by rw [e1] at hc'; exact hc'
  by_cases h0 : len * i.size = 0
  ·have hm0 : madeCells zv.cells (len * i.size) = #[] := by rw [h0]; simp [madeCells]
   rw [hm0] at hfill
   have hl0 : len = 0 := by
    rcases Nat.mul_eq_zero.1 h0 with h | h
    ·exact h
    ·omega
   simp [Instr.buildSlice,Sem.run_bind,run_underlying hu,sizeOf,typeInfo,hi,hl0,Array.range_zero',hfill,newRow,newObj,Sem.run]
  ·have hno' : ¬ (2 ^ 24 < len * i.size) := hno
   simp only [madeCells] at hfill
   simp [Instr.buildSlice,Sem.run_bind,run_underlying hu,sizeOf,typeInfo,zeroValue,hi,hzv,h0,hno',hfill,newRow,newObj,Sem.run]
 ·rw [Nat.zero_add,cell_of_row _ _ _ c' e _ hb]
  have : j < c'.size := by omega
  simp [this]
 ·obtain ⟨x,hx,hr⟩ := d2 j d hd
  have : c'.getD j undef = x := by
   rw [Array.getElem?_toList] at hx
   obtain ⟨hlt,rfl⟩ := Array.getElem?_eq_some_iff.1 hx
   simp [hlt]
  rw [this]
  exact hr.mono g.oks g.heap
end Go.Ev
/-
 append and copy.
-/
set_option linter.unusedSimpArgs false
set_option linter.unusedVariables false
namespace Go.Ev
open Go Go.RowKit
variable {R : Type} {P : Program}
theorem Zvl {x : AV} {L : Heap} {size : Nat} {k : Nat → List D → Option R} {r : R} (h : srcK x L size k = some r) :
  ∃ m new,k m new = some r ∧ ∀ {B0 w0 ok E w u},Mem B0 w0 ok E L w → Rep E w ok u x →
   ∃ a c vs,u = .slice a m c ∧ vs.length = new.length ∧ new.length = m * size ∧ PW (RepD w ok) vs new ∧ (∀ d,d ∈ new → d.one = true) ∧ (∀ v,v ∈ vs → v.oneCell' = true) ∧
    ∀ n',n' ≤ m → ∀ w',w'.heap = w.heap → (Builtin.firstCells size n' u).run P w' = .ok (vs.take (n' * size)).toArray w' := by
 unfold srcK at h
 split at h
 ·rename_i n cap cs
  split at h
  ·rename_i hl
   refine ⟨n,cs,h,fun {B0 w0 ok E w u} hM hu => ?_⟩
   cases hu with
   | d hu =>
    cases hu with
    | nil hc0 =>
     rename_i a
     refine ⟨a,0,[],rfl,rfl,hl,fun j a ha => by simp at ha,by simp,by simp,fun n' hn' w' hw' => ?_⟩
     obtain rfl : n' = 0 := by omega
     cases a with
     | none => simp [Builtin.firstCells]
     | some a => simp [Builtin.firstCells,loadCells,loadCellsFrom]
    | list hok hn hcap h1 hcell hrep =>
     rename_i b off cp f
     have hpw : PW (RepD w ok) ((List.range cs.length).map f) cs := fun j d hd => by
      have hj := (List.getElem?_eq_some_iff.1 hd).1
      exact ⟨f j,by simp [hj],hrep j d hd⟩
     refine ⟨some ⟨b,off,none⟩,cp,(List.range cs.length).map f,rfl,by simp,hl,hpw,h1,fun v hv => ?_,fun n' hn' w' hw' => ?_⟩
     ·obtain ⟨j,hj,rfl⟩ := List.mem_map.1 hv
      have hj' : j < cs.length := List.mem_range.1 hj
      exact (hrep j _ (List.getElem?_eq_getElem hj')).one (h1 _ (List.getElem_mem hj'))
     ·have hle : n' * size ≤ cs.length := by rw [hl]; exact Nat.mul_le_mul_right _ hn'
      refine run_firstCells_some w' size n' _ n cp _ (by simp; omega) (fun j v hv => ?_)
      rw [Znm]
      rw [List.getElem?_take] at hv
      split at hv
      ·rename_i hj
       rw [List.getElem?_map] at hv
       cases hr : (List.range cs.length)[j]? with
       | none => rw [hr] at hv; cases hv
       | some q =>
        rw [hr] at hv; cases hv
        obtain ⟨hq,rfl⟩ := List.getElem?_eq_some_iff.1 hr
        simp at hq ⊢
        have : w'.cell? ⟨b,off + j,none⟩ = w.cell? ⟨b,off + j,none⟩ := by simp [World.cell?,hw']
        rw [this]; exact hcell j hq
      ·cases hv
  ·cases h
 ·rename_i id off n cap sz
  split at h
  ·rename_i hsz
   split at h
   ·rename_i m cs hB
    obtain ⟨xs,hk,hx⟩ := Znl h
    refine ⟨n,xs,hk,fun {B0 w0 ok E w u} hM hu => ?_⟩
    cases hu with
    | slz hc0 =>
     rename_i a
     obtain ⟨_,rfl⟩ := hx (hM.wf _ _ hB)
     refine ⟨a,0,[],rfl,by simp,by simp,fun j a ha => by simp at ha,by simp,by simp,fun n' hn' w' hw' => ?_⟩
     obtain rfl : n' = 0 := by omega
     cases a with
     | none => simp [Builtin.firstCells]
     | some a => simp [Builtin.firstCells,loadCells,loadCellsFrom]
    | sl hE hn' hcap hm hoff =>
     rename_i off' cp b m'
     obtain ⟨_,c,e',B,hb,hs',h1,hB',hc⟩ := hM.loc _ _ _ hE
     rw [hB] at hB'; cases hB'
     obtain ⟨hlen,hle,ho,hcc⟩ := hc
     obtain ⟨hfit,rfl⟩ := hx hlen
     have hle' : m ≤ c.size := by simpa using hle
     have hpw : PW (RepD w ok) ((c.toList.drop off).take (n * size)) ((cs.drop off).take (n * size)) := fun j d hd => by
      rw [List.getElem?_take] at hd
      split at hd
      ·rename_i hj
       rw [List.getElem?_drop] at hd
       obtain ⟨x,hx,hr⟩ := hcc _ d hd
       exact ⟨x,by rw [List.getElem?_take,if_pos hj,List.getElem?_drop]; exact hx,hr⟩
      ·cases hd
     refine ⟨some ⟨b,off',none⟩,cp,(c.toList.drop off).take (n * size),rfl,by simp; omega,by simp; omega,hpw,fun d hd => ho d (List.mem_of_mem_drop (List.mem_of_mem_take hd)),fun v hv => h1 v (List.mem_of_mem_drop (List.mem_of_mem_take hv)),fun n' hn1 w' hw' => ?_⟩
     have hle2 : n' * size ≤ n * size := Nat.mul_le_mul_right _ hn1
     refine run_firstCells_some w' size n' _ n cp _ (by simp; omega) (fun j v hv => ?_)
     rw [Znm]
     rw [List.getElem?_take] at hv
     split at hv
     ·rename_i hj
      rw [List.getElem?_take] at hv
      split at hv
      ·rw [List.getElem?_drop] at hv
       have hoff' : off' = off := by
        rcases hoff with h | h
        ·exact h
        ·exfalso
         have : n' = 0 := by omega
         subst this; simp at hj
       rw [hoff',cell_of_row w' b (off + j) c e' (0,0) (by rw [hw']; exact hb)]
       simpa using hv
      ·cases hv
     ·cases hv
   ·cases h
  ·cases h
 ·cases h
theorem Zsy {t ty e : TypeId} {i : TypeInfo} {z : Value} (ht : P.underlying t = some (.slice e)) (hi : P.info? e = some i) (hz : i.zero = some z) {w : World}
  {base : Option Addr} {sLen sCap m : Nat} {a : Option Addr} {c : Nat} (hg : sCap < sLen + m) (h63 : sLen + m ≤ 9223372036854775807) (hb : (sLen + m) * i.bytes ≤ 140737488355328)
  {olds news : List Value} (ho : (Builtin.firstCells i.size sLen (.slice base sLen sCap)).run P w.drew = .ok olds.toArray w.drew) (hn : (Builtin.firstCells i.size m (.slice a m c)).run P w.drew = .ok news.toArray w.drew) :
  (Builtin.append_ #[t,t] ty #[.slice base sLen sCap,.slice a m c]).run P w =
   .ok (.slice (some ⟨w.heap.size,0,none⟩) (sLen + m) (grownCap w (sLen + m) sCap e))
    (w.drew.alloc (.cells (olds.toArray ++ news.toArray ++ Builtin.zeroCells z.cells (grownCap w (sLen + m) sCap e - (sLen + m))) e)) := by
 have hno : ¬ (sLen + m ≤ sCap) := by omega
 have h63' : ¬ (9223372036854775807 < ((sLen : Int) + (m : Int))) := by omega
 have hfit := growslice_fits (old := sCap) hg hb
 have h48' : ¬ (281474976710656 < Builtin.nextslicecap (sLen + m) sCap * i.bytes) := by omega
 simp [Builtin.append_,run_underlying ht,sizeOf,typeInfo,zeroValue,hi,hz,Builtin.lenOf,hno,h63',h48',Question.forced,ho,hn,newRow,grownCap]
 congr 2
 apply Array.ext'
 simp [List.append_assoc]
theorem Z154 {t ty e : TypeId} {i : TypeInfo} (ht : P.underlying t = some (.slice e)) (hi : P.info? e = some i) {w : World} {g o sLen sCap m : Nat} {a : Option Addr} {c : Nat} (hroom : sLen + m ≤ sCap)
  {cur : Array Value} {e' : TypeId} (hg : w.heap[g]? = some (.cells cur e' (0,0))) {news : List Value} (hn : (Builtin.firstCells i.size m (.slice a m c)).run P w = .ok news.toArray w) (h1 : ∀ v,v ∈ news → v.oneCell' = true)
  (hfit : o + sLen * i.size + news.length ≤ cur.size) :
  (Builtin.append_ #[t,t] ty #[.slice (some ⟨g,o,none⟩) sLen sCap,.slice a m c]).run P w =
   .ok (.slice (some ⟨g,o,none⟩) (sLen + m) sCap) (w.setRow g (cur.toList.take (o + sLen * i.size) ++ news ++ cur.toList.drop (o + sLen * i.size + news.length)).toArray) := by
 have hst := run_storeCells_at P g (o + sLen * i.size) e' news 0 cur w hg (by simpa using hfit) h1
 simp only [Nat.add_zero] at hst
 simp [Builtin.append_,run_underlying ht,sizeOf,typeInfo,hi,Builtin.lenOf,hroom,hn,Znm,hst]
theorem run_append_zero {t ty e : TypeId} {i : TypeInfo} (ht : P.underlying t = some (.slice e)) (hi : P.info? e = some i) {w : World} {s : Option Addr} {sLen sCap : Nat} {a : Option Addr} {c : Nat} (hroom : sLen ≤ sCap)
  (hn : (Builtin.firstCells i.size 0 (.slice a 0 c)).run P w = .ok #[] w) :
  (Builtin.append_ #[t,t] ty #[.slice s sLen sCap,.slice a 0 c]).run P w = .ok (.slice s sLen sCap) w := by
 cases s with
 | none => simp [Builtin.append_,run_underlying ht,sizeOf,typeInfo,hi,Builtin.lenOf,hroom,hn]
 | some s => simp [Builtin.append_,run_underlying ht,sizeOf,typeInfo,hi,Builtin.lenOf,hroom,hn,storeCells]
theorem Z155 {id : Nat} {c : AV} (h : hasRef id c = true) : ∀ {cs : List AV} {i : Nat},cs[i]? = some c → hasRef.hasRefs id cs = true
 | [],i,hc => by simp at hc
 | x :: r,0,hc => by
  simp at hc
  subst hc
  simp [hasRef.hasRefs,h]
 | x :: r,i + 1,hc => by
  have := Z155 h (cs := r) (i := i) (by simpa using hc)
  simp [hasRef.hasRefs,this]
theorem Rep.moveH {E E' : Env} {w w' : World} {ok ok' : Nat → Prop} (hy : ∀ i l,E.y i = some l → E'.y i = some l) (hok : ∀ b,ok b → ok' b) (hh : ∀ b,ok b → w'.heap[b]? = w.heap[b]?)
  {x : Value} {c : AV} (h : Rep E w ok x c) : (∀ i y,hasRef i c = true → E i = some y → E' i = some y) → Rep E' w' ok' x c := by
 induction h with
 | d h => exact fun _ => .d (h.mono hok hh)
 | agg hlen h1 _ ih => exact fun hr => .agg hlen h1 (fun i x c hx hc => ih i x c hx hc (fun j y hj he => hr j y (Z155 hj hc) he))
 | tup hlen _ ih => exact fun hr => .tup hlen (fun i x c hx hc => ih i x c hx hc (fun j y hj he => hr j y (Z155 hj hc) he))
 | ptr he => exact fun hr => .ptr (hr _ _ (by simp [hasRef]) he)
 | sl he hn hc hm ho => exact fun hr => .sl (hr _ _ (by simp [hasRef]) he) hn hc hm ho
 | slz hc => exact fun _ => .slz hc
 | lp hb h1 hcell hrep => exact fun _ => .lp (hok _ hb) h1 (fun j hj => (World.cell?_of_block (hh _ hb)).trans (hcell j hj)) (fun j d hd => (hrep j d hd).mono hok hh)
 | clo hlen _ ih => exact fun hr => .clo hlen (fun i x c hx hc => ih i x c hx hc (fun j y hj he => hr j y (Z155 hj hc) he))
 | bnd hlen _ ih => exact fun hr => .bnd hlen (fun i x c hx hc => ih i x c hx hc (fun j y hj he => hr j y (Z155 hj hc) he))
 | yld he => exact fun _ => .yld (hy _ _ he)
 | it he => exact fun _ => .it (hy _ _ he)
 | mp he => exact fun _ => .mp (hy _ _ he)
 | junk => exact fun _ => .junk
theorem Rep.move {E E' : Env} {w w' : World} {ok ok' : Nat → Prop} {id : Nat} (hE : ∀ i x,i ≠ id → E i = some x → E' i = some x) (hy : ∀ i l,E.y i = some l → E'.y i = some l) (hok : ∀ b,ok b → ok' b) (hh : ∀ b,ok b → w'.heap[b]? = w.heap[b]?)
  {x : Value} {c : AV} (h : Rep E w ok x c) (hr : hasRef id c = false) : Rep E' w' ok' x c :=
 h.moveH hy hok hh fun i y hi he => hE i y (fun e => by subst e; rw [hr] at hi; cases hi) he
theorem CellsRep.move {e : TypeId} {E E' : Env} {w w' : World} {ok ok' : Nat → Prop} {id : Nat} (hE : ∀ i x,i ≠ id → E i = some x → E' i = some x) (hy : ∀ i l,E.y i = some l → E'.y i = some l) (hok : ∀ b,ok b → ok' b) (hh : ∀ b,ok b → w'.heap[b]? = w.heap[b]?)
  {c : List Value} {B : Blk} (h : CellsRep E w ok e c B) (hr : blkRef id B = false) : CellsRep E' w' ok' e c B := by
 cases B with
 | dead => exact h
 | iter => exact h
 | map => exact h
 | loop => exact h
 | d n cs => exact ⟨h.1,h.2.1,h.2.2.1,fun j d hd => let ⟨x,hx,hr⟩ := h.2.2.2 j d hd; ⟨x,hx,hr.mono hok hh⟩⟩
 | a n cs => exact ⟨h.1,h.2.1,fun j d hd => let ⟨x,hx,hr'⟩ := h.2.2 j d hd; ⟨x,hx,hr'.move hE hy hok hh (by
   have := List.any_eq_false.1 (show cs.any (hasRef id) = false from hr) d (List.mem_of_getElem? hd)
   simpa using this)⟩⟩
 | t ty n cs => exact ⟨h.1,h.2.1,h.2.2.1,fun j d hd => let ⟨x,hx,hr'⟩ := h.2.2.2 j d hd; ⟨x,hx,hr'.move hE hy hok hh (by
   have := List.any_eq_false.1 (show cs.any (hasRef id) = false from hr) d (List.mem_of_getElem? hd)
   simpa using this)⟩⟩
 | td ty n cs => exact ⟨h.1,h.2.1,h.2.2.1,h.2.2.2.1,fun j d hd => let ⟨x,hx,hr⟩ := h.2.2.2.2 j d hd; ⟨x,hx,hr.mono hok hh⟩⟩
theorem SlRep.move {E E' : Env} {w w' : World} {ok ok' : Nat → Prop} {id : Nat} (hE : ∀ i x,i ≠ id → E i = some x → E' i = some x) (hy : ∀ i l,E.y i = some l → E'.y i = some l) (hok : ∀ b,ok b → ok' b) (hh : ∀ b,ok b → w'.heap[b]? = w.heap[b]?)
  {tmps : Array Value} {sl : List AV} (h : SlRep E w ok tmps sl) : SlRep E' w' ok' tmps (kill id sl) := by
 intro t c hc
 unfold kill at hc
 rw [List.getElem?_map] at hc
 cases hs : sl[t]? with
 | none => rw [hs] at hc; cases hc
 | some x =>
  rw [hs] at hc
  simp only [Option.map_some,Option.some.injEq] at hc
  subst hc
  split
  ·exact .junk
  ·rename_i hr; exact (h t x hs).move hE hy hok hh (by simpa using hr)
theorem ObjRep.moveB {E E' : Env} {w w' : World} {ok ok' : Nat → Prop} {id : Nat} (hE : ∀ i x,i ≠ id → E i = some x → E' i = some x) (hy : ∀ i l,E.y i = some l → E'.y i = some l) (hok : ∀ b,ok b → ok' b) (hh : ∀ b,ok b → w'.heap[b]? = w.heap[b]?)
  {o : Obj} {B : Blk} (h : ObjRep E w ok o B) : ObjRep E' w' ok' o (killB id B) := by
 cases o <;> cases B <;> first | exact h | exact h.elim | exact ⟨h.1,h.2.1,h.2.2.1.move hE hy hok hh,by simpa using h.2.2.2.1,h.2.2.2.2⟩ | exact ⟨h.1,fun j e p he hp => ⟨(h.2 j e p he hp).1.mono hok hh,(h.2 j e p he hp).2.mono hok hh⟩⟩
theorem PW.append {α : Type} {ρ : Value → α → Prop} {c1 c2 : List Value} {a1 a2 : List α} (h1 : PW ρ c1 a1) (h2 : PW ρ c2 a2) (hl : c1.length = a1.length) : PW ρ (c1 ++ c2) (a1 ++ a2) := by
 intro j a ha
 by_cases hj : j < a1.length
 ·rw [List.getElem?_append_left (by omega)] at ha ⊢
  exact h1 j a ha
 ·rw [List.getElem?_append_right (by omega)] at ha ⊢
  rw [hl]; exact h2 _ a ha
theorem PW.more {α : Type} {ρ : Value → α → Prop} {c1 : List Value} {a1 : List α} (h1 : PW ρ c1 a1) (c2 : List Value) : PW ρ (c1 ++ c2) a1 := by
 intro j a ha
 obtain ⟨x,hx,hr⟩ := h1 j a ha
 exact ⟨x,by rw [List.getElem?_append_left (List.getElem?_eq_some_iff.1 hx).1]; exact hx,hr⟩
theorem Z156 {z : Array Value} {n s : Nat} (hs : z.size = s) (h1 : ∀ x,x ∈ z.toList → x.oneCell' = true) : ∀ x,x ∈ (Builtin.zeroCells z n).toList → x.oneCell' = true := by
 intro x hx
 have e : Builtin.zeroCells z n = madeCells z (n * s) := by subst hs; rfl
 rw [e] at hx
 exact Z1ar hs h1 x hx
theorem Zy2 {e : TypeId} {z : Nat × List D} (hz : Zak P e = some z) {i : TypeInfo} (hi : P.info? e = some i) :
  ∃ zv,i.zero = some zv ∧ ∀ {w ok E} {olds news : List Value} {n m cap : Nat} {cs new : List D},olds.length = cs.length → cs.length = n * i.size → news.length = new.length → new.length = m * i.size → n + m ≤ cap →
   PW (RepD w ok) olds cs → PW (RepD w ok) news new → (∀ d,d ∈ cs → d.one = true) → (∀ d,d ∈ new → d.one = true) → (∀ v,v ∈ olds → v.oneCell' = true) → (∀ v,v ∈ news → v.oneCell' = true) →
   (∀ x,x ∈ (olds.toArray ++ news.toArray ++ Builtin.zeroCells zv.cells (cap - (n + m))).toList → x.oneCell' = true) ∧ CellsRep E w ok e (olds.toArray ++ news.toArray ++ Builtin.zeroCells zv.cells (cap - (n + m))).toList (.d ((n + m) * i.size) (cs ++ new)) ∧
    (olds.toArray ++ news.toArray ++ Builtin.zeroCells zv.cells (cap - (n + m))).size = cap * i.size := by
 obtain ⟨i',zv,hi',hzv,e1,e2,e3,p,o,q⟩ := Z67 hz
 rw [hi] at hi'; cases hi'
 refine ⟨zv,hzv,fun {w ok E olds news n m cap cs new} h1 h2 h3 h4 h5 p1 p2 o1 o2 q1 q2 => ⟨fun x hx => ?_,⟨?_,?_,?_,?_⟩,?_⟩⟩
 ·simp only [Array.toList_append,List.mem_append] at hx
  rcases hx with (hx | hx) | hx
  ·exact q1 x hx
  ·exact q2 x hx
  ·exact Z156 (by simpa using e3) q x hx
 ·simp [h2,h4,Nat.add_mul]
 ·simp [h1,h2,h3,h4,Nat.add_mul]
 ·intro d hd
  rcases List.mem_append.1 hd with hd | hd
  ·exact o1 d hd
  ·exact o2 d hd
 ·simp only [Array.toList_append]
  exact (p1.append p2 h1).more _
 ·have e4 : zv.cells.size = i.size := by simpa using e3
  simp only [Array.size_append,List.size_toArray,size_zeroCells,h1,h2,h3,h4,e4,← Nat.add_mul]
  congr 1; omega
end Go.Ev
/-
 append and copy,told whole.
-/
set_option linter.unusedSimpArgs false
set_option linter.unusedVariables false
namespace Go.Ev
open Go Go.RowKit
variable {R : Type} {P : Program}
theorem Z3j {w : World} {u : Value} {size : Nat} {vs : List Value} {m : Nat} (h : ∀ n',n' ≤ m → ∀ w' : World,w'.heap = w.heap → (Builtin.firstCells size n' u).run P w' = .ok (vs.take (n' * size)).toArray w') (hl : vs.length = m * size) (w' : World) (hw : w'.heap = w.heap) :
  (Builtin.firstCells size m u).run P w' = .ok vs.toArray w' := by
 have := h m (Nat.le_refl _) w' hw
 rw [this,List.take_of_length_le (by omega)]
theorem Znn {α : Type} {L : List α} {i : Nat} {x : α} (h : L[i]? = some x) : L.set i x = L := by
 apply List.ext_getElem?
 intro j
 by_cases hj : j = i
 ·subst hj
  rw [List.getElem?_set_self (List.getElem?_eq_some_iff.1 h).1,h]
 ·rw [List.getElem?_set_ne (Ne.symm hj)]
theorem Z157 {α : Type} {xs : List α} {m s : Nat} (h : xs.length = m * s) (hm : m = 0) : xs = [] := List.eq_nil_of_length_eq_zero (by rw [h,hm,Nat.zero_mul])
theorem Z1dq {t ty e : TypeId} (hu : P.underlying t = some (.slice e)) {z : Nat × List D} (hz : Zak P e = some z) {i : TypeInfo} (hi : P.info? e = some i) {B0 : Nat} {w0 : World} {ok : Nat → Prop} {E : Env} {L : Heap} {w : World} (hM : Mem B0 w0 ok E L w)
  {base : Option Addr} {n cp m : Nat} {a : Option Addr} {c : Nat} (hg : cp < n + m) (hf : Zmr (n + m) i.bytes) {olds news : List Value} {cs new : List D}
  (l1 : olds.length = cs.length) (l2 : cs.length = n * i.size) (l3 : news.length = new.length) (l4 : new.length = m * i.size) (p1 : PW (RepD w ok) olds cs) (p2 : PW (RepD w ok) news new) (o1 : ∀ d,d ∈ cs → d.one = true) (o2 : ∀ d,d ∈ new → d.one = true)
  (q1 : ∀ v,v ∈ olds → v.oneCell' = true) (q2 : ∀ v,v ∈ news → v.oneCell' = true)
  (ho : ∀ w' : World,w'.heap = w.heap → (Builtin.firstCells i.size n (.slice base n cp)).run P w' = .ok olds.toArray w') (hn : ∀ w' : World,w'.heap = w.heap → (Builtin.firstCells i.size m (.slice a m c)).run P w' = .ok news.toArray w') :
  ∃ y w' E',(Builtin.append_ #[t,t] ty #[.slice base n cp,.slice a m c]).run P w = .ok y w' ∧ Mem B0 w0 ok E' (L ++ [.d ((n + m) * i.size) (cs ++ new)]) w' ∧ Grow E w ok E' w' ok ∧ Rep E' w' ok y (.sl L.length 0 (n + m) none i.size) ∧
   Below w.heap.size w w' ∧ (∀ id,E id = none → id ≠ L.length → E' id = none) := by
 obtain ⟨zv,hzv,hgb⟩ := Zy2 hz hi
 have hge := grownCap_ge w (n + m) cp e
 obtain ⟨g1,g2,g3⟩ := hgb (w := w) (ok := ok) (E := E) l1 l2 l3 l4 hge p1 p2 o1 o2 q1 q2
 have hrun := Zsy (ty := ty) hu hi hzv (base := base) (a := a) (c := c) hg hf.2 hf.1 (ho w.drew rfl) (hn w.drew rfl)
 obtain ⟨E',hM',g,hE,hb,hnn⟩ := Zvk hM.drew _ e (.d ((n + m) * i.size) (cs ++ new)) (Place.push hM.drew _) g1 (g2.grow (Grow.drew E w ok)) rfl
 refine ⟨_,_,E',hrun,hM',(Grow.drew E w ok).trans g,.sl hE hge (fun q hq => by cases hq) (by rw [g3]; omega) (.inl rfl),?_,fun id hid hne => (hnn.1 id hne).trans hid⟩
 exact (Below.refl w.heap.size w).drew.trans hb
theorem CellsRep.killB {e : TypeId} {E : Env} {w : World} {ok : Nat → Prop} {c : List Value} {B : Blk} (h : CellsRep E w ok e c B) (id : Nat) : CellsRep E w ok e c (killB id B) := by
 cases B with
 | dead => exact h
 | iter => exact h
 | map => exact h
 | loop => exact h.elim
 | d n cs => exact h
 | a n cs =>
  refine ⟨by simpa using h.1,h.2.1,fun j a ha => ?_⟩
  rw [List.getElem?_map] at ha
  cases hj : cs[j]? with
  | none => rw [hj] at ha; cases ha
  | some x =>
   rw [hj] at ha
   obtain ⟨v,hv,hr⟩ := h.2.2 j x hj
   refine ⟨v,hv,?_⟩
   simp only [Option.map_some,Option.some.injEq] at ha
   subst ha
   split
   ·exact .junk
   ·exact hr
 | td ty n cs => exact h
 | t ty n cs =>
  refine ⟨h.1,by simpa using h.2.1,h.2.2.1,fun j a ha => ?_⟩
  rw [List.getElem?_map] at ha
  cases hj : cs[j]? with
  | none => rw [hj] at ha; cases ha
  | some x =>
   rw [hj] at ha
   obtain ⟨v,hv,hr⟩ := h.2.2.2 j x hj
   refine ⟨v,hv,?_⟩
   simp only [Option.map_some,Option.some.injEq] at ha
   subst ha
   split
   ·exact .junk
   ·exact hr
theorem Zy3 (id : Nat) (B : Blk) : blkRef id (killB id B) = false := by
 cases B with
 | dead => rfl
 | d n cs => rfl
 | iter => rfl
 | map => rfl
 | loop s p sl ps a b fh =>
  simp only [killB,blkRef,List.any_eq_false,List.mem_map]
  rintro x ⟨y,_,rfl⟩
  by_cases h : hasRef id y = true
  ·simp [h,hasRef]
  ·simp [h]
 | a n cs =>
  simp only [killB,blkRef,List.any_eq_false,List.mem_map]
  rintro x ⟨y,_,rfl⟩
  by_cases h : hasRef id y = true
  ·simp [h,hasRef]
  ·simp [h]
 | td ty n cs => rfl
 | t ty n cs =>
  simp only [killB,blkRef,List.any_eq_false,List.mem_map]
  rintro x ⟨y,_,rfl⟩
  by_cases h : hasRef id y = true
  ·simp [h,hasRef]
  ·simp [h]
theorem Mem.killB {B0 : Nat} {w0 : World} {ok : Nat → Prop} {E : Env} {L : Heap} {w : World} (h : Mem B0 w0 ok E L w) (id : Nat) : Mem B0 w0 ok E (L.map (killB id)) w := by
 refine ⟨h.below,h.okb,h.inj,fun i b m he => ?_,h.b0,fun i B' hi => ?_,h.gl,fun i l hy => ?_,h.yinj,h.yok⟩
 ·obtain ⟨h0,c,e,B,hb,hs,h1,hB,hc⟩ := h.loc i b m he
  exact ⟨h0,c,e,Ev.killB id B,hb,hs,h1,by rw [List.getElem?_map,hB]; rfl,hc.killB id⟩
 ·rw [List.getElem?_map] at hi
  cases hq : L[i]? with
  | none => rw [hq] at hi; cases hi
  | some B =>
   rw [hq] at hi
   have := h.wf i _ hq
   cases hi
   cases B with
   | dead => trivial
   | iter => trivial
   | map => trivial
   | loop => trivial
   | d n' cs' => exact this
   | a n' cs' => simpa [Ev.killB,Blk.ok] using this
   | td ty n' cs' => exact this
   | t ty n' cs' => simpa [Ev.killB,Blk.ok] using this
 ·obtain ⟨h0,o,B,hl,hB,ho⟩ := h.obj i l hy
  exact ⟨h0,o,Ev.killB id B,hl,by rw [List.getElem?_map,hB]; rfl,ho.moveB (id := id) (fun _ _ _ h => h) (fun _ _ h => h) (fun _ h => h) (fun _ _ => rfl)⟩
theorem Z1fy {t ty : TypeId} {sl : List AV} {s x : AV} {L : Heap} {k : List AV → AV → Heap → Option R} {r : R} {base : Own} (h0 : Zxu P base t sl s x L k = some r) :
  ∃ sl' v L',k sl' v L' = some r ∧ sl'.length = sl.length ∧ ∀ {B0 w0 ok E w u us},Mem B0 w0 ok E L w → Rep E w ok u s → Rep E w ok us x → ∀ {tmps},SlRep E w ok tmps sl →
   ∃ y w' E',(Builtin.append_ #[t,t] ty #[u,us]).run P w = .ok y w' ∧ Mem B0 w0 ok E' L' w' ∧ Rep E' w' ok y v ∧ SlRep E' w' ok tmps sl' ∧ Step B0 base E w ok E' w' ok := by
 unfold Zxu at h0
 cases hu : P.underlying t with
 | none => rw [hu] at h0; cases h0
 | some d =>
  rw [hu] at h0
  cases d <;> (try simp only at h0) <;> try (cases h0; done)
  rename_i e
  obtain ⟨z,hz,h1⟩ := Option.bind_eq_some_iff.1 h0
  obtain ⟨i,hi,h2⟩ := Option.bind_eq_some_iff.1 h1
  obtain ⟨m,new,h3,hsrc⟩ := Zvl (P := P) h2
  clear h0 h1 h2
  cases s <;> (try simp only at h3) <;> try (cases h3; done)
  case d sd =>
   cases sd <;> (try simp only at h3) <;> try (cases h3; done)
   rename_i n cap cs
   cases cap with
   | none => cases h3
   | some c =>
    simp only at h3
    by_cases hcn : c = n
    case neg => rw [if_neg hcn] at h3; cases h3
    rw [if_pos hcn] at h3
    subst hcn
    by_cases hm0 : m = 0
    ·rw [if_pos hm0] at h3
     refine ⟨_,_,_,h3,by simp [kill],fun {B0 w0 ok E w u us} hM hu' hx tmps hsl => ?_⟩
     obtain ⟨a,c',vs,rfl,l3,l4,p2,o2,q2,hf⟩ := hsrc hM hx
     cases hu' with
     | d hD =>
      obtain ⟨ab,cp,rfl,hn,hcap⟩ := Zsw hD
      subst hm0
      have hvs : vs = [] := by have := Z157 l4 rfl; subst this; exact List.eq_nil_of_length_eq_zero l3
      subst hvs
      exact ⟨_,w,E,run_append_zero hu hi hn (by simpa using hf 0 (Nat.le_refl _) w rfl),hM,.d hD,hsl,.refl _ _ _ _ _⟩
    ·rw [if_neg hm0] at h3
     split at h3
     ·rename_i hc
      obtain ⟨hfit,hl1,hl2⟩ := hc
      refine ⟨_,_,_,h3,by simp [kill],fun {B0 w0 ok E w u us} hM hu' hx tmps hsl => ?_⟩
      obtain ⟨a,c',vs,rfl,l3,l4,p2,o2,q2,hf⟩ := hsrc hM hx
      obtain ⟨m1,new1,hk1,hs1⟩ := Zvl (P := P) (show srcK (.d (.list c (some c) cs)) L i.size (fun m new => some (m,new)) = some (c,cs) by simp [srcK,hl1])
      cases hk1
      obtain ⟨ab,cp,olds,rfl,e1,e2,e3,e4,e5,e6⟩ := hs1 hM hu'
      cases hu' with
      | d hD =>
       obtain ⟨_,_,hh,hn,hcap⟩ := Zsw hD
       cases hh
       have hcp : c = cp := hcap c rfl
       subst hcp
       obtain ⟨y,w',E',r1,r2,r3,r4,_⟩ := Z1dq (ty := ty) hu hz hi hM (base := ab) (cp := c) (a := a) (c := c') (by omega) hfit e1 e2 l3 l4 e3 p2 e4 o2 e5 q2
        (fun w' hw' => Z3j e6 (by omega) w' hw') (fun w' hw' => Z3j hf (by omega) w' hw')
       exact ⟨y,w',E',r1,r2,r4,hsl.grow r3,.of' r3⟩
     ·cases h3
  case sl id off n cap sz =>
   cases cap with
   | some c =>
    simp only at h3
    by_cases hsz : sz = i.size
    case neg => rw [if_neg hsz] at h3; cases h3
    rw [if_pos hsz] at h3
    subst hsz
    cases hB : L[id]? with
    | none => rw [hB] at h3; cases h3
    | some B =>
     rw [hB] at h3
     cases B <;> (try simp only at h3) <;> try (cases h3; done)
     rename_i b cs
     by_cases hroom : n + m ≤ c
     ·rw [if_pos hroom] at h3
      split at h3
      ·rename_i hc
       obtain ⟨hfitb,hnl⟩ := hc
       refine ⟨_,_,_,h3,by simp [kill],fun {B0 w0 ok E w u us} hM hu' hx tmps hsl => ?_⟩
       obtain ⟨a,c',vs,rfl,l3,l4,p2,o2,q2,hf⟩ := hsrc hM hx
       cases hu' with
       | slz hc0 =>
        have hc00 := hc0 c rfl
        obtain rfl : m = 0 := by omega
        have hnew := Z157 l4 rfl
        subst hnew
        have hvs : vs = [] := List.eq_nil_of_length_eq_zero l3
        subst hvs
        have hspl : cs.take (off + 0 * i.size) ++ ([] ++ cs.drop (off + (0 + 0) * i.size)) = cs := by simp
        rw [hspl,Znn hB]
        exact ⟨_,w,E,run_append_zero hu hi (Nat.le_refl _) (by simpa using hf 0 (Nat.le_refl _) w rfl),hM,.slz hc0,hsl,.refl _ _ _ _ _⟩
       | sl hE hn hcap hm hoff =>
        rename_i off' cp bb mm
        obtain rfl : c = cp := hcap c rfl
        obtain ⟨_,cc,e',B,hb,hs',h1,hB',hcc⟩ := hM.loc _ _ _ hE
        rw [hB] at hB'; cases hB'
        have hle : b ≤ cc.size := by have := hcc.2.1; simpa using this
        by_cases hm0 : m = 0
        ·subst hm0
         have hnew := Z157 l4 rfl
         subst hnew
         have hvs : vs = [] := List.eq_nil_of_length_eq_zero l3
         subst hvs
         have hspl : cs.take (off + n * i.size) ++ ([] ++ cs.drop (off + (n + 0) * i.size)) = cs := by simp
         rw [hspl,Znn hB]
         exact ⟨_,w,E,run_append_zero hu hi hn (by simpa using hf 0 (Nat.le_refl _) w rfl),hM,.sl hE hn hcap hm hoff,hsl,.refl _ _ _ _ _⟩
        ·have hoff' : off' = off := by
          rcases hoff with h | h
          ·exact h
          ·omega
         subst hoff'
         have hmul : (n + m) * i.size = n * i.size + m * i.size := Nat.add_mul _ _ _
         have hrun := Z154 (ty := ty) hu hi (a := a) (c := c') hroom hb (o := off') (Z3j hf (by omega) w rfl) q2 (by omega)
         have hsp := hcc.splice_d (off := off' + n * i.size) (ys := new) (xs := vs) (by omega) l3 p2 o2
         have hfin : off' + n * i.size + new.length = off' + (n + m) * i.size := by omega
         rw [hfin] at hsp
         obtain ⟨hM',g⟩ := hM.splice hE hb hs' h1 (off := off' + n * i.size) q2 (by omega) hsp
         exact ⟨_,_,E,hrun,hM',.sl hE hroom (fun q hq => by cases hq; rfl) hm (.inl rfl),hsl.grow g,.of' g⟩
      ·cases h3
     ·rw [if_neg hroom] at h3
      split at h3
      ·rename_i hc
       obtain ⟨hfit,hnl⟩ := hc
       have h4 : srcK (.sl id off n (some c) i.size) L i.size (fun _ old => k sl (.sl L.length 0 (n + m) none i.size) (L ++ [.d ((n + m) * i.size) (old ++ new)])) = some r := by
        simpa [srcK,hB] using h3
       obtain ⟨m1,old,hk,hs1⟩ := Zvl (P := P) h4
       refine ⟨_,_,_,hk,by simp [kill],fun {B0 w0 ok E w u us} hM hu' hx tmps hsl => ?_⟩
       obtain ⟨a,c',vs,rfl,l3,l4,p2,o2,q2,hf⟩ := hsrc hM hx
       obtain ⟨ab,cp,olds,rfl,e1,e2,e3,e4,e5,e6⟩ := hs1 hM hu'
       obtain ⟨_,_,hh,hn,hcap⟩ := Zvh hu'
       cases hh
       have hcp : c = cp := hcap c rfl
       subst hcp
       obtain ⟨y,w',E',r1,r2,r3,r4,_⟩ := Z1dq (ty := ty) hu hz hi hM (base := ab) (cp := c) (a := a) (c := c') (by omega) hfit e1 e2 l3 l4 e3 p2 e4 o2 e5 q2
        (fun w' hw' => Z3j e6 (by omega) w' hw') (fun w' hw' => Z3j hf (by omega) w' hw')
       exact ⟨y,w',E',r1,r2,r4,hsl.grow r3,.of' r3⟩
      ·cases h3
   | none =>
    simp only at h3
    split at h3
    case isFalse => cases h3
    rename_i hso
    obtain ⟨hsz,hoff0⟩ := hso
    subst hsz
    subst hoff0
    cases hB0 : L[id]? with
    | none => rw [hB0] at h3; cases h3
    | some B =>
     rw [hB0] at h3
     cases B <;> (try simp only at h3) <;> try (cases h3; done)
     rename_i b cs
     split at h3
     case isFalse => cases h3
     rename_i hc
     obtain ⟨hbase,hbn,hfit,hnl⟩ := hc
     refine ⟨_,_,_,h3,by simp [kill],fun {B0 w0 ok E w u us} hM0 hu' hx tmps hsl => ?_⟩
     obtain ⟨a,c',vs,rfl,l3,l4,p2,o2,q2,hf⟩ := hsrc hM0 hx
     have h4 : srcK (.sl id 0 n none i.size) L i.size (fun m old => some (m,old)) = some (n,cs) := by
      simp [srcK,hB0,cut,cutL,hbn]
     obtain ⟨m1,old,hk,hs1⟩ := Zvl (P := P) h4
     cases hk
     obtain ⟨ab,cp,olds,rfl,e1,e2,e3,e4,e5,e6⟩ := hs1 hM0 hu'
     have hM := hM0.killB id
     have hB : (L.map (killB id))[id]? = some (.d b cs) := by rw [List.getElem?_map,hB0]; rfl
     have hmul : (n + m) * i.size = n * i.size + m * i.size := Nat.add_mul _ _ _
     by_cases hroom : n + m ≤ cp
     ·by_cases hm0 : m = 0
      ·subst hm0
       have hnew := Z157 l4 rfl
       subst hnew
       have hvs : vs = [] := List.eq_nil_of_length_eq_zero l3
       subst hvs
       have : (L.map (killB id)).set id (.d ((n + 0) * i.size) (cs ++ [])) = L.map (killB id) := by
        rw [List.append_nil,Nat.add_zero,← hbn]; exact Znn hB
       rw [this]
       have hn : n ≤ cp := by omega
       exact ⟨_,w,E,run_append_zero hu hi hn (by simpa using hf 0 (Nat.le_refl _) w rfl),hM,hu',
        hsl.move (id := id) (fun _ _ _ h => h) (fun _ _ h => h) (fun _ h => h) (fun _ _ => rfl),.refl _ _ _ _ _⟩
      ·cases hu' with
       | slz hc0 => omega
       | sl hE hn hcap hm hoff =>
        rename_i off' bb mm
        obtain ⟨hB0,cc,e',B,hb,hs',h1,hB',hcc⟩ := hM.loc _ _ _ hE
        rw [hB] at hB'; cases hB'
        have hle : b ≤ cc.size := by have := hcc.2.1; simpa using this
        have hcap' : (n + m) * i.size ≤ cp * i.size := Nat.mul_le_mul_right _ hroom
        have hoff' : off' = 0 := by
         rcases hoff with h | h
         ·exact h
         ·omega
        subst hoff'
        have hrun := Z154 (ty := ty) hu hi (a := a) (c := c') hroom hb (o := 0) (Z3j hf (by omega) w rfl) q2 (by omega)
        have hcells : CellsRep E w ok e' (cc.toList.take (0 + n * i.size) ++ vs ++ cc.toList.drop (0 + n * i.size + vs.length)) (.d ((n + m) * i.size) (cs ++ new)) := by
         have hlc := hcc.1
         have htk : (cc.toList.take (0 + n * i.size)).length = cs.length := by simp; omega
         refine ⟨by simp; omega,by simp; omega,fun d hd => ?_,?_⟩
         ·rcases List.mem_append.1 hd with hd | hd
          ·exact hcc.2.2.1 d hd
          ·exact o2 d hd
         ·refine PW.more (PW.append (fun j d hd => ?_) p2 htk) _
          obtain ⟨x,hx,hr⟩ := hcc.2.2.2 j d hd
          have hj := (List.getElem?_eq_some_iff.1 hd).1
          exact ⟨x,by rw [List.getElem?_take,if_pos (by omega)]; exact hx,hr⟩
        obtain ⟨hM',g⟩ := hM.splice hE hb hs' h1 (off := 0 + n * i.size) q2 (by omega) hcells
        exact ⟨_,_,E,hrun,hM',.sl hE hroom (fun q hq => by cases hq) hm (.inl rfl),hsl.move (id := id) (fun _ _ _ h => g.env _ _ h) g.envy g.oks g.heap,.of' g⟩
     ·-- a new array: the block has moved
      have hid : id < (L.map (killB id)).length := (List.getElem?_eq_some_iff.1 hB).1
      obtain ⟨zv,hzv,hgb⟩ := Zy2 hz hi
      have hge := grownCap_ge w (n + m) cp e
      obtain ⟨g1,g2,g3⟩ := hgb (w := w) (ok := ok) (E := E) e1 e2 l3 l4 hge e3 p2 e4 o2 e5 q2
      have hrun := Zsy (ty := ty) hu hi hzv (base := ab) (a := a) (c := c') (show cp < n + m by omega) hfit.2 hfit.1 (Z3j e6 (by omega) w.drew rfl) (Z3j hf (by omega) w.drew rfl)
      generalize hcv : (olds.toArray ++ (vs.toArray) ++ Builtin.zeroCells zv.cells (grownCap w (n + m) cp e - (n + m))) = cv at *
      have hEm : ∀ j x,j ≠ id → E j = some x → (E.put id (w.heap.size,cv.size)) j = some x := fun j x hne hj => by simp [Env.put,hne,hj]
      have hheap : ∀ q,ok q → (w.drew.alloc (.cells cv e)).heap[q]? = w.heap[q]? := fun q hq => heap_alloc_old w.drew _ (hM.okb q hq).1
      have hdf : KeptIn w (w.drew.alloc (.cells cv e)) := .old fun q hlt => heap_alloc_old w.drew _ hlt
      refine ⟨_,_,E.put id (w.heap.size,cv.size),hrun,⟨?_,?_,?_,?_,?_,?_,hM.gl.mono (fun _ h => h) hheap,?_,hM.yinj,hM.yok⟩,.sl (b := w.heap.size) (m := cv.size) (by simp [Env.put]) hge (fun q hq => by cases hq) (by rw [g3]; omega) (.inl rfl),hsl.move hEm (fun _ _ h => h) (fun _ h => h) hheap,⟨fun j x hj he => hEm j x (fun e => by subst e; rw [hbase] at hj; cases hj) he,fun _ h => h,hheap,fun _ h => .inl h,fun _ _ _ h => h,hdf⟩⟩
      ·exact hM.below.drew.alloc (by have := hM.b0; simpa using this) _
      ·intro q hq
       refine ⟨by have := (hM.okb q hq).1; simp; omega,fun j m' hj => ?_⟩
       by_cases hji : j = id
       ·simp [Env.put,hji] at hj; have := (hM.okb q hq).1; omega
       ·simp [Env.put,hji] at hj; exact (hM.okb q hq).2 j m' hj
      ·intro j j' q m1 m2 hj hj'
       by_cases h1 : j = id <;> by_cases h2 : j' = id
       ·omega
       ·simp [Env.put,h1] at hj; simp [Env.put,h2] at hj'; have := hM.lt hj'; omega
       ·simp [Env.put,h1] at hj; simp [Env.put,h2] at hj'; have := hM.lt hj; omega
       ·simp [Env.put,h1] at hj; simp [Env.put,h2] at hj'; exact hM.inj j j' q m1 m2 hj hj'
      ·intro j q m' hj
       by_cases hji : j = id
       ·simp [Env.put,hji] at hj
        obtain ⟨rfl,rfl⟩ := hj
        subst hji
        exact ⟨by have := hM.b0; omega,cv,e,_,heap_alloc_new w.drew _,rfl,g1,by rw [List.getElem?_set_self hid],g2.move (id := j) hEm (fun _ _ h => h) (fun _ h => h) hheap rfl⟩
       ·simp [Env.put,hji] at hj
        obtain ⟨h0',c2,e2',B2,hb2,hs2,h12,hB2,hc2⟩ := hM.loc j q m' hj
        have hnr : blkRef id B2 = false := by
         rw [List.getElem?_map] at hB2
         cases hq : L[j]? with
         | none => rw [hq] at hB2; cases hB2
         | some B3 => rw [hq] at hB2; cases hB2; exact Zy3 id B3
        exact ⟨h0',c2,e2',B2,(heap_alloc_old w.drew _ (hM.lt hj)).trans hb2,hs2,h12,by rw [List.getElem?_set_ne (Ne.symm hji)]; exact hB2,hc2.move hEm (fun _ _ h => h) (fun _ h => h) hheap hnr⟩
      ·have := hM.b0; simp; omega
      ·exact hM.wf.set g2 id
      ·intro j l hy
       obtain ⟨h0',o,B2,hl2,hB2,ho⟩ := hM0.obj j l hy
       have hji : j ≠ id := fun e => by
        subst e
        rw [hB0] at hB2
        cases hB2
        cases o <;> exact ho.elim
       have ho' := ho.moveB (id := id) (E' := E.put id (w.heap.size,cv.size)) (w' := w.drew.alloc (.cells cv e)) (ok' := ok) hEm (fun _ _ h => h) (fun _ h => h) hheap
       exact ⟨h0',o,killB id B2,(heap_alloc_old w.drew _ (hM.ylt hy)).trans hl2,by rw [List.getElem?_set_ne (Ne.symm hji),List.getElem?_map,hB2]; rfl,ho'⟩
theorem Z1it {t t' ty : TypeId} {s x : AV} {L : Heap} {k : AV → Heap → Option R} {r : R} (h0 : copyK P t s x L k = some r) :
  ∃ v L',k v L' = some r ∧ ∀ {B0 w0 ok E w u us},Mem B0 w0 ok E L w → Rep E w ok u s → Rep E w ok us x →
   ∃ y w',(Builtin.copy_ #[t,t'] ty #[u,us]).run P w = .ok y w' ∧ Mem B0 w0 ok E L' w' ∧ Rep E w' ok y v ∧ Grow E w ok E w' ok := by
 unfold copyK at h0
 cases hu : P.underlying t with
 | none => rw [hu] at h0; cases h0
 | some d =>
  rw [hu] at h0
  cases d <;> (try simp only at h0) <;> try (cases h0; done)
  rename_i e
  obtain ⟨i,hi,h2⟩ := Option.bind_eq_some_iff.1 h0
  obtain ⟨m,new,h3,hsrc⟩ := Zvl (P := P) h2
  clear h0 h2
  cases s <;> (try simp only at h3) <;> try (cases h3; done)
  rename_i id off n cap sz
  by_cases hsz : sz = i.size
  case neg => rw [if_neg hsz] at h3; cases h3
  rw [if_pos hsz] at h3
  subst hsz
  cases hB : L[id]? with
  | none => rw [hB] at h3; cases h3
  | some B =>
   rw [hB] at h3
   cases B <;> (try simp only at h3) <;> try (cases h3; done)
   rename_i b cs
   split at h3
   case isFalse => cases h3
   rename_i hc
   obtain ⟨hfitb,hnl⟩ := hc
   refine ⟨_,_,h3,fun {B0 w0 ok E w u us} hM hu' hx => ?_⟩
   obtain ⟨a,c',vs,rfl,l3,l4,p2,o2,q2,hf⟩ := hsrc hM hx
   cases hu' with
   | slz hc0 =>
    have hq0 : Nat.min m 0 = 0 := Nat.min_eq_right (Nat.zero_le m)
    have hL : L.set id (.d b (cs.take off ++ (new.take (Nat.min m 0 * i.size) ++ cs.drop (off + Nat.min m 0 * i.size)))) = L := by
     rw [hq0]; simp; exact Znn hB
    rw [hL]
    refine ⟨_,w,?_,hM,.ofV rfl,Grow.refl _ _ _⟩
    have hfc := hf 0 (Nat.zero_le _) w rfl
    rw [hq0]
    simp only [Nat.zero_mul,List.take_zero] at hfc
    rename_i a0
    cases a0 <;> simp [Builtin.copy_,run_underlying hu,Builtin.lenOf,sizeOf,typeInfo,hi,hfc,storeCells,goInt]
   | sl hE hn hcap hm hoff =>
    rename_i off' cp bb mm
    obtain ⟨_,cc,e',B,hb,hs',h1,hB',hcc⟩ := hM.loc _ _ _ hE
    rw [hB] at hB'; cases hB'
    have hle : b ≤ cc.size := by have := hcc.2.1; simpa using this
    generalize hq : Nat.min m n = q
    have hqm : q ≤ m := by rw [← hq]; exact Nat.min_le_left _ _
    have hqn : q ≤ n := by rw [← hq]; exact Nat.min_le_right _ _
    have hmq : q * i.size ≤ m * i.size := Nat.mul_le_mul_right _ hqm
    have hnq : q * i.size ≤ n * i.size := Nat.mul_le_mul_right _ hqn
    have hfc := hf q hqm w rfl
    have hlt : (vs.take (q * i.size)).length = q * i.size := by simp; omega
    have hlt2 : (new.take (q * i.size)).length = q * i.size := by simp; omega
    have hoff2 : q * i.size = 0 ∨ off' = off := by
     rcases hoff with h | h
     ·exact .inr h
     ·left
      have : q = 0 := by omega
      simp [this]
    by_cases hz : q * i.size = 0
    ·have e1 : vs.take (q * i.size) = [] := List.eq_nil_of_length_eq_zero (by omega)
     have e2 : new.take (q * i.size) = [] := List.eq_nil_of_length_eq_zero (by omega)
     have hL : L.set id (.d b (cs.take off ++ (new.take (q * i.size) ++ cs.drop (off + q * i.size)))) = L := by
      rw [e2,hz]; simp; exact Znn hB
     rw [hL]
     refine ⟨_,w,?_,hM,.ofV rfl,Grow.refl _ _ _⟩
     rw [e1] at hfc
     simp [Builtin.copy_,run_underlying hu,Builtin.lenOf,sizeOf,typeInfo,hi,hq,hfc,storeCells,goInt]
    ·obtain rfl : off' = off := hoff2.resolve_left hz
     have hst := run_storeCells_at P bb off' e' (vs.take (q * i.size)) 0 cc w hb (by omega) (fun v hv => q2 v (List.mem_of_mem_take hv))
     simp only [Nat.add_zero] at hst
     have hp : PW (RepD w ok) (vs.take (q * i.size)) (new.take (q * i.size)) := fun j d hd => by
      rw [List.getElem?_take] at hd ⊢
      split at hd
      ·rename_i hj; rw [if_pos hj]; exact p2 j d hd
      ·cases hd
     have hsp := hcc.splice_d (off := off') (ys := new.take (q * i.size)) (xs := vs.take (q * i.size)) (by omega) (by omega) hp (fun d hd => o2 d (List.mem_of_mem_take hd))
     rw [hlt2] at hsp
     obtain ⟨hM',g⟩ := hM.splice hE hb hs' h1 (off := off') (fun v hv => q2 v (List.mem_of_mem_take hv)) (by omega) hsp
     refine ⟨_,_,?_,hM',.ofV rfl,g⟩
     simp [Builtin.copy_,run_underlying hu,Builtin.lenOf,sizeOf,typeInfo,hi,hq,hfc,hst,goInt]
theorem Z1gq {t ty : TypeId} {s : AV} {L : Heap} {k : AV → Heap → Option R} {r : R} (h0 : clearK P t s L k = some r) :
  ∃ v L',k v L' = some r ∧ ∀ {B0 w0 ok E w u},Mem B0 w0 ok E L w → Rep E w ok u s →
   ∃ y w',(Builtin.clear_ #[t] ty #[u]).run P w = .ok y w' ∧ Mem B0 w0 ok E L' w' ∧ Rep E w' ok y v ∧ Grow E w ok E w' ok := by
 have htup : ∀ {E : Env} {w : World} {ok : Nat → Prop},Rep E w ok (.tuple #[]) (.d (.tup [])) := fun {E w ok} => .d (.tup (vs := []) rfl (fun i x d hx => by simp at hx))
 unfold clearK at h0
 cases hu : P.underlying t with
 | none => rw [hu] at h0; cases h0
 | some d =>
  rw [hu] at h0
  cases d <;> (try simp only at h0) <;> try (cases h0; done)
  rename_i e
  obtain ⟨z,hz,h1⟩ := Option.bind_eq_some_iff.1 h0
  obtain ⟨i,zv,hi,hzv,e1,e2,e3,hp,ho,h1c⟩ := Z67 hz
  have zero : ∀ {w : World} {a : Option Addr} {cp : Nat},(Builtin.clear_ #[t] ty #[.slice a 0 cp]).run P w = .ok (.tuple #[]) w := fun {w a cp} => by
   cases a <;> simp [Builtin.clear_,run_underlying hu,Sem.run_bind,Sem.run]
  split at h1
  ·rename_i id off n cap sz
   by_cases hsz : sz = z.1
   case neg => rw [if_neg hsz] at h1; cases h1
   rw [if_pos hsz] at h1
   cases hB : L[id]? with
   | none => rw [hB] at h1; cases h1
   | some B =>
    rw [hB] at h1
    cases B <;> (try simp only at h1) <;> try (cases h1; done)
    rename_i b cs
    split at h1
    case isFalse => cases h1
    rename_i hfit
    refine ⟨_,_,h1,fun {B0 w0 ok E w u} hM hu' => ?_⟩
    have same : n = 0 → L.set id (.d b (cs.take off ++ ((List.replicate n z.2).flatten ++ cs.drop (off + n * sz)))) = L := fun hn => by
     subst hn
     simp only [List.replicate_zero,List.flatten_nil,List.nil_append,Nat.zero_mul,Nat.add_zero,List.take_append_drop]
     exact Znn hB
    cases hu' with
    | slz hc0 => rw [same rfl]; exact ⟨_,w,zero,hM,htup,Grow.refl _ _ _⟩
    | sl hE hn hcap hm hoff =>
     rename_i off' cp bb mm
     rcases Nat.eq_zero_or_pos n with h0n | hpos
     ·rw [same h0n]; subst h0n; exact ⟨_,w,zero,hM,htup,Grow.refl _ _ _⟩
     obtain rfl : off' = off := hoff.resolve_right (by omega)
     obtain ⟨_,cc,e',B,hb,hs',h1',hB',hcc⟩ := hM.loc _ _ _ hE
     rw [hB] at hB'; cases hB'
     have hle : b ≤ cc.size := by have := hcc.2.1; simpa using this
     have hzs : zv.cells.size = sz := by have : zv.cells.toList.length = i.size := e3; simp at this; omega
     have emade : Builtin.zeroCells zv.cells n = madeCells zv.cells (n * sz) := by rw [← hzs]; rfl
     have hpr : PW (RepD w ok) (Builtin.zeroCells zv.cells n).toList (List.replicate n z.2).flatten := by
      rw [emade]
      exact Z153 (by simpa using hzs) (by omega) hp n
     have hzone : ∀ x,x ∈ (Builtin.zeroCells zv.cells n).toList → x.oneCell' = true := Z156 hzs h1c
     have hzl : (Builtin.zeroCells zv.cells n).toList.length = n * sz := by rw [emade]; simp [size_madeCells]
     have hdl : ((List.replicate n z.2).flatten).length = n * sz := by simp; rw [e2,hsz,e1]
     have hdo : ∀ d,d ∈ (List.replicate n z.2).flatten → d.one = true := fun d hd => by
      obtain ⟨l,hl,hdl⟩ := List.mem_flatten.1 hd
      rw [List.eq_of_mem_replicate hl] at hdl
      exact ho d hdl
     have hst := run_storeCells_at P bb off' e' (Builtin.zeroCells zv.cells n).toList 0 cc w hb (by rw [hzl]; omega) hzone
     simp only [Nat.add_zero] at hst
     have hsp := hcc.splice_d (off := off') (ys := (List.replicate n z.2).flatten) (xs := (Builtin.zeroCells zv.cells n).toList) (by omega) (by omega) hpr hdo
     rw [hdl] at hsp
     obtain ⟨hM',g⟩ := hM.splice hE hb hs' h1' (off := off') hzone (by omega) hsp
     refine ⟨_,_,?_,hM',htup,g⟩
     obtain ⟨n',rfl⟩ : ∃ n',n = n' + 1 := ⟨n - 1,by omega⟩
     simp [Builtin.clear_,run_underlying hu,zeroValue,typeInfo,hi,hzv,hst,Sem.run_bind]
  ·refine ⟨_,_,h1,fun {B0 w0 ok E w u} hM hu' => ?_⟩
   cases hu' with
   | d hd =>
    cases hd with
    | nil _ => exact ⟨_,w,zero,hM,htup,Grow.refl _ _ _⟩
    | list _ _ _ _ _ _ => exact ⟨_,w,zero,hM,htup,Grow.refl _ _ _⟩
  ·cases h1
end Go.Ev