/-
  The evaluator: EzSp EzFrz EzOps9 EzObj EzMp EzExt EzOp EzStep EzSeq.
-/
import Derived.Test.YthakkigkdhaihaaGreatDoorEzXB
import Derived.Lib.UnsafeStr
import Derived.Laws.Externs
import Derived.RangeFuncRecord
import Derived.OrdersIn
import Derived.TacticsIn
/-
 Functions from data to data,called.
-/
set_option linter.unusedSimpArgs false
set_option linter.unusedVariables false
namespace Go.Ev
open Go Go.RowKit
variable {R : Type} {P : Program}
def Enters (P : Program) (f : FuncId) : Prop := ∃ fn, P.funcs[f]? = some fn ∧ fn.body.isSome = true ∧ (fn.name == "runtime.NumGoroutine") = false
def RepDs (w : World) (ok : Nat → Prop) (vs : List Value) (ds : List D) : Prop := vs.length = ds.length ∧ ∀ (i : Nat) x d,vs[i]? = some x → ds[i]? = some d → RepD w ok x d
def Reps (E : Env) (w : World) (ok : Nat → Prop) (vs : List Value) (cs : List AV) : Prop := vs.length = cs.length ∧ ∀ (i : Nat) x c,vs[i]? = some x → cs[i]? = some c → Rep E w ok x c
def DataSem (P : Program) (f : FuncId) (ds : List D) (d : D) : Prop :=
 Enters P f ∧ ∀ {w : World} {ok : Nat → Prop} {vals : List Value},(∀ b,ok b → b < w.heap.size) → GlOk w ok → RepDs w ok vals ds →
  Calls P f vals.toArray w (fun e w' => ∃ u ok',e = .returned u ∧ Below w.heap.size w w' ∧ (∀ b,ok' b → b < w'.heap.size ∧ (ok b ∨ w.heap.size ≤ b)) ∧ RepD w' ok' u d)
def SpOk (P : Program) (sp : SpTab) : Prop := ∀ f s ds d,sp.lookup f = some s → s ds = some d → DataSem P f ds d
theorem Zr8 {α β : Type} {f : α → Option β} : ∀ {xs : List α} {ys : List β},mapO f xs = some ys → xs.length = ys.length ∧ ∀ (i : Nat) x y,xs[i]? = some x → ys[i]? = some y → f x = some y
 | [],ys,h => by simp [mapO] at h; subst h; exact ⟨rfl,fun i x y hx => by simp at hx⟩
 | a :: r,ys,h => by
  simp only [mapO] at h
  obtain ⟨b,hb,h1⟩ := Option.bind_eq_some_iff.1 h
  obtain ⟨bs,hbs,h2⟩ := Option.bind_eq_some_iff.1 h1
  cases h2
  obtain ⟨hl,hi⟩ := Zr8 hbs
  refine ⟨by simp [hl],fun i x y hx hy => ?_⟩
  cases i with
  | zero => simp at hx hy; subst hx hy; exact hb
  | succ i => exact hi i x y (by simpa using hx) (by simpa using hy)
def okAll (w : World) : Nat → Prop := fun b => b < w.heap.size
theorem Z1iu {w : World} {ok : Nat → Prop} {b off n cp : Nat} {cap : Option Nat} {c : Array Value} {e : TypeId} {ds : List D} (hok : ok b) (hn : n ≤ cp) (hcap : ∀ q,cap = some q → q = cp) (h1 : ∀ d,d ∈ ds → d.one = true)
  (hb : w.heap[b]? = some (.cells c e (0,0))) (hp : PW (RepD w ok) (c.toList.drop off) ds) : RepD w ok (.slice (some ⟨b,off,none⟩) n cp) (.list n cap ds) := by
 refine .list (f := fun j => c.toList.getD (off + j) undef) hok hn hcap h1 (fun j hj => ?_) (fun j d hd => ?_)
 ·obtain ⟨x,hx,_⟩ := hp j _ (List.getElem?_eq_getElem hj)
  rw [cell_of_row w b (off + j) c e (0,0) hb]
  rw [List.getElem?_drop] at hx
  simp [List.getD,← Array.getElem?_toList,hx]
 ·obtain ⟨x,hx,hr⟩ := hp j d hd
  rw [List.getElem?_drop] at hx
  simpa [List.getD,hx] using hr
theorem viewD_sound : ∀ {n : Nat} {B0 : Nat} {w0 : World} {ok ok' : Nat → Prop} {E : Env} {L : Heap} {w : World} {x : AV} {d : D} {u : Value},viewD L n x = some d → Mem B0 w0 ok E L w → (∀ b,ok b → ok' b) → (∀ id b m,E id = some (b,m) → ok' b) → Rep E w ok u x → RepD w ok' u d
 | 0,_,_,_,_,_,_,_,_,_,_,h,_,_,_,_ => by cases h
 | n + 1,B0,w0,ok,ok',E,L,w,x,d,u,h,hM,h1,h2,hx => by
  have mono : ∀ {u d},RepD w ok u d → RepD w ok' u d := fun h => h.mono h1 (fun _ _ => rfl)
  have many : ∀ {cs : List AV} {ds : List D} {vs : List Value},mapO (viewD L n) cs = some ds → vs.length = cs.length → (∀ (i : Nat) x c,vs[i]? = some x → cs[i]? = some c → Rep E w ok x c) →
    vs.length = ds.length ∧ ∀ (i : Nat) x d,vs[i]? = some x → ds[i]? = some d → RepD w ok' x d := fun {cs ds vs} hm hl hr => by
   obtain ⟨hl',hi⟩ := Zr8 hm
   refine ⟨by omega,fun i x d hx hd => ?_⟩
   have hlt : i < cs.length := by have := (List.getElem?_eq_some_iff.1 hd).1; omega
   exact viewD_sound (hi i _ d (List.getElem?_eq_getElem hlt) hd) hM h1 h2 (hr i x _ hx (List.getElem?_eq_getElem hlt))
  simp only [viewD] at h
  cases hx with
  | d hD => cases h; exact mono hD
  | agg hl ho hr =>
   obtain ⟨ds,hds,h3⟩ := Option.bind_eq_some_iff.1 h
   split at h3
   ·rename_i hall
    cases h3
    obtain ⟨a,b⟩ := many hds hl hr
    exact .agg a (fun d hd => List.all_eq_true.1 hall d hd) b
   ·cases h3
  | tup hl hr =>
   obtain ⟨ds,hds,h3⟩ := Option.bind_eq_some_iff.1 h
   cases h3
   obtain ⟨a,b⟩ := many hds hl hr
   exact .tup a b
  | clo hl hr =>
   obtain ⟨ds,hds,h3⟩ := Option.bind_eq_some_iff.1 h
   cases h3
   obtain ⟨a,b⟩ := many hds hl hr
   exact .fn a b
  | ptr _ => cases h
  | bnd => cases h
  | lp => cases h
  | junk => cases h
  | yld => cases h
  | it => cases h
  | mp => cases h
  | slz hc0 =>
   rename_i id off sz cap a
   have fin : RepD w ok' (.slice a 0 0) (.list 0 cap []) := by
    exact .nil (by cases cap with
      | none => exact .inl rfl
      | some q => exact .inr (by rw [hc0 q rfl]))
   dsimp only at h
   cases hB : L[id]? with
   | none => rw [hB] at h; cases h
   | some B =>
    rw [hB] at h
    cases B <;> (try simp only at h) <;> try (cases h; done)
    case d m cs =>
     obtain ⟨xs,hk,hx⟩ := Znl h
     cases hk
     obtain ⟨_,rfl⟩ := hx (hM.wf _ _ hB)
     simpa using fin
    case a m cs =>
     obtain ⟨xs,hk,hx⟩ := Znl h
     obtain ⟨_,rfl⟩ := hx (hM.wf _ _ hB)
     simp [mapO] at hk
     subst hk
     exact fin
  | sl hE hn hcap hm hoff =>
   rename_i id off off' nn cp b m sz cap
   obtain ⟨_,c,e,B,hb,hs,ho,hB,hc⟩ := hM.loc _ _ _ hE
   dsimp only at h
   rw [hB] at h
   have fin : ∀ {ds : List D},off + nn * sz ≤ c.size → (nn * sz = 0 → ds = []) → (∀ d,d ∈ ds → d.one = true) → PW (RepD w ok') (c.toList.drop off) ds → RepD w ok' (.slice (some ⟨b,off',none⟩) nn cp) (.list nn cap ds) := fun {ds} hfit h0 hone hp => by
    rcases hoff with rfl | hcp
    ·exact Z1iu (h2 _ _ _ hE) hn hcap hone hb hp
    ·have hnn : nn = 0 := by omega
     have : ds = [] := h0 (by rw [hnn,Nat.zero_mul])
     subst this
     exact .list (f := fun _ => undef) (h2 _ _ _ hE) hn hcap (by simp) (fun j hj => by simp at hj) (fun j d hd => by simp at hd)
   cases B <;> (try simp only at h) <;> try (cases h; done)
   case d q cs =>
    obtain ⟨xs,hk,hx⟩ := Znl h
    cases hk
    obtain ⟨hlen,hle,hone,hcc⟩ := hc
    obtain ⟨hfit,rfl⟩ := hx hlen
    have hle' : q ≤ c.size := by simpa using hle
    refine fin (by omega) (fun h0 => by rw [h0]; simp) (fun d hd => hone d (List.mem_of_mem_drop (List.mem_of_mem_take hd))) (fun j d hd => ?_)
    rw [List.getElem?_take] at hd
    split at hd
    ·rw [List.getElem?_drop] at hd
     obtain ⟨x,hx,hr⟩ := hcc _ d hd
     exact ⟨x,by rw [List.getElem?_drop]; exact hx,mono hr⟩
    ·cases hd
   case a q cs =>
    obtain ⟨xs,hk,hx⟩ := Znl h
    obtain ⟨ds,hds,h3⟩ := Option.bind_eq_some_iff.1 hk
    split at h3
    ·rename_i hall
     cases h3
     obtain ⟨hlen,hle,hcc⟩ := hc
     obtain ⟨hfit,rfl⟩ := hx hlen
     have hle' : q ≤ c.size := by simpa using hle
     have hlx : ((cs.drop off).take (nn * sz)).length = nn * sz := by simp; omega
     obtain ⟨hl',hi⟩ := Zr8 hds
     refine fin (by omega) (fun h0 => List.eq_nil_of_length_eq_zero (by omega)) (fun d hd => List.all_eq_true.1 hall d hd) (fun j d hd => ?_)
     have hj := (List.getElem?_eq_some_iff.1 hd).1
     have hx0 := List.getElem?_eq_getElem (show j < ((cs.drop off).take (nn * sz)).length by omega)
     have hv := hi j _ d hx0 hd
     have hx1 := hx0
     rw [List.getElem?_take,if_pos (by omega),List.getElem?_drop] at hx1
     obtain ⟨x,hx,hr⟩ := hcc _ _ hx1
     exact ⟨x,by rw [List.getElem?_drop]; exact hx,viewD_sound hv hM h1 h2 hr⟩
    ·cases h3
theorem Z1id {α β : Type} {n off size : Nat} {cs : List α} {g : List α → Option β} {k : β → Option R} : cut n cs off size (fun r => (g r).bind k) = (cut n cs off size g).bind k := by
 unfold cut; split <;> rfl
theorem Z1eo {α β : Type} {f : α → (β → Option R) → Option R} {g : α → Option β} (h : ∀ x k,f x k = (g x).bind k) : ∀ (xs : List α) (k : List β → Option R),mapK f xs k = (mapO g xs).bind k
 | [],k => rfl
 | x :: r,k => by
  simp only [mapK,mapO,h]
  cases g x with
  | none => rfl
  | some y =>
   simp only [Option.bind_some]
   rw [Z1eo h r]
   cases mapO g r <;> rfl
theorem Z1as {L : Heap} : ∀ (n : Nat) (x : AV) (k : D → Option R),viewK L n x k = (viewD L n x).bind k
 | 0,x,k => rfl
 | n + 1,x,k => by
  have hm : ∀ (xs : List AV) (k : List D → Option R),mapK (viewK L n) xs k = (mapO (viewD L n) xs).bind k := Z1eo (Z1as n)
  cases x with
  | d x => rfl
  | sl id off len cap sz =>
   simp only [viewK,viewD]
   cases hB : L[id]? with
   | none => rfl
   | some B =>
    cases B with
    | dead => rfl
    | iter => rfl
    | map => rfl
    | loop => rfl
    | t => rfl
    | td => rfl
    | d m cs => exact Z1id (g := fun r => some (D.list len cap r))
    | a m cs =>
     simp only [hm]
     rw [← Z1id]
     congr 1
     funext r
     cases mapO (viewD L n) r with
     | none => rfl
     | some ds => simp only [Option.bind_some]; split <;> rfl
  | agg cs =>
   simp only [viewK,viewD,hm]
   cases mapO (viewD L n) cs with
   | none => rfl
   | some ds => simp only [Option.bind_some]; split <;> rfl
  | tup cs => simp only [viewK,viewD,hm]; cases mapO (viewD L n) cs <;> rfl
  | clo f cs => simp only [viewK,viewD,hm]; cases mapO (viewD L n) cs <;> rfl
  | _ => rfl
theorem rdI_eq {k : IntKind} {x : Option D} {i : Int} (h : rdI k x = some i) : x = some (.v (.int k i)) := by
 unfold rdI at h
 split at h
 ·rename_i k' j
  split at h
  ·rename_i hk; cases h; rw [hk]
  ·cases h
 ·cases h
theorem rdB_eq {x : Option D} {b : Bool} (h : rdB x = some b) : x = some (.v (.bool b)) := by
 unfold rdB at h; split at h <;> cases h; rfl
theorem rdS_eq {x : Option D} {b : ByteArray} (h : rdS x = some b) : x = some (.v (.string b)) := by
 unfold rdS at h; split at h <;> cases h; rfl
theorem rdL_eq {x : Option D} {s : Sl} (h : rdL x = some s) : x = some (.list s.n s.cap s.cs) := by
 unfold rdL at h; split at h <;> cases h; rfl
theorem rdF_eq {x : Option D} {d : D} (h : rdF x = some d) : x = some d := by
 unfold rdF at h; split at h <;> cases h <;> rfl
theorem rdA_eq {x : Option D} {cs : List D} (h : rdA x = some cs) : x = some (.agg cs) := by
 unfold rdA at h; split at h <;> cases h; rfl
theorem rdM_eq {x : Option D} {cs : List (D × D)} (h : rdM x = some cs) : x = some (.mp cs) := by
 unfold rdM at h; split at h <;> cases h; rfl
theorem Z13n {t : TypeId} {x : Option D} {k : D → Option R} {r : R} (h : open1 P t x k = some r) :
  ∃ d,x = some d ∧ k d = some r := by
 unfold open1 at h
 split at h
 ·obtain ⟨i,hi,h1⟩ := Option.bind_eq_some_iff.1 h; exact ⟨_,rdI_eq hi,h1⟩
 ·obtain ⟨i,hi,h1⟩ := Option.bind_eq_some_iff.1 h; exact ⟨_,rdB_eq hi,h1⟩
 ·obtain ⟨i,hi,h1⟩ := Option.bind_eq_some_iff.1 h; exact ⟨_,rdS_eq hi,h1⟩
 ·obtain ⟨i,hi,h1⟩ := Option.bind_eq_some_iff.1 h; exact ⟨_,rdL_eq hi,h1⟩
 ·obtain ⟨i,hi,h1⟩ := Option.bind_eq_some_iff.1 h; exact ⟨_,rdF_eq hi,h1⟩
 ·obtain ⟨i,hi,h1⟩ := Option.bind_eq_some_iff.1 h; exact ⟨_,rdA_eq hi,h1⟩
 ·obtain ⟨i,hi,h1⟩ := Option.bind_eq_some_iff.1 h; exact ⟨_,rdM_eq hi,h1⟩
 ·obtain ⟨i,hi,h1⟩ := Option.bind_eq_some_iff.1 h; exact ⟨_,rdA_eq hi,h1⟩
 ·cases h
theorem Z175 {ds : List D} : ∀ {ts : List TypeId} {i : Nat} {k : List D → Option R} {r : R},openL P ds i ts k = some r →
  ∃ xs,k xs = some r ∧ xs.length = ts.length ∧ ∀ j,j < ts.length → ds[i + j]? = xs[j]?
 | [],i,k,r,h => ⟨[],h,rfl,fun j hj => by simp at hj⟩
 | t :: ts,i,k,r,h => by
  simp only [openL] at h
  obtain ⟨d,hd,h1⟩ := Z13n h
  obtain ⟨xs,hk,hl,hg⟩ := Z175 h1
  refine ⟨d :: xs,hk,by simp [hl],fun j hj => ?_⟩
  cases j with
  | zero => simpa using hd
  | succ j => have := hg j (by simpa using hj); simp only [List.getElem?_cons_succ]; rw [← this,Nat.add_assoc,Nat.add_comm 1 j]
theorem Z1dr {t : TypeId} {d : D} {k : AV → Option R} {r : R} (h : openK P t d k = some r) : k (.d d) = some r := by
 unfold openK at h
 split at h
 ·rename_i ts hu
  obtain ⟨ds,hds,h1⟩ := Option.bind_eq_some_iff.1 h
  have : d = .tup ds := by
   unfold rdT at hds; split at hds <;> cases hds; rfl
  subst this
  split at h1
  ·rename_i hl
   obtain ⟨xs,hk,hl',hg⟩ := Z175 h1
   have : xs = ds := by
    apply List.ext_getElem?
    intro j
    by_cases hj : j < ts.toList.length
    ·have := hg j hj; rw [Nat.zero_add] at this; exact this.symm
    ·rw [List.getElem?_eq_none (by omega),List.getElem?_eq_none (by simp at hj; omega)]
   rw [← this]; exact hk
  ·cases h1
 ·obtain ⟨x,hx,hk⟩ := Z13n h
  cases hx; exact hk
theorem Z1jl {ds xs : List D} {ts : List TypeId} (h : ds.length = ts.length) (hl : xs.length = ts.length) (hg : ∀ j,j < ts.length → ds[0 + j]? = xs[j]?) : xs = ds := by
 apply List.ext_getElem?
 intro j
 by_cases hj : j < ts.length
 ·have := hg j hj; rw [Nat.zero_add] at this; exact this.symm
 ·rw [List.getElem?_eq_none (by omega),List.getElem?_eq_none (by omega)]
theorem Z1ds {mv : List Nat} {t : TypeId} {d : D} {k : D → Option R} {r : R} (h : deep1 P mv t d k = some r) : k d = some r := by
 unfold deep1 at h
 cases hm : mv.elem (2000000 + t) with
 | false => rw [hm] at h; exact h
 | true =>
  rw [hm,cond_true] at h
  split at h
  ·obtain ⟨ts,_,h1⟩ := Option.bind_eq_some_iff.1 h
   split at h1
   ·rename_i cs hl
    obtain ⟨xs,hk,hl',hg⟩ := Z175 h1
    rw [Z1jl hl hl' hg] at hk
    exact hk
   ·cases h1
  ·cases h
theorem Z1dt {mv : List Nat} : ∀ {ts : List TypeId} {ds : List D} {k : List D → Option R} {r : R},deepL P mv ts ds k = some r → k ds = some r
 | [],[],k,r,h => h
 | t :: ts,d :: ds,k,r,h => by
  simp only [deepL] at h
  exact Z1dt (k := fun xs => k (d :: xs)) (Z1ds h)
 | [],_ :: _,k,r,h => by cases h
 | _ :: _,[],k,r,h => by cases h
theorem Z176 {mv : List Nat} {ty : TypeId} {v : AV} {k : AV → Option R} {r : R} (h : deepK P mv ty v k = some r) : k v = some r := by
 unfold deepK at h
 cases hm : mv.isEmpty with
 | true => rw [hm] at h; exact h
 | false =>
  rw [hm,cond_false] at h
  split at h
  ·split at h
   ·split at h
    ·exact Z1dt h
    ·cases h
   ·exact Z1ds (k := fun x => k (.d x)) h
  ·exact h
theorem Z1gr {t : TypeId} {d : D} {k : AV → Option R} {r : R} (h : openK P t d k = some r) (hs : Z171 P t = true) {w w' : World} {ok ok' : Nat → Prop} {u : Value} (hu : RepD w ok u d) : RepD w' ok' u d := by
 have leaf1 : ∀ {t : TypeId} {x : D} {k : D → Option R} {u : Value},(match P.underlying t with | some (.int _) | some .bool | some .string => true | _ => false) = true → open1 P t (some x) k = some r → RepD w ok u x → RepD w' ok' u x := by
  intro t x k u hs h hu
  unfold open1 at h
  split at h <;> try (rename_i hut; rw [hut] at hs; cases hs; done)
  ·obtain ⟨i,hi,_⟩ := Option.bind_eq_some_iff.1 h
   have := rdI_eq hi; cases this; cases hu; exact .v rfl
  ·obtain ⟨i,hi,_⟩ := Option.bind_eq_some_iff.1 h
   have := rdB_eq hi; cases this; cases hu; exact .v rfl
  ·obtain ⟨i,hi,_⟩ := Option.bind_eq_some_iff.1 h
   have := rdS_eq hi; cases this; cases hu; exact .v rfl
  ·cases h
 unfold openK at h
 split at h
 ·rename_i ts hut
  unfold Z171 at hs
  rw [hut] at hs
  simp only at hs
  obtain ⟨ds,hds,h1⟩ := Option.bind_eq_some_iff.1 h
  have : d = .tup ds := by
   unfold rdT at hds; split at hds <;> cases hds; rfl
  subst this
  split at h1
  case isFalse => cases h1
  rename_i hl
  cases hu with
  | tup hlen hr =>
   refine .tup hlen fun i x d hx hd => ?_
   have hall := List.all_eq_true.1 hs
   have key : ∀ {l : List TypeId} {i0 : Nat} {k : List D → Option R},openL P ds i0 l k = some r → (∀ t,t ∈ l → (match P.underlying t with | some (.int _) | some .bool | some .string => true | _ => false) = true) →
     ∀ j,j < l.length → ∀ d,ds[i0 + j]? = some d → ∀ {u},RepD w ok u d → RepD w' ok' u d := by
    intro l
    induction l with
    | nil => intro i0 k _ _ j hj; simp at hj
    | cons t l ih =>
     intro i0 k h ha j hj d hd u hu
     simp only [openL] at h
     cases j with
     | zero =>
      rw [Nat.add_zero] at hd
      rw [hd] at h
      exact leaf1 (ha t (by simp)) h hu
     | succ j =>
      obtain ⟨x0,_,h2⟩ := Z13n h
      exact ih h2 (fun t ht => ha t (by simp [ht])) j (by simpa using hj) d (by rw [← hd]; congr 1; omega) hu
   have hi : i < ts.toList.length := by have := (List.getElem?_eq_some_iff.1 hd).1; simp; omega
   exact key h1 (fun t ht => hall t ht) i hi d (by rw [Nat.zero_add]; exact hd) (hr i x d hx hd)
 ·rename_i hnt
  refine leaf1 (t := t) (x := d) ?_ h hu
  unfold Z171 at hs
  cases hut : P.underlying t with
  | none => rw [hut] at hs; cases hs
  | some q =>
   rw [hut] at hs
   cases q <;> first | rfl | (cases hs; done) | exact absurd hut (hnt _)
theorem Z177 {L X : Heap} {id : Nat} {B : Blk} (h : L[id]? = some B) : (L ++ X)[id]? = some B := by
 rw [List.getElem?_append_left (List.getElem?_eq_some_iff.1 h).1]; exact h
theorem Z1ep {α β : Type} {f g : α → Option β} (h : ∀ x y,f x = some y → g x = some y) : ∀ {xs : List α} {ys : List β},mapO f xs = some ys → mapO g xs = some ys
 | [],ys,hx => hx
 | x :: r,ys,hx => by
  simp only [mapO] at hx ⊢
  obtain ⟨y,hy,h1⟩ := Option.bind_eq_some_iff.1 hx
  obtain ⟨zs,hz,h2⟩ := Option.bind_eq_some_iff.1 h1
  rw [h x y hy,Option.bind_some,Z1ep h hz,Option.bind_some]; exact h2
theorem Z1fz {L : Heap} (X : Heap) : ∀ (n : Nat) (x : AV) (d : D),viewD L n x = some d → viewD (L ++ X) n x = some d
 | 0,x,d,h => h
 | n + 1,x,d,h => by
  have hm : ∀ {xs : List AV} {ys : List D},mapO (viewD L n) xs = some ys → mapO (viewD (L ++ X) n) xs = some ys := Z1ep (Z1fz X n)
  cases x <;> try exact h
  case sl id off len cap sz =>
   simp only [viewD] at h ⊢
   cases hB : L[id]? with
   | none => rw [hB] at h; cases h
   | some B =>
    rw [hB] at h
    rw [Z177 hB]
    cases B <;> try exact h
    case a m cs =>
     simp only [cut] at h ⊢
     split at h
     ·rename_i hc
      rw [if_pos hc]
      obtain ⟨ds,hd,h1⟩ := Option.bind_eq_some_iff.1 h
      rw [hm hd,Option.bind_some]; exact h1
     ·cases h
  all_goals
   simp only [viewD] at h ⊢
   obtain ⟨ds,hd,h1⟩ := Option.bind_eq_some_iff.1 h
   rw [hm hd,Option.bind_some]; exact h1
theorem Z1jm {E : Env} {w : World} {ok : Nat → Prop} {vs : List Value} {args : List AV} {xs : List D} {L : Heap} (h : viewDs L args = some xs) (hd : args.all AV.isD = true) (hr : Reps E w ok vs args) : RepDs w ok vs xs := by
 obtain ⟨hl,hi⟩ := Zr8 h
 refine ⟨by have := hr.1; omega,fun i x d hx hxd => ?_⟩
 have hlt : i < args.length := by have := (List.getElem?_eq_some_iff.1 hxd).1; omega
 have ha := List.getElem?_eq_getElem hlt
 have hv := hi i _ d ha hxd
 have hr' := hr.2 i x _ hx ha
 have hD := List.all_eq_true.1 hd _ (List.getElem_mem hlt)
 generalize args[i] = c at hv hr' hD
 cases c <;> try (cases hD; done)
 simp only [viewD] at hv
 cases hv
 cases hr' with
 | d h => exact h
theorem RepDs.append {w : World} {ok : Nat → Prop} {vs vs' : List Value} {ds ds' : List D} (h : RepDs w ok vs ds) (h' : RepDs w ok vs' ds') : RepDs w ok (vs ++ vs') (ds ++ ds') := by
 refine ⟨by simp [h.1,h'.1],fun i x d hx hd => ?_⟩
 by_cases hlt : i < vs.length
 ·rw [List.getElem?_append_left hlt] at hx
  rw [List.getElem?_append_left (by rw [← h.1]; exact hlt)] at hd
  exact h.2 i x d hx hd
 ·rw [List.getElem?_append_right (by omega)] at hx
  rw [List.getElem?_append_right (by rw [← h.1]; omega),← h.1] at hd
  exact h'.2 _ x d hx hd
theorem Mem.call {B0 : Nat} {w0 : World} {ok ok' : Nat → Prop} {E : Env} {L : Heap} {w w' : World} (h : Mem B0 w0 ok E L w) (hb : Below w.heap.size w w') (hk : ∀ b,ok' b → b < w'.heap.size ∧ (ok b ∨ w.heap.size ≤ b)) :
  Mem B0 w0 (fun b => ok b ∨ ok' b) E L w' ∧ Grow E w ok E w' (fun b => ok b ∨ ok' b) ∧ ∀ b,(ok b ∨ ok' b) → ok b ∨ B0 ≤ b := by
 have g : Grow E w ok E w' (fun b => ok b ∨ ok' b) := ⟨fun _ _ h => h,fun b hb => .inl hb,fun b hk => hb.block b (h.okb b hk).1,fun _ _ h => h,.old fun b hlt => hb.block b hlt⟩
 refine ⟨⟨h.below.trans (hb.mono h.b0),fun b hq => ?_,h.inj,fun id b m he => ?_,Nat.le_trans h.b0 hb.size,h.wf,h.gl.grow g,fun id l hy => ?_,h.yinj,fun b hq id hy => ?_⟩,g,fun b hq => ?_⟩
 ·have old : ok b → b < w'.heap.size ∧ ∀ id m,E id ≠ some (b,m) := fun hk => ⟨Nat.lt_of_lt_of_le (h.okb b hk).1 hb.size,(h.okb b hk).2⟩
  rcases hq with hq | hq
  ·exact old hq
  ·obtain ⟨h1,h2⟩ := hk b hq
   rcases h2 with h2 | h2
   ·exact old h2
   ·exact ⟨h1,fun id m he => by have := h.lt he; omega⟩
 ·obtain ⟨h0,c,e,B,hbb,hs,h1,hB,hc⟩ := h.loc id b m he
  exact ⟨h0,c,e,B,(hb.block b (h.lt he)).trans hbb,hs,h1,hB,hc.grow g⟩
 ·obtain ⟨h0,o,B,hl,hB,ho⟩ := h.obj id l hy
  exact ⟨h0,o,B,(hb.block l (h.ylt hy)).trans hl,hB,ho.grow g⟩
 ·rcases hq with hq | hq
  ·exact h.yok b hq id hy
  ·rcases (hk b hq).2 with h2 | h2
   ·exact h.yok b h2 id hy
   ·have := h.ylt hy; omega
 ·rcases hq with hq | hq
  ·exact .inl hq
  ·rcases (hk b hq).2 with h2 | h2
   ·exact .inl h2
   ·exact .inr (Nat.le_trans h.b0 h2)
def PureCall (P : Program) (g : FuncId) (args : List AV) (ds : List D) (L : Heap) (v : AV) : Prop :=
 Enters P g ∧ ∀ {B0 w0 ok E w} {vs cs : List Value},Mem B0 w0 ok E L w → Reps E w ok vs args → RepDs w ok cs ds →
  Calls P g (vs ++ cs).toArray w (fun e w' => ∃ u ok',e = .returned u ∧ Below w.heap.size w w' ∧ Mem B0 w0 ok' E L w' ∧ Grow E w ok E w' ok' ∧ (∀ b,ok' b → ok b ∨ B0 ≤ b) ∧ Rep E w' ok' u v)
theorem PureCall.nil {g : FuncId} {args : List AV} {ds : List D} {L : Heap} {v : AV} (h : ∀ X,PureCall P g args ds (L ++ X) v) : PureCall P g args ds L v := by
 have := h []
 rw [List.append_nil] at this
 exact this
theorem Z1g0 {g : FuncId} {ty : TypeId} {s : List D → Option D} (hsp : ∀ ds d,s ds = some d → DataSem P g ds d) {args : List AV} {ds : List D} {L : Heap} {k : AV → Option R} {r : R} (h : spK P ty s args ds L k = some r) :
  ∃ v,k v = some r ∧ ∀ X,PureCall P g args ds (L ++ X) v := by
 unfold spK at h
 rw [Z1eo (Z1as 8)] at h
 obtain ⟨xs,hxs,h1⟩ := Option.bind_eq_some_iff.1 h
 split at h1
 case isFalse => cases h1
 rename_i hc
 obtain ⟨d,hd,h2⟩ := Option.bind_eq_some_iff.1 h1
 refine ⟨.d d,Z1dr h2,fun X => ⟨(hsp _ _ hd).1,fun {B0 w0 ok E w vs cs} hM hr hcs => ?_⟩⟩
 replace hxs := Z1ep (Z1fz X 8) hxs
 by_cases hall : args.all AV.isD = true
 ·refine ((hsp _ _ hd).2 (w := w) (ok := ok) (fun b hb => (hM.okb b hb).1) hM.gl ((Z1jm hxs hall hr).append hcs)).mono ?_
  rintro e w' ⟨u,ok',rfl,hb,hk,hu⟩
  obtain ⟨hM',g,ext⟩ := hM.call hb hk
  exact ⟨u,_,rfl,hb,hM',g,ext,.d (hu.mono (fun b hb => .inr hb) (fun _ _ => rfl))⟩
 ·have hsc : Z171 P ty = true := by simpa [hall] using hc
  have hvals : RepDs w (okAll w) vs xs := by
   obtain ⟨hl,hi⟩ := Zr8 hxs
   refine ⟨by have := hr.1; omega,fun i x d hx hxd => ?_⟩
   have hlt : i < args.length := by have := (List.getElem?_eq_some_iff.1 hxd).1; omega
   have ha := List.getElem?_eq_getElem hlt
   exact viewD_sound (hi i _ d ha hxd) hM (fun b hb => (hM.okb b hb).1) (fun id b m he => hM.lt he) (hr.2 i x _ hx ha)
  have hcs' : RepDs w (okAll w) cs ds := ⟨hcs.1,fun i x d hx hd => (hcs.2 i x d hx hd).mono (fun b hb => (hM.okb b hb).1) (fun _ _ => rfl)⟩
  refine ((hsp _ _ hd).2 (w := w) (ok := okAll w) (fun b hb => hb) (hM.gl.mono (fun b hb => (hM.okb b hb).1) (fun _ _ => rfl)) (hvals.append hcs')).mono ?_
  rintro e w' ⟨u,ok',rfl,hb,hk,hu⟩
  obtain ⟨hM',g,ext⟩ := hM.call (ok' := fun _ => False) hb (fun b hb => hb.elim)
  exact ⟨u,_,rfl,hb,hM',g,ext,.d (Z1gr h2 hsc hu)⟩
end Go.Ev
/-
 Local slices that are written no more: frozen.
-/
set_option linter.unusedSimpArgs false
set_option linter.unusedVariables false
namespace Go.Ev
open Go Go.RowKit
variable {R : Type} {P : Program}
def Env.del (E : Env) (id : Nat) : Env := ⟨fun i => if i = id then none else E i,E.y⟩
def okDel (E : Env) (id : Nat) (ok : Nat → Prop) : Nat → Prop := fun b => ok b ∨ ∃ q,E id = some (b,q)
theorem Z1lb {B0 : Nat} {w0 : World} {ok : Nat → Prop} {E : Env} {L : Heap} {w : World} (hM : Mem B0 w0 ok E L w) (id : Nat) (hyn : ∀ l,E.y id ≠ some l) :
  Mem B0 w0 (okDel E id ok) (E.del id) ((L.map (killB id)).set id .dead) w := by
 have hE : ∀ i x,i ≠ id → E i = some x → (E.del id) i = some x := fun i x hne hi => by simp only [Env.del,if_neg hne]; exact hi
 have hok : ∀ b,ok b → okDel E id ok b := fun b hb => .inl hb
 have hM1 := hM.killB id
 refine ⟨hM.below,fun b hb => ?_,fun i j b m m' hi hj => ?_,fun i b m hi => ?_,hM.b0,fun i B hi => ?_,hM.gl.mono hok (fun _ _ => rfl),fun i l hy => ?_,hM.yinj,fun b hb i hy => ?_⟩
 ·rcases hb with hb | ⟨q,hq⟩
  ·refine ⟨(hM.okb b hb).1,fun i m he => ?_⟩
   simp only [Env.del] at he
   split at he
   ·cases he
   ·exact (hM.okb b hb).2 i m he
  ·refine ⟨hM.lt hq,fun i m he => ?_⟩
   simp only [Env.del] at he
   split at he
   ·cases he
   ·rename_i hne; exact hne (hM.inj _ _ _ _ _ he hq)
 ·simp only [Env.del] at hi hj
  split at hi <;> split at hj <;> first | exact hM.inj i j b m m' hi hj | cases hi | cases hj
 ·simp only [Env.del] at hi
  split at hi
  ·cases hi
  ·rename_i hne
   obtain ⟨h0,c,e,B,hb,hs,h1,hB,hc⟩ := hM1.loc i b m hi
   have hnr : blkRef id B = false := by
    rw [List.getElem?_map] at hB
    cases hq : L[i]? with
    | none => rw [hq] at hB; cases hB
    | some B3 => rw [hq] at hB; cases hB; exact Zy3 id B3
   exact ⟨h0,c,e,B,hb,hs,h1,by rw [List.getElem?_set_ne (Ne.symm hne)]; exact hB,hc.move hE (fun _ _ h => h) hok (fun _ _ => rfl) hnr⟩
 ·by_cases hid : i = id
  ·subst hid
   by_cases hlt : i < (L.map (killB i)).length
   ·rw [List.getElem?_set_self hlt] at hi; cases hi; trivial
   ·rw [List.getElem?_eq_none (by simp at hlt ⊢; omega)] at hi; cases hi
  ·rw [List.getElem?_set_ne (Ne.symm hid)] at hi; exact hM1.wf i B hi
 ·have hne : i ≠ id := fun e => hyn l (by rw [← e]; exact hy)
  obtain ⟨h0,o,B,hl,hB,ho⟩ := hM.obj i l hy
  exact ⟨h0,o,Ev.killB id B,hl,by rw [List.getElem?_set_ne (Ne.symm hne),List.getElem?_map,hB]; rfl,ho.moveB (id := id) hE (fun _ _ h => h) hok (fun _ _ => rfl)⟩
 ·rcases hb with hb | ⟨q,hq⟩
  ·exact hM.yok b hb i hy
  ·exact hM.yne hq hy rfl
theorem Z1jn {B0 : Nat} {w0 : World} {w : World} {base : Own} : ∀ {ids : List Nat} {ok : Nat → Prop} {E : Env} {L : Heap} {tmps : Array Value} {sl : List AV},Mem B0 w0 ok E L w → SlRep E w ok tmps sl → (∀ id,id ∈ ids → ownB base id = true) → (∀ id,id ∈ ids → ∀ l,E.y id ≠ some l) →
  ∃ ok' E',Mem B0 w0 ok' E' (frzL ids L) w ∧ SlRep E' w ok' tmps (frzSl ids sl) ∧ Step B0 base E w ok E' w ok' ∧ (∀ id,id ∈ ids → ∀ b q,E id = some (b,q) → ok' b) ∧ ∀ i x,E' i = some x → E i = some x
 | [],ok,E,L,tmps,sl,hM,hS,_,_ => ⟨ok,E,hM,hS,.refl _ _ _ _ _,fun id hid => by simp at hid,fun _ _ h => h⟩
 | id :: ids,ok,E,L,tmps,sl,hM,hS,hb,hyn => by
  have hE : ∀ i x,i ≠ id → E i = some x → (E.del id) i = some x := fun i x hne hi => by simp only [Env.del,if_neg hne]; exact hi
  have hok : ∀ b,ok b → okDel E id ok b := fun b hb => .inl hb
  have hS1 : SlRep (E.del id) w (okDel E id ok) tmps (kill id sl) := hS.move (id := id) hE (fun _ _ h => h) hok (fun _ _ => rfl)
  obtain ⟨ok',E',h1,h2,h3,h4,h5⟩ := Z1jn (ids := ids) (Z1lb hM id (hyn id (by simp))) hS1 (fun i hi => hb i (by simp [hi])) (fun i hi => hyn i (by simp [hi]))
  have g : Step B0 base E w ok (E.del id) w (okDel E id ok) := ⟨fun i x hi hx => hE i x (fun e => by subst e; rw [hb i (by simp)] at hi; cases hi) hx,hok,fun _ _ => rfl,fun b hbk => by
   rcases hbk with hbk | ⟨q,hq⟩
   ·exact .inl hbk
   ·exact .inr (hM.loc _ _ _ hq).1,fun _ _ _ h => h,.refl _⟩
  refine ⟨ok',E',h1,h2,g.trans h3,fun i hi b q he => ?_,fun i x hx => by
   have := h5 i x hx
   simp only [Env.del] at this
   split at this
   ·cases this
   ·exact this⟩
  by_cases hii : i = id
  ·subst hii; exact h3.oks b (.inr ⟨q,he⟩)
  ·rcases List.mem_cons.1 hi with rfl | hi
   ·exact absurd rfl hii
   ·exact h4 i hi b q (hE i _ hii he)
theorem Z1b6 {B0 : Nat} {w0 : World} {ok ok' : Nat → Prop} {E : Env} {L : Heap} {w : World} {id off n sz m fu : Nat} {cap : Option Nat} {cs : List D} {u : Value} {d : D} (hM : Mem B0 w0 ok E L w) (hB : L[id]? = some (.d m cs)) (hv : viewD L fu (.sl id off n cap sz) = some d)
  (hu : Rep E w ok u (.sl id off n cap sz)) (h1 : ∀ b,ok b → ok' b) (h2 : ∀ b q,E id = some (b,q) → ok' b) : RepD w ok' u d := by
 let E1 : Env := ⟨fun i => if i = id then E id else none,fun _ => none⟩
 have hM1 : Mem B0 w0 ok E1 L w := by
  refine ⟨hM.below,fun b hk => ⟨(hM.okb b hk).1,fun i q he => ?_⟩,fun i j b q q' hi hj => ?_,fun i b q he => ?_,hM.b0,hM.wf,hM.gl,fun i l hy => (nomatch hy),fun i j l hy => (nomatch hy),fun b _ i hy => (nomatch hy)⟩
  ·simp only [E1] at he
   split at he
   ·exact (hM.okb b hk).2 _ _ he
   ·cases he
  ·simp only [E1] at hi hj
   split at hi <;> split at hj <;> first | omega | cases hi | cases hj
  ·simp only [E1] at he
   split at he
   ·rename_i hii
    subst hii
    obtain ⟨h0,c,e,B,hbb,hs,h1,hB',hcc⟩ := hM.loc i b q he
    rw [hB] at hB'; cases hB'
    exact ⟨h0,c,e,_,hbb,hs,h1,hB,hcc⟩
   ·cases he
 have hu1 : Rep E1 w ok u (.sl id off n cap sz) := by
  cases hu with
  | sl hE a b c d => exact .sl (by simp only [E1,if_pos]; exact hE) a b c d
  | slz b => exact .slz b
 exact viewD_sound hv hM1 h1 (fun i b q he => by
  simp only [E1] at he
  split at he
  ·exact h2 b q he
  ·cases he) hu1
theorem slIds_mem : ∀ {args : List AV} {id off n sz : Nat} {cap : Option Nat},AV.sl id off n cap sz ∈ args → id ∈ slIds args
 | [],_,_,_,_,_,h => by simp at h
 | x :: r,id,off,n,sz,cap,h => by
  rcases List.mem_cons.1 h with rfl | h
  ·simp [slIds]
  ·have := slIds_mem h
   cases x <;> simp [slIds,this]
theorem Z13o {base : Own} {L : Heap} : ∀ {args : List AV},args.all (frzOne base L) = true → ∀ id,id ∈ slIds args → ownB base id = true ∧ ∃ m cs,L[id]? = some (.d m cs)
 | [],_,id,h => by simp [slIds] at h
 | x :: r,ha,id,h => by
  simp only [List.all_cons,Bool.and_eq_true] at ha
  cases x <;> simp only [slIds] at h <;> try exact Z13o ha.2 id h
  rcases List.mem_cons.1 h with rfl | h
  ·have := ha.1
   simp only [frzOne,Bool.and_eq_true] at this
   refine ⟨this.1,?_⟩
   have h2 := this.2
   split at h2
   ·rename_i hB; exact ⟨_,_,hB⟩
   ·cases h2
  ·exact Z13o ha.2 id h
theorem Zvm {base : Own} {L : Heap} : ∀ {args : List AV},args.all (frzOk base L) = true → ∀ id,id ∈ slIdA args → ownB base id = true ∧ ∃ m cs,L[id]? = some (.d m cs)
 | [],_,id,h => by simp [slIdA] at h
 | x :: r,ha,id,h => by
  simp only [List.all_cons,Bool.and_eq_true] at ha
  cases x <;> simp only [slIdA] at h <;> try exact Zvm ha.2 id h
  ·rcases List.mem_append.1 h with h | h
   ·exact Z13o ha.1 id h
   ·exact Zvm ha.2 id h
  ·rcases List.mem_cons.1 h with rfl | h
   ·exact (by
    have h1 := ha.1
    simp only [frzOk] at h1
    exact Z13o (base := base) (L := L) (args := [_]) ((Bool.and_true _).trans h1) _ (List.mem_cons_self ..))
   ·exact Zvm ha.2 id h
theorem slIdA_sl : ∀ {args : List AV} {id off n sz : Nat} {cap : Option Nat},AV.sl id off n cap sz ∈ args → id ∈ slIdA args
 | [],_,_,_,_,_,h => by simp at h
 | x :: r,id,off,n,sz,cap,h => by
  rcases List.mem_cons.1 h with rfl | h
  ·simp [slIdA]
  ·have := slIdA_sl h
   cases x <;> simp [slIdA,this]
theorem slIdA_agg : ∀ {args cs : List AV} {id : Nat},AV.agg cs ∈ args → id ∈ slIds cs → id ∈ slIdA args
 | [],_,_,h,_ => by simp at h
 | x :: r,cs,id,h,hi => by
  rcases List.mem_cons.1 h with rfl | h
  ·simp [slIdA,hi]
  ·have := slIdA_agg h hi
   cases x <;> simp [slIdA,this]
theorem slIdG_sub : ∀ {args : List AV} {id : Nat},id ∈ slIdG args → id ∈ slIdA args
 | [],_,h => by simp [slIdG] at h
 | x :: r,id,h => by
  cases x <;> simp only [slIdG] at h <;> simp only [slIdA] <;> try exact slIdG_sub h
  ·rcases List.mem_append.1 h with h | h
   ·exact List.mem_append.2 (.inl h)
   ·exact List.mem_append.2 (.inr (slIdG_sub h))
  ·exact List.mem_cons_of_mem _ (slIdG_sub h)
theorem Z1eq {B0 : Nat} {w0 : World} {ok ok' : Nat → Prop} {E : Env} {L : Heap} {w : World} {base : Own} {fu : Nat} {c : AV} {u : Value} {d : D} (hM : Mem B0 w0 ok E L w) (hok : frzOne base L c = true) (hv : viewD L (fu + 1) c = some d)
  (hrep : Rep E w ok u c) (h1 : ∀ b,ok b → ok' b) (h2 : ∀ id off n cap sz,c = .sl id off n cap sz → ∀ b q,E id = some (b,q) → ok' b) : RepD w ok' u d := by
 cases c <;> simp only [frzOne] at hok <;> try (cases hok; done)
 case d y =>
  simp only [viewD] at hv
  cases hv
  cases hrep with
  | d h => exact h.mono h1 (fun _ _ => rfl)
 case sl id off n cap sz =>
  simp only [Bool.and_eq_true] at hok
  cases hB : L[id]? with
  | none => rw [hB] at hok; cases hok.2
  | some B =>
   rw [hB] at hok
   cases B <;> try (cases hok.2; done)
   exact Z1b6 hM hB hv hrep h1 (fun b q he => h2 _ _ _ _ _ rfl b q he)
def Seen (L : Heap) (ids : List Nat) (xs : List AV) (t : Nat) (c : AV) : Prop :=
 ∃ (id off n : Nat) (cap : Option Nat) (sz m : Nat) (cs : List D) (d : D),xs[t]? = some (.sl id off n cap sz) ∧ id ∈ ids ∧ L[id]? = some (.d m cs) ∧ viewD L 8 (.sl id off n cap sz) = some d ∧ c = .d d
theorem Z158 {L : Heap} {ids : List Nat} : ∀ {xs ys : List AV} {k : List AV → Option R} {r : R},seeK L ids xs ys k = some r → ∃ zs,k zs = some r ∧ zs.length = ys.length ∧ ∀ (t : Nat) c,zs[t]? = some c → ys[t]? = some c ∨ Seen L ids xs t c
 | [],ys,k,r,h => ⟨ys,by simpa [seeK] using h,rfl,fun t c hc => .inl hc⟩
 | x :: xs,[],k,r,h => ⟨[],by simpa [seeK] using h,rfl,fun t c hc => .inl hc⟩
 | x :: xs,y :: ys,k,r,h => by
  have keep : (seeK L ids xs ys fun zs => k (y :: zs)) = some r → ∃ zs,k zs = some r ∧ zs.length = (y :: ys).length ∧ ∀ (t : Nat) c,zs[t]? = some c → (y :: ys)[t]? = some c ∨ Seen L ids (x :: xs) t c := fun h1 => by
   obtain ⟨zs,hk,hl,hz⟩ := Z158 h1
   refine ⟨y :: zs,hk,by simp [hl],fun t c hc => ?_⟩
   cases t with
   | zero => exact .inl hc
   | succ t =>
    rcases hz t c (by simpa using hc) with h2 | ⟨id,off,n,cap,sz,m,cs,d,h3⟩
    ·exact .inl (by simpa using h2)
    ·exact .inr ⟨id,off,n,cap,sz,m,cs,d,by simpa using h3.1,h3.2⟩
  unfold seeK at h
  cases x <;> simp only at h <;> try exact keep h
  rename_i id off n cap sz
  split at h
  case isFalse => exact keep h
  rename_i hid
  cases hB : L[id]? with
  | none => rw [hB] at h; exact keep h
  | some B =>
   rw [hB] at h
   cases B <;> simp only at h <;> try exact keep h
   rename_i m cs
   unfold cut at h
   split at h
   case isFalse => cases h
   rename_i hle
   obtain ⟨zs,hk,hl,hz⟩ := Z158 h
   refine ⟨_,hk,by simp [hl],fun t c hc => ?_⟩
   cases t with
   | zero =>
    simp only [List.getElem?_cons_zero,Option.some.injEq] at hc
    refine .inr ⟨id,off,n,cap,sz,m,cs,.list n cap (cutL m cs off (n * sz)),rfl,by simpa using hid,hB,?_,hc.symm⟩
    simp only [viewD,hB,cut,if_pos hle]
   | succ t =>
    rcases hz t c (by simpa using hc) with h2 | ⟨id,off,n,cap,sz,m,cs,d,h3⟩
    ·exact .inl (by simpa using h2)
    ·exact .inr ⟨id,off,n,cap,sz,m,cs,d,by simpa using h3.1,h3.2⟩
theorem Z178 {L : Heap} {ids : List Nat} : ∀ {As Bs : Heap} {k : Heap → Option R} {r : R},seeB L ids As Bs k = some r → ∃ Cs,k Cs = some r ∧ Cs.length = Bs.length ∧
  ∀ (i : Nat) C,Cs[i]? = some C → Bs[i]? = some C ∨ ∃ (m n : Nat) (xs ys zs : List AV),As[i]? = some (.a m xs) ∧ Bs[i]? = some (.a n ys) ∧ C = .a n zs ∧ zs.length = ys.length ∧ ∀ (t : Nat) c,zs[t]? = some c → ys[t]? = some c ∨ Seen L ids xs t c
 | [],Bs,k,r,h => ⟨Bs,by simpa [seeB] using h,rfl,fun t c hc => .inl hc⟩
 | A :: As,[],k,r,h => ⟨[],by simpa [seeB] using h,rfl,fun t c hc => .inl hc⟩
 | A :: As,B :: Bs,k,r,h => by
  have keep : (seeB L ids As Bs fun r => k (B :: r)) = some r → ∃ Cs,k Cs = some r ∧ Cs.length = (B :: Bs).length ∧
    ∀ (i : Nat) C,Cs[i]? = some C → (B :: Bs)[i]? = some C ∨ ∃ (m n : Nat) (xs ys zs : List AV),(A :: As)[i]? = some (.a m xs) ∧ (B :: Bs)[i]? = some (.a n ys) ∧ C = .a n zs ∧ zs.length = ys.length ∧ ∀ (t : Nat) c,zs[t]? = some c → ys[t]? = some c ∨ Seen L ids xs t c := fun h1 => by
   obtain ⟨Cs,hk,hl,hz⟩ := Z178 h1
   refine ⟨B :: Cs,hk,by simp [hl],fun i C hC => ?_⟩
   cases i with
   | zero => exact .inl hC
   | succ i => simpa using hz i C (by simpa using hC)
  unfold seeB at h
  cases A <;> simp only at h <;> try exact keep h
  cases B <;> simp only at h <;> try exact keep h
  rename_i m xs n ys
  obtain ⟨zs,h1,hzl,hzs⟩ := Z158 h
  obtain ⟨Cs,hk,hl,hz⟩ := Z178 h1
  refine ⟨.a n zs :: Cs,hk,by simp [hl],fun i C hC => ?_⟩
  cases i with
  | zero =>
   simp only [List.getElem?_cons_zero,Option.some.injEq] at hC
   exact .inr ⟨m,n,xs,ys,zs,rfl,rfl,hC.symm,hzl,hzs⟩
  | succ i => simpa using hz i C (by simpa using hC)
theorem Z1lc {B0 : Nat} {w0 : World} {ok ok' : Nat → Prop} {E E' : Env} {L L1 L2 : Heap} {ids : List Nat} {w : World} (hM : Mem B0 w0 ok E L w) (h1 : Mem B0 w0 ok' E' L1 w) (hok : ∀ b,ok b → ok' b) (hE : ∀ i x,E' i = some x → E i = some x) (hids : ∀ id,id ∈ ids → ∀ b q,E id = some (b,q) → ok' b) (hl : L2.length = L1.length)
  (hs : ∀ (i : Nat) C,L2[i]? = some C → L1[i]? = some C ∨ ∃ (m n : Nat) (xs ys zs : List AV),L[i]? = some (.a m xs) ∧ L1[i]? = some (.a n ys) ∧ C = .a n zs ∧ zs.length = ys.length ∧ ∀ (t : Nat) c,zs[t]? = some c → ys[t]? = some c ∨ Seen L ids xs t c) : Mem B0 w0 ok' E' L2 w := by
 have get : ∀ (i : Nat) B,L1[i]? = some B → ∃ C,L2[i]? = some C := fun i B hB => by
  have := (List.getElem?_eq_some_iff.1 hB).1
  exact ⟨L2[i],List.getElem?_eq_getElem (by omega)⟩
 refine ⟨h1.below,h1.okb,h1.inj,fun id b m he => ?_,h1.b0,fun i C hC => ?_,h1.gl,fun id l hy => ?_,h1.yinj,h1.yok⟩
 ·obtain ⟨h0,c,e,B,hb,hsz,h1c,hB,hc⟩ := h1.loc id b m he
  obtain ⟨C,hC⟩ := get id B hB
  refine ⟨h0,c,e,C,hb,hsz,h1c,hC,?_⟩
  rcases hs id C hC with h | ⟨m',n,xs,ys,zs,hx,hy,rfl,hzl,hz⟩
  ·rw [hB] at h; cases h; exact hc
  ·rw [hB] at hy; cases hy
   refine ⟨hzl.trans hc.1,hc.2.1,fun t a ha => ?_⟩
   rcases hz t a ha with h | ⟨id',off,n',cap,sz,m2,cs,d,hxt,hid,hBB,hv,rfl⟩
   ·exact hc.2.2 t a h
   ·obtain ⟨_,c',e',B',hb',_,_,hB',hc'⟩ := hM.loc id b m (hE _ _ he)
    rw [hb] at hb'; cases hb'
    rw [hx] at hB'; cases hB'
    obtain ⟨x,hxx,hr⟩ := hc'.2.2 t _ hxt
    exact ⟨x,hxx,.d (Z1b6 hM hBB hv hr hok (fun b q hq => hids id' hid b q hq))⟩
 ·rcases hs i C hC with h | ⟨m',n,xs,ys,zs,hx,hy,rfl,hzl,hz⟩
  ·exact h1.wf i C h
  ·have := h1.wf i _ hy
   exact hzl.trans this
 ·obtain ⟨h0,o,B,ho,hB,hr⟩ := h1.obj id l hy
  obtain ⟨C,hC⟩ := get id B hB
  rcases hs id C hC with h | ⟨m',n,xs,ys,zs,hx,hy',rfl,hzl,hz⟩
  ·rw [hB] at h; cases h; exact ⟨h0,o,B,ho,hC,hr⟩
  ·rw [hB] at hy'; cases hy'
   cases o <;> exact hr.elim
theorem frzSl_length : ∀ (ids : List Nat) (sl : List AV),(frzSl ids sl).length = sl.length
 | [],sl => rfl
 | id :: ids,sl => by simp only [frzSl]; rw [frzSl_length ids]; simp [kill]
theorem Z1jo {g : FuncId} {base : Own} {ty : TypeId} {s : List D → Option D} (hsp : ∀ ds d,s ds = some d → DataSem P g ds d) {args : List AV} {ds : List D} {sl : List AV} {L : Heap} {k : List AV → AV → Heap → Option R} {r : R} (h : spF P base ty s args ds sl L k = some r) :
  ∃ v sl' L',k sl' v L' = some r ∧ sl'.length = sl.length ∧ Enters P g ∧ ∀ {B0 w0 ok E w tmps} {vs cs : List Value},Mem B0 w0 ok E L w → Reps E w ok vs args → RepDs w ok cs ds → SlRep E w ok tmps sl →
   Calls P g (vs ++ cs).toArray w (fun e w' => ∃ u ok' E',e = .returned u ∧ Mem B0 w0 ok' E' L' w' ∧ Rep E' w' ok' u v ∧ SlRep E' w' ok' tmps sl' ∧ Step B0 base E w ok E' w' ok') := by
 unfold spF at h
 rw [Z1eo (Z1as 8)] at h
 obtain ⟨xs,hxs,h1⟩ := Option.bind_eq_some_iff.1 h
 split at h1
 case isFalse => cases h1
 rename_i hall
 obtain ⟨d,hd,h2⟩ := Option.bind_eq_some_iff.1 h1
 obtain ⟨sl',h3,hlen,hsee⟩ := Z158 (Z1dr h2)
 obtain ⟨L',hk,hlenB,hseeB⟩ := Z178 h3
 refine ⟨.d d,sl',L',hk,by rw [hlen,frzSl_length],(hsp _ _ hd).1,fun {B0 w0 ok E w tmps vs cs} hM hr hcs hsl => ?_⟩
 obtain ⟨okF,EF,hMF0,hSF,gF,hblk,hEF⟩ := Z1jn hM hsl (fun id hid => (Zvm hall id hid).1) (fun id hid l hy => by
  obtain ⟨_,m,cs,hB⟩ := Zvm hall id hid
  obtain ⟨_,o,B,_,hB',ho⟩ := hM.obj id l hy
  rw [hB] at hB'
  cases hB'
  cases o <;> exact ho.elim)
 have hvals : RepDs w okF vs xs := by
  obtain ⟨hl,hi⟩ := Zr8 hxs
  refine ⟨by have := hr.1; omega,fun i x d hx hxd => ?_⟩
  have hlt : i < args.length := by have := (List.getElem?_eq_some_iff.1 hxd).1; omega
  have ha := List.getElem?_eq_getElem hlt
  have hv := hi i _ d ha hxd
  have hrep := hr.2 i x _ hx ha
  have hmem := List.getElem_mem hlt
  have hok := List.all_eq_true.1 hall _ hmem
  generalize args[i] = c at hv hrep hmem hok
  cases c <;> simp only [frzOk] at hok <;> try (cases hok; done)
  case d y => exact Z1eq hM (base := base) rfl hv hrep gF.oks (fun id off n cap sz e => by cases e)
  case sl id off n cap sz => exact Z1eq hM hok hv hrep gF.oks (fun id' off' n' cap' sz' e b q he => by cases e; exact hblk id (slIdA_sl hmem) b q he)
  case agg cs' =>
   have hv' : ((mapO (viewD L 7) cs').bind fun ds => if ds.all D.one = true then some (.agg ds) else none) = some d := hv
   obtain ⟨ys,hys,h3⟩ := Option.bind_eq_some_iff.1 hv'
   split at h3
   ·rename_i hone
    cases h3
    cases hrep with
    | agg hl1 ho1 hr1 =>
     obtain ⟨hl2,hi2⟩ := Zr8 hys
     refine .agg (by omega) (fun d hd => List.all_eq_true.1 hone d hd) fun j x y hx hy => ?_
     have hlt : j < cs'.length := by have := (List.getElem?_eq_some_iff.1 hy).1; omega
     have hcj := List.getElem?_eq_getElem hlt
     have hmj := List.getElem_mem hlt
     refine Z1eq hM (List.all_eq_true.1 hok _ hmj) (hi2 j _ y hcj hy) (hr1 j x _ hx hcj) gF.oks (fun id off n cap sz e b q he => ?_)
     rw [e] at hmj
     exact hblk id (slIdA_agg hmem (slIds_mem hmj)) b q he
   ·cases h3
 have hMF : Mem B0 w0 okF EF L' w := Z1lc hM hMF0 gF.oks hEF (fun id hid => hblk id (slIdG_sub hid)) hlenB hseeB
 have hcs' : RepDs w okF cs ds := ⟨hcs.1,fun i x d hx hd => (hcs.2 i x d hx hd).mono gF.oks (fun _ _ => rfl)⟩
 refine ((hsp _ _ hd).2 (w := w) (ok := okF) (fun b hb => (hMF.okb b hb).1) hMF.gl (hvals.append hcs')).mono ?_
 rintro e w' ⟨u,ok',rfl,hb,hk,hu⟩
 obtain ⟨hM',g,ext⟩ := hMF.call hb hk
 refine ⟨u,_,EF,rfl,hM',.d (hu.mono (fun b hb => .inr hb) (fun _ _ => rfl)),fun t c hc => ?_,gF.trans (.of g ext)⟩
 rcases hsee t c hc with h1 | ⟨id,off,n,cap,sz,m,cs',d',hx,hid,hB,hv,rfl⟩
 ·exact hSF.grow g t c h1
 ·exact (Rep.d (E := EF) (Z1b6 hM hB hv (hsl t _ hx) gF.oks (fun b q he => hblk id hid b q he))).grow g
end Go.Ev
/-
 Rows of bytes whose type is known; pointers held against each other; strings out of rows of bytes; a row that is left.
-/
set_option linter.unusedSimpArgs false
set_option linter.unusedVariables false
namespace Go.Ev
open Go Go.RowKit
variable {R : Type} {P : Program} {base : Own}
theorem Z1js {t : TypeId} (h : ptrT P t = true) : ∃ te j,P.underlying t = some (.pointer te) ∧ P.info? te = some j := by
 unfold ptrT at h
 split at h
 ·rename_i te hu
  obtain ⟨j,hj⟩ := Option.isSome_iff_exists.1 h
  exact ⟨te,j,hu,hj⟩
 ·cases h
theorem Z122 {op : BinOp} {b : Bool} {t te : TypeId} {j : TypeInfo} (hu : P.underlying t = some (.pointer te)) (hj : P.info? te = some j) {k : AV → Option R} {r : R} (h : eqlB op b k = some r) :
  ∃ v,k v = some r ∧ ∀ {E : Env} {w : World} {ok : Nat → Prop} (x : Option Addr),x.isNone = b → ∃ z,(binOp op t (.pointer x) (.pointer none)).run P w = .ok z w ∧ Rep E w ok z v := by
 have h1 : ∀ (w : World) (d : Nat) (x : Option Addr),(Op.equalIn (d + 1) t (.pointer x) (.pointer none)).run P w = .ok x.isNone w := fun w d x => by
  cases x <;> simp [Op.equalIn,run_underlying hu,sizeOf,typeInfo,hj]
 unfold eqlB at h
 split at h
 ·exact ⟨_,h,fun {E w ok} x hx => ⟨.bool b,by simp only [binOp]; simp [Op.equal,Op.maxDepth,h1 w 9999,hx],.d (.v rfl)⟩⟩
 ·exact ⟨_,h,fun {E w ok} x hx => ⟨.bool !b,by simp only [binOp]; simp [Op.equal,Op.maxDepth,h1 w 9999,hx],.d (.v rfl)⟩⟩
 ·cases h
theorem Zy4 {op : BinOp} {t : TypeId} {x y : Operand} {a : Option Addr} {v : Value} : eqGuard op t x y (.pointer a) v = pure () := eqGuard_at_pointer op t x y v a
theorem Z1g4 {op : BinOp} {t : TypeId} (ht : ptrT P t = true) {x y : AV} {k : AV → Option R} {r : R} (h : ptrK op x y k = some r) :
  ∃ v,k v = some r ∧ ∀ {E w ok u u'} (xo yo : Operand),Rep E w ok u x → Rep E w ok u' y → ∃ z,(do eqGuard op t xo yo u u'; binOp op t u u' : Sem Value).run P w = .ok z w ∧ Rep E w ok z v := by
 obtain ⟨te,j,hu,hj⟩ := Z1js ht
 unfold ptrK at h
 split at h
 ·split at h
  ·rename_i i o i' o' hc
   obtain ⟨rfl,rfl⟩ := hc
   unfold eqlB at h
   split at h
   ·refine ⟨_,h,fun {E w ok u u'} xo yo hx hy => ?_⟩
    cases hx with
    | ptr he =>
     cases hy with
     | ptr he' =>
      rw [he] at he'; cases he'
      exact ⟨.bool true,by rw [Zy4]; simp [run_eql_ptr_same w _ hu hj],.d (.v rfl)⟩
   ·refine ⟨_,h,fun {E w ok u u'} xo yo hx hy => ?_⟩
    cases hx with
    | ptr he =>
     cases hy with
     | ptr he' =>
      rw [he] at he'; cases he'
      exact ⟨.bool false,by rw [Zy4]; simp [Lib.run_neq_ptr_same w _ hu hj],.d (.v rfl)⟩
   ·cases h
  ·cases h
 ·rename_i i o
  obtain ⟨v,hk,hs⟩ := Z122 hu hj h
  refine ⟨v,hk,fun {E w ok u u'} xo yo hx hy => ?_⟩
  cases hx with
  | ptr he =>
   cases hy with
   | d hd =>
    cases hd with
    | v hl =>
     rw [Zy4]
     simpa using hs (E := E) (w := w) (ok := ok) (some _) rfl
 ·obtain ⟨v,hk,hs⟩ := Z122 hu hj h
  refine ⟨v,hk,fun {E w ok u u'} xo yo hx hy => ?_⟩
  cases hx with
  | d hd =>
   cases hd with
   | v hl =>
    cases hy with
    | d hd' =>
     cases hd' with
     | v hl' =>
      rw [Zy4]
      simpa using hs (E := E) (w := w) (ok := ok) none rfl
 ·cases h
theorem Z1et {fn : Func} (h : fn.name = "internal/abi.NoEscape") (h2 : fn.origin = "") : Extern.findNext fn = none ∧ Extern.find fn = some Extern.AbiNoEscape.same := by
 unfold Extern.findNext Extern.find
 rw [h,h2]
 constructor <;> rfl
theorem Z1jt {c : Call} {g : FuncId} (h : Z1ax P c g = true) (x : Value) (w : World) : (callFunc g #[x]).run P w = .ok (.value x) w := by
 unfold Z1ax at h
 split at h
 ·split at h
  ·split at h
   ·rename_i fn hf
    simp only [Bool.and_eq_true,beq_iff_eq] at h
    obtain ⟨hb,hn,ho⟩ := h
    obtain ⟨h1,h2⟩ := Z1et hn ho
    rw [run_callFunc_extern hf (by rw [hn]; rfl) hb h1 h2]
    rfl
   ·cases h
  ·cases h
 ·cases h
theorem Z1ld {B : Blk} (h : (∃ ty n cs,B = .t ty n cs) ∨ (∃ ty n cs,B = .td ty n cs)) {E : Env} {w : World} {ok : Nat → Prop} {o : Obj} (ho : ObjRep E w ok o B) : False := by
 rcases h with ⟨_,_,_,rfl⟩ | ⟨_,_,_,rfl⟩ <;> cases o <;> exact ho.elim
theorem Z1kn {B0 : Nat} {w0 : World} {ok : Nat → Prop} {E : Env} {L : Heap} {w : World} (hM0 : Mem B0 w0 ok E L w) {id : Nat} (hbase : ownB base id = true) {Bk B : Blk} (hB0 : L[id]? = some Bk) (hno : ∀ o,ObjRep E w ok o Bk → False)
  {cv : Array Value} {e : TypeId} (g1 : ∀ x,x ∈ cv.toList → x.oneCell' = true) (g2 : CellsRep E w ok e cv.toList B) (hr : blkRef id B = false) {tmps : Array Value} {sl : List AV} (hsl : SlRep E w ok tmps sl) :
  Mem B0 w0 ok (E.put id (w.heap.size,cv.size)) ((L.map (killB id)).set id B) (w.drew.alloc (.cells cv e)) ∧ SlRep (E.put id (w.heap.size,cv.size)) (w.drew.alloc (.cells cv e)) ok tmps (kill id sl) ∧
   Step B0 base E w ok (E.put id (w.heap.size,cv.size)) (w.drew.alloc (.cells cv e)) ok := by
 have hM := hM0.killB id
 have hid : id < (L.map (killB id)).length := by simpa using (List.getElem?_eq_some_iff.1 hB0).1
 have hEm : ∀ j x,j ≠ id → E j = some x → (E.put id (w.heap.size,cv.size)) j = some x := fun j x hne hj => by simp [Env.put,hne,hj]
 have hheap : ∀ q,ok q → (w.drew.alloc (.cells cv e)).heap[q]? = w.heap[q]? := fun q hq => heap_alloc_old w.drew _ (hM.okb q hq).1
 have hdf : KeptIn w (w.drew.alloc (.cells cv e)) := .old fun q hlt => heap_alloc_old w.drew _ hlt
 refine ⟨⟨?_,?_,?_,?_,?_,?_,hM.gl.mono (fun _ h => h) hheap,?_,hM.yinj,hM.yok⟩,hsl.move hEm (fun _ _ h => h) (fun _ h => h) hheap,⟨fun j x hj he => hEm j x (fun e => by subst e; rw [hbase] at hj; cases hj) he,fun _ h => h,hheap,fun _ h => .inl h,fun _ _ _ h => h,hdf⟩⟩
 ·exact hM.below.drew.alloc (by have := hM.b0; simpa using this) _
 ·intro q hq
  refine ⟨by have := (hM.okb q hq).1; simp; omega,fun j m' hj => ?_⟩
  by_cases hji : j = id
  ·simp [Env.put,hji] at hj; have := (hM.okb q hq).1; omega
  ·simp [Env.put,hji] at hj; exact (hM.okb q hq).2 j m' hj
 ·intro j j' q m1 m2 hj hj'
  by_cases h1 : j = id <;> by_cases h2 : j' = id
  ·omega
  ·simp [Env.put,h1] at hj; simp [Env.put,h2] at hj'; have := hM.lt hj'; omega
  ·simp [Env.put,h1] at hj; simp [Env.put,h2] at hj'; have := hM.lt hj; omega
  ·simp [Env.put,h1] at hj; simp [Env.put,h2] at hj'; exact hM.inj j j' q m1 m2 hj hj'
 ·intro j q m' hj
  by_cases hji : j = id
  ·simp [Env.put,hji] at hj
   obtain ⟨rfl,rfl⟩ := hj
   subst hji
   exact ⟨by have := hM.b0; omega,cv,e,_,heap_alloc_new w.drew _,rfl,g1,by rw [List.getElem?_set_self hid],g2.move (id := j) hEm (fun _ _ h => h) (fun _ h => h) hheap hr⟩
  ·simp [Env.put,hji] at hj
   obtain ⟨h0',c2,e2',B2,hb2,hs2,h12,hB2,hc2⟩ := hM.loc j q m' hj
   have hnr : blkRef id B2 = false := by
    rw [List.getElem?_map] at hB2
    cases hq : L[j]? with
    | none => rw [hq] at hB2; cases hB2
    | some B3 => rw [hq] at hB2; cases hB2; exact Zy3 id B3
   exact ⟨h0',c2,e2',B2,(heap_alloc_old w.drew _ (hM.lt hj)).trans hb2,hs2,h12,by rw [List.getElem?_set_ne (Ne.symm hji)]; exact hB2,hc2.move hEm (fun _ _ h => h) (fun _ h => h) hheap hnr⟩
 ·have := hM.b0; simp; omega
 ·exact hM.wf.set g2 id
 ·intro j l hy
  obtain ⟨h0',o,B2,hl2,hB2,ho⟩ := hM0.obj j l hy
  have hji : j ≠ id := fun e => by
   subst e
   rw [hB0] at hB2
   cases hB2
   exact hno _ ho
  have ho' := ho.moveB (id := id) (E' := E.put id (w.heap.size,cv.size)) (w' := w.drew.alloc (.cells cv e)) (ok' := ok) hEm (fun _ _ h => h) (fun _ h => h) hheap
  exact ⟨h0',o,killB id B2,(heap_alloc_old w.drew _ (hM.ylt hy)).trans hl2,by rw [List.getElem?_set_ne (Ne.symm hji),List.getElem?_map,hB2]; rfl,ho'⟩
theorem Z1le {B0 : Nat} {w0 : World} {ok : Nat → Prop} {E : Env} {L : Heap} {w w' : World} (hM : Mem B0 w0 ok E L w) {id b m : Nat} (hbase : ownB base id = true) (he : E id = some (b,m))
  (hbel : Below B0 w0 w') (hsz : w'.heap.size = w.heap.size) (hheap : ∀ q,q ≠ b → w'.heap[q]? = w.heap[q]?) {tmps : Array Value} {sl : List AV} (hsl : SlRep E w ok tmps sl) :
  Mem B0 w0 ok (E.del id) ((L.map (killB id)).set id .dead) w' ∧ SlRep (E.del id) w' ok tmps (kill id sl) ∧ Step B0 base E w ok (E.del id) w' ok := by
 have hE : ∀ i x,i ≠ id → E i = some x → (E.del id) i = some x := fun i x hne hi => by simp only [Env.del,if_neg hne]; exact hi
 have hM1 := hM.killB id
 have hok : ∀ q,ok q → w'.heap[q]? = w.heap[q]? := fun q hq => hheap q (fun e => (hM.okb q hq).2 id m (by rw [e]; exact he))
 have hdf : KeptIn w w' := .of fun q o hq hk => hheap q (fun e => by
  obtain ⟨_,c,_,_,hb,_⟩ := hM.loc _ _ _ he
  rw [e,hb] at hq; cases hq; cases hk)
 refine ⟨⟨hbel,fun q hq => ⟨by rw [hsz]; exact (hM.okb q hq).1,fun i m' hi => ?_⟩,fun i j q m1 m2 hi hj => ?_,fun i q m' hi => ?_,by rw [hsz]; exact hM.b0,fun i B hi => ?_,hM.gl.mono (fun _ h => h) hok,fun i l hy => ?_,hM.yinj,hM.yok⟩,hsl.move (id := id) hE (fun _ _ h => h) (fun _ h => h) hok,
  ⟨fun i x hi hx => hE i x (fun e => by subst e; rw [hbase] at hi; cases hi) hx,fun _ h => h,hok,fun _ h => .inl h,fun _ _ _ h => h,hdf⟩⟩
 ·simp only [Env.del] at hi
  split at hi
  ·cases hi
  ·exact (hM.okb q hq).2 i m' hi
 ·simp only [Env.del] at hi hj
  split at hi <;> split at hj <;> first | exact hM.inj i j q m1 m2 hi hj | cases hi | cases hj
 ·simp only [Env.del] at hi
  split at hi
  ·cases hi
  ·rename_i hne
   obtain ⟨h0,c,e,B,hb,hs,h1,hB,hc⟩ := hM1.loc i q m' hi
   have hqb : q ≠ b := fun e => hne (hM.inj i id q m' m hi (by rw [e]; exact he))
   have hnr : blkRef id B = false := by
    rw [List.getElem?_map] at hB
    cases hq : L[i]? with
    | none => rw [hq] at hB; cases hB
    | some B3 => rw [hq] at hB; cases hB; exact Zy3 id B3
   exact ⟨h0,c,e,B,(hheap q hqb).trans hb,hs,h1,by rw [List.getElem?_set_ne (Ne.symm hne)]; exact hB,hc.move hE (fun _ _ h => h) (fun _ h => h) hok hnr⟩
 ·by_cases hid : i = id
  ·subst hid
   by_cases hlt : i < (L.map (killB i)).length
   ·rw [List.getElem?_set_self hlt] at hi; cases hi; trivial
   ·rw [List.getElem?_eq_none (by simp at hlt ⊢; omega)] at hi; cases hi
  ·rw [List.getElem?_set_ne (Ne.symm hid)] at hi; exact hM1.wf i B hi
 ·obtain ⟨h0,o,B,hl,hB,ho⟩ := hM.obj i l hy
  have hne : i ≠ id := fun e => hM.yidne he hy (by rw [e])
  exact ⟨h0,o,Ev.killB id B,(hheap l (hM.yne he hy)).trans hl,by rw [List.getElem?_set_ne (Ne.symm hne),List.getElem?_map,hB]; rfl,ho.moveB (id := id) hE (fun _ _ h => h) (fun _ h => h) hok⟩
theorem Zpy {t u ty e : TypeId} {i : TypeInfo} {z : Value} (ht : P.underlying t = some (.slice e)) (hu : P.underlying u = some .string) (hi : P.info? e = some i) (hz : i.zero = some z) {w : World}
  {bs : Option Addr} {sLen sCap : Nat} {s : ByteArray} (hg : sCap < sLen + s.size) (h63 : sLen + s.size ≤ 9223372036854775807) (hb : (sLen + s.size) * i.bytes ≤ 140737488355328)
  {olds : List Value} (ho : (Builtin.firstCells i.size sLen (.slice bs sLen sCap)).run P w.drew = .ok olds.toArray w.drew) :
  (Builtin.append_ #[t,u] ty #[.slice bs sLen sCap,.string s]).run P w =
   .ok (.slice (some ⟨w.heap.size,0,none⟩) (sLen + s.size) (grownCap w (sLen + s.size) sCap e))
    (w.drew.alloc (.cells (olds.toArray ++ (Lib.strCells s).toArray ++ Builtin.zeroCells z.cells (grownCap w (sLen + s.size) sCap e - (sLen + s.size))) e)) := by
 have hn : ¬ (sLen + s.size ≤ sCap) := by omega
 have h63' : ¬ (9223372036854775807 < ((sLen : Int) + (s.size : Int))) := by omega
 have hfit := growslice_fits (old := sCap) hg hb
 have h48' : ¬ (281474976710656 < Builtin.nextslicecap (sLen + s.size) sCap * i.bytes) := by omega
 have hf := Lib.run_firstCells_string (P := P) w.drew i.size s
 simp [Builtin.append_,run_underlying ht,run_underlying hu,sizeOf,typeInfo,zeroValue,hi,hz,Builtin.lenOf,hn,h63',h48',Question.forced,hf,ho,newRow,grownCap]
 congr 2
 apply Array.ext'
 simp [List.append_assoc]
theorem Zvn {t u ty e : TypeId} {i : TypeInfo} (ht : P.underlying t = some (.slice e)) (hu : P.underlying u = some .string) (hi : P.info? e = some i) {w : World} {a : Option Addr} {sLen sCap : Nat} {s : ByteArray} (hroom : sLen ≤ sCap) (hs : s.size = 0) :
  (Builtin.append_ #[t,u] ty #[.slice a sLen sCap,.string s]).run P w = .ok (.slice a sLen sCap) w := by
 have hf := Lib.run_firstCells_string (P := P) w i.size s
 have hz : Lib.strCells s = [] := List.eq_nil_of_length_eq_zero (by rw [Lib.strCells_length,hs])
 rw [hz,hs] at hf
 cases a with
 | none => simp [Builtin.append_,run_underlying ht,run_underlying hu,sizeOf,typeInfo,hi,Builtin.lenOf,hs,hroom,hf]
 | some a => simp [Builtin.append_,run_underlying ht,run_underlying hu,sizeOf,typeInfo,hi,Builtin.lenOf,hs,hroom,hf,storeCells]
theorem str_pw {w : World} {ok : Nat → Prop} (s : ByteArray) : PW (RepD w ok) (Lib.strCells s) (s.data.toList.map byteD) := by
 intro j d hd
 rw [List.getElem?_map] at hd
 cases hj : s.data.toList[j]? with
 | none => rw [hj] at hd; cases hd
 | some b =>
  rw [hj] at hd; cases hd
  exact ⟨.int .u8 b.toNat,by simp [Lib.strCells,List.getElem?_map,hj],.v rfl⟩
theorem Z123 (s : ByteArray) : (s.data.toList.map byteD).length = s.size := by
 rw [List.length_map,Array.length_toList]; rfl
theorem Z1eu {s : ByteArray} : ∀ d,d ∈ s.data.toList.map byteD → d.one = true := fun d hd => by
 obtain ⟨b,_,rfl⟩ := List.mem_map.1 hd; rfl
theorem Mem.reblk {B0 : Nat} {w0 : World} {ok : Nat → Prop} {E : Env} {L : Heap} {w : World} (h : Mem B0 w0 ok E L w) {id : Nat} {B B' : Blk} (hB : L[id]? = some B) (hc : ∀ e c,CellsRep E w ok e c B → CellsRep E w ok e c B') (hok : B'.ok) (hno : ∀ o,ObjRep E w ok o B → False) :
  Mem B0 w0 ok E (L.set id B') w := by
 have hlt := (List.getElem?_eq_some_iff.1 hB).1
 refine ⟨h.below,h.okb,h.inj,fun i b m he => ?_,h.b0,fun i C hi => ?_,h.gl,fun i l hy => ?_,h.yinj,h.yok⟩
 ·obtain ⟨h0,c,e,C,hb,hs,h1,hC,hcc⟩ := h.loc i b m he
  by_cases hid : i = id
  ·subst hid
   rw [hB] at hC; cases hC
   exact ⟨h0,c,e,B',hb,hs,h1,by rw [List.getElem?_set_self hlt],hc _ _ hcc⟩
  ·exact ⟨h0,c,e,C,hb,hs,h1,by rw [List.getElem?_set_ne (Ne.symm hid)]; exact hC,hcc⟩
 ·by_cases hid : i = id
  ·subst hid
   rw [List.getElem?_set_self hlt] at hi; cases hi; exact hok
  ·rw [List.getElem?_set_ne (Ne.symm hid)] at hi; exact h.wf i C hi
 ·obtain ⟨h0,o,C,hl,hC,ho⟩ := h.obj i l hy
  have hid : i ≠ id := fun e => by
   subst e
   rw [hB] at hC; cases hC
   exact hno _ ho
  exact ⟨h0,o,C,hl,by rw [List.getElem?_set_ne (Ne.symm hid)]; exact hC,ho⟩
theorem Z1d4 {t t' ty : TypeId} {sl : List AV} {s x : AV} {L : Heap} {k : List AV → AV → Heap → Option R} {r : R} (h0 : Z1ee P base t t' sl s x L k = some r) :
  ∃ sl' v L',k sl' v L' = some r ∧ sl'.length = sl.length ∧ ∀ {B0 w0 ok E w u us},Mem B0 w0 ok E L w → Rep E w ok u s → Rep E w ok us x → ∀ {tmps},SlRep E w ok tmps sl →
   ∃ y w' E',(Builtin.append_ #[t,t'] ty #[u,us]).run P w = .ok y w' ∧ Mem B0 w0 ok E' L' w' ∧ Rep E' w' ok y v ∧ SlRep E' w' ok tmps sl' ∧ Step B0 base E w ok E' w' ok := by
 unfold Z1ee at h0
 split at h0
 case h_2 => cases h0
 rename_i e hu hu'
 obtain ⟨z,hz,h1⟩ := Option.bind_eq_some_iff.1 h0
 obtain ⟨i,hi,h2⟩ := Option.bind_eq_some_iff.1 h1
 clear h0 h1
 split at h2
 case h_2 => cases h2
 split at h2
 case h_2 => cases h2
 rename_i bs
 split at h2
 case isFalse => cases h2
 rename_i hsz
 split at h2
 ·-- a nil slice
  split at h2
  ·rename_i hb0
   refine ⟨_,_,_,h2,rfl,fun {B0 w0 ok E w u us} hM hs hx tmps hsl => ?_⟩
   cases hs with
   | d hD =>
    obtain ⟨ab,cp,rfl,hn,hcap⟩ := Zsw hD
    obtain ⟨rfl,_⟩ := hx.v_inv
    exact ⟨_,w,E,Zvn hu hu' hi hn hb0,hM,.d hD,hsl,.refl _ _ _ _ _⟩
  ·rename_i hb0
   split at h2
   ·rename_i hfit
    refine ⟨_,_,_,h2,rfl,fun {B0 w0 ok E w u us} hM hs hx tmps hsl => ?_⟩
    cases hs with
    | d hD =>
     obtain ⟨ab,cp,rfl,hn,hcap⟩ := Zsw hD
     obtain ⟨rfl,_⟩ := hx.v_inv
     obtain rfl := hcap 0 rfl
     obtain ⟨zv,hzv,hgb⟩ := Zy2 hz hi
     have hge := grownCap_ge w (0 + bs.size) 0 e
     obtain ⟨g1,g2,g3⟩ := hgb (w := w) (ok := ok) (E := E) (olds := []) (news := Lib.strCells bs) (n := 0) (m := bs.size) (cs := []) (new := bs.data.toList.map byteD) rfl (by simp) (by rw [Lib.strCells_length,Z123]) (by rw [Z123,hsz]; omega) hge
      (fun j d hd => by simp at hd) (str_pw bs) (fun d hd => by simp at hd) Z1eu (fun v hv => by simp at hv) (Lib.strCells_oneCell bs)
     have hrun := Zpy (ty := ty) hu hu' hi hzv (w := w) (bs := ab) (sLen := 0) (sCap := 0) (s := bs) (by omega) (by have := hfit.2; omega) (by have := hfit.1; simpa using this) (olds := []) (by cases ab <;> simp [Builtin.firstCells,loadCells,loadCellsFrom])
     simp only [Nat.zero_add,hsz,Nat.mul_one] at g1 g2 g3 hrun hge
     generalize hcv : (([] : List Value).toArray ++ (Lib.strCells bs).toArray ++ Builtin.zeroCells zv.cells (grownCap w bs.size 0 e - bs.size)) = cv at g1 g2 g3 hrun
     have g2' : CellsRep E w ok e cv.toList (.td e bs.size (bs.data.toList.map byteD)) := ⟨rfl,by rw [Z123],g2.2.1,Z1eu,by simpa using g2.2.2.2⟩
     obtain ⟨E',hM',g,hE,hb,hnn⟩ := Zvk hM.drew cv e (.td e bs.size (bs.data.toList.map byteD)) (Place.push hM.drew _) g1 (g2'.grow (Grow.drew E w ok)) rfl
     exact ⟨_,_,E',hrun,hM',.sl (cap := none) hE hge (fun q hq => by cases hq) (by rw [g3]; omega) (.inl rfl),hsl.grow ((Grow.drew E w ok).trans g),.of' ((Grow.drew E w ok).trans g)⟩
   ·cases h2
 ·-- a row of bytes
  rename_i id n
  cases hB0 : L[id]? with
  | none => rw [hB0] at h2; cases h2
  | some B =>
  rw [hB0] at h2
  cases B <;> (try simp only at h2) <;> try (cases h2; done)
  rename_i e1 b cs
  split at h2
  case isFalse => cases h2
  rename_i hc
  obtain ⟨hbase,rfl,rfl,hfit⟩ := hc
  refine ⟨_,_,_,h2,by simp [kill],fun {B0 w0 ok E w u us} hM0 hu0 hx tmps hsl => ?_⟩
  obtain ⟨rfl,_⟩ := hx.v_inv
  have hno : ∀ {E : Env} {w : World} {ok : Nat → Prop} o,ObjRep E w ok o (.td e1 b cs) → False := fun o ho => Z1ld (.inr ⟨_,_,_,rfl⟩) ho
  have hM := hM0.killB id
  have hB : (L.map (killB id))[id]? = some (.td e1 b cs) := by rw [List.getElem?_map,hB0]; rfl
  have hM1 := hM0.reblk hB0 (B' := .d b cs) (fun e c h => ⟨h.2.1,h.2.2.1,h.2.2.2.1,h.2.2.2.2⟩) (show cs.length = b from hM0.wf _ _ hB0) (fun o => hno o)
  have hlt := (List.getElem?_eq_some_iff.1 hB0).1
  have hcl : cs.length = b := hM0.wf _ _ hB0
  have h4 : srcK (.sl id 0 b none 1) (L.set id (.d b cs)) 1 (fun m old => some (m,old)) = some (b,cs) := by
   simp [srcK,List.getElem?_set_self hlt,cut,cutL]
  obtain ⟨m1,old,hk,hs1⟩ := Zvl (P := P) h4
  cases hk
  obtain ⟨ab,cp,olds,rfl,e1',e2,e3,e4,e5,e6⟩ := hs1 hM1 hu0
  by_cases hroom : b + bs.size ≤ cp
  ·by_cases hm0 : bs.size = 0
   ·have hz0 : bs.data.toList.map byteD = [] := List.eq_nil_of_length_eq_zero (by rw [Z123,hm0])
    have : (L.map (killB id)).set id (.td e1 (b + bs.size) (cs ++ bs.data.toList.map byteD)) = L.map (killB id) := by
     rw [hz0,List.append_nil,hm0,Nat.add_zero]; exact Znn hB
    rw [this]
    refine ⟨_,w,E,Zvn hu hu' hi (by omega) hm0,hM,?_,hsl.move (id := id) (fun _ _ _ h => h) (fun _ _ h => h) (fun _ h => h) (fun _ _ => rfl),.refl _ _ _ _ _⟩
    rw [hm0,Nat.add_zero]; exact hu0
   ·cases hu0 with
    | slz hc0 => omega
    | sl hE hn hcap hm hoff =>
     rename_i off' bb mm
     obtain ⟨hB0',cc,e',B,hb,hs',h1,hB',hcc⟩ := hM.loc _ _ _ hE
     rw [hB] at hB'; cases hB'
     obtain ⟨rfl,hlc,hle,hone,hcell⟩ := hcc
     have hoff' : off' = 0 := by
      rcases hoff with h | h
      ·exact h
      ·omega
     subst hoff'
     have hle' : cs.length ≤ cc.size := by have := hle; simp at this; omega
     have hrun := Lib.run_append_room_string (P := P) w t t' ty e' i hu hu' hi hsz bb b cp cc hb bs hroom (by omega)
     have hcells : CellsRep E w ok e' (cc.toList.take b ++ Lib.strCells bs ++ cc.toList.drop (b + (Lib.strCells bs).length)) (.td e' (b + bs.size) (cs ++ bs.data.toList.map byteD)) := by
      have htk : (cc.toList.take b).length = cs.length := by simp; omega
      refine ⟨rfl,by rw [List.length_append,Z123,hlc],by simp [Lib.strCells_length]; omega,fun d hd => ?_,?_⟩
      ·rcases List.mem_append.1 hd with hd | hd
       ·exact hone d hd
       ·exact Z1eu d hd
      ·refine PW.more (PW.append (fun j d hd => ?_) (str_pw bs) htk) _
       obtain ⟨x,hx,hr⟩ := hcell j d hd
       have hj := (List.getElem?_eq_some_iff.1 hd).1
       exact ⟨x,by rw [List.getElem?_take,if_pos (by omega)]; exact hx,hr⟩
     obtain ⟨hM',g⟩ := hM.splice hE hb hs' h1 (off := b) (Lib.strCells_oneCell bs) (by rw [Lib.strCells_length]; omega) hcells
     rw [Lib.strCells_length] at hM' g
     exact ⟨_,_,E,hrun,hM',.sl hE hroom (fun q hq => by cases hq) hm (.inl rfl),hsl.move (id := id) (fun _ _ _ h => g.env _ _ h) g.envy g.oks g.heap,.of' g⟩
  ·-- a new array: the block has moved
   obtain ⟨zv,hzv,hgb⟩ := Zy2 hz hi
   have hge := grownCap_ge w (b + bs.size) cp e1
   obtain ⟨g1,g2,g3⟩ := hgb (w := w) (ok := ok) (E := E) (olds := olds) (news := Lib.strCells bs) (n := b) (m := bs.size) (cs := cs) (new := bs.data.toList.map byteD) e1' (by rw [hsz]; omega) (by rw [Lib.strCells_length,Z123]) (by rw [Z123,hsz]; omega) hge
    e3 (str_pw bs) e4 Z1eu e5 (Lib.strCells_oneCell bs)
   have hrun := Zpy (ty := ty) hu hu' hi hzv (w := w) (bs := ab) (sLen := b) (sCap := cp) (s := bs) (by omega) hfit.2 hfit.1 (olds := olds) (by rw [hsz]; exact Z3j (P := P) e6 (by omega) w.drew rfl)
   generalize hcv : (olds.toArray ++ (Lib.strCells bs).toArray ++ Builtin.zeroCells zv.cells (grownCap w (b + bs.size) cp e1 - (b + bs.size))) = cv at g1 g2 g3 hrun
   have g2' : CellsRep E w ok e1 cv.toList (.td e1 (b + bs.size) (cs ++ bs.data.toList.map byteD)) := ⟨rfl,by rw [List.length_append,Z123,hcl],by have := g2.2.1; rw [hsz,Nat.mul_one] at this; exact this,g2.2.2.1,g2.2.2.2⟩
   obtain ⟨q1,q2,q3⟩ := Z1kn hM0 hbase hB0 (fun o => hno o) g1 g2' rfl hsl
   exact ⟨_,_,_,hrun,q1,.sl (b := w.heap.size) (m := cv.size) (by simp [Env.put]) hge (fun q hq => by cases hq) (by rw [g3,hsz]; omega) (.inl rfl),q2,q3⟩
 ·cases h2
theorem Z15c {x : AV} {k : AV → Option R} {r : R} (h : Z1ef x k = some r) :
  ∃ v,k v = some r ∧ ∀ {E : Env} {w : World} {ok : Nat → Prop} {u : Value},Rep E w ok u x → ∀ (ts : Array TypeId) (ty : TypeId),∃ z,(Builtin.unsafeSliceData_ ts ty #[u]).run P w = .ok z w ∧ Rep E w ok z v := by
 unfold Z1ef at h
 split at h
 case h_2 => cases h
 split at h
 case isFalse => cases h
 rename_i id off n cap sz hc
 obtain ⟨hn,rfl⟩ := hc
 refine ⟨_,h,fun {E w ok u} hu ts ty => ?_⟩
 cases hu with
 | slz hc0 => omega
 | sl hE hle hcap hm hoff =>
  rename_i off' cp b m
  have : off' = off := by
   rcases hoff with h | h
   ·exact h
   ·omega
  subst this
  exact ⟨_,Lib.run_unsafeSliceData_row (P := P) w ts ty _ n cp (by omega),.ptr hE⟩
theorem Z14a (w : World) : ∀ (l : List Int) (a : Addr) (acc : ByteArray),(∀ j x,l[j]? = some x → w.cell? (a.add j) = some (.int .u8 x)) →
  (loadBytes a acc l.length).run P w = .ok ⟨acc.data ++ (l.map fun x => UInt8.ofNat x.toNat).toArray⟩ w
 | [],a,acc,_ => by simp [loadBytes]
 | x :: l,a,acc,h => by
  have h0 : w.cell? a = some (.int .u8 x) := by
   have := h 0 x rfl
   simpa [Addr.add] using this
  have ih := Z14a w l (a.add 1) (acc.push (UInt8.ofNat x.toNat)) (fun j y hy => by
   have := h (j + 1) y (by simpa using hy)
   have e : (a.add 1).add j = a.add (j + 1) := by
    unfold Addr.add
    by_cases hj : j = 0
    ·subst hj; simp
    ·simp [hj]; omega
   rw [e]; exact this)
  have hx : (x.toNat).toUInt8 = UInt8.ofNat x.toNat := rfl
  simp only [List.length_cons,loadBytes,Sem.run_bind,run_load,h0,Result.andThen,hx]
  rw [ih]
  congr 1
  apply ByteArray.ext
  simp [ByteArray.push]
theorem Z1gu (w : World) (pt it ty e : TypeId) (hp : P.underlying pt = some (.pointer e)) (hc : P.cellsOf e = 1) (g cells : Nat) (hsh : w.shape? g = some (e,cells)) (l : List Int) (h0 : l ≠ []) (hn : l.length ≤ cells) (h63 : l.length ≤ 9223372036854775807)
  (hcell : ∀ j x,l[j]? = some x → w.cell? ((⟨g,0,none⟩ : Addr).add j) = some (.int .u8 x)) :
  (Builtin.unsafeString_ #[pt,it] ty #[.pointer (some ⟨g,0,none⟩),.int .i64 l.length]).run P w = .ok (.string ⟨(l.map fun x => UInt8.ofNat x.toNat).toArray⟩) (w.freeze ⟨g,0,none⟩ l.length) := by
 have hl : l.length ≠ 0 := by simpa using h0
 have hlb := Z14a (P := P) w l ⟨g,0,none⟩ .empty hcell
 have hlies := Lib.liesAt_bytes (P := P) hc (cells / P.cellsOf e) l.length (by rw [hc]; simpa using hn)
 have h63' : ¬ (9223372036854775807 : Int) < (l.length : Int) := by omega
 have hdef : Builtin.unsafeString_ #[pt,it] ty #[.pointer (some ⟨g,0,none⟩),.int .i64 l.length] =
   (do
    let n ← asInt (.int .i64 l.length)
    if n < 0 then runtimePanic (.error "unsafe.String: len out of range")
    if n > IntKind.i64.max then unsupported (.unsafePointer "String: a length above the largest int")
    if n = 0 then pure (.string .empty)
    else if ← variablesAt ⟨g,0,none⟩ (← elemOf pt) n.toNat then do
     let s ← loadBytes ⟨g,0,none⟩ .empty n.toNat
     freeze ⟨g,0,none⟩ n.toNat
     pure (.string s)
    else unsupported (.unsafePointer "String: not so many bytes at ptr")) := rfl
 rw [hdef]
 have hmax : IntKind.i64.max = 9223372036854775807 := rfl
 have hneg : ¬ (l.length : Int) < 0 := by omega
 simp [asInt,asIntOf,hmax,h63',hneg,hl,variablesAt,hsh,elemOf,run_underlying hp,hlies,hlb]
theorem Z1g5 {w : World} {g q n : Nat} (h : q ≠ g) : (w.freeze ⟨g,0,none⟩ n).heap[q]? = w.heap[q]? := by
 unfold World.freeze
 split
 ·rfl
 ·simp only [Array.getElem?_modify]
  rw [if_neg (by simpa using fun e => h e.symm)]
theorem Z1gv {w : World} {g n : Nat} : (w.freeze ⟨g,0,none⟩ n).heap.size = w.heap.size := by
 unfold World.freeze
 split
 ·rfl
 ·simp
theorem Z1ev {pt ty it : TypeId} {sl : List AV} {x n : AV} {L : Heap} {k : List AV → AV → Heap → Option R} {r : R} (h : Z1eg P base pt sl x n L k = some r) :
  ∃ sl' v L',k sl' v L' = some r ∧ sl'.length = sl.length ∧ ∀ {B0 w0 ok E w u us},Mem B0 w0 ok E L w → Rep E w ok u x → Rep E w ok us n → ∀ {tmps},SlRep E w ok tmps sl →
   ∃ y w' E',(Builtin.unsafeString_ #[pt,it] ty #[u,us]).run P w = .ok y w' ∧ Mem B0 w0 ok E' L' w' ∧ Rep E' w' ok y v ∧ SlRep E' w' ok tmps sl' ∧ Step B0 base E w ok E' w' ok := by
 unfold Z1eg at h
 split at h
 case h_2 => cases h
 rename_i e hp
 split at h
 case h_2 => cases h
 rename_i id
 cases hB : L[id]? with
 | none => rw [hB] at h; cases h
 | some B =>
 rw [hB] at h
 cases B <;> (try simp only at h) <;> try (cases h; done)
 rename_i e' b cs
 obtain ⟨q,hq,h1⟩ := Option.bind_eq_some_iff.1 h
 split at h1
 case isFalse => cases h1
 rename_i hc
 obtain ⟨hk1,hk2,hpos,hmax,rfl,hcell,hbase⟩ := hc
 obtain ⟨l,hl,hk⟩ := Option.bind_eq_some_iff.1 h1
 refine ⟨_,_,_,hk,by simp [kill],fun {B0 w0 ok E w u us} hM hu hn tmps hsl => ?_⟩
 cases hu with
 | ptr hE =>
  rename_i bb m
  obtain ⟨hB0,c,e2,B,hb,hs,h1',hB',hcc⟩ := hM.loc _ _ _ hE
  rw [hB] at hB'; cases hB'
  obtain ⟨rfl,hlc,hle,hone,hcr⟩ := hcc
  have hn' : us = .int .i64 b := by
   unfold asI at hq
   split at hq
   ·cases hq
    simp only at hk1 hk2
    subst hk1; subst hk2
    exact hn.v_inv.1
   ·cases hq
  subst hn'
  have hle' : cs.length ≤ c.size := by have := hle; simp at this; omega
  obtain ⟨ns,hns,hln⟩ := bytesOf_some hl (w := w) (ok := ok) (vs := c.toList.take b) (by simp; omega) (fun j d hd => by
   obtain ⟨x,hx,hr⟩ := hcr j d hd
   have hj := (List.getElem?_eq_some_iff.1 hd).1
   exact ⟨x,by rw [List.getElem?_take,if_pos (by omega)]; exact hx,hr⟩)
  have hnl : ns.length = b := by
   have := congrArg List.length hns
   simp at this
   omega
  have hrun := Z1gu (P := P) w pt it ty e2 hp hcell bb c.size (by simp [World.shape?,hb]) ns (fun e => by rw [e] at hnl; simp at hnl; omega) (by omega) (by omega) (fun j x hx => by
   have hj := (List.getElem?_eq_some_iff.1 hx).1
   have h3 : (c.toList.take b)[j]? = some (.int .u8 x) := by rw [hns,List.getElem?_map,hx]; rfl
   rw [List.getElem?_take,if_pos (by omega)] at h3
   rw [Znm,cell_of_row w bb (0 + j) c e2 _ hb,Nat.zero_add]
   simpa using h3)
  rw [hnl] at hrun
  obtain ⟨q1,q2,q3⟩ := Z1le hM hbase hE (w' := w.freeze ⟨bb,0,none⟩ b) (Lib.below_freeze hM.below (by simpa using hB0) b) Z1gv (fun q hq => Z1g5 hq) hsl
  exact ⟨_,_,_,hrun,q1,by rw [hln]; exact .d (.v rfl),q2,q3⟩
end Go.Ev
/-
 Objects that are no rows of cells: made,and changed.
-/
set_option linter.unusedSimpArgs false
set_option linter.unusedVariables false
namespace Go.Ev
open Go Go.RowKit
variable {P : Program}
theorem Z191 {B0 : Nat} {w0 w : World} (h : Below B0 w0 w) {r : Nat} (hr : B0 ≤ r) (o : Obj) : Below B0 w0 (w.putObj r o) := by
 refine ⟨h.os,h.tape,h.output,by simpa using h.size,fun k hk => ?_⟩
 rw [World.putObj_heap_other (by omega)]
 exact h.block k hk
theorem Blk.ok_obj {E : Env} {w : World} {ok : Nat → Prop} {o : Obj} {B : Blk} (h : ObjRep E w ok o B) : B.ok := by
 cases o <;> cases B <;> first | trivial | exact h.elim
def Env.puty (E : Env) (id l : Nat) : Env := ⟨E.e,fun i => if i = id then some l else E.y i⟩
theorem Mem.freshy {B0 : Nat} {w0 : World} {ok : Nat → Prop} {E : Env} {L : Heap} {w : World} (h : Mem B0 w0 ok E L w) : E.y L.length = none := by
 cases he : E.y L.length with
 | none => rfl
 | some l => have := h.yidlt he; omega
theorem Grow.allocy {B0 : Nat} {w0 : World} {ok : Nat → Prop} {E : Env} {L : Heap} {w : World} (h : Mem B0 w0 ok E L w) (o : Obj) (l : Nat) : Grow E w ok (E.puty L.length l) (w.alloc o) ok :=
 ⟨fun _ _ hx => hx,fun _ hb => hb,fun b hb => heap_alloc_old w o (h.okb b hb).1,fun id x hx => by
  have hne : id ≠ L.length := fun e => by rw [e,h.freshy] at hx; cases hx
  simp [Env.puty,hne,hx],.old fun b hb => heap_alloc_old w o hb⟩
theorem Mem.allocy {B0 : Nat} {w0 : World} {ok : Nat → Prop} {E : Env} {L : Heap} {w : World} (h : Mem B0 w0 ok E L w) (o : Obj) (B : Blk) (hn : ObjRep E w ok o B) :
  Mem B0 w0 ok (E.puty L.length w.heap.size) (L ++ [B]) (w.alloc o) := by
 have g := Grow.allocy h o w.heap.size
 refine ⟨h.below.alloc h.b0 _,fun b hb => ⟨by have := (h.okb b hb).1; simp; omega,fun id m he => (h.okb b hb).2 id m he⟩,h.inj,fun id b m he => ?_,by have := h.b0; simp; omega,h.wf.push' (Blk.ok_obj hn),h.gl.grow g,fun id l hy => ?_,fun i j l hi hj => ?_,fun b hb id hy => ?_⟩
 ·obtain ⟨h0,c',e',B',hb,hs,h1',hB,hc'⟩ := h.loc id b m he
  exact ⟨h0,c',e',B',(heap_alloc_old w _ (h.lt he)).trans hb,hs,h1',by rw [List.getElem?_append_left (h.idlt he)]; exact hB,hc'.grow g⟩
 ·by_cases hid : id = L.length
  ·simp [Env.puty,hid] at hy
   subst hy; subst hid
   exact ⟨h.b0,o,B,heap_alloc_new w _,by simp,hn.grow g⟩
  ·simp [Env.puty,hid] at hy
   obtain ⟨h0,o',B',hl,hB,ho⟩ := h.obj id l hy
   exact ⟨h0,o',B',(heap_alloc_old w _ (h.ylt hy)).trans hl,by rw [List.getElem?_append_left (h.yidlt hy)]; exact hB,ho.grow g⟩
 ·by_cases hid : i = L.length <;> by_cases hjd : j = L.length
  ·omega
  ·simp [Env.puty,hid] at hi; simp [Env.puty,hjd] at hj; have := h.ylt hj; omega
  ·simp [Env.puty,hid] at hi; simp [Env.puty,hjd] at hj; have := h.ylt hi; omega
  ·simp [Env.puty,hid] at hi; simp [Env.puty,hjd] at hj; exact h.yinj i j l hi hj
 ·by_cases hid : id = L.length
  ·simp [Env.puty,hid] at hy; have := (h.okb b hb).1; omega
  ·simp [Env.puty,hid] at hy; exact h.yok b hb id hy
theorem Mem.alloco {B0 : Nat} {w0 : World} {ok : Nat → Prop} {E : Env} {L : Heap} {w : World} (h : Mem B0 w0 ok E L w) (o : Obj) : Mem B0 w0 ok E L (w.alloc o) ∧ Grow E w ok E (w.alloc o) ok := by
 have g : Grow E w ok E (w.alloc o) ok := ⟨fun _ _ hx => hx,fun _ hb => hb,fun b hb => heap_alloc_old w o (h.okb b hb).1,fun _ _ hx => hx,.old fun b hb => heap_alloc_old w o hb⟩
 refine ⟨⟨h.below.alloc h.b0 _,fun b hb => ⟨by have := (h.okb b hb).1; simp; omega,(h.okb b hb).2⟩,h.inj,fun id b m he => ?_,by have := h.b0; simp; omega,h.wf,h.gl.grow g,fun id l hy => ?_,h.yinj,h.yok⟩,g⟩
 ·obtain ⟨h0,c',e',B',hb,hs,h1',hB,hc'⟩ := h.loc id b m he
  exact ⟨h0,c',e',B',(heap_alloc_old w _ (h.lt he)).trans hb,hs,h1',hB,hc'.grow g⟩
 ·obtain ⟨h0,o',B',hl,hB,ho⟩ := h.obj id l hy
  exact ⟨h0,o',B',(heap_alloc_old w _ (h.ylt hy)).trans hl,hB,ho.grow g⟩
theorem Grow.putObj {B0 : Nat} {w0 : World} {ok : Nat → Prop} {E : Env} {L : Heap} {w : World} (h : Mem B0 w0 ok E L w) {id l : Nat} (hy : E.y id = some l) {o o' : Obj} (ho : w.heap[l]? = some o) (hk : kept o = true → Keeps o o') : Grow E w ok E (w.putObj l o') ok :=
 ⟨fun _ _ hx => hx,fun _ hb => hb,fun b hb => World.putObj_heap_other (fun e => h.yok b hb id (by rw [e]; exact hy)),fun _ _ hx => hx,fun b q hb hq => by
  by_cases hbl : b = l
  ·subst hbl
   rw [ho] at hb; cases hb
   exact ⟨o',World.putObj_heap_same (h.ylt hy),hk hq⟩
  ·exact ⟨q,(World.putObj_heap_other hbl).trans hb,.inl rfl⟩⟩
theorem Mem.putObj {B0 : Nat} {w0 : World} {ok : Nat → Prop} {E : Env} {L : Heap} {w : World} (h : Mem B0 w0 ok E L w) {id l : Nat} (hy : E.y id = some l) {o o' : Obj} (ho : w.heap[l]? = some o) (hk : kept o = true → Keeps o o') {B' : Blk} (hn : ObjRep E w ok o' B') :
  Mem B0 w0 ok E (L.set id B') (w.putObj l o') := by
 have g := Grow.putObj h hy ho hk
 obtain ⟨hB0,_⟩ := h.obj id l hy
 refine ⟨Z191 h.below hB0 _,fun b hb => ⟨by simpa using (h.okb b hb).1,(h.okb b hb).2⟩,h.inj,fun i b m he => ?_,by simpa using h.b0,fun i B hi => ?_,h.gl.grow g,fun i l' hy' => ?_,h.yinj,h.yok⟩
 ·obtain ⟨h0,c',e',B,hb,hs,h1',hB,hc'⟩ := h.loc i b m he
  exact ⟨h0,c',e',B,(World.putObj_heap_other (fun e => h.yne he hy e.symm)).trans hb,hs,h1',by rw [List.getElem?_set_ne (h.yidne he hy)]; exact hB,hc'.grow g⟩
 ·by_cases hid : i = id
  ·subst hid
   rw [List.getElem?_set_self (h.yidlt hy)] at hi; cases hi
   exact Blk.ok_obj hn
  ·rw [List.getElem?_set_ne (Ne.symm hid)] at hi; exact h.wf i B hi
 ·by_cases hid : i = id
  ·subst hid
   rw [hy] at hy'; cases hy'
   exact ⟨hB0,o',B',World.putObj_heap_same (h.ylt hy),List.getElem?_set_self (h.yidlt hy),hn.grow g⟩
  ·obtain ⟨h0,o2,B2,hl,hB,ho2⟩ := h.obj i l' hy'
   refine ⟨h0,o2,B2,(World.putObj_heap_other (fun e => hid (h.yinj i id l' hy' (by rw [e]; exact hy)))).trans hl,by rw [List.getElem?_set_ne (Ne.symm hid)]; exact hB,ho2.grow g⟩
theorem Z14h {w : World} {l : Nat} {o o' : Obj} (h : w.heap[l]? = some o) (hn : noCells o = true) : (setObj l o').run P w = .ok () (w.putObj l o') := by cases o <;> first | (cases hn; done) | simp [setObj,Sem.run,h,World.putObj]
theorem Zal {w : World} {l : Nat} {o : Obj} (h : w.heap[l]? = some o) (hn : noCells o = true) : (getObj l).run P w = .ok o w := by cases o <;> first | (cases hn; done) | simp [getObj,Sem.run,h]
end Go.Ev
/-
 Maps whose keys are rows of whole numbers: asked,written.
-/
set_option linter.unusedSimpArgs false
set_option linter.unusedVariables false
namespace Go.Ev
open Go Go.RowKit
variable {R : Type} {P : Program}
theorem Znp (em : Bool) : ∀ (n : Nat) (t : TypeId) (ks : List Kd),kinds P n t = some ks → ∀ (d : Nat),n ≤ d → ∀ (cx : List Value),cx.length = ks.length → ∀ (desc : TypeDesc),P.underlying t = some desc → ∀ w,
  (isRow desc = false → ks.length = 1) ∧ (Instr.checkKey em d t (whole desc cx)).run P w = .ok () w
 | 0,_,_,h => by simp [kinds] at h
 | n + 1,t,ks,h => by
  intro d hd cx hl desc hu w
  obtain ⟨d,rfl⟩ : ∃ e,d = e + 1 := ⟨d - 1,by omega⟩
  simp only [kinds,hu] at h
  cases desc with
  | int k =>
   simp at h; subst h
   exact ⟨fun _ => rfl,by rw [Instr.checkKey]; simp only [Sem.run_bind,run_underlying hu,Result.andThen_ok,Sem.run_pure]⟩
  | bool =>
   simp at h; subst h
   exact ⟨fun _ => rfl,by rw [Instr.checkKey]; simp only [Sem.run_bind,run_underlying hu,Result.andThen_ok,Sem.run_pure]⟩
  | string =>
   simp at h; subst h
   exact ⟨fun _ => rfl,by rw [Instr.checkKey]; simp only [Sem.run_bind,run_underlying hu,Result.andThen_ok,Sem.run_pure]⟩
  | struct fs =>
   simp only at h
   split at h
   ·cases h
   ·refine ⟨fun hr => by simp [isRow] at hr,?_⟩
    simp only [whole,isRow,if_true]
    rw [Instr.checkKey]
    simp only [Sem.run_bind,run_underlying hu,Result.andThen_ok]
    rw [← Array.forIn_toList]
    obtain ⟨off,hoff⟩ : ∃ off : Nat,off = 0 := ⟨0,rfl⟩
    have hfit : off + ks.length ≤ cx.length := by omega
    rw [← hoff] at h
    clear hoff hl
    generalize fs.toList = l at h
    induction l generalizing off ks with
    | nil => simp
    | cons f l ih =>
     simp only [kindsF] at h
     split at h
     ·cases h
     ·rename_i hname
      split at h
      ·rename_i ho
       obtain ⟨a,ha,h1⟩ := Option.bind_eq_some_iff.1 h
       split at h1
       ·rename_i hsz
        obtain ⟨rest,hrest,h2⟩ := Option.bind_eq_some_iff.1 h1
        cases h2
        rw [List.length_append] at hfit
        cases hfu : P.underlying f.type with
        | none => cases n with
         | zero => simp [kinds] at ha
         | succ n => simp [kinds,hfu] at ha
        | some fd =>
         obtain ⟨hr1,he⟩ := Znp em n f.type a ha d (by omega) ((cx.drop off).take a.length) (by simp; omega) fd hfu w
         have px := Zxx (P := P) (cs := cx.toArray) (off := off) hfu hsz hr1 (by simp; omega) w
         rw [← ho] at px he
         simp only [List.forIn_cons,Sem.run_bind,hname,ne_eq,not_false_eq_true,if_true,Result.andThen_ok,px,he,Sem.run_pure]
         exact ih rest (off + a.length) (by omega) hrest
       ·cases h1
      ·cases h
  | array m e =>
   simp only at h
   obtain ⟨a,ha,h1⟩ := Option.bind_eq_some_iff.1 h
   split at h1
   ·rename_i hsz
    cases h1
    refine ⟨fun hr => by simp [isRow] at hr,?_⟩
    simp only [whole,isRow,if_true]
    rw [Instr.checkKey]
    simp only [Sem.run_bind,run_underlying hu,Result.andThen_ok]
    simp only [Std.Legacy.Range.forIn_eq_forIn_range',Std.Legacy.Range.size,Nat.sub_zero,Nat.add_one_sub_one,Nat.div_one]
    have hlen : cx.length = m * a.length := by rw [hl]; simp
    have each : ∀ j,j ∈ List.range' 0 m → j < m := fun j hj => by simp at hj; omega
    generalize List.range' 0 m = is at each
    cases hq : P.info? e with
    | none => rw [hq] at hsz; cases hsz
    | some inf =>
     rw [hq] at hsz
     have hinf : inf.size = a.length := by simpa using hsz
     cases hfu : P.underlying e with
     | none => cases n with
      | zero => simp [kinds] at ha
      | succ n => simp [kinds,hfu] at ha
     | some fd =>
      induction is with
      | nil => simp
      | cons j is ih =>
       have hj := each j (by simp)
       have hb : j * a.length + a.length ≤ m * a.length := by
        have := Nat.mul_le_mul_right a.length (show j + 1 ≤ m by omega)
        rw [Nat.succ_mul] at this
        exact this
       obtain ⟨hr1,he⟩ := Znp em n e a ha d (by omega) ((cx.drop (j * a.length)).take a.length) (by simp; omega) fd hfu w
       have px := Zxx (P := P) (cs := cx.toArray) (off := j * a.length) hfu (by rw [hq]; exact hsz) hr1 (by simp; omega) w
       have hso : (sizeOf e).run P w = .ok a.length w := by simp [sizeOf,typeInfo,Sem.run_bind,hq,hinf]
       simp only [List.forIn_cons,Sem.run_bind,hso,Result.andThen_ok,px,he,Sem.run_pure]
       exact ih fun y hy => each y (by simp [hy])
   ·cases h1
  | _ => simp at h
theorem int_same : ∀ {ks : List Kd} {cx cy : List Value} {b : Bool},ks.all Kd.num = true → valsEq ks cx cy = some b → (b = true → cx = cy) ∧ ∀ v,v ∈ cx → ∃ k i,v = .int k i
 | [],[],[],_,_,_ => ⟨fun _ => rfl,fun v hv => by simp at hv⟩
 | q :: ks,x :: xs,y :: ys,b,hk,h => by
  simp only [List.all_cons,Bool.and_eq_true] at hk
  simp only [valsEq] at h
  obtain ⟨b1,h1,h⟩ := Option.bind_eq_some_iff.1 h
  obtain ⟨b2,h2,h⟩ := Option.bind_eq_some_iff.1 h
  cases h
  obtain ⟨e1,e2⟩ := int_same hk.2 h2
  cases q <;> simp only [Kd.num] at hk <;> try (cases hk.1; done)
  obtain ⟨k,i,j,rfl,rfl,rfl⟩ := Z1fp h1
  refine ⟨fun hb => ?_,fun v hv => ?_⟩
  ·simp only [Bool.and_eq_true,beq_iff_eq] at hb
   rw [hb.1,e1 hb.2]
  ·rcases List.mem_cons.1 hv with rfl | hv
   ·exact ⟨_,_,rfl⟩
   ·exact e2 v hv
 | [],[],_ :: _,_,_,h | [],_ :: _,_,_,_,h | _ :: _,[],_,_,_,h | _ :: _,_ :: _,[],_,_,h => by simp [valsEq] at h
theorem Z1es {cx : List Value} (h : ∀ v,v ∈ cx → ∃ k i,v = Value.int k i) (n : Nat) : Instr.sameBits (n + 1) (.agg cx.toArray) (.agg cx.toArray) = true := by
 simp only [Instr.sameBits,beq_self_eq_true,Bool.true_and]
 rw [List.all_eq_true]
 rintro ⟨a,b⟩ hab
 obtain ⟨i,hi,he⟩ := List.getElem_of_mem hab
 simp only [List.getElem_zip,Prod.mk.injEq] at he
 obtain ⟨rfl,rfl⟩ := he
 obtain ⟨k,x,hx⟩ := h _ (by simpa using List.getElem_mem (l := cx) (n := i) (by simpa using hi))
 simp only [List.getElem_toArray,hx]
 cases n <;> simp [Instr.sameBits]
theorem Z1g3 {t : TypeId} {kd : D} (h : keyOk P t kd = true) : ∃ xs ks desc,kd = .agg xs ∧ kinds P 8 t = some ks ∧ P.underlying t = some desc ∧ isRow desc = true ∧ ks.length = xs.length ∧ ks.all Kd.num = true := by
 cases kd <;> simp only [keyOk] at h <;> try (cases h; done)
 rename_i xs
 simp only [Bool.and_eq_true] at h
 cases hk : kinds P 8 t with
 | none => rw [hk] at h; cases h.2
 | some ks =>
  rw [hk] at h
  simp only [Bool.and_eq_true,beq_iff_eq] at h
  cases hu : P.underlying t with
  | none => rw [hu] at h; cases h.1
  | some desc =>
   rw [hu] at h
   exact ⟨xs,ks,desc,rfl,rfl,rfl,by simpa using h.1,h.2.1,h.2.2⟩
theorem Z17a {t : TypeId} {ks : List Kd} {desc : TypeDesc} {xs : List D} (hks : kinds P 8 t = some ks) (hu : P.underlying t = some desc) (hrow : isRow desc = true) (hnum : ks.all Kd.num = true) {w : World} {ok : Nat → Prop} {k : Value} (hk : RepD w ok k (.agg xs)) :
  ∀ {kvs : List (D × D)} {es : List MapEntry} {i : Nat} {o : Option (Nat × D)},findM (keyEq P t) (.agg xs) kvs i = some o → es.length = kvs.length →
   (∀ (j : Nat) e p,es[j]? = some e → kvs[j]? = some p → RepD w ok e.key p.1 ∧ RepD w ok e.val p.2) →
   (o = none ∧ (Instr.findAsking t k es i).run P w = .ok none w) ∨
    ∃ j d e,o = some (i + j,d) ∧ es[j]? = some e ∧ (Instr.findAsking t k es i).run P w = .ok (some (i + j,e.val)) w ∧ RepD w ok e.val d ∧ e.key = k ∧ Instr.sameBits 10000 e.key k = true
 | [],[],i,o,h,_,_ => by
  simp only [findM,Option.some.injEq] at h; subst h
  exact .inl ⟨rfl,by simp [Instr.findAsking]⟩
 | [],_ :: _,i,o,h,hl,_ => by simp at hl
 | p :: kvs,[],i,o,h,hl,_ => by simp at hl
 | p :: kvs,e :: es,i,o,h,hl,hr => by
  simp only [findM] at h
  obtain ⟨b,hb,h1⟩ := Option.bind_eq_some_iff.1 h
  obtain ⟨r1,r2⟩ := hr 0 e p rfl rfl
  obtain ⟨pk,pv⟩ := p
  dsimp only at r1 r2 hb h1
  cases pk with
  | agg ys =>
   simp only [keyEq,hks,Option.bind_some] at hb
   obtain ⟨l1,p1,_,_⟩ := Z3z hk
   obtain ⟨l2,p2,_,_⟩ := Z3z r1
   have hv := valsEq_of_cells hb l1 l2 p1 p2
   have e1 := Z4h hk
   have e2 := Z4h r1
   obtain ⟨_,he⟩ := equalIn_kinds 8 t ks hks 10000 (by omega) _ _ b hv desc hu w
   simp only [whole,hrow,if_true] at he
   rw [← e1,← e2] at he
   have hq : (Op.equal t k e.key).run P w = .ok b w := he
   obtain ⟨s1,s2⟩ := int_same hnum hv
   cases b with
   | true =>
    simp only [cond_true,Option.some.injEq] at h1
    subst h1
    have hc := s1 rfl
    have hkey : e.key = k := by rw [e1,e2,hc]
    refine .inr ⟨0,pv,e,rfl,rfl,?_,r2,hkey,?_⟩
    ·simp [Instr.findAsking,Sem.run_bind,hq]
    ·rw [hkey,e1]
     exact Z1es s2 9999
   | false =>
    simp only [cond_false] at h1
    rcases Z17a hks hu hrow hnum hk h1 (by simpa using hl) (fun j e p he hp => hr (j + 1) e p (by simpa using he) (by simpa using hp)) with ⟨ho,hf⟩ | ⟨j,d,e',ho,hej,hf,hd,hke,hsb⟩
    ·exact .inl ⟨ho,by simp [Instr.findAsking,Sem.run_bind,hq,hf]⟩
    ·refine .inr ⟨j + 1,d,e',by rw [ho]; congr 2; omega,by simpa using hej,?_,hd,hke,hsb⟩
     simp only [Instr.findAsking,Sem.run_bind,hq,Result.andThen_ok,Bool.false_eq_true,if_false,hf]
     congr 3; omega
  | _ => simp [keyEq] at hb
theorem Zmt {t : TypeId} {desc : TypeDesc} (hu : P.underlying t = some desc) (hrow : isRow desc = true) (k : Value) (es : List MapEntry) (w : World) : (Instr.findKey t k es).run P w = (Instr.findAsking t k es).run P w := by
 unfold Instr.findKey
 simp only [Sem.run_bind,run_underlying hu,Result.andThen_ok]
 cases es with
 | nil => simp [Instr.findNow,Instr.findAsking]
 | cons e es =>
  have : Instr.sameNow desc k e.key = none := by cases desc <;> first | rfl | (simp [isRow] at hrow; done)
  simp only [Instr.findNow,this]
theorem Z1jr {x : AV} {L : Heap} (X : Heap) {kvs : List (D × D)} (h : mapOf x L = some kvs) : mapOf x (L ++ X) = some kvs := by
 unfold mapOf at h ⊢
 split at h
 ·rename_i id
  cases hB : L[id]? with
  | none => rw [hB] at h; cases h
  | some B => rw [hB] at h; simp only [Z177 hB]; exact h
 ·exact h
 ·cases h
theorem Z1gt {x : AV} {L : Heap} {kvs : List (D × D)} (h : mapOf x L = some kvs) {B0 : Nat} {w0 : World} {ok : Nat → Prop} {E : Env} {w : World} {u : Value} (hM : Mem B0 w0 ok E L w) (hu : Rep E w ok u x) :
  ∃ (l : Nat) (es : Array MapEntry) (q : Nat),u = .map (some l) ∧ w.heap[l]? = some (.map es q) ∧ es.size = kvs.length ∧ ∀ (j : Nat) e p,es.toList[j]? = some e → kvs[j]? = some p → RepD w ok e.key p.1 ∧ RepD w ok e.val p.2 := by
 unfold mapOf at h
 split at h
 ·rename_i id
  cases hu with
  | mp he =>
   rename_i l
   obtain ⟨_,o,B',hl,hB',ho⟩ := hM.obj id l he
   rw [hB'] at h
   cases B' <;> (try simp only at h) <;> try (cases h; done)
   cases h
   cases o <;> try exact ho.elim
   exact ⟨l,_,_,rfl,hl,ho.1,ho.2⟩
 ·cases h
  cases hu with
  | d hd =>
   cases hd with
   | mp hb hm hl h1 h2 => exact ⟨_,_,_,rfl,hm,hl,fun j e p he hp => ⟨h1 j e p he hp,h2 j e p he hp⟩⟩
 ·cases h
theorem Z1du {t : TypeId} {x i : AV} {c : Bool} {L : Heap} {k : AV → Option R} {r : R} (h : lookK P t x i c L k = some r) :
  ∃ v,k v = some r ∧ ∀ {B0 w0 ok E w u ui X},Mem B0 w0 ok E (L ++ X) w → Rep E w ok u x → Rep E w ok ui i → ∃ z,(Instr.lookup t u ui c).run P w = .ok z w ∧ Rep E w ok z v := by
 unfold lookK at h
 cases hu : P.underlying t with
 | none => rw [hu] at h; cases h
 | some desc =>
  rw [hu] at h
  cases desc <;> simp only at h <;> try (cases h; done)
  rename_i kt et
  obtain ⟨kvs,hmo,h⟩ := Option.bind_eq_some_iff.1 h
  ·cases i <;> simp only at h <;> try (cases h; done)
   rename_i kd
   split at h
   case isFalse => cases h
   rename_i hok
   obtain ⟨zd,hz,h1⟩ := Option.bind_eq_some_iff.1 h
   obtain ⟨inf,hinf,hz⟩ := Option.bind_eq_some_iff.1 hz
   obtain ⟨zv,hzv,hz⟩ := Option.bind_eq_some_iff.1 hz
   obtain ⟨p,hp,h2⟩ := Option.bind_eq_some_iff.1 h1
   obtain ⟨v,hv,hk⟩ := Z13n h2
   cases hv
   refine ⟨_,hk,fun {B0 w0 ok E w u ui X} hM hm hi => ?_⟩
   obtain ⟨xs,ks,dk,rfl,hks,huk,hrow,hlen,hnum⟩ := Z1g3 hok
   obtain ⟨l,es,clock,rfl,hl,ho⟩ := Z1gt (Z1jr X hmo) hM hm
   ·have hki : RepD w ok ui (.agg xs) := by cases hi with | d h => exact h
    obtain ⟨l1,p1,_,_⟩ := Z3z hki
    have e1 := Z4h hki
    have hck := (Znp (P := P) es.isEmpty 8 kt ks hks 10000 (by omega) ui.cells.toList (by rw [l1,hlen]) dk huk w).2
    simp only [whole,hrow,if_true] at hck
    rw [← e1] at hck
    unfold lookM at hp
    obtain ⟨o,hf,ho2⟩ := Option.map_eq_some_iff.1 hp
    have hzr : (zeroValue et).run P w = .ok zv w := by simp [zeroValue,typeInfo,Sem.run_bind,hinf,hzv]
    rcases Z17a hks huk hrow hnum hki hf (es := es.toList) (by simpa using ho.1) ho.2 with ⟨rfl,hfa⟩ | ⟨j,d,e,rfl,hej,hfa,hd,_,_⟩
    ·dsimp only at ho2; subst ho2
     have hzd := (Z13m hz (w := w) (ok := ok)).1
     cases c with
     | true =>
      refine ⟨.tuple #[zv,.bool false],by simp [Instr.lookup,Sem.run_bind,run_underlying hu,Zal hl rfl,hck,Zmt huk hrow,hfa,hzr],?_⟩
      refine .d (RepD.tup (vs := [zv,.bool false]) rfl fun i x d hx hd => ?_)
      match i with
      | 0 => simp at hx hd; subst hx hd; exact hzd
      | 1 => simp at hx hd; subst hx hd; exact .v rfl
      | n + 2 => simp at hx
     | false =>
      exact ⟨zv,by simp [Instr.lookup,Sem.run_bind,run_underlying hu,Zal hl rfl,hck,Zmt huk hrow,hfa,hzr],.d hzd⟩
    ·dsimp only at ho2; subst ho2
     cases c with
     | true =>
      refine ⟨.tuple #[e.val,.bool true],by simp [Instr.lookup,Sem.run_bind,run_underlying hu,Zal hl rfl,hck,Zmt huk hrow,hfa],?_⟩
      refine .d (RepD.tup (vs := [e.val,.bool true]) rfl fun i x d' hx hd' => ?_)
      match i with
      | 0 => simp at hx hd'; subst hx hd'; exact hd
      | 1 => simp at hx hd'; subst hx hd'; exact .v rfl
      | n + 2 => simp at hx
     | false =>
      exact ⟨e.val,by simp [Instr.lookup,Sem.run_bind,run_underlying hu,Zal hl rfl,hck,Zmt huk hrow,hfa],.d hd⟩
theorem Z192 {t : TypeId} {m i x : AV} {L : Heap} {k : Heap → Option R} {r : R} (h : Z1ei P t m i x L k = some r) :
  ∃ L',k L' = some r ∧ ∀ {B0 w0 ok E w um ui ux},Mem B0 w0 ok E L w → Rep E w ok um m → Rep E w ok ui i → Rep E w ok ux x → ∃ w',(Instr.mapUpdate t um ui ux).run P w = .ok () w' ∧ Mem B0 w0 ok E L' w' ∧ Grow E w ok E w' ok := by
 unfold Z1ei at h
 cases hu : P.underlying t with
 | none => rw [hu] at h; cases h
 | some desc =>
  rw [hu] at h
  cases desc <;> simp only at h <;> try (cases h; done)
  rename_i kt et
  cases m <;> simp only at h <;> try (cases h; done)
  rename_i id
  cases hB : L[id]? with
  | none => rw [hB] at h; cases h
  | some B =>
   rw [hB] at h
   cases B <;> simp only at h <;> try (cases h; done)
   rename_i kvs
   cases i <;> simp only at h <;> try (cases h; done)
   rename_i kd
   cases x <;> simp only at h <;> try (cases h; done)
   rename_i vd
   split at h
   case isFalse => cases h
   rename_i hok
   obtain ⟨l',hp,hk⟩ := Option.bind_eq_some_iff.1 h
   refine ⟨_,hk,fun {B0 w0 ok E w um ui ux} hM hm hi hx => ?_⟩
   obtain ⟨xs,ks,dk,rfl,hks,huk,hrow,hlen,hnum⟩ := Z1g3 hok
   cases hm with
   | mp he =>
    rename_i l
    obtain ⟨_,o,B',hl,hB',ho⟩ := hM.obj id l he
    rw [hB] at hB'; cases hB'
    cases o <;> try exact ho.elim
    rename_i es clock
    have hki : RepD w ok ui (.agg xs) := by cases hi with | d h => exact h
    have hxi : RepD w ok ux vd := by cases hx with | d h => exact h
    obtain ⟨l1,p1,_,_⟩ := Z3z hki
    have e1 := Z4h hki
    have hck := (Znp (P := P) false 8 kt ks hks 10000 (by omega) ui.cells.toList (by rw [l1,hlen]) dk huk w).2
    simp only [whole,hrow,if_true] at hck
    rw [← e1] at hck
    unfold putM at hp
    obtain ⟨o,hf,ho2⟩ := Option.map_eq_some_iff.1 hp
    rcases Z17a hks huk hrow hnum hki hf (es := es.toList) (by simpa using ho.1) ho.2 with ⟨rfl,hfa⟩ | ⟨j,d,e,rfl,hej,hfa,hd,hke,hsb⟩
    ·dsimp only at ho2; subst ho2
     refine ⟨w.putObj l (.map (es.push { key := ui,val := ux,born := clock }) (clock + 1)),by simp [Instr.mapUpdate,Sem.run_bind,run_underlying hu,Zal hl rfl,hck,Zmt huk hrow,hfa,Z14h hl rfl],hM.putObj he hl (fun hk => by cases hk) (o' := .map (es.push { key := ui,val := ux,born := clock }) (clock + 1)) (B' := .map (kvs ++ [(.agg xs,vd)])) ⟨by simp [ho.1],fun j e p hej hpj => ?_⟩,Grow.putObj hM he hl (fun hk => by cases hk)⟩
     have hsz := ho.1
     by_cases hj : j < kvs.length
     ·rw [List.getElem?_append_left hj] at hpj
      rw [Array.toList_push,List.getElem?_append_left (by simpa using (by omega : j < es.size))] at hej
      exact ho.2 j e p hej hpj
     ·rw [List.getElem?_append_right (by omega)] at hpj
      rw [Array.toList_push,List.getElem?_append_right (by simp; omega)] at hej
      have hz : j - kvs.length = 0 := by
       rcases Nat.eq_zero_or_pos (j - kvs.length) with h | h
       ·exact h
       ·rw [List.getElem?_eq_none (by simp; omega)] at hpj; cases hpj
      rw [hz] at hpj
      rw [show j - es.toList.length = 0 by simp; omega] at hej
      simp only [List.getElem?_cons_zero,Option.some.injEq] at hpj hej
      subst hpj hej
      exact ⟨hki,hxi⟩
    ·dsimp only at ho2; subst ho2
     rw [Nat.zero_add] at hfa
     have hst : (Instr.keyThatStays (((es[j]?).map (·.key)).getD ui) ui).run P w = .ok ui w := by
      have : es[j]? = some e := by simpa using hej
      rw [this]
      simp [Instr.keyThatStays,hsb]
     refine ⟨w.putObj l (.map (es.modify j fun e => { e with key := ui,val := ux }) clock),by simp [Instr.mapUpdate,Sem.run_bind,run_underlying hu,Zal hl rfl,hck,Zmt huk hrow,hfa,hst,Z14h hl rfl],hM.putObj he hl (fun hk => by cases hk) (o' := .map (es.modify j fun e => { e with key := ui,val := ux }) clock) (B' := .map (kvs.set (0 + j) (.agg xs,vd))) ⟨by simp [ho.1],fun q e' p hej' hpj => ?_⟩,Grow.putObj hM he hl (fun hk => by cases hk)⟩
     rw [Nat.zero_add] at hpj
     rw [Array.toList_modify] at hej'
     by_cases hq : q = j
     ·subst hq
      have hlt : q < kvs.length := by have := (List.getElem?_eq_some_iff.1 hej).1; have := ho.1; simp at *; omega
      rw [List.getElem?_set_self hlt] at hpj
      rw [List.getElem?_modify,hej] at hej'
      simp at hpj hej'
      subst hpj hej'
      exact ⟨hki,hxi⟩
     ·rw [List.getElem?_set_ne (Ne.symm hq)] at hpj
      rw [List.getElem?_modify] at hej'
      cases hx : es.toList[q]? with
      | none => rw [hx] at hej'; simp at hej'
      | some e2 =>
       rw [hx] at hej'
       simp [Ne.symm hq] at hej'
       subst hej'
       exact ho.2 q _ p hx hpj
end Go.Ev
/-
 What reads the memory reads the same where more blocks lie behind.
-/
set_option linter.unusedSimpArgs false
set_option linter.unusedVariables false
namespace Go.Ev
open Go Go.RowKit
variable {R : Type} {P : Program}
theorem Z1au {t : TypeDesc} {x : Option D} {k : AV → Option R} : rdK t x k = (rdK t x some).bind k := by
 unfold rdK
 cases t with
 | int kd => simp only; cases rdI kd x <;> rfl
 | bool => simp only; cases rdB x <;> rfl
 | string => simp only; cases rdS x <;> rfl
 | slice e => simp only; cases rdL x <;> rfl
 | func a b c => simp only; cases rdF x <;> rfl
 | _ => rfl
theorem Z13q {t : TypeId} {x : AV} {L : Heap} {k : AV → Heap → Option R} : loadK P t x L k = (loadK P t x L fun v _ => some v).bind fun v => k v L := by
 unfold loadK
 cases P.underlying t with
 | none => rfl
 | some d =>
 cases P.info? t with
 | none => rfl
 | some i =>
 simp only [Option.bind_some]
 cases x <;> dsimp only <;> try rfl
 case ptr id off =>
  cases L[id]? with
  | none => rfl
  | some B =>
   cases B <;> dsimp only <;> try rfl
   case d n cs =>
    split
    ·unfold cut; split <;> rfl
    ·rw [Z1au]
   case a n cs =>
    split
    ·unfold cut; split
     ·dsimp only; split <;> rfl
     ·rfl
    ·cases cs[off]? with
     | none => rfl
     | some y => cases y <;> dsimp only <;> first | rfl | rw [Z1au]
   case t ty n cs =>
    split
    ·rfl
    ·cases cs[off]? with
     | none => rfl
     | some y =>
      cases y <;> dsimp only <;> try rfl
      cases isPtr d with
      | false => simp only [cond_false]; rw [Z1au]
      | true => simp only [cond_true]; split <;> rfl
 case lp cs off =>
  split
  ·split <;> rfl
  ·rw [Z1au]
theorem Z1ju {t : TypeId} {x : AV} {L : Heap} (X : Heap) {v : AV} (h : (loadK P t x L fun v _ => some v) = some v) : (loadK P t x (L ++ X) fun v _ => some v) = some v := by
 unfold loadK at h ⊢
 obtain ⟨d,hu,h1⟩ := Option.bind_eq_some_iff.1 h
 obtain ⟨i,hi,h2⟩ := Option.bind_eq_some_iff.1 h1
 rw [hu,hi]
 simp only [Option.bind_some]
 cases x <;> dsimp only at h2 ⊢ <;> try exact h2
 case ptr id off =>
  cases hB : L[id]? with
  | none => simp only [hB] at h2; cases h2
  | some B => simp only [hB] at h2; simp only [Z177 hB]; exact h2
theorem Z1ii {t : TypeId} {x : AV} {L : Heap} {k : AV → Heap → Option R} {r : R} (h : loadK P t x L k = some r) :
  ∃ v,k v L = some r ∧ ∀ X {B0 w0 ok E w u},Mem B0 w0 ok E (L ++ X) w → Rep E w ok u x → ∃ y,(Instr.loadAt t u).run P w = .ok y w ∧ Rep E w ok y v := by
 rw [Z13q] at h
 obtain ⟨v,hv,hk⟩ := Option.bind_eq_some_iff.1 h
 refine ⟨v,hk,fun X => ?_⟩
 obtain ⟨v',hv',hs⟩ := Z172 (Z1ju X hv)
 cases hv'
 exact hs
theorem Z1iw {s d : TypeId} {x : AV} {L : Heap} {k : AV → Heap → Option R} : convK P s d x L k = (convK P s d x L fun v _ => some v).bind fun v => k v L := by
 unfold convK
 split
 ·split <;> rfl
 ·split <;> rfl
 ·split
  ·split
   ·split
    ·generalize bytesOf _ = q; cases q <;> rfl
    ·rfl
   ·split
    ·split
     ·unfold cut; split
      ·dsimp only; generalize bytesOf _ = q; cases q <;> rfl
      ·rfl
     ·rfl
    ·rfl
   ·rfl
  ·rfl
 ·split
  ·split <;> rfl
  ·rfl
 ·split
  ·split
   ·split <;> rfl
   ·rfl
  ·rfl
 ·split
  ·split
   ·split <;> rfl
   ·rfl
  ·rfl
 ·rfl
theorem Z1jv {s d : TypeId} {x : AV} {L : Heap} (X : Heap) {v : AV} (h : (convK P s d x L fun v _ => some v) = some v) : (convK P s d x (L ++ X) fun v _ => some v) = some v := by
 unfold convK at h ⊢
 cases hs : P.underlying s with
 | none => rw [hs] at h; cases h
 | some a =>
 cases hd : P.underlying d with
 | none => rw [hs,hd] at h; cases a <;> cases h
 | some b =>
 rw [hs,hd] at h
 cases a <;> cases b <;> dsimp only at h ⊢ <;> try (first | exact h | cases h)
 case slice.string e =>
  cases he : P.underlying e with
  | none => rw [he] at h; cases h
  | some c =>
   rw [he] at h
   cases c <;> (try dsimp only at h ⊢) <;> try (cases h; done)
   case int kd =>
    cases kd <;> (try dsimp only at h ⊢) <;> try (cases h; done)
    case u8 =>
     cases x <;> (try dsimp only at h ⊢) <;> try exact h
     case d y => cases y <;> first | exact h | cases h
     case sl id off n cap sz =>
      cases hB : L[id]? with
      | none => rw [hB] at h; cases h
      | some B => rw [hB] at h; rw [Z177 hB]; exact h
 all_goals
  cases x <;> (try dsimp only at h ⊢) <;> try exact h
  rename_i id off
  cases hB : L[id]? with
  | none => rw [hB] at h; cases h
  | some B => rw [hB] at h; rw [Z177 hB]; exact h
theorem Z1ko {s d : TypeId} {x : AV} {L : Heap} {k : AV → Heap → Option R} {r : R} (h : convK P s d x L k = some r) :
  ∃ v,k v L = some r ∧ ∀ X,(convK P s d x (L ++ X) fun v _ => some v) = some v := by
 rw [Z1iw] at h
 obtain ⟨v,hv,hk⟩ := Option.bind_eq_some_iff.1 h
 exact ⟨v,hk,fun X => Z1jv X hv⟩
theorem Z1jw {t : TypeId} {x : AV} {L : Heap} {lo hi mx : Option AV} {k : AV → Option R} {r : R} (h : sliceK P t x L lo hi mx k = some r) (X : Heap) : sliceK P t x (L ++ X) lo hi mx k = some r := by
 unfold sliceK at h ⊢
 cases hu : P.underlying t with
 | none => rw [hu] at h; cases h
 | some d =>
  rw [hu] at h
  cases d <;> dsimp only at h ⊢ <;> try exact h
  case array n e =>
   obtain ⟨i,hi',h1⟩ := Option.bind_eq_some_iff.1 h
   rw [hi',Option.bind_some]
   cases x <;> (try dsimp only at h1 ⊢) <;> try exact h1
   case ptr id off =>
    cases hB : L[id]? with
    | none => rw [hB] at h1; simp at h1
    | some B => rw [hB] at h1; rw [Z177 hB]; exact h1
theorem Znq {α : Type} {x : Option AV} {top dflt : Nat} {g : Nat → Option α} {k : α → Option R} : (bound x top dflt fun a => (g a).bind k) = (bound x top dflt g).bind k := by
 unfold bound
 cases x with
 | none => rfl
 | some v =>
  simp only
  cases asI v with
  | none => rfl
  | some p => simp only [Option.bind_some]; split <;> rfl
theorem Zrb {α : Type} {x : Option AV} {top dflt : Nat} {f : Nat → α} {k : α → Option R} : (bound x top dflt fun a => k (f a)) = (bound x top dflt fun a => some (f a)).bind k := Znq (g := fun a => some (f a))
theorem Z1gw {t : TypeId} {x : AV} {L : Heap} {lo hi mx : Option AV} {k : AV → Option R} : sliceK P t x L lo hi mx k = (sliceK P t x L lo hi mx some).bind k := by
 unfold sliceK
 cases P.underlying t with
 | none => rfl
 | some d =>
  cases d <;> (try dsimp only) <;> try rfl
  case string =>
   cases x <;> try rfl
   case d y =>
    cases y <;> try rfl
    case v z =>
     cases z <;> try rfl
     case string s =>
      dsimp only
      split
      ·rfl
      ·rw [← Znq]; congr 1; funext h; exact Zrb
  case slice e =>
   cases P.info? e with
   | none => rfl
   | some i =>
    simp only [Option.bind_some]
    cases x <;> (try dsimp only) <;> try rfl
    case d y =>
     cases y <;> (try dsimp only) <;> try rfl
     case list n cap cs =>
      cases mx with
      | none => dsimp only; rw [← Znq]; congr 1; funext h; exact Zrb
      | some m =>
       dsimp only
       rw [← Znq]; congr 1; funext m
       cases hi with
       | none => rfl
       | some hi => dsimp only; rw [← Znq]; congr 1; funext h; exact Zrb
    case sl id off n cap sz =>
     split
     ·cases mx with
      | none => dsimp only; rw [← Znq]; congr 1; funext h; exact Zrb
      | some m =>
       dsimp only
       rw [← Znq]; congr 1; funext m
       cases hi with
       | none => rfl
       | some hi => dsimp only; rw [← Znq]; congr 1; funext h; exact Zrb
     ·rfl
  case array n e =>
   cases P.info? e with
   | none => rfl
   | some i =>
    simp only [Option.bind_some]
    cases x <;> (try dsimp only) <;> try rfl
    case ptr id off =>
     split
     ·rfl
     ·rw [← Znq]; congr 1; funext h; exact Zrb
    case lp cs off =>
     split
     ·rfl
     ·rw [← Znq]; congr 1; funext h; exact Zrb
end Go.Ev
/-
 One operation,whatever it is: sound.
-/
set_option linter.unusedSimpArgs false
set_option linter.unusedVariables false
namespace Go.Ev
open Go Go.RowKit
variable {R : Type} {P : Program} {base : Own} {sp : SpTab} {fz : Bool}
def Fw (ro : Option Nat) : Fence := { Fence.wide with round := ro }
theorem Z1ie {ro : Option Nat} {n : Nat} {f : FuncId} {args : Array Value} {w : World} {Q : Ending → World → Prop} (h : Calls P f args w Q) : CallsIn (Fw ro) n P f args w Q := callsIn_wide.2 h
theorem Z159 {n : Nat} {f : FuncId} {args : Array Value} {w : World} {Q : Ending → World → Prop} (h : CallsIn (Fw none) n P f args w Q) : Calls P f args w Q := callsIn_wide.1 h
def CallSem (P : Program) (ow : Own) (f : FuncId) (args : List AV) (L : Heap) (v : AV) (L' : Heap) : Prop :=
 ∀ {B0 w0 ok E w} {vals : List Value},Mem B0 w0 ok E L w → vals.length = args.length → (∀ (i : Nat) x a,vals[i]? = some x → args[i]? = some a → Rep E w ok x a) →
  Calls P f vals.toArray w (fun e w' => ∃ u ok' E',e = .returned u ∧ Mem B0 w0 ok' E' L' w' ∧ Rep E' w' ok' u v ∧ Step B0 ow E w ok E' w' ok')
def RoundSem (P : Program) (ow : Own) (id : Nat) (args : List AV) (L : Heap) (v : AV) (L' : Heap) : Prop :=
 ∀ {B0 w0 ok E w l} {vals : List Value},Mem B0 w0 ok E L w → E.y id = some l → vals.length = args.length → (∀ (i : Nat) x a,vals[i]? = some x → args[i]? = some a → Rep E w ok x a) →
  ∃ f tmps a b,(Instr.yield l vals.toArray).run P w = .ok (.round l f tmps a b) w ∧
   RoundIn (Fw none) 0 P l f tmps a b w (fun e w' => ∃ u ok' E',e = .returned u ∧ Mem B0 w0 ok' E' L' w' ∧ Rep E' w' ok' u v ∧ Step B0 ow E w ok E' w' ok')
def QCall (P : Program) (f : FuncId) (args : List AV) (L : Heap) (v : AV) : Prop :=
 ∀ {B0 w0 ok E w} {vals : List Value},Mem B0 w0 ok E L w → Reps E w ok vals args →
  Calls P f vals.toArray w (fun e w' => ∃ u ok',e = .returned u ∧ Below w.heap.size w w' ∧ Mem B0 w0 ok' E L w' ∧ Grow E w ok E w' ok' ∧ (∀ b,ok' b → ok b ∨ B0 ≤ b) ∧ Rep E w' ok' u v)
theorem QCall.nil {f : FuncId} {args : List AV} {L : Heap} {v : AV} (h : ∀ X,QCall P f args (L ++ X) v) : QCall P f args L v := fun {B0 w0 ok E w vals} hM hr => by
 have := h [] (B0 := B0) (w0 := w0) (ok := ok) (E := E) (w := w) (vals := vals)
 rw [List.append_nil] at this
 exact this hM hr
def TgtOk (P : Program) (ow : Own) (args : List AV) (L : Heap) (v : AV) (L' : Heap) : Tgt → Prop
 | .fn f => Enters P f ∧ CallSem P ow f args L v L'
 | .yld id => RoundSem P ow id args L v L'
 | .qfn f => L' = L ∧ Enters P f ∧ ∀ X,QCall P f args (L ++ X) v
def OrOk (P : Program) (or : Orc R) : Prop := ∀ ow t args L k r,ow.base = L.length → ow.rd = true → or ow t args L k = some r → ∃ v L',k v L' = some r ∧ TgtOk P ow args L v L' t
def DefOk (B0 : Nat) (w : World) (ds : List Deferred) : Prop := ∃ rs : List Nat,ds = rs.map (fun r => { target := .collected r,args := #[] }) ∧ rs.Nodup ∧ ∀ r,r ∈ rs → B0 ≤ r ∧ w.heap[r]? = some (.deferred (some []))
theorem DefOk.nil {B0 : Nat} {w : World} : DefOk B0 w [] := ⟨[],rfl,.nil,fun r h => by cases h⟩
theorem DefOk.keep {B0 : Nat} {w w' : World} {ds : List Deferred} (h : DefOk B0 w ds) (k : KeptIn w w') : DefOk B0 w' ds := by
 obtain ⟨rs,h1,h2,h3⟩ := h
 refine ⟨rs,h1,h2,fun r hr => ⟨(h3 r hr).1,?_⟩⟩
 obtain ⟨o',ho,hk⟩ := k r _ (h3 r hr).2 rfl
 rcases hk with rfl | ⟨q,q',hq,_⟩
 ·exact ho
 ·cases hq
structure Sim (B0 : Nat) (w0 : World) (ok : Nat → Prop) (E : Env) (st : St) (a : Act) (w : World) : Prop where
 mem : Mem B0 w0 ok E st.L w
 sl : SlRep E w ok a.tmps st.sl
 size : a.tmps.size = st.sl.length
 defers : DefOk B0 w a.defers
theorem Z15a {E : Env} {w : World} {ok : Nat → Prop} (v : Value) : Rep E w ok v (ofConst v) := by
 unfold ofConst
 split
 ·exact .d (.nil (.inr rfl))
 ·rename_i vs
  split
  ·rename_i h
   obtain rfl : vs = #[] := Array.eq_empty_of_size_eq_zero h
   exact .d (RepD.tup (vs := []) (cs := []) rfl (fun i x d hx => by simp at hx))
  ·exact .junk
 ·split
  ·rename_i h; exact .ofV h
  ·exact .junk
theorem Zfw {E : Env} {w : World} {ok : Nat → Prop} : Rep E w ok undef skipped := .d (RepD.tup (vs := []) (cs := []) rfl (fun i x d hx => by simp at hx))
theorem SlRep.ev {E : Env} {w : World} {ok : Nat → Prop} {a : Act} {sl : List AV} (h : SlRep E w ok a.tmps sl) (hgl : GlOk w ok) (x : Operand) : Rep E w ok (a.eval x) (ev sl x) := by
 cases x with
 | tmp t =>
  simp only [Act.eval,Ev.ev]
  cases hs : sl[t]? with
  | none => simp [List.getD,hs]; exact .junk
  | some c => simp only [List.getD,hs,Option.getD_some]; exact h t c hs
 | const v => exact Z15a v
 | global g =>
  simp only [Act.eval,Ev.ev]
  cases hg : Gl g with
  | none => exact .junk
  | some cs => exact hgl.rep hg
 | func f => exact .d (RepD.fn (vs := []) (cs := []) rfl (fun i x d hx => by simp at hx))
theorem SlRep.put {E : Env} {w : World} {ok : Nat → Prop} {a : Act} {sl : List AV} (h : SlRep E w ok a.tmps sl) (hs : a.tmps.size = sl.length) {u : Value} {v : AV} (hv : Rep E w ok u v) (dst : Option Tmp) :
  SlRep E w ok (a.put dst u).tmps (setSl sl dst v) := by
 cases dst with
 | none => exact h
 | some d =>
  intro t c hc
  simp only [Act.put,setSl] at hc ⊢
  by_cases htd : t = d
  ·subst htd
   by_cases hlt : t < sl.length
   ·rw [List.getElem?_set_self hlt] at hc
    cases hc
    have : t < a.tmps.size := by omega
    simp [Array.getD,this,hv]
   ·rw [List.getElem?_eq_none (by simp; omega)] at hc; cases hc
  ·rw [List.getElem?_set_ne (Ne.symm htd)] at hc
   have := h t c hc
   simp only [Array.getD_eq_getD_getElem?] at this ⊢
   rw [Array.getElem?_setIfInBounds_ne (Ne.symm htd)]
   exact this
theorem Zo (sl : List AV) (dst : Option Tmp) (v : AV) : (setSl sl dst v).length = sl.length := by cases dst <;> simp [setSl]
theorem Ziy (a : Act) (dst : Option Tmp) (u : Value) : (a.put dst u).tmps.size = a.tmps.size := by cases dst <;> simp [Act.put]
theorem Z4v (a : Act) (dst : Option Tmp) (u : Value) : (a.put dst u).defers = a.defers := by cases dst <;> rfl
theorem Z1gs (id : Nat) (sl : List AV) : (kill id sl).length = sl.length := by simp [kill]
theorem Z13p {ro : Option Nat} {o : Oper} {a : Act} {w : World} {K : Act → World → Prop} {Q : Exit → Act → World → Prop} (hd : ∀ c,o.op ≠ .defer c) (h : o.wp P a w K Q) : o.wpIn (Fw ro) 0 P a w K Q := by
 refine ⟨fun _ _ => trivial,?_⟩
 rw [Oper.semAt_eq _ _ _ hd]
 unfold Oper.wp at h
 generalize (execOp a.eval o).run P w = r at h ⊢
 cases r with
 | ok x w' =>
  cases x <;> simp only [Oper.upon] at h <;> simp only [Oper.uponIn] <;> first
   | exact h
   | exact ⟨fun hh => (by simp [Fw,Fence.wide] at hh),Z1ie h⟩
   | exact ⟨fun hh => (by simp [Fw,Fence.wide] at hh),fun c cs _ => let ⟨v,w',r,s⟩ := h c cs; ⟨v,w',r,stepsIn_wide.2 s⟩⟩
 | halt x w' => cases x <;> simp only [Oper.upon] at h <;> simp only [Oper.uponIn] <;> exact h
theorem Zno {ro : Option Nat} {o : Oper} {a : Act} {w w' : World} {u : Value} (hd : ∀ c,o.op ≠ .defer c) (h : (execOp a.eval o).run P w = .ok (.value u) w') {K : Act → World → Prop} {Q : Exit → Act → World → Prop} (hK : K (a.put o.dst u) w') : o.wpIn (Fw ro) 0 P a w K Q :=
 Z13p hd (by unfold Oper.wp; rw [h]; exact hK)
theorem Z179 {ro : Option Nat} {o : Oper} {a : Act} {w w' : World} (hd : ∀ c,o.op ≠ .defer c) (h : (execOp a.eval o).run P w = .ok .skip w') {K : Act → World → Prop} {Q : Exit → Act → World → Prop} (hK : K (a.put o.dst undef) w') : o.wpIn (Fw ro) 0 P a w K Q :=
 Z13p hd (by unfold Oper.wp; rw [h]; exact hK)
def OpSem (P : Program) (base : Own) (o : Oper) (sl : List AV) (L : Heap) (sl' : List AV) (v : AV) (L' : Heap) : Prop :=
 sl'.length = sl.length ∧ ((∀ c,o.op ≠ .defer c) → ∀ {ro B0 w0 ok E a w},Sim B0 w0 ok E ⟨sl,L⟩ a w → ∀ (K : Act → World → Prop) (Q : Exit → Act → World → Prop),
  (∀ ok' E' u w',Mem B0 w0 ok' E' L' w' → Rep E' w' ok' u v → SlRep E' w' ok' a.tmps sl' → Step B0 base E w ok E' w' ok' → K (a.put o.dst u) w') → o.wpIn (Fw ro) 0 P a w K Q)
theorem OpSem.val {o : Oper} {sl : List AV} {L : Heap} {v : AV}
  (h : ∀ {B0 w0 ok E a w},Sim B0 w0 ok E ⟨sl,L⟩ a w → ∃ u,(execOp a.eval o).run P w = .ok (.value u) w ∧ Rep E w ok u v) : OpSem P base o sl L sl v L :=
 ⟨rfl,fun hd {ro B0 w0 ok E a w} hS K Q hK => by
  obtain ⟨u,hr,hv⟩ := h hS
  exact Zno hd hr (hK ok E u w hS.mem hv hS.sl (.refl _ _ _ _ _))⟩
theorem OpSem.grow {o : Oper} {sl : List AV} {L L' : Heap} {v : AV}
  (h : ∀ {B0 w0 ok E a w},Sim B0 w0 ok E ⟨sl,L⟩ a w → ∃ u w' ok' E',(execOp a.eval o).run P w = .ok (.value u) w' ∧ Mem B0 w0 ok' E' L' w' ∧ Rep E' w' ok' u v ∧ Grow E w ok E' w' ok' ∧ ∀ b,ok' b → ok b ∨ B0 ≤ b) : OpSem P base o sl L sl v L' :=
 ⟨rfl,fun hd {ro B0 w0 ok E a w} hS K Q hK => by
  obtain ⟨u,w',ok',E',hr,hM,hv,g,e⟩ := h hS
  exact Zno hd hr (hK ok' E' u w' hM hv (hS.sl.grow g) (.of g e))⟩
theorem Z1er {E : Env} {w : World} {ok : Nat → Prop} {a : Act} {sl : List AV} (h : SlRep E w ok a.tmps sl) (hgl : GlOk w ok) (x : Option Operand) : RepO E w ok (x.map a.eval) (x.map (ev sl)) := by
 cases x with
 | none => trivial
 | some x => exact h.ev hgl x
theorem Z15b {E : Env} {w : World} {ok : Nat → Prop} {a : Act} {sl : List AV} (h : SlRep E w ok a.tmps sl) (hgl : GlOk w ok) (parts : List (Nat × Operand)) :
  (parts.map fun p => (p.1,a.eval p.2)).length = (parts.map fun p => (p.1,ev sl p.2)).length ∧
  ∀ (i : Nat) p q,(parts.map fun p => (p.1,a.eval p.2))[i]? = some p → (parts.map fun p => (p.1,ev sl p.2))[i]? = some q → p.1 = q.1 ∧ Rep E w ok p.2 q.2 := by
 refine ⟨by simp,fun i p q hp hq => ?_⟩
 rw [List.getElem?_map] at hp hq
 cases hx : parts[i]? with
 | none => rw [hx] at hp; cases hp
 | some x => rw [hx] at hp hq; cases hp; cases hq; exact ⟨rfl,h.ev hgl x.2⟩
theorem Ziz {E : Env} {w : World} {ok : Nat → Prop} {a : Act} {sl : List AV} (h : SlRep E w ok a.tmps sl) (hgl : GlOk w ok) (xs : List Operand) :
  (xs.map a.eval).length = (xs.map (ev sl)).length ∧ ∀ (i : Nat) x c,(xs.map a.eval)[i]? = some x → (xs.map (ev sl))[i]? = some c → Rep E w ok x c := by
 refine ⟨by simp,fun i p q hp hq => ?_⟩
 rw [List.getElem?_map] at hp hq
 cases hx : xs[i]? with
 | none => rw [hx] at hp; cases hp
 | some x => rw [hx] at hp hq; cases hp; cases hq; exact h.ev hgl x
theorem OpSem.skip {o : Oper} {sl : List AV} {L L' : Heap}
  (h : ∀ {B0 w0 ok E a w},Sim B0 w0 ok E ⟨sl,L⟩ a w → ∃ w' ok' E',(execOp a.eval o).run P w = .ok .skip w' ∧ Mem B0 w0 ok' E' L' w' ∧ Grow E w ok E' w' ok' ∧ ∀ b,ok' b → ok b ∨ B0 ≤ b) : OpSem P base o sl L sl skipped L' :=
 ⟨rfl,fun hd {ro B0 w0 ok E a w} hS K Q hK => by
  obtain ⟨w',ok',E',hr,hM,g,e⟩ := h hS
  exact Z179 hd hr (hK ok' E' _ w' hM Zfw (hS.sl.grow g) (.of g e))⟩
theorem Z190 {t e : TypeId} {i : TypeInfo} {n : Nat} (hu : P.underlying t = some (.array n e)) (hi : P.info? e = some i) {j : TypeInfo} {zv : Value} (hj : P.info? t = some j) (hz : j.zero = some zv) {ps : List (Nat × Value)} {c' : Array Value}
  (hf : Instr.fill (fun j => some (j * i.size,i.size)) zv.cells ps = some c') : P.built t ps = some c' := by
 simp [Program.built,hj,hu,hz,hi]
 simpa using hf
theorem Zo0 {f : FuncId} {args : Array Value} {w : World} (h : Enters P f) : (callFunc f args).run P w = .ok (.enter f args) w := by
 obtain ⟨fn,h1,h2,h3⟩ := h
 obtain ⟨c,hc⟩ := Option.isSome_iff_exists.1 h2
 simp at h3
 simp [callFunc,h1,h3,hc]
theorem Z1b7 {a b : Nat} : (Nat.ble a b = false) = (b < a) := by
 rw [eq_iff_iff,← Bool.not_eq_true]
 exact ⟨fun h => Nat.lt_of_not_le fun hh => h (Nat.ble_eq_true_of_le hh),fun h hh => by have := Nat.le_of_ble_eq_true hh; omega⟩
theorem Zr9 {id : Nat} : ∀ {cs : List AV} {i : Nat} {c : AV},cs[i]? = some c → hasRef id c = true → hasRef.hasRefs id cs = true
 | [],i,c,h,_ => by simp at h
 | x :: r,0,c,h,hc => by simp at h; subst h; simp [hasRef.hasRefs,hc]
 | x :: r,i + 1,c,h,hc => by simp only [hasRef.hasRefs,Bool.or_eq_true]; exact .inr (Zr9 (by simpa using h) hc)
theorem Rep.step {B0 : Nat} {w0 : World} {n : Own} {E E' : Env} {w w' : World} {ok ok' : Nat → Prop} {L : Heap} (g : Step B0 n E w ok E' w' ok') (hM : Mem B0 w0 ok E L w) (hn : n.base = L.length) {u : Value} {c : AV} (h : Rep E w ok u c) :
  (∀ id,hasRef id c = true → n.ex.elem id = false) → Rep E' w' ok' u c := by
 have old : ∀ id x,n.ex.elem id = false → E id = some x → E' id = some x := fun id x he hx => by
  obtain ⟨b,m⟩ := x
  refine g.env id _ ?_ hx
  have := hM.idlt hx
  simp only [ownB,he,Bool.or_false]
  rw [Z1b7]
  omega
 induction h with
 | d h => exact fun _ => .d (h.mono g.oks g.heap)
 | agg hlen h1 _ ih => exact fun hr => .agg hlen h1 (fun i x c hx hc => ih i x c hx hc fun id hid => hr id (Zr9 hc hid))
 | tup hlen _ ih => exact fun hr => .tup hlen (fun i x c hx hc => ih i x c hx hc fun id hid => hr id (Zr9 hc hid))
 | ptr he => exact fun hr => .ptr (old _ _ (hr _ (by simp [hasRef])) he)
 | sl he hn hc hm ho => exact fun hr => .sl (old _ _ (hr _ (by simp [hasRef])) he) hn hc hm ho
 | slz hc => exact fun _ => .slz hc
 | lp hb h1 hcell hrep => exact fun _ => .lp (g.oks _ hb) h1 (fun j hj => (World.cell?_of_block (g.heap _ hb)).trans (hcell j hj)) (fun j d hd => (hrep j d hd).mono g.oks g.heap)
 | clo hlen _ ih => exact fun hr => .clo hlen (fun i x c hx hc => ih i x c hx hc fun id hid => hr id (Zr9 hc hid))
 | bnd hlen _ ih => exact fun hr => .bnd hlen (fun i x c hx hc => ih i x c hx hc fun id hid => hr id (Zr9 hc hid))
 | yld he => exact fun _ => .yld (g.envy _ _ (by rw [hn]; exact hM.yidlt he) he)
 | it he => exact fun _ => .it (g.envy _ _ (by rw [hn]; exact hM.yidlt he) he)
 | mp he => exact fun _ => .mp (g.envy _ _ (by rw [hn]; exact hM.yidlt he) he)
 | junk => exact fun _ => .junk
theorem Z1g1 {o : Own} {sl : List AV} {L : Heap} {id : Nat} (h : (subOwn o sl L).ex.elem id = true) : ownB o id = true ∧ sl.any (hasRef id) = false := by
 have := List.mem_filter.1 (List.elem_iff.1 h)
 simp only [Bool.and_eq_true,Bool.not_eq_true'] at this
 exact ⟨this.2.1,this.2.2.2⟩
theorem Step.up {B0 : Nat} {w0 : World} {o : Own} {E E' : Env} {w w' : World} {ok ok' : Nat → Prop} {sl : List AV} {L : Heap} (g : Step B0 (subOwn o sl L) E w ok E' w' ok') (hM : Mem B0 w0 ok E L w) : Step B0 o E w ok E' w' ok' := by
 refine ⟨fun id x hn hx => g.env id x ?_ hx,g.oks,g.heap,g.ext,fun id x _ hy => g.envy id x (hM.yidlt hy) hy,g.df⟩
 obtain ⟨b,m⟩ := x
 have h1 := hM.idlt hx
 have h2 : (subOwn o sl L).ex.elem id = false := by
  cases h : (subOwn o sl L).ex.elem id with
  | false => rfl
  | true => have := (Z1g1 h).1; rw [hn] at this; cases this
 simp only [ownB,h2,Bool.or_false]
 rw [Z1b7]
 exact h1
theorem SlRep.step {B0 : Nat} {w0 : World} {o : Own} {E E' : Env} {w w' : World} {ok ok' : Nat → Prop} {sl : List AV} {L : Heap} {tmps : Array Value} (h : SlRep E w ok tmps sl) (g : Step B0 (subOwn o sl L) E w ok E' w' ok') (hM : Mem B0 w0 ok E L w) : SlRep E' w' ok' tmps sl := fun t c hc =>
 (h t c hc).step g hM rfl fun id hid => by
  cases he : (subOwn o sl L).ex.elem id with
  | false => rfl
  | true =>
   have := List.any_eq_false.1 (Z1g1 he).2 c (List.mem_of_getElem? hc)
   exact absurd hid this
theorem frzSl_len : ∀ (ids : List Nat) (sl : List AV),(frzSl ids sl).length = sl.length
 | [],sl => rfl
 | id :: ids,sl => by simp only [frzSl]; rw [frzSl_len ids,Z1gs]
theorem Z1g2 {E : Env} {w : World} {ok : Nat → Prop} {tmps : Array Value} : ∀ {ids : List Nat} {sl : List AV},SlRep E w ok tmps sl → SlRep E w ok tmps (frzSl ids sl)
 | [],sl,h => h
 | id :: ids,sl,h => Z1g2 (ids := ids) (sl := kill id sl) fun t c hc => by
  unfold kill at hc
  rw [List.getElem?_map] at hc
  cases hx : sl[t]? with
  | none => rw [hx] at hc; cases hc
  | some x =>
   rw [hx] at hc
   simp only [Option.map_some,Option.some.injEq] at hc
   split at hc
   ·subst hc; exact .junk
   ·subst hc; exact h t x hx
theorem Z1if (o : Own) (g : FuncId) (args sl : List AV) : (mvSl o g args sl).length = sl.length := by
 unfold mvSl; cases o.mv.elem g <;> simp [frzSl_len]
theorem Z1ig {E : Env} {w : World} {ok : Nat → Prop} {tmps : Array Value} {o : Own} {g : FuncId} {args sl : List AV} (h : SlRep E w ok tmps sl) : SlRep E w ok tmps (mvSl o g args sl) := by
 unfold mvSl; cases o.mv.elem g
 ·exact h
 ·exact Z1g2 h
theorem Z1ih {o : Oper} {c : Call} {f : Operand} {g : FuncId} {sl : List AV} {L L' : Heap} {args caps : List AV} {v : AV} (hop : o.op = .call c) (hc : c.callee = .value f) (hargs : args = c.args.toList.map (ev sl)) (hen : Enters P g)
  (hf : ∀ {E : Env} {w : World} {ok : Nat → Prop} {a : Act},SlRep E w ok a.tmps sl → GlOk w ok → ∃ vs : List Value,a.eval f = .func (.func g) #[] vs.toArray ∧ vs.length = caps.length ∧ ∀ (i : Nat) x y,vs[i]? = some x → caps[i]? = some y → Rep E w ok x y)
  {gm : FuncId} (hcs : CallSem P (subOwn base (mvSl base gm args sl) L) g (args ++ caps) L v L') : OpSem P base o sl L (mvSl base gm args sl) v L' := by
 subst hargs
 refine ⟨Z1if _ _ _ _,fun hd {ro B0 w0 ok E a w} hS K Q hK => Z13p hd ?_⟩
 obtain ⟨vs,hev,hl,hr⟩ := hf hS.sl hS.mem.gl
 obtain ⟨hl1,hr1⟩ := Ziz hS.sl hS.mem.gl c.args.toList
 have hrun : (execOp a.eval o).run P w = .ok (.enter g ((c.args.toList.map a.eval) ++ vs).toArray) w := by
  have h1 := Zo0 (P := P) (w := w) (args := (c.args.toList.map a.eval ++ vs).toArray) hen
  simp only [execOp,hop,resolve,hc,hev,Deferred.ofValue]
  have e1 : #[] ++ c.args.map a.eval ++ vs.toArray = (c.args.toList.map a.eval ++ vs).toArray := by apply Array.ext'; simp
  simp only [invoke,Sem.run_pure,Sem.run_bind,Result.andThen,e1]
  exact h1
 unfold Oper.wp
 rw [hrun,Oper.upon_enter]
 refine (hcs hS.mem (by simp [hl]) ?_).mono ?_
 ·intro i x y hx hy
  by_cases hlt : i < (c.args.toList.map a.eval).length
  ·rw [List.getElem?_append_left hlt] at hx
   rw [List.getElem?_append_left (by rw [← hl1]; exact hlt)] at hy
   exact hr1 i x y hx hy
  ·rw [List.getElem?_append_right (by omega)] at hx
   rw [List.getElem?_append_right (by rw [← hl1]; omega)] at hy
   rw [← hl1] at hy
   exact hr _ x y hx hy
 ·rintro e w' ⟨u,ok',E',rfl,hM,hv,g⟩
  exact hK ok' E' u w' hM hv ((Z1ig hS.sl).step g hS.mem) (g.up hS.mem)
theorem Z1jp {o : Oper} {c : Call} {f : Operand} {g : FuncId} {sl : List AV} {L L' : Heap} {args caps : List AV} {v : AV} (hop : o.op = .call c) (hc : c.callee = .value f) (hargs : args = c.args.toList.map (ev sl)) (hen : Enters P g)
  (hf : ∀ {E : Env} {w : World} {ok : Nat → Prop} {a : Act},SlRep E w ok a.tmps sl → GlOk w ok → ∃ vs : List Value,a.eval f = .func (.func g) vs.toArray #[] ∧ vs.length = caps.length ∧ ∀ (i : Nat) x y,vs[i]? = some x → caps[i]? = some y → Rep E w ok x y)
  {gm : FuncId} (hcs : CallSem P (subOwn base (mvSl base gm args sl) L) g (caps ++ args) L v L') : OpSem P base o sl L (mvSl base gm args sl) v L' := by
 subst hargs
 refine ⟨Z1if _ _ _ _,fun hd {ro B0 w0 ok E a w} hS K Q hK => Z13p hd ?_⟩
 obtain ⟨vs,hev,hl,hr⟩ := hf hS.sl hS.mem.gl
 obtain ⟨hl1,hr1⟩ := Ziz hS.sl hS.mem.gl c.args.toList
 have hrun : (execOp a.eval o).run P w = .ok (.enter g (vs ++ (c.args.toList.map a.eval)).toArray) w := by
  have h1 := Zo0 (P := P) (w := w) (args := (vs ++ c.args.toList.map a.eval).toArray) hen
  simp only [execOp,hop,resolve,hc,hev,Deferred.ofValue]
  have e1 : vs.toArray ++ c.args.map a.eval ++ #[] = (vs ++ c.args.toList.map a.eval).toArray := by apply Array.ext'; simp
  simp only [invoke,Sem.run_pure,Sem.run_bind,Result.andThen,e1]
  exact h1
 unfold Oper.wp
 rw [hrun,Oper.upon_enter]
 refine (hcs hS.mem (by simp [hl]) ?_).mono ?_
 ·intro i x y hx hy
  by_cases hlt : i < vs.length
  ·rw [List.getElem?_append_left hlt] at hx
   rw [List.getElem?_append_left (by rw [← hl]; exact hlt)] at hy
   exact hr i x y hx hy
  ·rw [List.getElem?_append_right (by omega)] at hx
   rw [List.getElem?_append_right (by rw [← hl]; omega)] at hy
   rw [← hl] at hy
   exact hr1 _ x y hx hy
 ·rintro e w' ⟨u,ok',E',rfl,hM,hv,g⟩
  exact hK ok' E' u w' hM hv ((Z1ig hS.sl).step g hS.mem) (g.up hS.mem)
theorem Z1jq {o : Oper} {c : Call} {f : Operand} {id : Nat} {sl : List AV} {L L' : Heap} {v : AV} (hop : o.op = .call c) (hc : c.callee = .value f) (hf : ev sl f = .yld id)
  (hcs : RoundSem P (subOwn base sl L) id (c.args.toList.map (ev sl)) L v L') : OpSem P base o sl L sl v L' := by
 refine ⟨rfl,fun hd {ro B0 w0 ok E a w} hS K Q hK => ⟨fun _ _ => trivial,?_⟩⟩
 obtain ⟨l,hev,hy⟩ : ∃ l,a.eval f = .func (.yield l) #[] #[] ∧ E.y id = some l := by
  have := hS.sl.ev hS.mem.gl f
  rw [hf] at this
  generalize a.eval f = u at this ⊢
  cases this with
  | yld he => exact ⟨_,rfl,he⟩
 obtain ⟨hl1,hr1⟩ := Ziz hS.sl hS.mem.gl c.args.toList
 obtain ⟨fn,tmps,x,y,hrun,hround⟩ := hcs hS.mem hy hl1 hr1
 have hrun' : (execOp a.eval o).run P w = .ok (.round l fn tmps x y) w := by
  simp only [execOp,hop,resolve,hc,hev,Deferred.ofValue]
  have e1 : #[] ++ c.args.map a.eval = (c.args.toList.map a.eval).toArray := by apply Array.ext'; simp
  simp only [invoke,Sem.run_pure,Sem.run_bind,Result.andThen]
  first | exact hrun | (rw [e1]; exact hrun)
 rw [Oper.semAt_eq _ _ _ hd,hrun',Oper.uponIn_round]
 refine ⟨fun hh => (by simp [Fw,Fence.wide] at hh),?_⟩
 have hround' : RoundIn (Fw ro) 0 P l fn tmps x y w _ := hround
 refine hround'.mono ?_
 rintro e w' ⟨u,ok',E',rfl,hM,hv,g⟩
 exact hK ok' E' u w' hM hv (hS.sl.step g hS.mem) (g.up hS.mem)
theorem Zbx {or : Orc R} {o : Oper} {sl : List AV} {L : Heap} {k : List AV → AV → Heap → Option R} {r : R} (h : opK P sp base fz or o sl L k = some r)
  (hm : (∃ t,o.op = .alloc t) ∨ (∃ t x,o.op = .box t x) ∨ (∃ t ps,o.op = .build t ps) ∨ (∃ t n ps,o.op = .buildSlice t n ps) ∨ (∃ t n c,o.op = .makeSlice t n c) ∨ ∃ g f c,o.op = .makeFunc g f c) :
  ∃ sl' v L',k sl' v L' = some r ∧ OpSem P base o sl L sl' v L' := by
 unfold opK at h
 rcases hm with ⟨t,hop⟩ | ⟨t,x,hop⟩ | ⟨t,parts,hop⟩ | ⟨t,len,parts,hop⟩ | ⟨t,n,c,hop⟩ | ⟨g,first,cap,hop⟩ <;> simp only [hop] at h
 ·obtain ⟨z,hz,h1⟩ := Option.bind_eq_some_iff.1 h
  refine ⟨_,_,_,h1,.grow fun {B0 w0 ok E a w} hS => ?_⟩
  obtain ⟨w',E',hr,hM,g,hv,_⟩ := Z1b4 hz hS.mem (Place.push hS.mem _)
  exact ⟨_,w',ok,E',by simp [execOp,hop,hr],hM,hv,g,fun _ h => .inl h⟩
 ·obtain ⟨i,hi,h1⟩ := Option.bind_eq_some_iff.1 h
  obtain ⟨B,hk,_,hB⟩ := Z1do h1
  refine ⟨_,_,_,hk,.grow fun {B0 w0 ok E a w} hS => ?_⟩
  obtain ⟨hc,h1⟩ := hB (hS.sl.ev hS.mem.gl x)
  obtain ⟨w',E',hr,hM,g,hv,_⟩ := Z1fx (P := P) (t := t) hS.mem (Place.push hS.mem _) hc h1
  exact ⟨_,w',ok,E',by simp [execOp,hop,hr],hM,hv,g,fun _ h => .inl h⟩
 ·obtain ⟨z,hz,h1⟩ := Option.bind_eq_some_iff.1 h
  cases hu : P.underlying t with
  | none => rw [hu] at h1; cases h1
  | some d =>
   rw [hu] at h1
   cases d <;> try (simp only at h1) <;> try (cases h1; done)
   case struct fs =>
    obtain ⟨places,hpl,h2⟩ := Option.bind_eq_some_iff.1 h1
    obtain ⟨v,hk,hs⟩ := Zy1 (P := P) (k := fun v => k sl v L) hz h2 (fun ps c c' hc hf => by
     obtain ⟨i,zv,hi,hzv,rfl⟩ := hc
     simp [Program.built,hi,hu,hzv,hpl]
     simpa using hf)
    refine ⟨_,_,_,hk,.val fun {B0 w0 ok E a w} hS => ?_⟩
    obtain ⟨hl,hr⟩ := Z15b hS.sl hS.mem.gl parts.toList
    obtain ⟨y,hy,hv⟩ := hs hl hr
    exact ⟨y,by
     have h1 : (parts.map fun p => (p.1,a.eval p.2)) = (parts.toList.map fun p => (p.1,a.eval p.2)).toArray := by
      apply Array.ext'; simp
     simp only [execOp,hop]
     erw [h1]
     simp [hy],hv⟩
   case array m e =>
    obtain ⟨i,hi,h2⟩ := Option.bind_eq_some_iff.1 h1
    obtain ⟨v,hk,hs⟩ := Zy1 (P := P) (k := fun v => k sl v L) hz h2 (fun ps c c' hc hf => by
     obtain ⟨j,zv,hj,hzv,rfl⟩ := hc
     exact Z190 hu hi hj hzv hf)
    refine ⟨_,_,_,hk,.val fun {B0 w0 ok E a w} hS => ?_⟩
    obtain ⟨hl,hr⟩ := Z15b hS.sl hS.mem.gl parts.toList
    obtain ⟨y,hy,hv⟩ := hs hl hr
    exact ⟨y,by
     have h1 : (parts.map fun p => (p.1,a.eval p.2)) = (parts.toList.map fun p => (p.1,a.eval p.2)).toArray := by
      apply Array.ext'; simp
     simp only [execOp,hop]
     erw [h1]
     simp [hy],hv⟩
 ·cases hu : P.underlying t with
  | none => rw [hu] at h; cases h
  | some d =>
   rw [hu] at h
   cases d <;> try (simp only at h) <;> try (cases h; done)
   case slice e =>
    obtain ⟨z,hz,h1⟩ := Option.bind_eq_some_iff.1 h
    by_cases hc : len * z.1 ≤ 2 ^ 24 ∧ 0 < z.1
    case neg => rw [if_neg hc] at h1; cases h1
    rw [if_pos hc] at h1
    cases hD : ((!fz || base.mv.elem (1000000 + t)) && (parts.toList.map fun p => (p.1,ev sl p.2)).all fun p => p.2.isD) with
    | true =>
     rw [hD,cond_true] at h1
     obtain ⟨cs,hk,hs⟩ := Z121 (P := P) hu hz hc.1 hc.2 h1
     refine ⟨_,_,_,hk,.grow fun {B0 w0 ok E a w} hS => ?_⟩
     obtain ⟨hl,hr⟩ := Z15b hS.sl hS.mem.gl parts.toList
     obtain ⟨y,w',ok',hy,_,hM,g,hx,hv⟩ := hs hS.mem hl hr
     exact ⟨y,w',ok',E,by
      have h1 : (parts.map fun p => (p.1,a.eval p.2)) = (parts.toList.map fun p => (p.1,a.eval p.2)).toArray := by
       apply Array.ext'; simp
      simp only [execOp,hop]
      erw [h1]
      simp [hy],hM,hv,g,hx⟩
    | false =>
    rw [hD,cond_false] at h1
    obtain ⟨B,hk,_,hs⟩ := Zyr (P := P) hu hz hc.1 hc.2 h1
    refine ⟨_,_,_,hk,.grow fun {B0 w0 ok E a w} hS => ?_⟩
    obtain ⟨hl,hr⟩ := Z15b hS.sl hS.mem.gl parts.toList
    obtain ⟨y,w',E',hy,hM,g,hv,_⟩ := hs hS.mem (Place.push hS.mem _) hl hr
    exact ⟨y,w',ok,E',by
     have h1 : (parts.map fun p => (p.1,a.eval p.2)) = (parts.toList.map fun p => (p.1,a.eval p.2)).toArray := by
      apply Array.ext'; simp
     simp only [execOp,hop]
     erw [h1]
     simp [hy],hM,hv,g,fun _ h => .inl h⟩
 ·cases hu : P.underlying t with
  | none => rw [hu] at h; cases h
  | some d =>
   rw [hu] at h
   cases d <;> try (simp only at h) <;> try (cases h; done)
   case slice e =>
    obtain ⟨z,hz,h1⟩ := Option.bind_eq_some_iff.1 h
    obtain ⟨i,hi,h2⟩ := Option.bind_eq_some_iff.1 h1
    obtain ⟨n',hn,h3⟩ := Option.bind_eq_some_iff.1 h2
    obtain ⟨c',hc,h4⟩ := Option.bind_eq_some_iff.1 h3
    by_cases hfit : 0 ≤ n'.2 ∧ n'.2 ≤ c'.2 ∧ Zmr c'.2.toNat i.bytes
    case neg => rw [if_neg hfit] at h4; cases h4
    rw [if_pos hfit] at h4
    refine ⟨_,_,_,h4,.grow fun {B0 w0 ok E a w} hS => ?_⟩
    have e1 := hS.sl.ev hS.mem.gl n
    have e2 := hS.sl.ev hS.mem.gl c
    rw [Zxz hn] at e1
    rw [Zxz hc] at e2
    obtain ⟨y,w',E',hy,hM,g,hv,_⟩ := Z120 hu hz hi (kn := n'.1) (kc := c'.1) hfit.1 hfit.2.1 hfit.2.2 hS.mem (Place.push hS.mem _)
    exact ⟨y,w',ok,E',by simp [execOp,hop,e1.v_inv.1,e2.v_inv.1,hy],hM,hv,g,fun _ h => .inl h⟩
 ·cases g <;> try (simp only at h) <;> try (cases h; done)
  case func f =>
  by_cases hf : first.size = 0
  case neg =>
   rw [if_neg hf] at h
   by_cases hcap : cap.size = 0
   case neg => rw [if_neg hcap] at h; cases h
   rw [if_pos hcap] at h
   obtain rfl : cap = #[] := Array.eq_empty_of_size_eq_zero hcap
   refine ⟨_,_,_,h,.val fun {B0 w0 ok E a w} hS => ⟨.func (.func f) (first.toList.map a.eval).toArray #[],?_,?_⟩⟩
   ·have e1 : first.map a.eval = (first.toList.map a.eval).toArray := by apply Array.ext'; simp
    simp [execOp,hop,Instr.makeFunc]
    exact e1
   ·obtain ⟨hl,hr⟩ := Ziz hS.sl hS.mem.gl first.toList
    exact .bnd hl hr
  rw [if_pos hf] at h
  obtain rfl : first = #[] := Array.eq_empty_of_size_eq_zero hf
  have hrun : ∀ (a : Act) (w : World),(execOp a.eval o).run P w = .ok (.value (.func (.func f) #[] (cap.toList.map a.eval).toArray)) w := fun a w => by
   have e1 : cap.map a.eval = (cap.toList.map a.eval).toArray := by apply Array.ext'; simp
   simp [execOp,hop,Instr.makeFunc]
   exact e1
  cases hd : allD (cap.toList.map (ev sl)) with
  | some ds =>
   rw [hd] at h
   refine ⟨_,_,_,h,.val fun {B0 w0 ok E a w} hS => ⟨_,hrun a w,.d ?_⟩⟩
   obtain ⟨hl,hr⟩ := Ziz hS.sl hS.mem.gl cap.toList
   have hds := allD_some hd
   refine .fn (by rw [hl,hds]; simp) fun i x d hx hd' => ?_
   have := hr i x (.d d) hx (by rw [hds,List.getElem?_map,hd']; rfl)
   cases this with
   | d h => exact h
  | none =>
   rw [hd] at h
   refine ⟨_,_,_,h,.val fun {B0 w0 ok E a w} hS => ⟨_,hrun a w,?_⟩⟩
   obtain ⟨hl,hr⟩ := Ziz hS.sl hS.mem.gl cap.toList
   exact .clo hl hr
end Go.Ev
/-
 One operation,whatever it is: sound. The rest of the operations.
-/
set_option linter.unusedSimpArgs false
set_option linter.unusedVariables false
namespace Go.Ev
open Go Go.RowKit
variable {R : Type} {P : Program} {base : Own} {sp : SpTab} {fz : Bool}
theorem Zam {α : Type} {xs : Array α} {a b : α} (h : xs.toList = [a,b]) : xs = #[a,b] := by apply Array.ext'; simp [h]
theorem Z2l {α : Type} {xs : Array α} {a : α} (h : xs.toList = [a]) : xs = #[a] := by apply Array.ext'; simp [h]
theorem Z15d {o : Oper} {c : Call} {f : Operand} {g : FuncId} {a : Act} {w : World} {vs : List Value} {B0 : Nat} {w0 : World} {ok : Nat → Prop} {E : Env} {L : Heap} {v : AV} (hop : o.op = .call c) (hc : c.callee = .value f) (hen : Enters P g) (hev : a.eval f = .func (.func g) #[] vs.toArray)
  (h : Calls P g (c.args.toList.map a.eval ++ vs).toArray w (fun e w' => ∃ u ok',e = .returned u ∧ Below w.heap.size w w' ∧ Mem B0 w0 ok' E L w' ∧ Grow E w ok E w' ok' ∧ (∀ b,ok' b → ok b ∨ B0 ≤ b) ∧ Rep E w' ok' u v))
  {ro : Option Nat} (hd : ∀ c,o.op ≠ .defer c) {K : Act → World → Prop} {Q : Exit → Act → World → Prop} (hK : ∀ u w',(∃ ok',Below w.heap.size w w' ∧ Mem B0 w0 ok' E L w' ∧ Grow E w ok E w' ok' ∧ (∀ b,ok' b → ok b ∨ B0 ≤ b) ∧ Rep E w' ok' u v) → K (a.put o.dst u) w') : o.wpIn (Fw ro) 0 P a w K Q := by
 refine Z13p hd ?_
 have hrun : (execOp a.eval o).run P w = .ok (.enter g ((c.args.toList.map a.eval) ++ vs).toArray) w := by
  have h1 := Zo0 (P := P) (w := w) (args := (c.args.toList.map a.eval ++ vs).toArray) hen
  simp only [execOp,hop,resolve,hc,hev,Deferred.ofValue]
  have e1 : #[] ++ c.args.map a.eval ++ vs.toArray = (c.args.toList.map a.eval ++ vs).toArray := by apply Array.ext'; simp
  simp only [invoke,Sem.run_pure,Sem.run_bind,Result.andThen,e1]
  exact h1
 unfold Oper.wp
 rw [hrun,Oper.upon_enter]
 refine h.mono ?_
 rintro e w' ⟨u,ok',rfl,h1⟩
 exact hK u w' ⟨ok',h1⟩
theorem Reps.append {E : Env} {w : World} {ok : Nat → Prop} {vs vs' : List Value} {ds ds' : List AV} (h : Reps E w ok vs ds) (h' : Reps E w ok vs' ds') : Reps E w ok (vs ++ vs') (ds ++ ds') := by
 refine ⟨by simp [h.1,h'.1],fun i x d hx hd => ?_⟩
 by_cases hlt : i < vs.length
 ·rw [List.getElem?_append_left hlt] at hx
  rw [List.getElem?_append_left (by rw [← h.1]; exact hlt)] at hd
  exact h.2 i x d hx hd
 ·rw [List.getElem?_append_right (by omega)] at hx
  rw [List.getElem?_append_right (by rw [← h.1]; omega),← h.1] at hd
  exact h'.2 _ x d hx hd
theorem Z1dv {o : Oper} {c : Call} {f : Operand} {g : FuncId} {sl : List AV} {L : Heap} {caps : List AV} {v : AV} (hop : o.op = .call c) (hc : c.callee = .value f) (hen : Enters P g)
  (hf : ∀ {E : Env} {w : World} {ok : Nat → Prop} {a : Act},SlRep E w ok a.tmps sl → GlOk w ok → ∃ vs : List Value,a.eval f = .func (.func g) #[] vs.toArray ∧ Reps E w ok vs caps)
  (hq : QCall P g (c.args.toList.map (ev sl) ++ caps) L v) : OpSem P base o sl L sl v L := by
 refine ⟨rfl,fun hd {ro B0 w0 ok E a w} hS K Q hK => ?_⟩
 obtain ⟨vs,hev,hr⟩ := hf hS.sl hS.mem.gl
 refine Z15d hop hc hen hev (hq hS.mem (Reps.append (Ziz hS.sl hS.mem.gl c.args.toList) hr)) hd ?_
 rintro u w' ⟨ok',hb,hM,g,ext,hu⟩
 exact hK ok' E u w' hM hu (hS.sl.grow g) (.of g ext)
theorem Z1iv (hsp : SpOk P sp) {or : Orc R} (hor : OrOk P or) {o : Oper} {c : Call} (hop : o.op = .call c) {sl : List AV} {L : Heap} {k : List AV → AV → Heap → Option R} {r : R} (h : callK P sp base fz or c o.type sl L k = some r) :
  ∃ sl' v L',k sl' v L' = some r ∧ OpSem P base o sl L sl' v L' := by
 unfold callK at h
 cases hc : c.callee with
 | invoke a b => rw [hc] at h; cases h
 | value f =>
  rw [hc] at h
  simp only at h
  cases hf : ev sl f <;> rw [hf] at h <;> try (simp only at h) <;> try (cases h; done)
  case d x =>
   cases x <;> try (simp only at h) <;> try (cases h; done)
   case fn g ds =>
    have hfn : ∀ {E : Env} {w : World} {ok : Nat → Prop} {a : Act},SlRep E w ok a.tmps sl → GlOk w ok → ∃ vs : List Value,a.eval f = .func (.func g) #[] vs.toArray ∧ RepDs w ok vs ds := fun {E w ok a} hS hgl => by
     have := hS.ev hgl f
     rw [hf] at this
     generalize a.eval f = u at this ⊢
     cases this with
     | d h =>
      cases h with
      | fn hl hr =>
       rename_i vs
       exact ⟨vs,rfl,hl,hr⟩
    cases hl : sp.lookup g with
    | some s =>
     rw [hl] at h
     simp only at h
     split at h
     ·obtain ⟨v,sl',L',hk,hlen',hen,hcall⟩ := Z1jo (fun ds d hd => hsp g s ds d hl hd) h
      replace hk := Z176 hk
      refine ⟨_,v,_,hk,hlen',fun hd {ro B0 w0 ok E a w} hS K Q hK => Z13p hd ?_⟩
      obtain ⟨vs,hev,hcap⟩ := hfn hS.sl hS.mem.gl
      have hrun : (execOp a.eval o).run P w = .ok (.enter g ((c.args.toList.map a.eval) ++ vs).toArray) w := by
       have h1 := Zo0 (P := P) (w := w) (args := (c.args.toList.map a.eval ++ vs).toArray) hen
       simp only [execOp,hop,resolve,hc,hev,Deferred.ofValue]
       have e1 : #[] ++ c.args.map a.eval ++ vs.toArray = (c.args.toList.map a.eval ++ vs).toArray := by apply Array.ext'; simp
       simp only [invoke,Sem.run_pure,Sem.run_bind,Result.andThen,e1]
       exact h1
      unfold Oper.wp
      rw [hrun,Oper.upon_enter]
      refine (hcall hS.mem (Ziz hS.sl hS.mem.gl c.args.toList) hcap hS.sl).mono ?_
      rintro e w' ⟨u,ok',E',rfl,hM,hu,hsl,g⟩
      exact hK ok' E' u w' hM hu hsl g
     obtain ⟨v,hk,hp⟩ := Z1g0 (fun ds d hd => hsp g s ds d hl hd) h
     replace hk := Z176 hk
     obtain ⟨hen,hpure⟩ := PureCall.nil hp
     refine ⟨sl,v,L,hk,rfl,fun hd {ro B0 w0 ok E a w} hS K Q hK => ?_⟩
     obtain ⟨vs,hev,hcap⟩ := hfn hS.sl hS.mem.gl
     refine Z15d hop hc hen hev (hpure hS.mem (Ziz hS.sl hS.mem.gl c.args.toList) hcap) hd ?_
     rintro u w' ⟨ok',hb,hM,g,ext,hu⟩
     exact hK ok' E u w' hM hu (hS.sl.grow g) (.of g ext)
    | none =>
    rw [hl] at h
    simp only at h
    cases hesc : Z1ax P c g with
    | true =>
     rw [hesc,cond_true] at h
     unfold escK at h
     cases ha : c.args.toList with
     | nil => rw [ha] at h; cases h
     | cons x t1 =>
     cases t1 with
     | cons y t2 => rw [ha] at h; cases h
     | nil =>
     rw [ha] at h
     simp only [List.map_cons,List.map_nil] at h
     cases ds with
     | cons d ds' => cases h
     | nil =>
     refine ⟨_,_,_,h,.val fun {B0 w0 ok E a w} hS => ?_⟩
     obtain ⟨vs,hev,hcl,hcr⟩ := hfn hS.sl hS.mem.gl
     obtain rfl : vs = [] := List.eq_nil_of_length_eq_zero (by simpa using hcl)
     have e1 : c.args.map a.eval = #[a.eval x] := by rw [Z2l ha]; simp
     exact ⟨a.eval x,by simp [execOp,hop,resolve,hc,hev,Deferred.ofValue,invoke,e1,Z1jt hesc],hS.sl.ev hS.mem.gl x⟩
    | false =>
    rw [hesc,cond_false] at h
    have hfn' : ∀ {E : Env} {w : World} {ok : Nat → Prop} {a : Act},SlRep E w ok a.tmps sl → GlOk w ok → ∃ vs : List Value,a.eval f = .func (.func g) #[] vs.toArray ∧ Reps E w ok vs (ds.map AV.d) := fun {E w ok a} hS hgl => by
     obtain ⟨vs,hev,hcl,hcr⟩ := hfn hS hgl
     refine ⟨vs,hev,by simpa using hcl,fun i x y hx hy => ?_⟩
     rw [List.getElem?_map] at hy
     cases hd : ds[i]? with
     | none => rw [hd] at hy; cases hy
     | some d => rw [hd] at hy; cases hy; exact .d (hcr i x d hx hd)
    cases fz with
    | true =>
     simp only [cond_true] at h
     obtain ⟨v,L',hk,hen,hcs⟩ := hor _ _ _ _ _ _ rfl rfl h
     exact ⟨_,v,L',hk,Z1ih hop hc rfl hen hfn' hcs⟩
    | false =>
     simp only [cond_false] at h
     obtain ⟨v,L',hk,rfl,hen,hq⟩ := hor _ _ _ _ _ _ rfl rfl h
     exact ⟨_,v,_,hk,Z1dv hop hc hen hfn' (QCall.nil hq)⟩
  case bnd g cs =>
   have hfn : ∀ {E : Env} {w : World} {ok : Nat → Prop} {a : Act},SlRep E w ok a.tmps sl → GlOk w ok → ∃ vs : List Value,a.eval f = .func (.func g) vs.toArray #[] ∧ Reps E w ok vs cs := fun {E w ok a} hS hgl => by
    have := hS.ev hgl f
    rw [hf] at this
    generalize a.eval f = u at this ⊢
    cases this with
    | bnd hl hr =>
     rename_i vs
     exact ⟨vs,rfl,hl,hr⟩
   cases fz with
   | true =>
    simp only [cond_true] at h
    obtain ⟨v,L',hk,hen,hcs⟩ := hor _ _ _ _ _ _ rfl rfl h
    exact ⟨_,v,L',hk,Z1jp hop hc rfl hen hfn hcs⟩
   | false => cases h
  case clo g cs =>
   have hfn : ∀ {E : Env} {w : World} {ok : Nat → Prop} {a : Act},SlRep E w ok a.tmps sl → GlOk w ok → ∃ vs : List Value,a.eval f = .func (.func g) #[] vs.toArray ∧ Reps E w ok vs cs := fun {E w ok a} hS hgl => by
    have := hS.ev hgl f
    rw [hf] at this
    generalize a.eval f = u at this ⊢
    cases this with
    | clo hl hr =>
     rename_i vs
     exact ⟨vs,rfl,hl,hr⟩
   cases fz with
   | true =>
    simp only [cond_true] at h
    obtain ⟨v,L',hk,hen,hcs⟩ := hor _ _ _ _ _ _ rfl rfl h
    exact ⟨_,v,L',hk,Z1ih hop hc rfl hen hfn hcs⟩
   | false =>
    simp only [cond_false] at h
    obtain ⟨v,L',hk,rfl,hen,hq⟩ := hor _ _ _ _ _ _ rfl rfl h
    exact ⟨_,v,_,hk,Z1dv hop hc hen hfn (QCall.nil hq)⟩
  case yld id =>
   cases fz with
   | true =>
    simp only [cond_true] at h
    obtain ⟨v,L',hk,hcs⟩ := hor _ _ _ _ _ _ rfl rfl h
    exact ⟨sl,v,L',hk,Z1jq hop hc hf hcs⟩
   | false => cases h
 | builtin b =>
  rw [hc] at h
  simp only at h
  cases b <;> try (simp only at h) <;> try (cases h; done)
  case append =>
   cases ha : c.args.toList with
   | nil => rw [ha] at h; cases h
   | cons s t1 =>
   cases t1 with
   | nil => rw [ha] at h; cases h
   | cons x t2 =>
   cases t2 with
   | cons y t3 => rw [ha] at h; cases h
   | nil =>
   cases ht : c.argTypes.toList with
   | nil => rw [ha,ht] at h; cases h
   | cons t t4 =>
   cases t4 with
   | nil => rw [ha,ht] at h; cases h
   | cons t' t5 =>
   cases t5 with
   | cons y t3 => rw [ha,ht] at h; cases h
   | nil =>
   rw [ha,ht] at h
   simp only at h
   by_cases htt : t = t'
   case neg =>
    rw [if_neg htt] at h
    obtain ⟨sl',v,L',hk,hlen,hs⟩ := Z1d4 (ty := o.type) h
    refine ⟨sl',v,L',hk,hlen,fun hd {ro B0 w0 ok E a w} hS K Q hK => ?_⟩
    obtain ⟨y,w',E',hr,hM,hv,hsl,g⟩ := hs hS.mem (hS.sl.ev hS.mem.gl s) (hS.sl.ev hS.mem.gl x) hS.sl
    refine Zno hd (u := y) (w' := w') ?_ (hK ok E' y w' hM hv hsl g)
    have e1 : c.args.map a.eval = #[a.eval s,a.eval x] := by rw [Zam ha]; simp
    simp [execOp,hop,resolve,hc,invoke,builtin,e1,Zam ht,hr]
   rw [if_pos htt] at h
   subst htt
   obtain ⟨sl',v,L',hk,hlen,hs⟩ := Z1fy (ty := o.type) h
   refine ⟨sl',v,L',hk,hlen,fun hd {ro B0 w0 ok E a w} hS K Q hK => ?_⟩
   obtain ⟨y,w',E',hr,hM,hv,hsl,g⟩ := hs hS.mem (hS.sl.ev hS.mem.gl s) (hS.sl.ev hS.mem.gl x) hS.sl
   refine Zno hd (u := y) (w' := w') ?_ (hK ok E' y w' hM hv hsl g)
   have e1 : c.args.map a.eval = #[a.eval s,a.eval x] := by rw [Zam ha]; simp
   simp [execOp,hop,resolve,hc,invoke,builtin,e1,Zam ht,hr]
  case copy =>
   cases ha : c.args.toList with
   | nil => rw [ha] at h; cases h
   | cons s t1 =>
   cases t1 with
   | nil => rw [ha] at h; cases h
   | cons x t2 =>
   cases t2 with
   | cons y t3 => rw [ha] at h; cases h
   | nil =>
   cases ht : c.argTypes.toList with
   | nil => rw [ha,ht] at h; cases h
   | cons t t4 =>
   cases t4 with
   | nil => rw [ha,ht] at h; cases h
   | cons t' t5 =>
   cases t5 with
   | cons y t3 => rw [ha,ht] at h; cases h
   | nil =>
   rw [ha,ht] at h
   simp only at h
   obtain ⟨v,L',hk,hs⟩ := Z1it (ty := o.type) (t' := t') h
   refine ⟨sl,v,L',hk,.grow fun {B0 w0 ok E a w} hS => ?_⟩
   obtain ⟨y,w',hr,hM,hv,g⟩ := hs hS.mem (hS.sl.ev hS.mem.gl s) (hS.sl.ev hS.mem.gl x)
   have e1 : c.args.map a.eval = #[a.eval s,a.eval x] := by rw [Zam ha]; simp
   exact ⟨y,w',ok,E,by simp [execOp,hop,resolve,hc,invoke,builtin,e1,Zam ht,hr],hM,hv,g,fun _ h => .inl h⟩
  case clear =>
   cases ha : c.args.toList with
   | nil => rw [ha] at h; cases h
   | cons s t1 =>
   cases t1 with
   | cons y t3 => rw [ha] at h; cases h
   | nil =>
   cases ht : c.argTypes.toList with
   | nil => rw [ha,ht] at h; cases h
   | cons t t4 =>
   cases t4 with
   | cons y t3 => rw [ha,ht] at h; cases h
   | nil =>
   rw [ha,ht] at h
   simp only at h
   obtain ⟨v,L',hk,hs⟩ := Z1gq (ty := o.type) h
   refine ⟨sl,v,L',hk,.grow fun {B0 w0 ok E a w} hS => ?_⟩
   obtain ⟨y,w',hr,hM,hv,g⟩ := hs hS.mem (hS.sl.ev hS.mem.gl s)
   have e1 : c.args.map a.eval = #[a.eval s] := by rw [Z2l ha]; simp
   exact ⟨y,w',ok,E,by simp [execOp,hop,resolve,hc,invoke,builtin,e1,Z2l ht,hr],hM,hv,g,fun _ h => .inl h⟩
  case len =>
   cases ha : c.args.toList with
   | nil => rw [ha] at h; cases h
   | cons x t1 =>
   cases t1 with
   | cons y t3 => rw [ha] at h; cases h
   | nil =>
   cases ht : c.argTypes.toList with
   | nil => rw [ha,ht] at h; cases h
   | cons t t4 =>
   cases t4 with
   | cons y t3 => rw [ha,ht] at h; cases h
   | nil =>
   rw [ha,ht] at h
   simp only at h
   obtain ⟨v,hk,hs⟩ := Z1fv (ty := o.type) h
   refine ⟨sl,v,L,hk,.val fun {B0 w0 ok E a w} hS => ?_⟩
   obtain ⟨z,hz,hv⟩ := hs (hS.sl.ev hS.mem.gl x)
   have e1 : c.args.map a.eval = #[a.eval x] := by rw [Z2l ha]; simp
   exact ⟨z,by simp [execOp,hop,resolve,hc,invoke,builtin,e1,Z2l ht,hz],hv⟩
  case cap =>
   cases ha : c.args.toList with
   | nil => rw [ha] at h; cases h
   | cons x t1 =>
   cases t1 with
   | cons y t3 => rw [ha] at h; cases h
   | nil =>
   cases ht : c.argTypes.toList with
   | nil => rw [ha,ht] at h; cases h
   | cons t t4 =>
   cases t4 with
   | cons y t3 => rw [ha,ht] at h; cases h
   | nil =>
   rw [ha,ht] at h
   simp only at h
   obtain ⟨v,hk,hs⟩ := Z1fw (ty := o.type) h
   refine ⟨sl,v,L,hk,.val fun {B0 w0 ok E a w} hS => ?_⟩
   obtain ⟨z,hz,hv⟩ := hs (hS.sl.ev hS.mem.gl x)
   have e1 : c.args.map a.eval = #[a.eval x] := by rw [Z2l ha]; simp
   exact ⟨z,by simp [execOp,hop,resolve,hc,invoke,builtin,e1,Z2l ht,hz],hv⟩
  case min =>
   obtain ⟨v,hk,hs⟩ := Zsx (P := P) h
   refine ⟨sl,v,L,hk,.val fun {B0 w0 ok E a w} hS => ?_⟩
   obtain ⟨hl,hr⟩ := Ziz hS.sl hS.mem.gl c.args.toList
   obtain ⟨z,hz,hv⟩ := hs c.argTypes o.type hl hr
   have e1 : c.args.map a.eval = (c.args.toList.map a.eval).toArray := by apply Array.ext'; simp
   simp only [if_pos] at hz
   exact ⟨z,by simp only [execOp,hop,resolve,hc,Sem.run_bind,Sem.run_pure,Result.andThen,invoke,builtin,e1,hz],hv⟩
  case max =>
   obtain ⟨v,hk,hs⟩ := Zsx (P := P) h
   refine ⟨sl,v,L,hk,.val fun {B0 w0 ok E a w} hS => ?_⟩
   obtain ⟨hl,hr⟩ := Ziz hS.sl hS.mem.gl c.args.toList
   obtain ⟨z,hz,hv⟩ := hs c.argTypes o.type hl hr
   have e1 : c.args.map a.eval = (c.args.toList.map a.eval).toArray := by apply Array.ext'; simp
   simp only [Bool.false_eq_true,if_false] at hz
   exact ⟨z,by simp only [execOp,hop,resolve,hc,Sem.run_bind,Sem.run_pure,Result.andThen,invoke,builtin,e1,hz],hv⟩
  case unsafeSliceData =>
   cases ha : c.args.toList with
   | nil => rw [ha] at h; cases h
   | cons x t1 =>
   cases t1 with
   | cons y t3 => rw [ha] at h; cases h
   | nil =>
   rw [ha] at h
   simp only at h
   obtain ⟨v,hk,hs⟩ := Z15c (P := P) h
   refine ⟨sl,v,L,hk,.val fun {B0 w0 ok E a w} hS => ?_⟩
   obtain ⟨z,hz,hv⟩ := hs (hS.sl.ev hS.mem.gl x) c.argTypes o.type
   have e1 : c.args.map a.eval = #[a.eval x] := by rw [Z2l ha]; simp
   exact ⟨z,by simp [execOp,hop,resolve,hc,invoke,builtin,e1,hz],hv⟩
  case unsafeString =>
   cases ha : c.args.toList with
   | nil => rw [ha] at h; cases h
   | cons s t1 =>
   cases t1 with
   | nil => rw [ha] at h; cases h
   | cons x t2 =>
   cases t2 with
   | cons y t3 => rw [ha] at h; cases h
   | nil =>
   cases ht : c.argTypes.toList with
   | nil => rw [ha,ht] at h; cases h
   | cons t t4 =>
   cases t4 with
   | nil => rw [ha,ht] at h; cases h
   | cons t' t5 =>
   cases t5 with
   | cons y t3 => rw [ha,ht] at h; cases h
   | nil =>
   rw [ha,ht] at h
   simp only at h
   cases fz with
   | false => cases h
   | true =>
   rw [cond_true] at h
   obtain ⟨sl',v,L',hk,hlen,hs⟩ := Z1ev (P := P) (ty := o.type) (it := t') h
   refine ⟨sl',v,L',hk,hlen,fun hd {ro B0 w0 ok E a w} hS K Q hK => ?_⟩
   obtain ⟨y,w',E',hr,hM,hv,hsl,g⟩ := hs hS.mem (hS.sl.ev hS.mem.gl s) (hS.sl.ev hS.mem.gl x) hS.sl
   refine Zno hd (u := y) (w' := w') ?_ (hK ok E' y w' hM hv hsl g)
   have e1 : c.args.map a.eval = #[a.eval s,a.eval x] := by rw [Zam ha]; simp
   simp [execOp,hop,resolve,hc,invoke,builtin,e1,Zam ht,hr]
theorem Z1at (hsp : SpOk P sp) {or : Orc R} (hor : OrOk P or) {o : Oper} {sl : List AV} {L : Heap} {k : List AV → AV → Heap → Option R} {r : R} (h : opK P sp base fz or o sl L k = some r) :
  ∃ sl' v L',k sl' v L' = some r ∧ OpSem P base o sl L sl' v L' := by
 have h0 := h
 unfold opK at h
 cases hop : o.op <;> simp only [hop] at h <;> try (cases h; done)
 case move x => exact ⟨_,_,_,h,.val fun hS => ⟨_,by simp [execOp,hop],hS.sl.ev hS.mem.gl x⟩⟩
 case assign x => exact ⟨_,_,_,h,.val fun hS => ⟨_,by simp [execOp,hop],hS.sl.ev hS.mem.gl x⟩⟩
 case pick c x y =>
  obtain ⟨t,ht,h1⟩ := Option.bind_eq_some_iff.1 h
  have hc := Z1ib ht
  cases t with
  | true =>
   refine ⟨_,_,_,h1,.val fun {B0 w0 ok E a w} hS => ⟨_,?_,hS.sl.ev hS.mem.gl x⟩⟩
   have := hS.sl.ev hS.mem.gl c
   rw [hc] at this
   simp [execOp,hop,this.v_inv.1,asBool]
  | false =>
   refine ⟨_,_,_,h1,.val fun {B0 w0 ok E a w} hS => ⟨_,?_,hS.sl.ev hS.mem.gl y⟩⟩
   have := hS.sl.ev hS.mem.gl c
   rw [hc] at this
   simp [execOp,hop,this.v_inv.1,asBool]
 case alloc t => exact Zbx h0 (.inl ⟨_,hop⟩)
 case box t x => exact Zbx h0 (.inr (.inl ⟨_,_,hop⟩))
 case build t ps => exact Zbx h0 (.inr (.inr (.inl ⟨_,_,hop⟩)))
 case buildSlice t n ps => exact Zbx h0 (.inr (.inr (.inr (.inl ⟨_,_,_,hop⟩))))
 case makeSlice t n c => exact Zbx h0 (.inr (.inr (.inr (.inr (.inl ⟨_,_,_,hop⟩)))))
 case makeFunc g f c => exact Zbx h0 (.inr (.inr (.inr (.inr (.inr ⟨_,_,_,hop⟩)))))
 case load t x =>
  obtain ⟨v,hk,hs⟩ := Z172 h
  refine ⟨_,_,_,hk,.val fun {B0 w0 ok E a w} hS => ?_⟩
  obtain ⟨y,hy,hv⟩ := hs hS.mem (hS.sl.ev hS.mem.gl x)
  exact ⟨y,by simp [execOp,hop,hy],hv⟩
 case store t x y =>
  obtain ⟨L',hk,hs⟩ := Z14g h
  refine ⟨_,_,_,hk,.skip fun {B0 w0 ok E a w} hS => ?_⟩
  obtain ⟨w',hr,hM,g⟩ := hs hS.mem (hS.sl.ev hS.mem.gl x) (hS.sl.ev hS.mem.gl y)
  exact ⟨w',ok,E,by simp [execOp,hop,hr],hM,g,fun _ h => .inl h⟩
 case nilCheck x =>
  cases hx : ev sl x <;> rw [hx] at h <;> try (simp only at h) <;> try (cases h; done)
  case d y =>
   cases y <;> try (simp only at h) <;> try (cases h; done)
   case fn f cs =>
    refine ⟨_,_,_,h,.val fun {B0 w0 ok E a w} hS => ?_⟩
    have := hS.sl.ev hS.mem.gl x
    rw [hx] at this
    refine ⟨a.eval x,?_,this⟩
    generalize hu : a.eval x = u at this ⊢
    cases this with
    | d hd => cases hd with
     | fn hl hr => simp [execOp,hop,hu]
  case ptr id off =>
   refine ⟨_,_,_,h,.val fun {B0 w0 ok E a w} hS => ?_⟩
   have := hS.sl.ev hS.mem.gl x
   rw [hx] at this
   refine ⟨a.eval x,?_,this⟩
   generalize hu : a.eval x = u at this ⊢
   cases this with
   | ptr he => simp [execOp,hop,hu]
  case lp cs off =>
   refine ⟨_,_,_,h,.val fun {B0 w0 ok E a w} hS => ?_⟩
   have := hS.sl.ev hS.mem.gl x
   rw [hx] at this
   refine ⟨a.eval x,?_,this⟩
   generalize hu : a.eval x = u at this ⊢
   cases this with
   | lp h1 h2 h3 h4 => simp [execOp,hop,hu]
  case clo f cs =>
   refine ⟨_,_,_,h,.val fun {B0 w0 ok E a w} hS => ?_⟩
   have := hS.sl.ev hS.mem.gl x
   rw [hx] at this
   refine ⟨a.eval x,?_,this⟩
   generalize hu : a.eval x = u at this ⊢
   cases this with
   | clo hl hr => simp [execOp,hop,hu]
  case bnd f cs =>
   refine ⟨_,_,_,h,.val fun {B0 w0 ok E a w} hS => ?_⟩
   have := hS.sl.ev hS.mem.gl x
   rw [hx] at this
   refine ⟨a.eval x,?_,this⟩
   generalize hu : a.eval x = u at this ⊢
   cases this with
   | bnd hl hr => simp [execOp,hop,hu]
  case yld id =>
   refine ⟨_,_,_,h,.val fun {B0 w0 ok E a w} hS => ?_⟩
   have := hS.sl.ev hS.mem.gl x
   rw [hx] at this
   refine ⟨a.eval x,?_,this⟩
   generalize hu : a.eval x = u at this ⊢
   cases this with
   | yld he => simp [execOp,hop,hu]
 case makeMap t rs =>
  cases rs with
  | some r => simp at h
  | none =>
   refine ⟨_,_,_,h,.grow fun {B0 w0 ok E a w} hS => ?_⟩
   refine ⟨.map (some w.heap.size),w.alloc (.map #[] 0),ok,E.puty L.length w.heap.size,?_,hS.mem.allocy (.map #[] 0) (.map []) ⟨rfl,fun j e p he => by simp at he⟩,.mp (by simp [Env.puty]),Grow.allocy hS.mem _ _,fun _ h => .inl h⟩
   simp [execOp,hop,Instr.makeMap,Sem.run_bind,Result.andThen,run_newObj_alloc]
 case lookup t x i c =>
  obtain ⟨v,hk,hs⟩ := Z1du (P := P) h
  refine ⟨_,_,_,hk,.val fun {B0 w0 ok E a w} hS => ?_⟩
  obtain ⟨u,hr,hv⟩ := hs (X := []) (by rw [List.append_nil]; exact hS.mem) (hS.sl.ev hS.mem.gl x) (hS.sl.ev hS.mem.gl i)
  exact ⟨u,by simp [execOp,hop,hr],hv⟩
 case mapUpdate t m i x =>
  obtain ⟨L',hk,hs⟩ := Z192 (P := P) h
  refine ⟨_,_,_,hk,.skip fun {B0 w0 ok E a w} hS => ?_⟩
  obtain ⟨w',hr,hM,g⟩ := hs hS.mem (hS.sl.ev hS.mem.gl m) (hS.sl.ev hS.mem.gl i) (hS.sl.ev hS.mem.gl x)
  exact ⟨w',ok,E,by simp [execOp,hop,hr],hM,g,fun _ h => .inl h⟩
 case insert t m i x =>
  obtain ⟨L',hk,hs⟩ := Z192 (P := P) h
  refine ⟨_,_,_,hk,.skip fun {B0 w0 ok E a w} hS => ?_⟩
  obtain ⟨w',hr,hM,g⟩ := hs hS.mem (hS.sl.ev hS.mem.gl m) (hS.sl.ev hS.mem.gl i) (hS.sl.ev hS.mem.gl x)
  exact ⟨w',ok,E,by simp [execOp,hop,hr],hM,g,fun _ h => .inl h⟩
 case range t x =>
  cases hu : P.underlying t with
  | none => rw [hu] at h; cases h
  | some d =>
   rw [hu] at h
   cases d <;> try (simp only at h) <;> try (cases h; done)
   case string =>
    cases hx : ev sl x <;> rw [hx] at h <;> try (simp only at h) <;> try (cases h; done)
    case d y =>
     cases y <;> try (simp only at h) <;> try (cases h; done)
     case v y =>
      cases y <;> try (simp only at h) <;> try (cases h; done)
      case string s =>
       refine ⟨_,_,_,h,.grow fun {B0 w0 ok E a w} hS => ?_⟩
       have := hS.sl.ev hS.mem.gl x
       rw [hx] at this
       have hv := this.v_inv.1
       refine ⟨.pointer (some ⟨w.heap.size,0,none⟩),w.alloc (.stringIter s 0),ok,E.puty L.length w.heap.size,?_,hS.mem.allocy (.stringIter s 0) (.iter s 0) ⟨rfl,rfl⟩,.it (by simp [Env.puty]),Grow.allocy hS.mem _ _,fun _ h => .inl h⟩
       simp [execOp,hop,hv,Instr.range,underlying,hu,Sem.run_bind,Result.andThen,run_newObj_alloc]
 case next x str =>
  cases str with
  | false => simp at h
  | true =>
   simp only [if_true] at h
   cases hx : ev sl x <;> rw [hx] at h <;> try (simp only at h) <;> try (cases h; done)
   case it id =>
    cases hB : L[id]? with
    | none => rw [hB] at h; cases h
    | some B =>
     rw [hB] at h
     cases B <;> try (simp only at h) <;> try (cases h; done)
     case iter s pos =>
      have hit : ∀ {B0 w0 ok E a w},Sim B0 w0 ok E ⟨sl,L⟩ a w → ∃ l,a.eval x = .pointer (some ⟨l,0,none⟩) ∧ E.y id = some l ∧ w.heap[l]? = some (.stringIter s pos) := fun {B0 w0 ok E a w} hS => by
       have := hS.sl.ev hS.mem.gl x
       rw [hx] at this
       generalize a.eval x = u at this ⊢
       cases this with
       | it he =>
        refine ⟨_,rfl,he,?_⟩
        obtain ⟨_,o,B,hl,hB',ho⟩ := hS.mem.obj id _ he
        rw [hB] at hB'; cases hB'
        cases o <;> first | exact ho.elim | (obtain ⟨rfl,rfl⟩ := ho; exact hl)
      split at h
      ·rename_i hlt
       refine ⟨_,_,_,h,.grow fun {B0 w0 ok E a w} hS => ?_⟩
       obtain ⟨l,hev,hy,hl⟩ := hit hS
       refine ⟨.tuple #[.bool true,.int .i64 pos,.int .i32 (Utf8.decode s pos).1],w.putObj l (.stringIter s (pos + (Utf8.decode s pos).2)),ok,E,?_,hS.mem.putObj hy hl (fun hk => by cases hk) (B' := .iter s (pos + (Utf8.decode s pos).2)) ⟨rfl,rfl⟩,?_,Grow.putObj hS.mem hy hl (fun hk => by cases hk),fun _ h => .inl h⟩
       ·simp [execOp,hop,hev,Instr.next,Sem.run_bind,Result.andThen,Zal hl rfl,hlt,Z14h hl rfl,goInt]
       ·refine .d (RepD.tup (vs := [.bool true,.int .i64 pos,.int .i32 (Utf8.decode s pos).1]) rfl fun i x d hx hd => ?_)
        match i with
        | 0 => simp at hx hd; subst hx hd; exact .v rfl
        | 1 => simp at hx hd; subst hx hd; exact .v rfl
        | 2 => simp at hx hd; subst hx hd; exact .v rfl
        | n + 3 => simp at hx
      ·rename_i hlt
       refine ⟨_,_,_,h,.val fun {B0 w0 ok E a w} hS => ?_⟩
       obtain ⟨l,hev,hy,hl⟩ := hit hS
       refine ⟨.tuple #[.bool false],?_,?_⟩
       ·simp [execOp,hop,hev,Instr.next,Sem.run_bind,Result.andThen,Zal hl rfl,hlt]
       ·refine .d (RepD.tup (vs := [.bool false]) rfl fun i x d hx hd => ?_)
        match i with
        | 0 => simp at hx hd; subst hx hd; exact .v rfl
        | n + 1 => simp at hx
 case binOp op t x y z =>
  cases hy : isNilC y with
  | true =>
   rw [hy,cond_true] at h
   obtain rfl := Z1fq hy
   obtain ⟨v,hk,hs⟩ := Z1fr h
   refine ⟨_,_,_,hk,.val fun {B0 w0 ok E a w} hS => ?_⟩
   obtain ⟨u,hu,hv⟩ := hs x (.const (.slice none 0 0)) (hS.sl.ev hS.mem.gl x)
   exact ⟨u,by
    rw [show execOp a.eval o = (do pure (.value (← (do eqGuard op t x (.const (.slice none 0 0)) (a.eval x) (.slice none 0 0); binOp op t (a.eval x) (.slice none 0 0) : Sem Value))) : Sem Next) from by simp only [execOp,hop]; rfl]
    rw [Sem.run_bind,hu]; rfl,hv⟩
  | false =>
  rw [hy,cond_false] at h
  cases hp : ptrT P t with
  | true =>
   rw [hp,cond_true] at h
   obtain ⟨v,hk,hs⟩ := Z1g4 hp h
   refine ⟨_,_,_,hk,.val fun {B0 w0 ok E a w} hS => ?_⟩
   obtain ⟨u,hu,hv⟩ := hs x y (hS.sl.ev hS.mem.gl x) (hS.sl.ev hS.mem.gl y)
   exact ⟨u,by
    rw [show execOp a.eval o = (do pure (.value (← (do eqGuard op t x y (a.eval x) (a.eval y); binOp op t (a.eval x) (a.eval y) : Sem Value))) : Sem Next) from by simp only [execOp,hop]]
    rw [Sem.run_bind,hu]; rfl,hv⟩
  | false =>
  rw [hp,cond_false] at h
  obtain ⟨v,hk,hs⟩ := Z1ft h
  refine ⟨_,_,_,hk,.val fun {B0 w0 ok E a w} hS => ?_⟩
  obtain ⟨u,hu,hv⟩ := hs x y (hS.sl.ev hS.mem.gl x) (hS.sl.ev hS.mem.gl y)
  exact ⟨u,by
   rw [show execOp a.eval o = (do pure (.value (← (do eqGuard op t x y (a.eval x) (a.eval y); binOp op t (a.eval x) (a.eval y) : Sem Value))) : Sem Next) from by simp only [execOp,hop]]
   rw [Sem.run_bind,hu]; rfl,hv⟩
 case unOp op t x =>
  obtain ⟨v,hk,hs⟩ := Z1i9 (P := P) h
  refine ⟨_,_,_,hk,.val fun {B0 w0 ok E a w} hS => ?_⟩
  obtain ⟨u,hu,hv⟩ := hs (hS.sl.ev hS.mem.gl x)
  exact ⟨u,by simp [execOp,hop,hu],hv⟩
 case convert s d x =>
  obtain ⟨v,hk,hs⟩ := Z1dm h
  refine ⟨_,_,_,hk,.grow fun {B0 w0 ok E a w} hS => ?_⟩
  obtain ⟨u,w',ok',hu,_,hM,g,e,hv⟩ := hs hS.mem (hS.sl.ev hS.mem.gl x)
  exact ⟨u,w',ok',E,by simp [execOp,hop,hu],hM,hv,g,e⟩
 case slice t x lo hi mx =>
  obtain ⟨v,hk,hs⟩ := Z1b1 h
  refine ⟨_,_,_,hk,.val fun {B0 w0 ok E a w} hS => ?_⟩
  obtain ⟨u,hu,hv⟩ := hs hS.mem (hS.sl.ev hS.mem.gl x) (Z1er hS.sl hS.mem.gl lo) (Z1er hS.sl hS.mem.gl hi) (Z1er hS.sl hS.mem.gl mx)
  exact ⟨u,by simp [execOp,hop,hu],hv⟩
 case fieldAddr s x f =>
  obtain ⟨p,hp,h1⟩ := Option.bind_eq_some_iff.1 h
  cases hx : ev sl x <;> rw [hx] at h1 <;> try (simp only at h1) <;> try (cases h1; done)
  case ptr id off =>
   refine ⟨_,_,_,h1,.val fun {B0 w0 ok E a w} hS => ?_⟩
   have := hS.sl.ev hS.mem.gl x
   rw [hx] at this
   generalize hu : a.eval x = u at this
   cases this with
   | ptr he =>
    rename_i b m
    refine ⟨_,by simp [execOp,hop,hu,Zy0 hp]; rfl,?_⟩
    rw [Addr.add_mid]
    exact .ptr he
  case lp cs off =>
   refine ⟨_,_,_,h1,.val fun {B0 w0 ok E a w} hS => ?_⟩
   have := hS.sl.ev hS.mem.gl x
   rw [hx] at this
   generalize hu : a.eval x = u at this
   cases this with
   | lp h1 h2 h3 h4 =>
    refine ⟨_,by simp [execOp,hop,hu,Zy0 hp]; rfl,?_⟩
    have := Rep.lp (E := E) (off := off + p.1) h1 h2 h3 h4
    rw [Addr.add_mid,Nat.add_assoc]
    exact this
 case field s x f =>
  obtain ⟨v,hk,hs⟩ := Z1b3 h
  refine ⟨_,_,_,hk,.val fun {B0 w0 ok E a w} hS => ?_⟩
  obtain ⟨u,hu,hv⟩ := hs (hS.sl.ev hS.mem.gl x)
  exact ⟨u,by simp [execOp,hop,hu],hv⟩
 case indexAddr t x i =>
  obtain ⟨v,hk,hs⟩ := Z11z h
  refine ⟨_,_,_,hk,.val fun {B0 w0 ok E a w} hS => ?_⟩
  obtain ⟨u,hu,hv⟩ := hs (hS.sl.ev hS.mem.gl x) (hS.sl.ev hS.mem.gl i)
  exact ⟨u,by simp [execOp,hop,hu],hv⟩
 case index t x i =>
  obtain ⟨v,hk,hs⟩ := Z1b2 h
  refine ⟨_,_,_,hk,.val fun {B0 w0 ok E a w} hS => ?_⟩
  obtain ⟨u,hu,hv⟩ := hs (hS.sl.ev hS.mem.gl x) (hS.sl.ev hS.mem.gl i)
  exact ⟨u,by simp [execOp,hop,hu],hv⟩
 case extract t i =>
  cases hx : ev sl t <;> rw [hx] at h <;> try (simp only at h) <;> try (cases h; done)
  case d y =>
   cases y <;> try (simp only at h) <;> try (cases h; done)
   case tup ds =>
    obtain ⟨d,hd,h1⟩ := Option.bind_eq_some_iff.1 h
    refine ⟨_,_,_,h1,.val fun {B0 w0 ok E a w} hS => ?_⟩
    have := hS.sl.ev hS.mem.gl t
    rw [hx] at this
    generalize hu : a.eval t = u at this
    cases this with
    | d hD => cases hD with
     | tup hl hr =>
      rename_i vs
      have hlt : i < vs.length := by rw [hl]; exact (List.getElem?_eq_some_iff.1 hd).1
      have hv : vs[i]? = some vs[i] := List.getElem?_eq_getElem hlt
      exact ⟨vs[i],by simp [execOp,hop,hu,Instr.extract,hv],.d (hr i _ _ hv hd)⟩
  case tup ds =>
   obtain ⟨d,hd,h1⟩ := Option.bind_eq_some_iff.1 h
   refine ⟨_,_,_,h1,.val fun {B0 w0 ok E a w} hS => ?_⟩
   have := hS.sl.ev hS.mem.gl t
   rw [hx] at this
   generalize hu : a.eval t = u at this
   cases this with
   | tup hl hr =>
    rename_i vs
    have hlt : i < vs.length := by rw [hl]; exact (List.getElem?_eq_some_iff.1 hd).1
    have hv : vs[i]? = some vs[i] := List.getElem?_eq_getElem hlt
    exact ⟨vs[i],by simp [execOp,hop,hu,Instr.extract,hv],hr i _ _ hv hd⟩
 case call c => exact Z1iv hsp hor hop h
end Go.Ev
/-
 Operations one after another; masks.
-/
set_option linter.unusedSimpArgs false
set_option linter.unusedVariables false
namespace Go.Ev
open Go Go.RowKit
variable {R : Type} {P : Program} {base : Own} {sp : SpTab} {fzs : List Bool}
theorem Zmu {o : Oper} (h : o.guard = none) (y : Nat → Option Bool) : Region.wanted o y = true := by simp [Region.wanted,h]
theorem Z1g6 {ops : Array Oper} {E : Env} {w : World} {ok : Nat → Prop} {tmps : Array Value} {j : Nat} {g : Oper} {d : Tmp} {b : Bool} {sl : List AV} (hg : ops[j]? = some g) (hd : g.dst = some d) (hlt : d < tmps.size)
  (hr : Rep E w ok (tmps.getD d undef) (.d (.v (.bool b)))) : yielded ops tmps j = some b := by
 have h1 : tmps[d]? = some (tmps.getD d undef) := by simp [Array.getD,hlt]
 unfold yielded
 simp [hg,hd]
 rw [h1,hr.v_inv.1]
theorem Z1g7 {ops : Array Oper} {E : Env} {w : World} {ok : Nat → Prop} {tmps : Array Value} {j : Nat} {g : Oper} {d : Tmp} {sl : List AV} (hg : ops[j]? = some g) (hd : g.dst = some d) (hlt : d < tmps.size)
  (hr : Rep E w ok (tmps.getD d undef) skipped) : yielded ops tmps j = none := by
 have h1 : tmps[d]? = some (tmps.getD d undef) := by simp [Array.getD,hlt]
 unfold yielded
 simp [hg,hd]
 rw [h1]
 unfold skipped at hr
 generalize tmps.getD d undef = u at hr
 cases hr with
 | d hD => cases hD with
  | tup hl _ => rfl
inductive Z7x (ops : Array Oper) (o : Oper) (sl : List AV) : Bool → Prop
 | none : o.guard = none → Z7x ops o sl true
 | bool {j : Nat} {want : Bool} {g : Oper} {d : Tmp} {b : Bool} : o.guard = some (j,want) → ops[j]? = some g → g.dst = some d → sl[d]? = some (.d (.v (.bool b))) → Z7x ops o sl (b == want)
 | skip {j : Nat} {want : Bool} {g : Oper} {d : Tmp} : o.guard = some (j,want) → ops[j]? = some g → g.dst = some d → sl[d]? = some skipped → Z7x ops o sl false
theorem Z1b8 {or : Orc R} {ops : Array Oper} {o : Oper} {rest : List Oper} {st : St} {k : St → Option R} {r : R} (h : opsK P sp base fzs or ops (o :: rest) st k = some r) :
  (Z7x ops o st.sl true ∧ opK P sp base (fzs.headD true) or o st.sl st.L (fun sl v L => opsK P sp base fzs.tail or ops rest ⟨setSl sl o.dst v,L⟩ k) = some r) ∨
  (Z7x ops o st.sl false ∧ opsK P sp base fzs.tail or ops rest ⟨setSl st.sl o.dst skipped,st.L⟩ k = some r) := by
 simp only [opsK] at h
 cases hg : o.guard with
 | none => rw [hg] at h; exact .inl ⟨.none hg,h⟩
 | some p =>
  obtain ⟨j,want⟩ := p
  rw [hg] at h
  simp only at h
  obtain ⟨g,hgj,h1⟩ := Option.bind_eq_some_iff.1 h
  obtain ⟨d,hd,h2⟩ := Option.bind_eq_some_iff.1 h1
  cases hs : st.sl[d]? with
  | none => rw [hs] at h2; cases h2
  | some c =>
   rw [hs] at h2
   cases c <;> try (simp only at h2) <;> try (cases h2; done)
   case d x =>
    cases x <;> try (simp only at h2) <;> try (cases h2; done)
    case v y =>
     cases y <;> try (simp only at h2) <;> try (cases h2; done)
     case bool b =>
      have hset : st.sl.set d (.d (.v (.bool b))) = st.sl := Znn hs
      have hG := Z7x.bool hg hgj hd hs
      cases b <;> cases want <;> simp only [cond_true,cond_false] at h2 <;> rw [hset] at h2
      ·exact .inl ⟨hG,h2⟩
      ·exact .inr ⟨hG,h2⟩
      ·exact .inr ⟨hG,h2⟩
      ·exact .inl ⟨hG,h2⟩
    case tup cs =>
     cases cs with
     | nil => exact .inr ⟨.skip hg hgj hd hs,h2⟩
     | cons x xs => cases h2
theorem Z7x.wanted {ops : Array Oper} {o : Oper} {sl : List AV} {b : Bool} (h : Z7x ops o sl b) {E : Env} {w : World} {ok : Nat → Prop} {tmps : Array Value} (hs : tmps.size = sl.length)
  (hr : ∀ (j : Nat) want (g : Oper) d c,o.guard = some (j,want) → ops[j]? = some g → g.dst = some d → sl[d]? = some c → Rep E w ok (tmps.getD d undef) c) : Region.wanted o (yielded ops tmps) = b := by
 cases h with
 | none hg => exact Zmu hg _
 | bool hg hj hd hsl =>
  have := Z1g6 (sl := sl) hj hd (by rw [hs]; exact (List.getElem?_eq_some_iff.1 hsl).1) (hr _ _ _ _ _ hg hj hd hsl)
  simp only [Region.wanted,hg,this]
  rename_i b; rename_i want _ _ _; cases b <;> cases want <;> rfl
 | skip hg hj hd hsl =>
  have := Z1g7 (sl := sl) hj hd (by rw [hs]; exact (List.getElem?_eq_some_iff.1 hsl).1) (hr _ _ _ _ _ hg hj hd hsl)
  simp only [Region.wanted,hg,this]
  rfl
theorem Sim.put {B0 : Nat} {w0 : World} {ok ok' : Nat → Prop} {E E' : Env} {st : St} {a : Act} {w w' : World} (h : Sim B0 w0 ok E st a w) {L' : Heap} {sl' : List AV} {u : Value} {v : AV} (hM : Mem B0 w0 ok' E' L' w') (hv : Rep E' w' ok' u v) (hsl : SlRep E' w' ok' a.tmps sl') (hl : sl'.length = st.sl.length) (hk : KeptIn w w') (dst : Option Tmp) :
  Sim B0 w0 ok' E' ⟨setSl sl' dst v,L'⟩ (a.put dst u) w' :=
 ⟨hM,hsl.put (by rw [h.size,hl]) hv dst,by rw [Ziy,Zo,h.size,hl],by rw [Z4v]; exact h.defers.keep hk⟩
theorem Zhd {fz : Bool} {or : Orc R} {o : Oper} {sl : List AV} {L : Heap} {k : List AV → AV → Heap → Option R} {r : R} (h : opK P sp base fz or o sl L k = some r) : ∀ c,o.op ≠ .defer c := fun c hc => by
 unfold opK at h
 rw [hc] at h
 cases h
theorem Z1b9 (hsp : SpOk P sp) {or : Orc R} (hor : OrOk P or) {ops : Array Oper} : ∀ {fzs : List Bool} {rest : List Oper} {st : St} {k : St → Option R} {r : R},opsK P sp base fzs or ops rest st k = some r →
  ∃ st',k st' = some r ∧ st'.sl.length = st.sl.length ∧ ∀ {ro B0 w0 ok E a w},Sim B0 w0 ok E st a w → ∀ (Q : Exit → Act → World → Prop),
   (∀ ok' E' a' w',Sim B0 w0 ok' E' st' a' w' → Step B0 base E w ok E' w' ok' → a'.defers = a.defers → Q .normal a' w') → wpListIn (Fw ro) 0 P ops Q rest a w
 | _,[],st,k,r,h => ⟨st,h,rfl,fun {ro B0 w0 ok E a w} hS Q hQ => hQ ok E a w hS (.refl _ _ _ _ _) rfl⟩
 | _,o :: rest,st,k,r,h => by
  rcases Z1b8 h with ⟨hG,h1⟩ | ⟨hG,h1⟩
  ·obtain ⟨sl',v,L',h2,hl,hop⟩ := Z1at hsp hor h1
   obtain ⟨st',hk,hl',hs⟩ := Z1b9 hsp hor h2
   refine ⟨st',hk,by rw [hl',Zo,hl],fun {ro B0 w0 ok E a w} hS Q hQ => ?_⟩
   have hw := hG.wanted hS.size (fun j want g d c _ _ _ hc => hS.sl d c hc)
   unfold wpListIn
   rw [if_pos hw]
   refine hop (Zhd h1) hS _ Q fun ok' E' u w' hM hv hsl hst => ?_
   exact hs (hS.put hM hv hsl hl hst.df o.dst) Q fun ok2 E2 a2 w2 hS2 hst2 hd => hQ ok2 E2 a2 w2 hS2 (hst.trans hst2) (hd.trans (Z4v _ _ _))
  ·obtain ⟨st',hk,hl',hs⟩ := Z1b9 hsp hor h1
   refine ⟨st',hk,by rw [hl',Zo],fun {ro B0 w0 ok E a w} hS Q hQ => ?_⟩
   have hw := hG.wanted hS.size (fun j want g d c _ _ _ hc => hS.sl d c hc)
   unfold wpListIn
   rw [if_neg (by simp [hw])]
   exact ⟨fun _ _ => trivial,hs (hS.put hS.mem Zfw hS.sl rfl (.refl _) o.dst) Q fun ok2 E2 a2 w2 hS2 hst2 hd => hQ ok2 E2 a2 w2 hS2 hst2 (hd.trans (Z4v _ _ _))⟩
theorem keepSl_length : ∀ (ks : List Bool) (xs : List AV),(keepSl ks xs).length = xs.length
 | true :: ks,x :: xs => by simp [keepSl,keepSl_length ks xs]
 | false :: ks,_ :: xs => by simp [keepSl,keepSl_length ks xs]
 | [],xs => by simp [keepSl]
 | true :: _,[] => by simp [keepSl]
 | false :: _,[] => by simp [keepSl]
theorem keepSl_get : ∀ (ks : List Bool) (xs : List AV) (t : Nat) (c : AV),(keepSl ks xs)[t]? = some c → c = .junk ∨ xs[t]? = some c
 | true :: ks,x :: xs,t,c,h => by
  cases t with
  | zero => simp [keepSl] at h; simp [h]
  | succ t => exact keepSl_get ks xs t c (by simpa [keepSl] using h)
 | false :: ks,_ :: xs,t,c,h => by
  cases t with
  | zero => simp [keepSl] at h; exact .inl h.symm
  | succ t => exact keepSl_get ks xs t c (by simpa [keepSl] using h)
 | [],xs,t,c,h => by
  simp only [keepSl,List.getElem?_map] at h
  cases hx : xs[t]? with
  | none => rw [hx] at h; cases h
  | some x => rw [hx] at h; cases h; exact .inl rfl
 | true :: _,[],t,c,h => by simp [keepSl] at h
 | false :: _,[],t,c,h => by simp [keepSl] at h
theorem Zra {m : Nat} : ∀ {cs : List AV},refsLt.refsLts m cs = true → ∀ (i : Nat) c,cs[i]? = some c → refsLt m c = true
 | [],_,i,c,hc => by simp at hc
 | x :: r,h,i,c,hc => by
  simp only [refsLt.refsLts,Bool.and_eq_true] at h
  cases i with
  | zero => simp at hc; subst hc; exact h.1
  | succ i => exact Zra h.2 i c (by simpa using hc)
def Env.below (E : Env) (m : Nat) : Env := ⟨fun i => if i < m then E i else none,fun i => if i < m then E.y i else none⟩
theorem Rep.lower {E : Env} {w : World} {ok : Nat → Prop} {m : Nat} {u : Value} {c : AV} (h : Rep E w ok u c) : refsLt m c = true → Rep (E.below m) w ok u c := by
 induction h with
 | d h => exact fun _ => .d h
 | agg hlen h1 _ ih => exact fun hr => .agg hlen h1 (fun i x c hx hc => ih i x c hx hc (Zra hr i c hc))
 | tup hlen _ ih => exact fun hr => .tup hlen (fun i x c hx hc => ih i x c hx hc (Zra hr i c hc))
 | ptr he => exact fun hr => .ptr (by simp [refsLt] at hr; simp only [Env.below,if_pos hr]; exact he)
 | sl he hn hc hm ho => exact fun hr => .sl (by simp [refsLt] at hr; simp only [Env.below,if_pos hr]; exact he) hn hc hm ho
 | slz hc => exact fun _ => .slz hc
 | lp hb h1 hcell hrep => exact fun _ => .lp hb h1 hcell hrep
 | clo hlen _ ih => exact fun hr => .clo hlen (fun i x c hx hc => ih i x c hx hc (Zra hr i c hc))
 | bnd hlen _ ih => exact fun hr => .bnd hlen (fun i x c hx hc => ih i x c hx hc (Zra hr i c hc))
 | yld he => exact fun hr => .yld (by simp [refsLt] at hr; simp only [Env.below,if_pos hr]; exact he)
 | it he => exact fun hr => .it (by simp [refsLt] at hr; simp only [Env.below,if_pos hr]; exact he)
 | mp he => exact fun hr => .mp (by simp [refsLt] at hr; simp only [Env.below,if_pos hr]; exact he)
 | junk => exact fun _ => .junk
theorem ObjRep.lower {E : Env} {w : World} {ok : Nat → Prop} {m : Nat} {o : Obj} {B : Blk} (h : ObjRep E w ok o B) (hb : blkLt m B = true) : ObjRep (E.below m) w ok o B := by
 cases o <;> cases B <;> first | exact h | exact h.elim | skip
 exact ⟨h.1,h.2.1,fun t c hc => (h.2.2.1 t c hc).lower (List.all_eq_true.1 hb c (List.mem_of_getElem? hc)),h.2.2.2⟩
def okFrom (E : Env) (m : Nat) (ok : Nat → Prop) : Nat → Prop := fun b => ok b ∨ ∃ id q,m ≤ id ∧ E id = some (b,q)
theorem Z1ba {m : Nat} {L : Heap} : ∀ {xs : List AV} {k : List AV → Option R} {r : R},frzK m L xs k = some r →
  ∃ ys,k ys = some r ∧ ys.length = xs.length ∧ ∀ {B0 w0 ok E w},Mem B0 w0 ok E L w → ∀ (t : Nat) c,ys[t]? = some c → ∃ x,xs[t]? = some x ∧ ∀ u,Rep E w ok u x → Rep E w (okFrom E m ok) u c
 | [],k,r,h => ⟨[],h,rfl,fun hM t c hc => by simp at hc⟩
 | x :: xs,k,r,h => by
  have same : frzK m L xs (fun ys => k (x :: ys)) = some r → ∃ ys,k ys = some r ∧ ys.length = (x :: xs).length ∧ ∀ {B0 w0 ok E w},Mem B0 w0 ok E L w → ∀ (t : Nat) c,ys[t]? = some c → ∃ y,(x :: xs)[t]? = some y ∧ ∀ u,Rep E w ok u y → Rep E w (okFrom E m ok) u c := fun h1 => by
   obtain ⟨ys,hk,hl,hs⟩ := Z1ba h1
   refine ⟨x :: ys,hk,by simp [hl],fun {B0 w0 ok E w} hM t c hc => ?_⟩
   cases t with
   | zero =>
    simp at hc
    subst hc
    exact ⟨x,rfl,fun u hu => hu.grow (E' := E) (w' := w) ⟨fun _ _ h => h,fun b hb => .inl hb,fun _ _ => rfl,fun _ _ h => h,.refl _⟩⟩
   | succ t => exact hs hM t c (by simpa using hc)
  cases x <;> try (exact same h)
  case sl id off n cap sz =>
   simp only [frzK] at h
   by_cases hid : Nat.ble m id = true
   case neg => rw [if_neg hid] at h; exact same h
   rw [if_pos hid] at h
   have hmid : m ≤ id := Nat.le_of_ble_eq_true hid
   cases hB : L[id]? with
   | none => rw [hB] at h; cases h
   | some B =>
    rw [hB] at h
    cases B <;> (try simp only at h) <;> try (cases h; done)
    case d b cs =>
     obtain ⟨q,h1,hq⟩ := Znl h
     obtain ⟨ys,hk,hl,hs⟩ := Z1ba h1
     refine ⟨_,hk,by simp [hl],fun {B0 w0 ok E w} hM t c hc => ?_⟩
     cases t with
     | succ t => exact hs hM t c (by simpa using hc)
     | zero =>
      simp at hc
      subst hc
      refine ⟨_,rfl,fun u hu => .d ?_⟩
      have hv : viewD (L := [] ++ L) 1 (.sl id off n cap sz) = some (.list n cap q) := by
       obtain ⟨hfit,rfl⟩ := hq (hM.wf _ _ hB)
       simp only [viewD,List.nil_append,hB,cut,if_pos hfit]
       unfold cutL
       have hlen := hM.wf _ _ hB
       split
       ·rename_i h0
        rw [h0.1,List.drop_zero,List.take_of_length_le (by have : cs.length = b := hlen; omega)]
       ·rfl
      let E1 : Env := ⟨fun i => if i = id then E id else none,fun _ => none⟩
      have hM1 : Mem B0 w0 ok E1 L w := by
       refine ⟨hM.below,fun b hk => ⟨(hM.okb b hk).1,fun i q he => ?_⟩,fun i j b q q' hi hj => ?_,fun i b q he => ?_,hM.b0,hM.wf,hM.gl,fun i l hy => (nomatch hy),fun i j l hi => (nomatch hi),fun b _ i hy => (nomatch hy)⟩
       ·simp only [E1] at he
        split at he
        ·exact (hM.okb b hk).2 _ _ he
        ·cases he
       ·simp only [E1] at hi hj
        split at hi <;> split at hj <;> first | omega | cases hi | cases hj
       ·simp only [E1] at he
        split at he
        ·rename_i hii
         subst hii
         obtain ⟨h0,c,e,B,hbb,hs,h1,hB',hcc⟩ := hM.loc i b q he
         rw [hB] at hB'; cases hB'
         exact ⟨h0,c,e,_,hbb,hs,h1,hB,hcc⟩
        ·cases he
      have hu1 : Rep E1 w ok u (.sl id off n cap sz) := by
       cases hu with
       | sl hE a b c d => exact .sl (by simp only [E1,if_pos]; exact hE) a b c d
       | slz b => exact .slz b
      exact viewD_sound hv (by simpa using hM1) (fun b hb => .inl hb) (fun i b q he => by
       simp only [E1] at he
       split at he
       ·exact .inr ⟨id,q,hmid,he⟩
       ·cases he) hu1
theorem Zvo {keep : List Bool} {m : Nat} {st : St} {k : St → Option R} {r : R} (h : maskK keep base.base m st k = some r) :
  ∃ st',k st' = some r ∧ st'.sl.length = st.sl.length ∧ ∀ {B0 w0 ok E a w},Sim B0 w0 ok E st a w → ∃ ok' E',Sim B0 w0 ok' E' st' a w ∧ Step B0 base E w ok E' w ok' := by
 unfold maskK at h
 cases hlo : (Nat.blt st.sl.length keep.length && lostSl m (keepSl keep st.sl)) with
 | true => rw [hlo] at h; cases h
 | false =>
 rw [hlo,cond_false] at h
 obtain ⟨sl,h1,hlen,hfr⟩ := Z1ba h
 clear h
 dsimp only at h1
 split at h1
 case isFalse => cases h1
 rename_i hc
 simp only [Bool.and_eq_true] at hc
 obtain ⟨hb,hsl,hL⟩ := hc
 have hbm : base.base ≤ m := Nat.le_of_ble_eq_true hb
 refine ⟨_,h1,by rw [hlen,keepSl_length],fun {B0 w0 ok E a w} hS => ⟨okFrom E m ok,E.below m,⟨⟨hS.mem.below,fun b hk => ?_,fun i j b q q' hi hj => ?_,fun id b q he => ?_,hS.mem.b0,fun i B hi => ?_,hS.mem.gl.mono (fun _ h => .inl h) (fun _ _ => rfl),fun id l hy => ?_,fun i j l hi hj => ?_,fun b hk id hy => ?_⟩,fun t c hc => ?_,?_,hS.defers⟩,⟨fun id x hid he => ?_,fun _ h => .inl h,fun _ _ => rfl,fun b hb => ?_,fun id x hid he => ?_,.refl _⟩⟩⟩
 ·rcases hk with hk | ⟨i,q,hi,he⟩
  ·refine ⟨(hS.mem.okb b hk).1,fun id q he => ?_⟩
   simp only [Env.below] at he
   split at he
   ·exact (hS.mem.okb b hk).2 id q he
   ·cases he
  ·refine ⟨hS.mem.lt he,fun id q' he' => ?_⟩
   simp only [Env.below] at he'
   split at he'
   ·have := hS.mem.inj _ _ _ _ _ he he'; omega
   ·cases he'
 ·simp only [Env.below] at hi hj
  split at hi <;> split at hj <;> first | exact hS.mem.inj i j b q q' hi hj | cases hi | cases hj
 ·simp only [Env.below] at he
  split at he
  ·rename_i hid
   obtain ⟨h0,c,e,B,hbb,hs,h1,hB,hcc⟩ := hS.mem.loc id b q he
   have hB' : (st.L.take m)[id]? = some B := by rw [List.getElem?_take,if_pos hid]; exact hB
   refine ⟨h0,c,e,B,hbb,hs,h1,hB',?_⟩
   have hcc' : CellsRep E w (okFrom E m ok) e c.toList B := hcc.grow (E' := E) (w' := w) ⟨fun _ _ h => h,fun b hb => .inl hb,fun _ _ => rfl,fun _ _ h => h,.refl _⟩
   have hlt := List.all_eq_true.1 hL B (List.mem_of_getElem? hB')
   cases B with
   | dead => exact hcc'
   | iter => exact hcc'
   | map => exact hcc'
   | loop => exact hcc'
   | d n cs => exact hcc'
   | a n cs =>
    refine ⟨hcc'.1,hcc'.2.1,fun j x hx => ?_⟩
    obtain ⟨v,hv,hr⟩ := hcc'.2.2 j x hx
    exact ⟨v,hv,hr.lower (List.all_eq_true.1 hlt x (List.mem_of_getElem? hx))⟩
   | td ty n cs => exact hcc'
   | t ty n cs =>
    refine ⟨hcc'.1,hcc'.2.1,hcc'.2.2.1,fun j x hx => ?_⟩
    obtain ⟨v,hv,hr⟩ := hcc'.2.2.2 j x hx
    exact ⟨v,hv,hr.lower (List.all_eq_true.1 hlt x (List.mem_of_getElem? hx))⟩
  ·cases he
 ·rw [List.getElem?_take] at hi
  split at hi
  ·exact hS.mem.wf i B hi
  ·cases hi
 ·simp only [Env.below] at hy
  split at hy
  ·rename_i hid
   obtain ⟨h0,o,B,hl,hB,ho⟩ := hS.mem.obj id l hy
   have hB' : (st.L.take m)[id]? = some B := by rw [List.getElem?_take,if_pos hid]; exact hB
   refine ⟨h0,o,B,hl,hB',?_⟩
   have ho' : ObjRep E w (okFrom E m ok) o B := ho.grow (E' := E) (w' := w) ⟨fun _ _ h => h,fun b hb => .inl hb,fun _ _ => rfl,fun _ _ h => h,.refl _⟩
   exact ho'.lower (List.all_eq_true.1 hL B (List.mem_of_getElem? hB'))
  ·cases hy
 ·simp only [Env.below] at hi hj
  split at hi <;> split at hj <;> first | exact hS.mem.yinj i j l hi hj | cases hi | cases hj
 ·simp only [Env.below] at hy
  split at hy
  ·rcases hk with hk | ⟨i,q,_,he⟩
   ·exact hS.mem.yok b hk id hy
   ·exact hS.mem.yne he hy rfl
  ·cases hy
 ·obtain ⟨x,hx,hr⟩ := hfr hS.mem t c hc
  have hlow := List.all_eq_true.1 hsl c (List.mem_of_getElem? hc)
  refine (hr _ ?_).lower hlow
  rcases keepSl_get _ _ _ _ hx with rfl | h1
  ·exact .junk
  ·exact hS.sl t x h1
 ·simp only [hlen,keepSl_length]; exact hS.size
 ·have hlt : id < m := by
   simp only [ownB,Bool.or_eq_false_iff] at hid
   have := Z1b7.mp hid.1
   omega
  simp only [Env.below,if_pos hlt]; exact he
 ·rcases hb with hb | ⟨i,q,_,he⟩
  ·exact .inl hb
  ·exact .inr (hS.mem.loc _ _ _ he).1
 ·simp only [Env.below,if_pos (show id < m by omega)]; exact he
theorem Z1bb {E : Env} {w : World} {ok : Nat → Prop} {u : Value} {id sz : Nat} (h : RepD w ok u (.list 0 (some 0) [])) : Rep E w ok u (.sl id 0 0 none sz) := by
 cases h with
 | nil _ => exact .slz (fun q hq => by cases hq)
 | list hb hn hcap _ _ _ =>
  have := hcap 0 rfl
  subst this
  exact .slz (fun q hq => by cases hq)
theorem Z1g8 {B0 : Nat} {w0 : World} {ok : Nat → Prop} {E : Env} {L : Heap} {w : World} (h : Mem B0 w0 ok E L w) {i n off sz : Nat} {cs : List AV} {B : Blk} (hB : L[i]? = some B) (hk : ∀ (o : Obj),ObjRep E w ok o B → False) (hto : ∀ e c,CellsRep E w ok e c B → CellsRep E w ok e c (.a n cs)) (hl : cs.length = n) (ho : cs[off]? = some (.d (.list 0 (some 0) []))) :
  Mem B0 w0 ok E (L.set i (.a n (cs.set off (.sl L.length 0 0 none sz))) ++ [.d 0 []]) w := by
 have hlt := (List.getElem?_eq_some_iff.1 hB).1
 have hset : ∀ e c,CellsRep E w ok e c B → CellsRep E w ok e c (.a n (cs.set off (.sl L.length 0 0 none sz))) := fun e c hc => by
  have h1 := hto e c hc
  refine ⟨by simpa using h1.1,h1.2.1,fun j a ha => ?_⟩
  by_cases hj : j = off
  ·subst hj
   rw [List.getElem?_set_self (List.getElem?_eq_some_iff.1 ho).1] at ha
   cases ha
   obtain ⟨x,hx,hr⟩ := h1.2.2 j _ ho
   refine ⟨x,hx,?_⟩
   cases hr with
   | d hr => exact Z1bb hr
  ·rw [List.getElem?_set_ne (Ne.symm hj)] at ha
   exact h1.2.2 j a ha
 refine ⟨h.below,h.okb,h.inj,fun id b m he => ?_,h.b0,fun id B' hi => ?_,h.gl,fun id l hy => ?_,h.yinj,h.yok⟩
 ·obtain ⟨h0,c,e,B',hb,hs,h1,hB',hc⟩ := h.loc id b m he
  by_cases hid : id = i
  ·subst hid
   rw [hB] at hB'; cases hB'
   exact ⟨h0,c,e,_,hb,hs,h1,by rw [List.getElem?_append_left (by simpa using hlt),List.getElem?_set_self hlt],hset _ _ hc⟩
  ·exact ⟨h0,c,e,B',hb,hs,h1,by rw [List.getElem?_append_left (by simpa using h.idlt he),List.getElem?_set_ne (Ne.symm hid)]; exact hB',hc⟩
 ·by_cases hlast : id < L.length
  ·rw [List.getElem?_append_left (by simpa using hlast)] at hi
   by_cases hid : id = i
   ·subst hid
    rw [List.getElem?_set_self hlt] at hi; cases hi
    show (cs.set off _).length = n
    simpa using hl
   ·rw [List.getElem?_set_ne (Ne.symm hid)] at hi; exact h.wf id B' hi
  ·rw [List.getElem?_append_right (by simpa using hlast)] at hi
   cases hj : id - (L.set i (.a n (cs.set off (.sl L.length 0 0 none sz)))).length with
   | zero => rw [hj] at hi; cases hi; rfl
   | succ j => rw [hj] at hi; cases hi
 ·obtain ⟨h0,o,B',hl',hB',ho'⟩ := h.obj id l hy
  by_cases hid : id = i
  ·subst hid
   rw [hB] at hB'; cases hB'
   exact (hk o ho').elim
  ·exact ⟨h0,o,B',hl',by rw [List.getElem?_append_left (by simpa using h.yidlt hy),List.getElem?_set_ne (Ne.symm hid)]; exact hB',ho'⟩
theorem prom_sound : ∀ {ps : List (Nat × Nat)} {st : St} {k : St → Option R} {r : R},promK ps st k = some r →
  ∃ st',k st' = some r ∧ st'.sl.length = st.sl.length ∧ ∀ {B0 w0 ok E a w},Sim B0 w0 ok E st a w → Sim B0 w0 ok E st' a w
 | [],st,k,r,h => ⟨st,h,rfl,fun hS => hS⟩
 | (t,sz) :: ps,st,k,r,h => by
  simp only [promK] at h
  cases hlt : Nat.blt t 1000000 with
  | true =>
   rw [hlt,cond_true] at h
   split at h
   ·rename_i hs
    obtain ⟨st',hk,hl,hs'⟩ := prom_sound h
    refine ⟨st',hk,by simpa using hl,fun {B0 w0 ok E a w} hS => hs' ⟨⟨hS.mem.below,hS.mem.okb,hS.mem.inj,fun id b q he => ?_,hS.mem.b0,hS.mem.wf.push' rfl,hS.mem.gl,fun id l hy => ?_,hS.mem.yinj,hS.mem.yok⟩,fun t' c hc => ?_,by simpa using hS.size,hS.defers⟩⟩
    ·obtain ⟨h0,c,e,B,hbb,hs,h1,hB,hcc⟩ := hS.mem.loc id b q he
     exact ⟨h0,c,e,B,hbb,hs,h1,by rw [List.getElem?_append_left (hS.mem.idlt he)]; exact hB,hcc⟩
    ·obtain ⟨h0,o,B,hl,hB,ho⟩ := hS.mem.obj id l hy
     exact ⟨h0,o,B,hl,by rw [List.getElem?_append_left (hS.mem.yidlt hy)]; exact hB,ho⟩
    ·by_cases htt : t' = t
     ·subst htt
      have hlt := (List.getElem?_eq_some_iff.1 hs).1
      rw [List.getElem?_set_self hlt] at hc
      cases hc
      have := hS.sl t' _ hs
      generalize a.tmps.getD t' undef = u at this
      cases this with
      | d hD => exact Z1bb hD
     ·rw [List.getElem?_set_ne (Ne.symm htt)] at hc
      exact hS.sl t' c hc
   ·exact prom_sound h
  | false =>
   rw [hlt,cond_false] at h
   split at h
   ·rename_i n cs hB
    split at h
    ·rename_i hc
     obtain ⟨st',hk,hl,hs'⟩ := prom_sound h
     refine ⟨st',hk,hl,fun {B0 w0 ok E a w} hS => hs' ⟨Z1g8 hS.mem hB (fun o ho => by cases o <;> exact ho.elim) (fun e c hcc => hcc.toA) (by have h := hS.mem.wf _ _ hB; simp only [Blk.ok] at h; simpa using h) (by rw [List.getElem?_map,hc]; rfl),hS.sl,hS.size,hS.defers⟩⟩
    ·exact prom_sound h
   ·rename_i n cs hB
    split at h
    ·rename_i hc
     obtain ⟨st',hk,hl,hs'⟩ := prom_sound h
     exact ⟨st',hk,hl,fun {B0 w0 ok E a w} hS => hs' ⟨Z1g8 hS.mem hB (fun o ho => by cases o <;> exact ho.elim) (fun e c hcc => hcc) (hS.mem.wf _ _ hB) hc,hS.sl,hS.size,hS.defers⟩⟩
    ·exact prom_sound h
   ·exact prom_sound h
end Go.Ev