import PyProof.Rows.All
import Wide.All
import OpenK.AllK
import Wide.FinOn
import HandS.ForMost
import HandS.ForExc
import HandS.Wide
import HandS.IsInst
import HandS.CallSlots
import HandS.Deep
import HandS.Defaults
import HandS.HeadEnd
import HandS.HeadHook1
import HandS.HeadHook2
import HandS.Head2
import HandS.Text
import HandS.ExcField
import HandS.ExcInit
import HandS.ExcOwn
import KE.KExcIs
import HandS.HeadWalk
import Lean
import PySem.Challenge.RW_earlysift_k03_signs_that_cannot_come
set_option Elab.async false
set_option linter.all false
set_option maxRecDepth 100000
set_option maxHeartbeats 4000000
/-! Ev, the core: data trees with handles, a store of cells, results; the tie to the abstract heap of the hand layer; what it is to evaluate an expression, a test, a statement. -/
namespace Ev
open PySem PySem.Spec PyProof.Rows L2

/-! ### data, cells, results -/
inductive D where
  | non | bl (b : Bool) | int (i : Int) | str (x : Str) | tup (ds : List D) | lst (ds : List D) | cell (k : Nat) | scr (ns : List Int)
inductive C where
  | lst (ds : List D) | ins (c : Nat) (fs : List (Str × D)) | dct (kvs : List (Key × D)) | exn (c : Nat) (at_ : Option Int)
abbrev Sto := List (Option C)
abbrev Env := List (Option D)
inductive R (α : Type) where
  | no | ok (a : α) (S : Sto) | ex (c : Nat) (a : Option D) (S : Sto)
def R.bind {α β : Type} (r : R α) (g : α → Sto → R β) : R β := match r with
  | .no => .no
  | .ok a S => g a S
  | .ex c a S => .ex c a S
@[simp] theorem R.no_bind {α β : Type} (g : α → Sto → R β) : R.bind (.no : R α) g = .no := rfl
@[simp] theorem R.ok_bind {α β : Type} (a : α) (S : Sto) (g : α → Sto → R β) : R.bind (.ok a S) g = g a S := rfl
@[simp] theorem R.ex_bind {α β : Type} (c : Nat) (a : Option D) (S : Sto) (g : α → Sto → R β) : R.bind (.ex c a S : R α) g = .ex c a S := rfl
/-- if, its test never reckoned -/
noncomputable def cif {α : Type} (c : Prop) (a b : α) : α := @ite α c (Classical.propDecidable c) a b
theorem cif_pos {α : Type} {c : Prop} {a b : α} (h : c) : cif c a b = a := by unfold cif; exact if_pos h
theorem cif_neg {α : Type} {c : Prop} {a b : α} (h : ¬ c) : cif c a b = b := by unfold cif; exact if_neg h
@[simp] theorem cif_true {α : Type} {a b : α} : cif True a b = a := cif_pos trivial
@[simp] theorem cif_false {α : Type} {a b : α} : cif False a b = b := cif_neg id
abbrev Ex := Env → Sto → R D
abbrev Tx := Env → Sto → R Bool
abbrev Ax := Env → Sto → R (List D)
/-- a statement's end -/
inductive SO where
  | no | nx (σ : Env) (S : Sto) | rt (v : D) (S : Sto) | bk (σ : Env) (S : Sto) | ct (σ : Env) (S : Sto) | ex (c : Nat) (a : Option D) (σ : Env) (S : Sto)
abbrev Sx := Env → Sto → SO
/-- a def -/
abbrev Fn := List D → Sto → R D
/-- the row: what is written, the classes' places -/
structure Gm where
  K : PySem.W.Frag
  ca : Nat → Addr

/-! ### the tie to the abstract heap -/
section
variable (K : PySem.W.Frag) (μ : List Addr) (G : Hp)
mutual
inductive VR : D → V → Prop
  | non : VR .non .non
  | bl (b : Bool) : VR (.bl b) (.bl b)
  | int (i : Int) : VR (.int i) (.int i)
  | str (x : Str) : VR (.str x) (.str x)
  | tup {a : Addr} {vs : List V} {ds : List D} : G a = some (.tup vs) → VRs ds vs → VR (.tup ds) (.ref a)
  | lst {a : Addr} {vs : List V} {ds : List D} : G a = some (.lst vs) → VRs ds vs → VR (.lst ds) (.ref a)
  | scr {a : Addr} {ns : List Int} : SqL K G a (ns.map V.int) → VR (.scr ns) (.ref a)
  | cell {a : Addr} {k : Nat} : μ[k]? = some a → VR (.cell k) (.ref a)
inductive VRs : List D → List V → Prop
  | nil : VRs [] []
  | cons {d : D} {v : V} {ds : List D} {vs : List V} : VR d v → VRs ds vs → VRs (d :: ds) (v :: vs)
end
/-- fields, entries -/
inductive FR {κ : Type} : List (κ × D) → List (κ × V) → Prop
  | nil : FR [] []
  | cons {x : κ} {d : D} {v : V} {fs : List (κ × D)} {fv : List (κ × V)} : VR K μ G d v → FR fs fv → FR ((x, d) :: fs) ((x, v) :: fv)
/-- slots -/
inductive SR : Env → List (Option V) → Prop
  | nil : SR [] []
  | un {x : Option V} {σ : Env} {σv : List (Option V)} : SR σ σv → SR (none :: σ) (x :: σv)
  | sm {d : D} {v : V} {σ : Env} {σv : List (Option V)} : VR K μ G d v → SR σ σv → SR (Option.some d :: σ) (Option.some v :: σv)
end
def Le (μ μ' : List Addr) : Prop := ∀ (k : Nat) (a : Addr), μ[k]? = some a → μ'[k]? = some a
theorem Le.refl (μ : List Addr) : Le μ μ := fun _ _ h => h
theorem Le.trans {a b c : List Addr} (h : Le a b) (h' : Le b c) : Le a c := fun k x q => h' k x (h k x q)
theorem Le.push (μ : List Addr) (a : Addr) : Le μ (μ ++ [a]) := fun k x h => by
  have hk := (List.getElem?_eq_some_iff.mp h).1
  rw [List.getElem?_append_left hk]
  exact h
section
variable {K : PySem.W.Frag} {μ μ' : List Addr} {G G' : Hp}
mutual
theorem VR.mono (l : Le μ μ') (s : Same G G') : ∀ {d : D} {v : V}, VR K μ G d v → VR K μ' G' d v
  | _, _, .non => .non
  | _, _, .bl b => .bl b
  | _, _, .int i => .int i
  | _, _, .str x => .str x
  | _, _, .tup h r => .tup (s _ _ h) (VRs.mono l s r)
  | _, _, .lst h r => .lst (s _ _ h) (VRs.mono l s r)
  | _, _, .scr h => .scr (s.seq h)
  | _, _, .cell h => .cell (l _ _ h)
theorem VRs.mono (l : Le μ μ') (s : Same G G') : ∀ {ds : List D} {vs : List V}, VRs K μ G ds vs → VRs K μ' G' ds vs
  | _, _, .nil => .nil
  | _, _, .cons h r => .cons (VR.mono l s h) (VRs.mono l s r)
end
theorem FR.mono {κ : Type} (l : Le μ μ') (s : Same G G') {fs : List (κ × D)} {fv : List (κ × V)} (h : FR K μ G fs fv) : FR K μ' G' fs fv := by
  induction h with
  | nil => exact .nil
  | cons r _ ih => exact .cons (r.mono l s) ih
theorem SR.mono (l : Le μ μ') (s : Same G G') {σ : Env} {σv : List (Option V)} (h : SR K μ G σ σv) : SR K μ' G' σ σv := by
  induction h with
  | nil => exact .nil
  | un _ ih => exact .un ih
  | sm r _ ih => exact .sm (r.mono l s) ih
theorem VRs.length {ds : List D} {vs : List V} (h : VRs K μ G ds vs) : ds.length = vs.length := by
  induction ds generalizing vs with
  | nil => cases h; rfl
  | cons d r ih =>
    cases h with
    | cons _ t => simp [ih t]
theorem VRs.get {ds : List D} {vs : List V} (h : VRs K μ G ds vs) {i : Nat} {d : D} (e : ds[i]? = some d) : ∃ v, vs[i]? = some v ∧ VR K μ G d v := by
  induction ds generalizing vs i with
  | nil => simp at e
  | cons d' r ih =>
    cases h with
    | cons h t =>
      cases i with
      | zero => simp at e; subst e; exact ⟨_, rfl, h⟩
      | succ i => exact ih t (by simpa using e)
theorem VRs.append {ds es : List D} {vs ws : List V} (h : VRs K μ G ds vs) (h' : VRs K μ G es ws) : VRs K μ G (ds ++ es) (vs ++ ws) := by
  induction ds generalizing vs with
  | nil => cases h; exact h'
  | cons d r ih =>
    cases h with
    | cons h t => exact .cons h (ih t)
theorem VRs.take {ds : List D} {vs : List V} (h : VRs K μ G ds vs) : ∀ n : Nat, VRs K μ G (ds.take n) (vs.take n) := by
  induction ds generalizing vs with
  | nil => cases h; intro n; simp; exact .nil
  | cons d r ih =>
    cases h with
    | cons h t =>
      intro n
      cases n with
      | zero => exact .nil
      | succ n => exact .cons h (ih t n)
theorem VRs.drop {ds : List D} {vs : List V} (h : VRs K μ G ds vs) : ∀ n : Nat, VRs K μ G (ds.drop n) (vs.drop n) := by
  induction ds generalizing vs with
  | nil => cases h; intro n; simp; exact .nil
  | cons d r ih =>
    cases h with
    | cons h t =>
      intro n
      cases n with
      | zero => exact .cons h t
      | succ n => exact ih t n
theorem VRs.set {ds : List D} {vs : List V} {d : D} {v : V} (h : VRs K μ G ds vs) (hd : VR K μ G d v) : ∀ i : Nat, VRs K μ G (ds.set i d) (vs.set i v) := by
  induction ds generalizing vs with
  | nil => cases h; intro n; exact .nil
  | cons d r ih =>
    cases h with
    | cons h t =>
      intro n
      cases n with
      | zero => exact .cons hd t
      | succ n => exact .cons h (ih t n)
theorem VRs.split {ds es : List D} {vs : List V} (h : VRs K μ G (ds ++ es) vs) : ∃ v1 v2, vs = v1 ++ v2 ∧ VRs K μ G ds v1 ∧ VRs K μ G es v2 := by
  induction ds generalizing vs with
  | nil => exact ⟨[], vs, rfl, .nil, h⟩
  | cons d r ih =>
    cases h with
    | cons h t =>
      obtain ⟨v1, v2, rfl, h1, h2⟩ := ih t
      exact ⟨_ :: v1, v2, rfl, .cons h h1, h2⟩
theorem VRs.reverse {ds : List D} {vs : List V} (h : VRs K μ G ds vs) : VRs K μ G ds.reverse vs.reverse := by
  induction ds generalizing vs with
  | nil => cases h; exact .nil
  | cons d r ih =>
    cases h with
    | cons h t =>
      rw [List.reverse_cons, List.reverse_cons]
      exact (ih t).append (.cons h .nil)
theorem SR.length {σ : Env} {σv : List (Option V)} (h : SR K μ G σ σv) : σ.length = σv.length := by
  induction h with
  | nil => rfl
  | un _ ih => simp [ih]
  | sm _ _ ih => simp [ih]
theorem SR.get {σ : Env} {σv : List (Option V)} (h : SR K μ G σ σv) : ∀ {i : Nat} {d : D}, σ[i]? = some (some d) → ∃ v, σv[i]? = some (some v) ∧ VR K μ G d v := by
  induction h with
  | nil => intro i d e; simp at e
  | un _ ih =>
    intro i d e
    cases i with
    | zero => simp at e
    | succ i => exact ih (by simpa using e)
  | sm r _ ih =>
    intro i d e
    cases i with
    | zero => simp at e; subst e; exact ⟨_, rfl, r⟩
    | succ i => exact ih (by simpa using e)
theorem SR.set {σ : Env} {σv : List (Option V)} {d : D} {v : V} (h : SR K μ G σ σv) (r : VR K μ G d v) : ∀ i : Nat, SR K μ G (σ.set i (some d)) (σv.set i (some v)) := by
  induction h with
  | nil => intro i; exact .nil
  | un t ih =>
    intro i
    cases i with
    | zero => exact .sm r t
    | succ i => exact .un (ih i)
  | sm q t ih =>
    intro i
    cases i with
    | zero => exact .sm r t
    | succ i => exact .sm q (ih i)
theorem SR.unset {σ : Env} {σv : List (Option V)} {x : Option V} (h : SR K μ G σ σv) : ∀ i : Nat, SR K μ G (σ.set i none) (σv.set i x) := by
  induction h with
  | nil => intro i; exact .nil
  | un t ih =>
    intro i
    cases i with
    | zero => exact .un t
    | succ i => exact .un (ih i)
  | sm q t ih =>
    intro i
    cases i with
    | zero => exact .un t
    | succ i => exact .sm q (ih i)
theorem SR.fresh : ∀ n : Nat, SR K μ G (List.replicate n none) (List.replicate n none)
  | 0 => .nil
  | n + 1 => .un (SR.fresh n)
theorem SR.args {ds : List D} {vs : List V} (h : VRs K μ G ds vs) (m : Nat) : SR K μ G (ds.map some ++ List.replicate m none) (vs.map some ++ List.replicate m none) := by
  induction ds generalizing vs with
  | nil => cases h; exact SR.fresh m
  | cons d r ih =>
    cases h with
    | cons h t => exact .sm h (ih t)
/-- a smaller environment -/
theorem SR.forget {σ σ' : Env} {σv : List (Option V)} (h : SR K μ G σ σv) (hl : σ'.length = σ.length) (hs : ∀ (i : Nat) (d : D), σ'[i]? = some (some d) → σ[i]? = some (some d)) : SR K μ G σ' σv := by
  induction h generalizing σ' with
  | nil =>
    cases σ' with
    | nil => exact .nil
    | cons _ _ => simp at hl
  | un t ih =>
    cases σ' with
    | nil => simp at hl
    | cons x r =>
      cases x with
      | none => exact .un (ih (by simpa using hl) fun i d e => by simpa using hs (i + 1) d (by simpa using e))
      | some d => have := hs 0 d rfl; simp at this
  | sm q t ih =>
    cases σ' with
    | nil => simp at hl
    | cons x r =>
      have z := ih (σ' := r) (by simpa using hl) fun i d e => by simpa using hs (i + 1) d (by simpa using e)
      cases x with
      | none => exact .un z
      | some d => have := hs 0 d rfl; simp at this; subst this; exact .sm q z
end

/-- a caught exception that is kept: at p, of the class cls, its own dict d -/
def ExV (cls : Value) (d : Option Addr) (p : Addr) : HO := .ext fun h => ∃ (oe : Obj) (vs : Array Value), h.get? p = some oe ∧ Zc cls d oe ∧ oe.data = .fields vs
/-- what its field at is -/
def AtR (G : Hp) : Option Int → Option Addr → Prop
  | none, none => True
  | some i, some d => G d = some (.xd [(("at" : Str), V.int i)])
  | _, _ => False
theorem AtR.mono {G G' : Hp} (s : Same G G') : ∀ {i : Option Int} {d : Option Addr}, AtR G i d → AtR G' i d
  | none, none, h => h
  | some _, some _, h => s _ _ h
  | none, some _, h => h
  | some _, none, h => h
/-- a cell's content at an address -/
def CR (Γ : Gm) (μ : List Addr) (G H : Hp) : C → Addr → Prop
  | .lst ds, a => ∃ vs, H a = some (.lst vs) ∧ VRs Γ.K μ G ds vs
  | .ins c fs, a => ∃ dx fv, H a = some (.ins (Γ.ca c) dx fv) ∧ FR Γ.K μ G fs fv
  | .dct kvs, a => ∃ kv, H a = some (.dK kv) ∧ FR Γ.K μ G kvs kv
  | .exn c i, a => ∃ d, H a = some (ExV (.ref (Γ.ca c)) d a) ∧ AtR G i d
theorem CR.mono {Γ : Gm} {μ μ' : List Addr} {G G' H H' : Hp} {c : C} {a : Addr} (h : CR Γ μ G H c a) (l : Le μ μ') (s : Same G G') (e : ∀ o, H a = some o → H' a = some o) : CR Γ μ' G' H' c a := by
  cases c with
  | lst ds => obtain ⟨vs, h1, h2⟩ := h; exact ⟨vs, e _ h1, h2.mono l s⟩
  | ins c fs => obtain ⟨dx, fv, h1, h2⟩ := h; exact ⟨dx, fv, e _ h1, h2.mono l s⟩
  | dct kvs => obtain ⟨kv, h1, h2⟩ := h; exact ⟨kv, e _ h1, h2.mono l s⟩
  | exn c i => obtain ⟨d, h1, h2⟩ := h; exact ⟨d, e _ h1, h2.mono s⟩
theorem CR.there {Γ : Gm} {μ : List Addr} {G H : Hp} {c : C} {a : Addr} (h : CR Γ μ G H c a) : ∃ o, H a = some o := by
  cases c with
  | lst ds => obtain ⟨vs, h1, h2⟩ := h; exact ⟨_, h1⟩
  | ins c fs => obtain ⟨dx, fv, h1, h2⟩ := h; exact ⟨_, h1⟩
  | dct kvs => obtain ⟨kv, h1, h2⟩ := h; exact ⟨_, h1⟩
  | exn c i => obtain ⟨d, h1, h2⟩ := h; exact ⟨_, h1⟩

/-- the abstract heap holds the store: G is what never changes, the live cells stand beside it -/
structure Sit (Γ : Gm) (F : Hp) (μ : List Addr) (G H : Hp) (S : Sto) : Prop where
  sub : Same G H
  frm : Same F H
  fmu : ∀ a ∈ μ, F a = none
  fg : ∀ (a : Addr) (o : HO), G a = some o → F a = none
  len : μ.length = S.length
  nd : μ.Nodup
  dom : ∀ a ∈ μ, H a ≠ none
  off : ∀ (k : Nat) (a : Addr) (c : C), S[k]? = some (some c) → μ[k]? = some a → G a = none
  at_ : ∀ (k : Nat) (c : C), S[k]? = some (some c) → ∃ a, μ[k]? = some a ∧ CR Γ μ G H c a
theorem upd_get {H : Hp} {p q : Addr} {o : HO} : upd H p o q = if q = p then some o else H q := rfl
theorem same_upd {H : Hp} {p : Addr} {o : HO} (h : H p = none) : Same H (upd H p o) := fun b x e => by
  rw [upd_ne (ne_of_none e h)]
  exact e
section
variable {Γ : Gm} {F : Hp} {μ : List Addr} {G H : Hp} {S : Sto}
theorem Sit.fresh (s : Sit Γ F μ G H S) {p : Addr} (np : H p = none) : p ∉ μ ∧ G p = none := ⟨fun h => s.dom p h np, s.sub.free np⟩
theorem Sit.freshF (s : Sit Γ F μ G H S) {p : Addr} (np : H p = none) : F p = none := s.frm.free np
/-- a new thing that never changes -/
theorem Sit.allocG (s : Sit Γ F μ G H S) {p : Addr} (o : HO) (np : H p = none) : Sit Γ F μ (upd G p o) (upd H p o) S := by
  obtain ⟨nm, ng⟩ := s.fresh np
  refine ⟨fun b x e => ?_, s.frm.trans (same_upd np), s.fmu, fun a u e => ?_, s.len, s.nd, fun a ha => ?_, fun k a c h1 h2 => ?_, fun k c h => ?_⟩
  · rw [upd_get] at e ⊢
    split
    · rename_i h; rw [if_pos h] at e; exact e
    · rename_i h; rw [if_neg h] at e; exact s.sub b x e
  · rw [upd_get] at e
    split at e
    · rename_i h; rw [h]; exact s.freshF np
    · exact s.fg a u e
  · rw [upd_get]
    split
    · simp
    · exact s.dom a ha
  · rw [upd_ne (fun z => nm (by rw [← z]; exact List.mem_of_getElem? h2))]
    exact s.off k a c h1 h2
  · obtain ⟨a, h1, h2⟩ := s.at_ k c h
    refine ⟨a, h1, h2.mono (Le.refl μ) (same_upd ng) fun o e => ?_⟩
    rw [upd_ne (ne_of_none e np)]
    exact e
/-- a new cell -/
theorem Sit.allocC (s : Sit Γ F μ G H S) {p : Addr} {o : HO} {H' : Hp} (c : C) (np : H p = none) (hs : Same H H') (hp : H' p = some o) (hc : CR Γ (μ ++ [p]) G H' c p) : Sit Γ F (μ ++ [p]) G H' (S ++ [some c]) := by
  obtain ⟨nm, ng⟩ := s.fresh np
  refine ⟨s.sub.trans hs, s.frm.trans hs, fun a ha => ?_, s.fg, by simp [s.len], ?_, fun a ha => ?_, fun k a c' h1 h2 => ?_, fun k c' h => ?_⟩
  · rcases List.mem_append.mp ha with h | h
    · exact s.fmu a h
    · simp at h; subst h; exact s.freshF np
  · rw [List.nodup_append]
    refine ⟨s.nd, by simp, fun a ha b hb => ?_⟩
    simp at hb
    subst hb
    exact fun e => nm (e ▸ ha)
  · rcases List.mem_append.mp ha with h | h
    · cases e : H a with
      | none => exact absurd e (s.dom a h)
      | some x => rw [hs a x e]; simp
    · simp at h; subst h; rw [hp]; simp
  · by_cases hk : k < S.length
    · rw [List.getElem?_append_left hk] at h1
      rw [List.getElem?_append_left (by rw [s.len]; exact hk)] at h2
      exact s.off k a c' h1 h2
    · have e : k = S.length := by
        have := (List.getElem?_eq_some_iff.mp h1).1
        simp at this
        omega
      subst e
      rw [← s.len] at h2
      simp at h2
      subst h2
      exact ng
  · by_cases hk : k < S.length
    · rw [List.getElem?_append_left hk] at h
      obtain ⟨a, h1, h2⟩ := s.at_ k c' h
      exact ⟨a, Le.push _ _ _ _ h1, h2.mono (Le.push _ _) (Same.refl G) fun o e => hs _ _ e⟩
    · have e : k = S.length := by
        have := (List.getElem?_eq_some_iff.mp h).1
        simp at this
        omega
      subst e
      simp at h
      subst h
      exact ⟨p, by rw [← s.len]; simp, hc⟩
/-- a cell is written -/
theorem Sit.write (s : Sit Γ F μ G H S) {k : Nat} {a : Addr} {c : C} (c' : C) {H' : Hp} (hk : S[k]? = some (some c)) (ha : μ[k]? = some a) (hs : ∀ b, b ≠ a → H' b = H b) (hc : CR Γ μ G H' c' a) : Sit Γ F μ G H' (S.set k (some c')) := by
  have hg := s.off k a c hk ha
  have hkl : k < S.length := (List.getElem?_eq_some_iff.mp hk).1
  refine ⟨fun b x e => ?_, fun b x e => ?_, s.fmu, s.fg, by simp [s.len], s.nd, fun b hb => ?_, fun j b d h1 h2 => ?_, fun j d h => ?_⟩
  · have hb : b ≠ a := fun z => by rw [z, hg] at e; cases e
    rw [hs b hb]
    exact s.sub b x e
  · have hb : b ≠ a := fun z => by rw [z, s.fmu a (List.mem_of_getElem? ha)] at e; cases e
    rw [hs b hb]
    exact s.frm b x e
  · by_cases h : b = a
    · subst h
      obtain ⟨o, e⟩ := hc.there
      rw [e]; simp
    · rw [hs b h]; exact s.dom b hb
  · by_cases hj : j = k
    · subst hj
      rw [ha] at h2; cases h2; exact hg
    · rw [List.getElem?_set_ne (Ne.symm hj)] at h1
      exact s.off j b d h1 h2
  · by_cases hj : j = k
    · subst hj
      rw [List.getElem?_set_self hkl] at h
      cases h
      exact ⟨a, ha, hc⟩
    · rw [List.getElem?_set_ne (Ne.symm hj)] at h
      obtain ⟨b, h1, h2⟩ := s.at_ j d h
      refine ⟨b, h1, h2.mono (Le.refl μ) (Same.refl G) fun o e => ?_⟩
      have hb : b ≠ a := fun z => by
        subst z
        obtain ⟨p1, q1⟩ := List.getElem?_eq_some_iff.mp h1
        obtain ⟨p2, q2⟩ := List.getElem?_eq_some_iff.mp ha
        exact hj ((List.getElem_inj s.nd).mp (q1.trans q2.symm))
      rw [hs b hb]
      exact e
/-- a cell that holds a list is frozen -/
theorem Sit.freeze (s : Sit Γ F μ G H S) {k : Nat} {ds : List D} (hk : S[k]? = some (some (.lst ds))) : ∃ a G', μ[k]? = some a ∧ Same G G' ∧ Sit Γ F μ G' H (S.set k none) ∧ VR Γ.K μ G' (.lst ds) (.ref a) := by
  obtain ⟨a, ha, vs, h1, h2⟩ := s.at_ k _ hk
  have hg := s.off k a _ hk ha
  have sg : Same G (upd G a (.lst vs)) := same_upd hg
  refine ⟨a, upd G a (.lst vs), ha, sg, ⟨fun b x e => ?_, s.frm, s.fmu, fun b u e => ?_, by simp [s.len], s.nd, s.dom, fun j b c q1 q2 => ?_, fun j c q => ?_⟩, .lst upd_same (h2.mono (Le.refl μ) sg)⟩
  · rw [upd_get] at e
    split at e
    · rename_i z; subst z; cases e; exact h1
    · exact s.sub b x e
  · rw [upd_get] at e
    split at e
    · rename_i z; subst z; exact s.fmu b (List.mem_of_getElem? ha)
    · exact s.fg b u e
  · have hj : j ≠ k := fun z => by
      subst z
      rw [List.getElem?_set_self (List.getElem?_eq_some_iff.mp hk).1] at q1
      cases q1
    rw [List.getElem?_set_ne (Ne.symm hj)] at q1
    have hb : b ≠ a := fun z => by
      subst z
      obtain ⟨p1, r1⟩ := List.getElem?_eq_some_iff.mp q2
      obtain ⟨p2, r2⟩ := List.getElem?_eq_some_iff.mp ha
      exact hj ((List.getElem_inj s.nd).mp (r1.trans r2.symm))
    rw [upd_ne hb]
    exact s.off j b c q1 q2
  · have hj : j ≠ k := fun z => by
      subst z
      rw [List.getElem?_set_self (List.getElem?_eq_some_iff.mp hk).1] at q
      cases q
    rw [List.getElem?_set_ne (Ne.symm hj)] at q
    obtain ⟨b, q1, q2⟩ := s.at_ j c q
    exact ⟨b, q1, q2.mono (Le.refl μ) sg fun o e => e⟩
end

/-! ### what is wanted behind a result -/
/-- an exception's argument: its own dict holds the field at -/
def XR (Γ : Gm) (F : Hp) (μ : List Addr) (G H : Hp) : Option D → Option Addr → Prop
  | none, none => True
  | some a, some d => ∃ va, H d = some (.xd [(("at" : Str), va)]) ∧ VR Γ.K μ G a va ∧ d ∉ μ ∧ G d = none ∧ F d = none
  | _, _ => False
def Post (Γ : Gm) (F : Hp) (μ : List Addr) (G : Hp) (S' : Sto) (P : List Addr → Hp → Hp → Prop) : Prop :=
  ∀ μ' G' H', Le μ μ' → Same G G' → Sit Γ F μ' G' H' S' → P μ' G' H'
def Wp {α : Type} (Γ : Gm) (F : Hp) (W : XK) (μ : List Addr) (G : Hp) (r : R α) (k : α → List Addr → Hp → Hp → Sto → Prop) : Prop :=
  match r with
  | .no => False
  | .ok v S' => Post Γ F μ G S' fun μ' G' H' => k v μ' G' H' S'
  | .ex c a S' => Post Γ F μ G S' fun μ' G' H' => ∀ d, XR Γ F μ' G' H' a d → W (.ref (Γ.ca c)) d H'
theorem Wp.mono {α : Type} {Γ : Gm} {W : XK} {F : Hp} {μ μ1 : List Addr} {G G1 : Hp} {r : R α} {k k' : α → List Addr → Hp → Hp → Sto → Prop} (h : Wp Γ F W μ G r k) (l : Le μ μ1) (s : Same G G1)
    (hk : ∀ v μ' G' H' S', Le μ1 μ' → Same G1 G' → Sit Γ F μ' G' H' S' → k v μ' G' H' S' → k' v μ' G' H' S') : Wp Γ F W μ1 G1 r k' := by
  cases r with
  | no => exact h
  | ok v S' => exact fun μ' G' H' l' s' t => hk v μ' G' H' S' l' s' t (h μ' G' H' (l.trans l') (s.trans s') t)
  | ex c a S' => exact fun μ' G' H' l' s' t => h μ' G' H' (l.trans l') (s.trans s') t
theorem Wp.imp {α : Type} {Γ : Gm} {W : XK} {F : Hp} {μ : List Addr} {G : Hp} {r : R α} {k k' : α → List Addr → Hp → Hp → Sto → Prop} (h : Wp Γ F W μ G r k)
    (hk : ∀ v μ' G' H' S', Le μ μ' → Same G G' → Sit Γ F μ' G' H' S' → k v μ' G' H' S' → k' v μ' G' H' S') : Wp Γ F W μ G r k' := h.mono (Le.refl μ) (Same.refl G) hk
theorem Wp.bind {α β : Type} {Γ : Gm} {W : XK} {F : Hp} {μ : List Addr} {G : Hp} {r : R α} {g : α → Sto → R β} {k : β → List Addr → Hp → Hp → Sto → Prop} (h : Wp Γ F W μ G (r.bind g) k) :
    Wp Γ F W μ G r fun v μ' G' _ S' => Wp Γ F W μ' G' (g v S') k := by
  cases r with
  | no => exact h
  | ok v S' => exact fun μ' G' H' l s t => h.mono l s fun _ _ _ _ _ _ _ _ q => q
  | ex c a S' => exact h
/-- the value at hand -/
theorem Wp.ok {α : Type} {Γ : Gm} {W : XK} {F : Hp} {μ : List Addr} {G H : Hp} {v : α} {S : Sto} {k : α → List Addr → Hp → Hp → Sto → Prop} (h : Wp Γ F W μ G (.ok v S) k) (t : Sit Γ F μ G H S) : k v μ G H S := h μ G H (Le.refl μ) (Same.refl G) t

/-! ### expressions, tests, argument lists -/
def tOf (Γ : Gm) (W : WX) (f : Ex) : TE := fun σv H Q => ∃ F μ G σ S, SR Γ.K μ G σ σv ∧ Sit Γ F μ G H S ∧ Wp Γ F (fun c d H' => W c d σv H') μ G (f σ S) fun v μ' G' H' _ => ∀ vv, VR Γ.K μ' G' v vv → Q vv H'
def ttOf (Γ : Gm) (W : WX) (f : Tx) : TT := fun σv H Q => ∃ F μ G σ S, SR Γ.K μ G σ σv ∧ Sit Γ F μ G H S ∧ Wp Γ F (fun c d H' => W c d σv H') μ G (f σ S) fun b _ _ H' _ => Q b H'
def taOf (Γ : Gm) (W : WX) (f : Ax) : TA := fun σv H Q => ∃ F μ G σ S, SR Γ.K μ G σ σv ∧ Sit Γ F μ G H S ∧ Wp Γ F (fun c d H' => W c d σv H') μ G (f σ S) fun vs μ' G' H' _ => ∀ vv, VRs Γ.K μ' G' vs vv → Q vv H'
/-- a statement's end -/
def Wps (Γ : Gm) (F : Hp) (W : WX) (μ : List Addr) (G : Hp) (r : SO) (E : Ends) : Prop :=
  match r with
  | .no => False
  | .nx σ' S' => Post Γ F μ G S' fun μ' G' H' => ∀ σv', SR Γ.K μ' G' σ' σv' → E.nx σv' H'
  | .rt v S' => Post Γ F μ G S' fun μ' G' H' => ∀ vv, VR Γ.K μ' G' v vv → E.rt vv H'
  | .bk σ' S' => Post Γ F μ G S' fun μ' G' H' => ∀ σv', SR Γ.K μ' G' σ' σv' → E.bk σv' H'
  | .ct σ' S' => Post Γ F μ G S' fun μ' G' H' => ∀ σv', SR Γ.K μ' G' σ' σv' → E.ct σv' H'
  | .ex c a σ' S' => Post Γ F μ G S' fun μ' G' H' => ∀ σv' d, SR Γ.K μ' G' σ' σv' → XR Γ F μ' G' H' a d → W (.ref (Γ.ca c)) d σv' H'
def tsOf (Γ : Gm) (W : WX) (f : Sx) : TS := fun E σv H => ∃ F μ G σ S, SR Γ.K μ G σ σv ∧ Sit Γ F μ G H S ∧ Wps Γ F W μ G (f σ S) E
theorem Wps.mono {Γ : Gm} {W : WX} {F : Hp} {μ μ1 : List Addr} {G G1 : Hp} {r : SO} {E : Ends} (h : Wps Γ F W μ G r E) (l : Le μ μ1) (s : Same G G1) : Wps Γ F W μ1 G1 r E := by
  cases r with
  | no => exact h
  | nx _ _ => exact fun μ' G' H' l' s' t => h μ' G' H' (l.trans l') (s.trans s') t
  | rt _ _ => exact fun μ' G' H' l' s' t => h μ' G' H' (l.trans l') (s.trans s') t
  | bk _ _ => exact fun μ' G' H' l' s' t => h μ' G' H' (l.trans l') (s.trans s') t
  | ct _ _ => exact fun μ' G' H' l' s' t => h μ' G' H' (l.trans l') (s.trans s') t
  | ex _ _ _ _ => exact fun μ' G' H' l' s' t => h μ' G' H' (l.trans l') (s.trans s') t
abbrev VE (X : Cx) (Γ : Gm) (W : WX) (e : Expr) (f : Ex) : Prop := PE X e (tOf Γ W f)
abbrev VT (X : Cx) (Γ : Gm) (W : WX) (e : Expr) (f : Tx) : Prop := PT X e (ttOf Γ W f)
abbrev VA (X : Cx) (Γ : Gm) (W : WX) (es : List Expr) (f : Ax) : Prop := PA X es (taOf Γ W f)
abbrev VS (X : Cx) (Γ : Gm) (W : WX) (st : Stmt) (f : Sx) : Prop := PS X st (tsOf Γ W f)
abbrev VSs (X : Cx) (Γ : Gm) (W : WX) (st : List Stmt) (f : Sx) : Prop := PSs X st (tsOf Γ W f)
theorem PE.imp {X : Cx} {e : Expr} {t t' : TE} (h : PE X e t) (i : ∀ σ H Q, t' σ H Q → t σ H Q) : PE X e t' := ⟨fun pins s σ H Q I q => h.run pins s σ H Q I (i σ H Q q)⟩
theorem PT.imp {X : Cx} {e : Expr} {t t' : TT} (h : PT X e t) (i : ∀ σ H Q, t' σ H Q → t σ H Q) : PT X e t' := ⟨fun pins s σ H Q I q => h.run pins s σ H Q I (i σ H Q q)⟩
theorem PW.imp {X : Cx} {e : Expr} {t t' : TT} (h : PW X e t) (i : ∀ σ H Q, t' σ H Q → t σ H Q) : PW X e t' := ⟨fun wh pins s σ H Q I q => h.run wh pins s σ H Q I (i σ H Q q)⟩
theorem PA.imp {X : Cx} {es : List Expr} {t t' : TA} (h : PA X es t) (i : ∀ σ H Q, t' σ H Q → t σ H Q) : PA X es t' := ⟨fun pos pins s σ H Q I q => h.run pos pins s σ H Q I (i σ H Q q)⟩
theorem PS.imp {X : Cx} {st : Stmt} {t t' : TS} (h : PS X st t) (i : ∀ D σ H, t' D σ H → t D σ H) : PS X st t' := ⟨fun pins s σ H D I q => h.run pins s σ H D I (i D σ H q)⟩
theorem PSs.imp {X : Cx} {st : List Stmt} {t t' : TS} (h : PSs X st t) (i : ∀ D σ H, t' D σ H → t D σ H) : PSs X st t' := ⟨fun pins s σ H D I q => h.run pins s σ H D I (i D σ H q)⟩
/-- from within: an evaluator at a state that is tied -/
theorem tOf.at {Γ : Gm} {W : WX} {f : Ex} {F : Hp} {μ : List Addr} {G H : Hp} {σ : Env} {σv : L2.St} {S : Sto} {k : D → List Addr → Hp → Hp → Sto → Prop} {Q : VK} (hσ : SR Γ.K μ G σ σv) (hs : Sit Γ F μ G H S)
    (h : Wp Γ F (fun c d H' => W c d σv H') μ G (f σ S) k) (hk : ∀ v μ' G' H' S' vv, Le μ μ' → Same G G' → Sit Γ F μ' G' H' S' → VR Γ.K μ' G' v vv → k v μ' G' H' S' → Q vv H') : tOf Γ W f σv H Q :=
  ⟨F, μ, G, σ, S, hσ, hs, h.imp fun v μ' G' H' S' l s t q vv r => hk v μ' G' H' S' vv l s t r q⟩
theorem ttOf.at {Γ : Gm} {W : WX} {f : Tx} {F : Hp} {μ : List Addr} {G H : Hp} {σ : Env} {σv : L2.St} {S : Sto} {k : Bool → List Addr → Hp → Hp → Sto → Prop} {Q : Bool → Hp → Prop} (hσ : SR Γ.K μ G σ σv) (hs : Sit Γ F μ G H S)
    (h : Wp Γ F (fun c d H' => W c d σv H') μ G (f σ S) k) (hk : ∀ v μ' G' H' S', Le μ μ' → Same G G' → Sit Γ F μ' G' H' S' → k v μ' G' H' S' → Q v H') : ttOf Γ W f σv H Q :=
  ⟨F, μ, G, σ, S, hσ, hs, h.imp fun v μ' G' H' S' l s t q => hk v μ' G' H' S' l s t q⟩
theorem taOf.at {Γ : Gm} {W : WX} {f : Ax} {F : Hp} {μ : List Addr} {G H : Hp} {σ : Env} {σv : L2.St} {S : Sto} {k : List D → List Addr → Hp → Hp → Sto → Prop} {Q : List V → Hp → Prop} (hσ : SR Γ.K μ G σ σv) (hs : Sit Γ F μ G H S)
    (h : Wp Γ F (fun c d H' => W c d σv H') μ G (f σ S) k) (hk : ∀ v μ' G' H' S' vv, Le μ μ' → Same G G' → Sit Γ F μ' G' H' S' → VRs Γ.K μ' G' v vv → k v μ' G' H' S' → Q vv H') : taOf Γ W f σv H Q :=
  ⟨F, μ, G, σ, S, hσ, hs, h.imp fun v μ' G' H' S' l s t q vv r => hk v μ' G' H' S' vv l s t r q⟩
end Ev

/-! Ev, the rules, part 1: names, constants, displays, operators, tests, statements. -/
namespace Ev
open PySem PySem.Spec PyProof.Rows L2

/-! ### names, constants -/
def eVar (i : Nat) : Ex := fun σ S => match σ[i]? with
  | some (some d) => .ok d S
  | _ => .no
def eC (d : D) : Ex := fun _ S => .ok d S
def aNil : Ax := fun _ S => .ok [] S
def aCons (f : Ex) (g : Ax) : Ax := fun σ S => (f σ S).bind fun d S1 => (g σ S1).bind fun ds S2 => .ok (d :: ds) S2
def eTup (a : Ax) : Ex := fun σ S => (a σ S).bind fun ds S1 => if ds.length ≤ 1000 then .ok (.tup ds) S1 else .no
/-- a list that never changes; one that may -/
def eLst (a : Ax) : Ex := fun σ S => (a σ S).bind fun ds S1 => if ds.length ≤ 1000 then .ok (.lst ds) S1 else .no
def eNew (a : Ax) : Ex := fun σ S => (a σ S).bind fun ds S1 => if ds.length ≤ 1000 then .ok (.cell S1.length) (S1 ++ [some (.lst ds)]) else .no
def frzD (d : D) (S : Sto) : R D := match d with
  | .cell k => match S[k]? with
    | some (some (.lst ds)) => .ok (.lst ds) (S.set k none)
    | _ => .no
  | d => .ok d S
def eFrz (f : Ex) : Ex := fun σ S => (f σ S).bind frzD
def op1 (g : D → Sto → R D) (f : Ex) : Ex := fun σ S => (f σ S).bind g
def op2 (g : D → D → Sto → R D) (f1 f2 : Ex) : Ex := fun σ S => (f1 σ S).bind fun x S1 => (f2 σ S1).bind fun y S2 => g x y S2
theorem small1k {n : Nat} (h : n ≤ 1000) : n ≤ sizeLine := Nat.le_of_lt (small1000 h)
section
variable {X : Cx} {Γ : Gm} {W : WX} {e a b : Expr} {es : List Expr} {f fa fb : Ex} {g : Ax} {pos : Pos}
theorem ve_var {i : Nat} {x : Str} (hN : X.N[i]? = some x := by rfl) (hv : Vis X.env.scope x := by first | exact Or.inl rfl | exact Or.inr (Or.inl rfl) | exact Or.inr (Or.inr rfl)) (hd : (x == ("__debug__" : Str)) = false := by decide)
    (hcd : (x == ("__classdict__" : Str)) = false := by decide) : VE X Γ W (.Name x pos) (eVar i) := by
  refine PE.imp (pe_var hN hv hd hcd) fun σv H Q ⟨F, μ, G, σ, S, hσ, hs, h⟩ => ?_
  unfold eVar at h
  split at h
  · rename_i d hd
    obtain ⟨v, e1, r⟩ := hσ.get hd
    exact ⟨v, e1, h.ok hs v r⟩
  · exact h.elim
theorem ve_con {d : D} {v : V} (h : PE X e (tC v)) (hd : ∀ μ G, VR Γ.K μ G d v) : VE X Γ W e (eC d) :=
  PE.imp h fun σv H Q ⟨F, μ, G, σ, S, hσ, hs, h⟩ => h.ok hs v (hd μ G)
theorem ve_int {i : Int} {j} : VE X Γ W (.Constant (.int i) j pos) (eC (.int i)) := ve_con pe_int fun _ _ => .int i
theorem ve_bl {i : Bool} {j} : VE X Γ W (.Constant (.bool i) j pos) (eC (.bl i)) := ve_con pe_bl fun _ _ => .bl i
theorem ve_non {j} : VE X Γ W (.Constant .none j pos) (eC .non) := ve_con pe_non fun _ _ => .non
theorem ve_str {x : Str} {j} : VE X Γ W (.Constant (.str x) j pos) (eC (.str x)) := ve_con pe_str fun _ _ => .str x
theorem va_nil : VA X Γ W [] aNil := PA.imp pa_nil fun σv H Q ⟨F, μ, G, σ, S, hσ, hs, h⟩ => h.ok hs [] .nil
theorem va_cons (ha : VE X Γ W e f) (hr : VA X Γ W es g) (hs : starEach (e :: es) X.env = (false, eval e X.env) :: starEach es X.env := by rfl) : VA X Γ W (e :: es) (aCons f g) := by
  refine PA.imp (pa_cons ha hr hs) fun σv H Q ⟨F, μ, G, σ, S, hσ, hs, h⟩ => ?_
  refine tOf.at hσ hs (Wp.bind h) fun v μ1 G1 H1 S1 vv l s t r q => ?_
  refine taOf.at (hσ.mono l s) t (Wp.bind q) fun vs μ2 G2 H2 S2 ws l2 s2 t2 r2 q2 => ?_
  exact q2.ok t2 _ (.cons (r.mono l2 s2) r2)
theorem ve_tup {x1} (h : VA X Γ W es g) : VE X Γ W (.Tuple es x1 pos) (eTup g) := by
  refine PE.imp (pe_tup h) fun σv H Q ⟨F, μ, G, σ, S, hσ, hs, h⟩ => ?_
  refine taOf.at hσ hs (Wp.bind h) fun vs μ1 G1 H1 S1 vv l s t r q => ?_
  split at q
  · rename_i hz
    refine ⟨by rw [← r.length]; exact small1k hz, fun p np => ?_⟩
    have ng := (t.fresh np).2
    exact q _ _ _ (Le.refl _) (same_upd ng) (t.allocG _ np) _ (.tup upd_same (r.mono (Le.refl _) (same_upd ng)))
  · exact q.elim
theorem ve_lst (h : VA X Γ W es g) : VE X Γ W (.List es pos) (eLst g) := by
  refine PE.imp (pe_lst h) fun σv H Q ⟨F, μ, G, σ, S, hσ, hs, h⟩ => ?_
  refine taOf.at hσ hs (Wp.bind h) fun vs μ1 G1 H1 S1 vv l s t r q => ?_
  split at q
  · rename_i hz
    refine ⟨by rw [← r.length]; exact small1k hz, fun p np => ?_⟩
    have ng := (t.fresh np).2
    exact q _ _ _ (Le.refl _) (same_upd ng) (t.allocG _ np) _ (.lst upd_same (r.mono (Le.refl _) (same_upd ng)))
  · exact q.elim
/-- a new list, as a cell -/
theorem new_cell {F : Hp} {μ : List Addr} {G H : Hp} {S : Sto} {ds : List D} {vv : List V} {Q : VK} {W : XK} (t : Sit Γ F μ G H S) (r : VRs Γ.K μ G ds vv) (q : Wp Γ F W μ G (.ok (.cell S.length) (S ++ [some (.lst ds)])) fun v μ' G' H' _ => ∀ vv, VR Γ.K μ' G' v vv → Q vv H')
    {p : Addr} (np : H p = none) : Q (.ref p) (upd H p (.lst vv)) :=
  q _ _ _ (Le.push _ _) (Same.refl _) (t.allocC (.lst ds) np (same_upd np) upd_same ⟨vv, upd_same, r.mono (Le.push _ _) (Same.refl _)⟩) _ (.cell (by rw [← t.len]; simp))
theorem ve_new (h : VA X Γ W es g) : VE X Γ W (.List es pos) (eNew g) := by
  refine PE.imp (pe_lst h) fun σv H Q ⟨F, μ, G, σ, S, hσ, hs, h⟩ => ?_
  refine taOf.at hσ hs (Wp.bind h) fun vs μ1 G1 H1 S1 vv l s t r q => ?_
  split at q
  · rename_i hz
    exact ⟨by rw [← r.length]; exact small1k hz, fun p np => new_cell t r q np⟩
  · exact q.elim
theorem ve_frz (h : VE X Γ W e f) : VE X Γ W e (eFrz f) := by
  refine PE.imp h fun σv H Q ⟨F, μ, G, σ, S, hσ, hs, h⟩ => ?_
  refine tOf.at hσ hs (Wp.bind h) fun v μ1 G1 H1 S1 vv l s t r q => ?_
  unfold frzD at q
  split at q
  · rename_i k
    split at q
    · rename_i ds hk
      cases r with
      | cell ha =>
        obtain ⟨a', G', ha', sg, t', r'⟩ := t.freeze hk
        rw [ha] at ha'; cases ha'
        exact q _ _ _ (Le.refl _) sg t' _ r'
    · exact q.elim
  · exact q.ok t vv r

/-! ### operators -/
def OpS (Γ : Gm) (g : D → D → Sto → R D) (r : R2) : Prop :=
  ∀ (W : XK) (F : Hp) (μ : List Addr) (G H : Hp) (S : Sto) (x y : D) (vx vy : V) (Q : VK), Sit Γ F μ G H S → VR Γ.K μ G x vx → VR Γ.K μ G y vy → Wp Γ F W μ G (g x y S) (fun v μ' G' H' _ => ∀ vv, VR Γ.K μ' G' v vv → Q vv H') → r vx vy H Q
def OpS1 (Γ : Gm) (g : D → Sto → R D) (r : V → Hp → VK → Prop) : Prop :=
  ∀ (W : XK) (F : Hp) (μ : List Addr) (G H : Hp) (S : Sto) (x : D) (vx : V) (Q : VK), Sit Γ F μ G H S → VR Γ.K μ G x vx → Wp Γ F W μ G (g x S) (fun v μ' G' H' _ => ∀ vv, VR Γ.K μ' G' v vv → Q vv H') → r vx H Q
theorem tOp_of {g : D → D → Sto → R D} {r : R2} (hg : OpS Γ g r) {σv : L2.St} {H : Hp} {Q : VK} (h : tOf Γ W (op2 g fa fb) σv H Q) : tOp r (tOf Γ W fa) (tOf Γ W fb) σv H Q := by
  obtain ⟨F, μ, G, σ, S, hσ, hs, h⟩ := h
  refine tOf.at hσ hs (Wp.bind h) fun v μ1 G1 H1 S1 vv l s t r q => ?_
  refine tOf.at (hσ.mono l s) t (Wp.bind q) fun w μ2 G2 H2 S2 ww l2 s2 t2 r2 q2 => ?_
  exact hg _ _ _ _ _ _ _ _ _ _ _ t2 (r.mono l2 s2) r2 q2
theorem ve_op {op : Operator} {g : D → D → Sto → R D} {r : R2} (ho : OpR X (binaryOp op) r) (hg : OpS Γ g r) (ha : VE X Γ W a fa) (hb : VE X Γ W b fb) : VE X Γ W (.BinOp a op b pos) (op2 g fa fb) :=
  PE.imp (pe_op ho ha hb) fun _ _ _ h => tOp_of hg h
theorem ve_un {op : UnaryOp} {g : D → Sto → R D} {r : V → Hp → VK → Prop} (ho : UnR X (unaryOp op) r) (hg : OpS1 Γ g r) (ha : VE X Γ W a fa) : VE X Γ W (.UnaryOp op a pos) (op1 g fa) := by
  refine PE.imp (pe_un ho ha) fun σv H Q ⟨F, μ, G, σ, S, hσ, hs, h⟩ => ?_
  refine tOf.at hσ hs (Wp.bind h) fun v μ1 G1 H1 S1 vv l s t r q => ?_
  exact hg _ _ _ _ _ _ _ _ _ t r q
theorem ve_cmp {op : CmpOp} {g : D → D → Sto → R D} {r : R2} (ho : OpR X (compareOp op) r) (hg : OpS Γ g r) (ha : VE X Γ W a fa) (hb : VE X Γ W b fb) (hm : behindInMarks op b = false) : VE X Γ W (.Compare a [op] [b] pos) (op2 g fa fb) :=
  PE.imp (pe_cmpR ho ha hb hm) fun _ _ _ h => tOp_of hg h
/-- a bool's value as a test -/
def tTst (f : Ex) : Tx := fun σ S => (f σ S).bind fun v S1 => match v with
  | .bl b => .ok b S1
  | _ => .no
theorem tst_of {σv : L2.St} {H : Hp} {Q : Bool → Hp → Prop} (h : ttOf Γ W (tTst f) σv H Q) : tOf Γ W f σv H fun x H' => ∃ k, x = .bl k ∧ Q k H' := by
  obtain ⟨F, μ, G, σ, S, hσ, hs, h⟩ := h
  refine tOf.at hσ hs (Wp.bind h) fun v μ1 G1 H1 S1 vv l s t r q => ?_
  split at q
  · cases r; exact ⟨_, rfl, q.ok t⟩
  · exact q.elim
theorem vt_cmp {op : CmpOp} {g : D → D → Sto → R D} {r : R2} (ho : OpR X (compareOp op) r) (hg : OpS Γ g r) (ha : VE X Γ W a fa) (hb : VE X Γ W b fb) (hm : behindInMarks op b = false) : VT X Γ W (.Compare a [op] [b] pos) (tTst (op2 g fa fb)) := by
  refine PT.imp (pt_cmpR ho ha hb hm) fun σv H Q h => ?_
  obtain ⟨F, μ, G, σ, S, hσ, hs, h⟩ := tst_of h
  exact tOp_of hg ⟨F, μ, G, σ, S, hσ, hs, h⟩
theorem vt_val (h : VE X Γ W e f) (he : ∀ whole, isTrue e X.env whole = (do let v ← whole; standAt e.pos; holding [v] (truthy v)) := by intro _; rfl) : VT X Γ W e (tTst f) :=
  PT.imp (pt_val h he) fun σv H Q h => tst_of h
end

/-! ### what an operation of ours tells -/
section
variable {Γ : Gm} {W : XK} {F : Hp} {μ : List Addr} {G H : Hp} {S : Sto} {d : D} {v : V}
def lstOf (S : Sto) : D → Option (List D)
  | .lst ds => some ds
  | .cell k => match S[k]? with
    | some (some (.lst ds)) => some ds
    | _ => none
  | .scr ns => some (ns.map D.int)
  | _ => none
/-- lists that are no script -/
def lstOf' (S : Sto) : D → Option (List D)
  | .lst ds => some ds
  | .cell k => match S[k]? with
    | some (some (.lst ds)) => some ds
    | _ => none
  | _ => none
theorem vrs_ints (ns : List Int) : VRs Γ.K μ G (ns.map D.int) (ns.map V.int) := by
  induction ns with
  | nil => exact .nil
  | cons n r ih => exact .cons (.int n) ih
theorem Sit.lst' (t : Sit Γ F μ G H S) (r : VR Γ.K μ G d v) {ds : List D} (h : lstOf' S d = some ds) : ∃ a vs, v = .ref a ∧ H a = some (.lst vs) ∧ VRs Γ.K μ G ds vs := by
  unfold lstOf' at h
  split at h
  · cases h
    cases r with
    | lst h1 h2 => exact ⟨_, _, rfl, t.sub _ _ h1, h2⟩
  · rename_i k
    split at h
    · rename_i es hk
      cases h
      cases r with
      | cell ha =>
        obtain ⟨a, ha', vs, h1, h2⟩ := t.at_ k _ hk
        rw [ha] at ha'; cases ha'
        exact ⟨_, vs, rfl, h1, h2⟩
    · cases h
  · cases h
theorem Sit.lst (t : Sit Γ F μ G H S) (r : VR Γ.K μ G d v) {ds : List D} (h : lstOf S d = some ds) : ∃ a vs, v = .ref a ∧ SqL Γ.K H a vs ∧ VRs Γ.K μ G ds vs := by
  unfold lstOf at h
  split at h
  · cases h
    cases r with
    | lst h1 h2 => exact ⟨_, _, rfl, .inl (.inl (t.sub _ _ h1)), h2⟩
  · rename_i k
    split at h
    · rename_i es hk
      cases h
      cases r with
      | cell ha =>
        obtain ⟨a, ha', vs, h1, h2⟩ := t.at_ k _ hk
        rw [ha] at ha'; cases ha'
        exact ⟨_, vs, rfl, .inl (.inl h1), h2⟩
    · cases h
  · cases h
    cases r with
    | scr h1 => exact ⟨_, _, rfl, t.sub.seq h1, vrs_ints _⟩
  · cases h
theorem Sit.tup (t : Sit Γ F μ G H S) {ds : List D} (r : VR Γ.K μ G (.tup ds) v) : ∃ a vs, v = .ref a ∧ SqT Γ.K H a vs ∧ H a = some (.tup vs) ∧ VRs Γ.K μ G ds vs := by
  cases r with
  | tup h1 h2 => exact ⟨_, _, rfl, .inl (.inl (t.sub _ _ h1)), t.sub _ _ h1, h2⟩
/-- a new list that never changes -/
theorem Sit.newL (t : Sit Γ F μ G H S) {ds : List D} {vs : List V} {Q : VK} (r : VRs Γ.K μ G ds vs) (q : Wp Γ F W μ G (.ok (.lst ds) S) fun v μ' G' H' _ => ∀ vv, VR Γ.K μ' G' v vv → Q vv H') : ∀ p, H p = none → Q (.ref p) (upd H p (.lst vs)) := fun p np => by
  have ng := (t.fresh np).2
  exact q _ _ _ (Le.refl _) (same_upd ng) (t.allocG _ np) _ (.lst upd_same (r.mono (Le.refl _) (same_upd ng)))
theorem Sit.newT (t : Sit Γ F μ G H S) {ds : List D} {vs : List V} {Q : VK} (r : VRs Γ.K μ G ds vs) (q : Wp Γ F W μ G (.ok (.tup ds) S) fun v μ' G' H' _ => ∀ vv, VR Γ.K μ' G' v vv → Q vv H') : ∀ p, H p = none → Q (.ref p) (upd H p (.tup vs)) := fun p np => by
  have ng := (t.fresh np).2
  exact q _ _ _ (Le.refl _) (same_upd ng) (t.allocG _ np) _ (.tup upd_same (r.mono (Le.refl _) (same_upd ng)))
end

/-! ### arithmetic -/
def gAdd (x y : D) (S : Sto) : R D := match x, y with
  | .int i, .int j => .ok (.int (i + j)) S
  | .str i, .str j => if i.length + j.length ≤ sizeLine then .ok (.str (i ++ j)) S else .no
  | x, y => match lstOf' S x, lstOf' S y with
    | some a, some b => if a.length + b.length ≤ sizeLine then .ok (.lst (a ++ b)) S else .no
    | _, _ => .no
def gSub (x y : D) (S : Sto) : R D := match x, y with
  | .int i, .int j => .ok (.int (i - j)) S
  | _, _ => .no
noncomputable def gMul (x y : D) (S : Sto) : R D := match x, y with
  | .int i, .int j => cif ((-18446744073709551616 < i ∧ i < 18446744073709551616) ∨ (-18446744073709551616 < j ∧ j < 18446744073709551616)) (.ok (.int (i * j)) S) .no
  | _, _ => .no
noncomputable def gDiv (x y : D) (S : Sto) : R D := match x, y with
  | .int i, .int j => cif (0 < j ∧ j < 18446744073709551616) (.ok (.int (i / j)) S) .no
  | _, _ => .no
def gMod (x y : D) (S : Sto) : R D := match x, y with
  | .int i, .int j => if 0 < j then .ok (.int (i % j)) S else .no
  | _, _ => .no
def gNeg (x : D) (S : Sto) : R D := match x with
  | .int i => .ok (.int (-i)) S
  | _ => .no
def gCmp (p : Int → Int → Bool) (x y : D) (S : Sto) : R D := match x, y with
  | .int i, .int j => .ok (.bl (p i j)) S
  | _, _ => .no
def gIsN (x y : D) (S : Sto) : R D := match y with
  | .non => .ok (.bl (match x with | .non => true | _ => false)) S
  | _ => .no
def gNotN (x y : D) (S : Sto) : R D := match y with
  | .non => .ok (.bl (match x with | .non => false | _ => true)) S
  | _ => .no
section
variable {X : Cx} {Γ : Gm} {W : WX} {e a b : Expr} {f fa fb : Ex} {pos : Pos}
def rAddD : R2 := fun x y H Q => (rI0 (fun i j => .int (i + j)) x y H Q ∨ ∃ i j, x = .str i ∧ y = .str j ∧ i.length + j.length ≤ sizeLine ∧ Q (.str (i ++ j)) H) ∨ rCat x y H Q
theorem OpR.orD {f : Value → Value → Sem Value} {r r' : R2} (h : OpR X f r) (h' : OpR X f r') : OpR X f (fun x y H Q => r x y H Q ∨ r' x y H Q) := fun pins s σ H x y v u Q I rx ry q =>
  q.elim (fun q => h pins s σ H x y v u Q I rx ry q) fun q => h' pins s σ H x y v u Q I rx ry q
theorem op_addD : OpR X (binaryOp .Add) rAddD := OpR.orD (OpR.orD op_add op_add_str) op_cat
theorem os_add : OpS Γ gAdd rAddD := by
  intro W F μ G H S x y vx vy Q t rx ry q
  unfold gAdd at q
  split at q
  · cases rx; cases ry; exact .inl (.inl ⟨_, _, rfl, rfl, q.ok t _ (.int _)⟩)
  · cases rx; cases ry
    split at q
    · exact .inl (.inr ⟨_, _, rfl, rfl, by assumption, q.ok t _ (.str _)⟩)
    · exact q.elim
  · split at q
    · rename_i as bs ha hb
      obtain ⟨p, vs, rfl, h1, h2⟩ := t.lst' rx ha
      obtain ⟨p', vs', rfl, h1', h2'⟩ := t.lst' ry hb
      split at q
      · exact .inr ⟨p, p', vs, vs', rfl, rfl, h1, h1', by rw [← h2.length, ← h2'.length]; assumption, t.newL (h2.append h2') q⟩
      · exact q.elim
    · exact q.elim
theorem ve_add (ha : VE X Γ W a fa) (hb : VE X Γ W b fb) : VE X Γ W (.BinOp a .Add b pos) (op2 gAdd fa fb) := ve_op op_addD os_add ha hb
theorem os_int {C : Int → Int → Prop} [∀ i j, Decidable (C i j)] {h : Int → Int → Int} {C' : Int → Int → Prop} {g : D → D → Sto → R D} (hc : ∀ i j, C i j → C' i j)
    (hg : ∀ x y S, g x y S = match x, y with | .int i, .int j => if C i j then .ok (.int (h i j)) S else .no | _, _ => .no) : OpS Γ g (rI C' fun i j => .int (h i j)) := by
  intro W F μ G H S x y vx vy Q t rx ry q
  rw [hg] at q
  split at q
  · cases rx; cases ry
    split at q
    · exact ⟨_, _, rfl, rfl, hc _ _ (by assumption), q.ok t _ (.int _)⟩
    · exact q.elim
  · exact q.elim
theorem ve_sub (ha : VE X Γ W a fa) (hb : VE X Γ W b fb) : VE X Γ W (.BinOp a .Sub b pos) (op2 gSub fa fb) := ve_op op_sub (by
  intro W F μ G H S x y vx vy Q t rx ry q
  unfold gSub at q
  split at q
  · cases rx; cases ry; exact ⟨_, _, rfl, rfl, q.ok t _ (.int _)⟩
  · exact q.elim) ha hb
theorem os_intc {C : Int → Int → Prop} {h : Int → Int → Int} {C' : Int → Int → Prop} {g : D → D → Sto → R D} (hc : ∀ i j, C i j → C' i j)
    (hg : ∀ x y S, g x y S = match x, y with | .int i, .int j => cif (C i j) (.ok (.int (h i j)) S) .no | _, _ => .no) : OpS Γ g (rI C' fun i j => .int (h i j)) := by
  intro W F μ G H S x y vx vy Q t rx ry q
  rw [hg] at q
  split at q
  · rename_i i j
    cases rx; cases ry
    by_cases hh : C i j
    · rw [cif_pos hh] at q; exact ⟨_, _, rfl, rfl, hc _ _ hh, q.ok t _ (.int _)⟩
    · rw [cif_neg hh] at q; exact q.elim
  · exact q.elim
theorem ve_mul (ha : VE X Γ W a fa) (hb : VE X Γ W b fb) : VE X Γ W (.BinOp a .Mult b pos) (op2 gMul fa fb) :=
  ve_op op_mul (os_intc (C := fun i j => (-18446744073709551616 < i ∧ i < 18446744073709551616) ∨ (-18446744073709551616 < j ∧ j < 18446744073709551616)) (fun i j h => show (-(2 ^ 64) < i ∧ i < 2 ^ 64) ∨ (-(2 ^ 64) < j ∧ j < 2 ^ 64) by omega) fun x y S => rfl) ha hb
theorem div_ok {i j : Int} (h : 0 < j ∧ j < 18446744073709551616) : CDivW i j := wide_div (b := 64) h.1 (by have := h.2; omega) (by decide) (by decide)
theorem ve_div (ha : VE X Γ W a fa) (hb : VE X Γ W b fb) : VE X Γ W (.BinOp a .FloorDiv b pos) (op2 gDiv fa fb) :=
  ve_op op_fdivW (os_intc (C := fun _ j => 0 < j ∧ j < 18446744073709551616) (fun _ _ h => div_ok h) fun x y S => rfl) ha hb
theorem ve_mod (ha : VE X Γ W a fa) (hb : VE X Γ W b fb) : VE X Γ W (.BinOp a .Mod b pos) (op2 gMod fa fb) :=
  ve_op op_mod (os_int (C := fun _ j => 0 < j) (fun _ _ h => h) fun x y S => rfl) ha hb
theorem ve_neg (ha : VE X Γ W a fa) : VE X Γ W (.UnaryOp .USub a pos) (op1 gNeg fa) := ve_un un_neg (by
  intro W F μ G H S x vx Q t rx q
  unfold gNeg at q
  split at q
  · cases rx; exact ⟨_, rfl, q.ok t _ (.int _)⟩
  · exact q.elim) ha
theorem os_cmp {p : Int → Int → Bool} : OpS Γ (gCmp p) (rI0 fun i j => .bl (p i j)) := by
  intro W F μ G H S x y vx vy Q t rx ry q
  unfold gCmp at q
  split at q
  · cases rx; cases ry; exact ⟨_, _, rfl, rfl, q.ok t _ (.bl _)⟩
  · exact q.elim
theorem os_isN : OpS Γ gIsN (fun x y H Q => y = .non ∧ Q (.bl (decide (x = .non))) H) := by
  intro W F μ G H S x y vx vy Q t rx ry q
  unfold gIsN at q
  split at q
  · cases ry
    refine ⟨rfl, ?_⟩
    have h := q.ok t _ (.bl _)
    cases rx <;> exact h
  · exact q.elim
theorem os_notN : OpS Γ gNotN (fun x y H Q => y = .non ∧ Q (.bl (!decide (x = .non))) H) := by
  intro W F μ G H S x y vx vy Q t rx ry q
  unfold gNotN at q
  split at q
  · cases ry
    refine ⟨rfl, ?_⟩
    have h := q.ok t _ (.bl _)
    cases rx <;> exact h
  · exact q.elim
end
end Ev

/-! Ev, the rules, part 2: comparisons of data, in, and/or/not, subscripts, slices, len, isinstance; statements; a def. -/
namespace Ev
open PySem PySem.Spec PyProof.Rows L2

/-! ### data as the model compares it -/
def omap {α β : Type} (f : α → Option β) : List α → Option (List β)
  | [] => some []
  | a :: r => match f a, omap f r with
    | some b, some s => some (b :: s)
    | _, _ => none
def py (S : Sto) : Nat → D → Option PyData
  | _, .non => some .none
  | _, .bl b => some (.bool b)
  | _, .int i => some (.int i)
  | _, .str x => if PyData.strOk x = true then some (.str x) else none
  | n + 1, .tup ds => (omap (py S n) ds).map .tuple
  | n + 1, .lst ds => (omap (py S n) ds).map .list
  | n + 1, .cell k => match S[k]? with
    | some (some (.lst ds)) => (omap (py S n) ds).map .list
    | _ => none
  | _, _ => none
section
variable {Γ : Gm} {W : XK} {F : Hp} {μ : List Addr} {G H : Hp} {S : Sto}
theorem depthAll_le : ∀ {ps : List PyData} {n : Nat}, (∀ p ∈ ps, p.depth ≤ n) → PyData.depthAll ps ≤ n
  | [], n, _ => by simp [PyData.depthAll]
  | p :: r, n, h => by
    have h1 := h p List.mem_cons_self
    have h2 := depthAll_le (ps := r) fun q hq => h q (List.mem_cons_of_mem _ hq)
    simp only [PyData.depthAll]
    omega
theorem layAll_of : ∀ {ps : List PyData}, (∀ p ∈ ps, p.canLay0 = true) → PyData.canLayAll0 ps = true
  | [], _ => by simp [PyData.canLayAll0]
  | p :: r, h => by
    simp only [PyData.canLayAll0, Bool.and_eq_true]
    exact ⟨h p List.mem_cons_self, layAll_of fun q hq => h q (List.mem_cons_of_mem _ hq)⟩
theorem py_all {n : Nat} (ih : ∀ (d : D) (v : V) (p : PyData), VR Γ.K μ G d v → py S n d = some p → Dp Γ.K H v p ∧ p.depth ≤ n ∧ p.canLay0 = true) :
    ∀ (ds : List D) (vs : List V) (ps : List PyData), VRs Γ.K μ G ds vs → omap (py S n) ds = some ps → DpAll Γ.K H vs ps ∧ (∀ p ∈ ps, p.depth ≤ n) ∧ ∀ p ∈ ps, p.canLay0 = true
  | [], vs, ps, r, h => by
    cases r
    simp [omap] at h
    subst h
    exact ⟨.nil, by simp, by simp⟩
  | d :: ds, vs, ps, r, h => by
    cases r with
    | cons r1 r2 =>
      simp only [omap] at h
      split at h
      · rename_i p qs e1 e2
        cases h
        obtain ⟨a1, a2, a3⟩ := ih d _ p r1 e1
        obtain ⟨b1, b2, b3⟩ := py_all ih ds _ qs r2 e2
        refine ⟨.cons a1 b1, fun q hq => ?_, fun q hq => ?_⟩
        · rcases List.mem_cons.mp hq with rfl | hq
          · exact a2
          · exact b2 q hq
        · rcases List.mem_cons.mp hq with rfl | hq
          · exact a3
          · exact b3 q hq
      · cases h
theorem py_ok (t : Sit Γ F μ G H S) : ∀ (n : Nat) (d : D) (v : V) (p : PyData), VR Γ.K μ G d v → py S n d = some p → Dp Γ.K H v p ∧ p.depth ≤ n ∧ p.canLay0 = true := by
  intro n
  induction n with
  | zero =>
    intro d v p r h
    cases r with
    | non => simp [py] at h; subst h; exact ⟨.non, by simp [PyData.depth], rfl⟩
    | bl b => simp [py] at h; subst h; exact ⟨.bl b, by simp [PyData.depth], rfl⟩
    | int i => simp [py] at h; subst h; exact ⟨.int i, by simp [PyData.depth], rfl⟩
    | str x => simp [py] at h; obtain ⟨h1, h⟩ := h; subst h; exact ⟨.str x, by simp [PyData.depth], by simpa [PyData.canLay0] using h1⟩
    | tup _ _ => simp [py] at h
    | lst _ _ => simp [py] at h
    | cell _ => simp [py] at h
    | scr _ => simp [py] at h
  | succ n ih =>
    intro d v p r h
    cases r with
    | non => simp [py] at h; subst h; exact ⟨.non, by simp [PyData.depth], rfl⟩
    | bl b => simp [py] at h; subst h; exact ⟨.bl b, by simp [PyData.depth], rfl⟩
    | int i => simp [py] at h; subst h; exact ⟨.int i, by simp [PyData.depth], rfl⟩
    | str x => simp [py] at h; obtain ⟨h1, h⟩ := h; subst h; exact ⟨.str x, by simp [PyData.depth], by simpa [PyData.canLay0] using h1⟩
    | tup h1 h2 =>
      simp only [py, Option.map_eq_some_iff] at h
      obtain ⟨ps, h, rfl⟩ := h
      obtain ⟨a1, a2, a3⟩ := py_all ih _ _ _ h2 h
      exact ⟨.tup (.inl (.inl (t.sub _ _ h1))) a1, by simp only [PyData.depth]; have := depthAll_le a2; omega, by simp only [PyData.canLay0]; exact layAll_of a3⟩
    | lst h1 h2 =>
      simp only [py, Option.map_eq_some_iff] at h
      obtain ⟨ps, h, rfl⟩ := h
      obtain ⟨a1, a2, a3⟩ := py_all ih _ _ _ h2 h
      exact ⟨.lst (.inl (.inl (t.sub _ _ h1))) a1, by simp only [PyData.depth]; have := depthAll_le a2; omega, by simp only [PyData.canLay0]; exact layAll_of a3⟩
    | scr _ => simp [py] at h
    | cell hk =>
      simp only [py] at h
      split at h
      · rename_i ds hs
        obtain ⟨a, ha, vs, h1, h2⟩ := t.at_ _ _ hs
        rw [hk] at ha; cases ha
        rw [Option.map_eq_some_iff] at h
        obtain ⟨ps, h, rfl⟩ := h
        obtain ⟨a1, a2, a3⟩ := py_all ih _ _ _ h2 h
        exact ⟨.lst (.inl (.inl h1)) a1, by simp only [PyData.depth]; have := depthAll_le a2; omega, by simp only [PyData.canLay0]; exact layAll_of a3⟩
      · cases h
end
def rEqP (K : PySem.W.Frag) : R2 := fun x y H Q => ∃ d e, Dp K H x d ∧ Dp K H y e ∧ d.canLay0 = true ∧ e.canLay0 = true ∧ d.depth ≤ 200 ∧ Q (.bl (PyData.eqv d e)) H
def rNeP (K : PySem.W.Frag) : R2 := fun x y H Q => ∃ d e, Dp K H x d ∧ Dp K H y e ∧ d.canLay0 = true ∧ e.canLay0 = true ∧ d.depth ≤ 200 ∧ Q (.bl (!PyData.eqv d e)) H
section
variable {X : Cx}
theorem op_eqP (hu : X.A.units + 200 < cLine) : OpR X (compareOp .Eq) (rEqP X.K) := by
  intro pins s σ H x y v u Q I rx ry h
  obtain ⟨d, e, hd, he, sd, se, z, q⟩ := h
  obtain ⟨as, r1⟩ := Dp.reads I d x v hd rx
  obtain ⟨bs, r2⟩ := Dp.reads I e y u he ry
  exact SeqAt.compareEq_reads r1 r2 sd se (by have := Nat.min_le_left d.depth e.depth; omega) ⟨.bl _, H, I, rfl, q⟩
theorem op_neP (hu : X.A.units + 200 < cLine) : OpR X (compareOp .NotEq) (rNeP X.K) := by
  intro pins s σ H x y v u Q I rx ry h
  obtain ⟨d, e, hd, he, sd, se, z, q⟩ := h
  obtain ⟨as, r1⟩ := Dp.reads I d x v hd rx
  obtain ⟨bs, r2⟩ := Dp.reads I e y u he ry
  exact SeqAt.compareNe_reads r1 r2 sd se (by have := Nat.min_le_left d.depth e.depth; omega) ⟨.bl _, H, I, rfl, q⟩
end
def gEq (x y : D) (S : Sto) : R D := match py S 200 x, py S 200 y with
  | some p, some q => .ok (.bl (PyData.eqv p q)) S
  | _, _ => .no
def gNe (x y : D) (S : Sto) : R D := match py S 200 x, py S 200 y with
  | some p, some q => .ok (.bl (!PyData.eqv p q)) S
  | _, _ => .no
/-- x in y: y a list, data of any depth; y a tuple of texts and ints -/
def flatD : D → Bool
  | .str _ => true
  | .int _ => true
  | _ => false
def gIn (neg : Bool) (x y : D) (S : Sto) : R D := match y with
  | .tup ds => if flatD x && ds.all flatD then (match py S 0 x, omap (py S 0) ds with
    | some p, some qs => .ok (.bl (if neg then !(qs.any fun z => PyData.eqv z p) else qs.any fun z => PyData.eqv z p)) S
    | _, _ => .no) else .no
  | y => match lstOf' S y, py S 60 x with
    | some ds, some p => (match omap (py S 60) ds with
      | some qs => .ok (.bl (if neg then !(qs.any fun z => PyData.eqv z p) else qs.any fun z => PyData.eqv z p)) S
      | none => .no)
    | _, _ => .no
section
variable {X : Cx} {Γ : Gm} {W : WX} {e a b : Expr} {f fa fb : Ex} {pos : Pos}
theorem os_eq : OpS Γ gEq (rEqP Γ.K) := by
  intro W F μ G H S x y vx vy Q t rx ry q
  unfold gEq at q
  split at q
  · rename_i p p' e1 e2
    obtain ⟨a1, a2, a3⟩ := py_ok t _ _ _ _ rx e1
    obtain ⟨b1, b2, b3⟩ := py_ok t _ _ _ _ ry e2
    exact ⟨p, p', a1, b1, a3, b3, a2, q.ok t _ (.bl _)⟩
  · exact q.elim
theorem os_ne : OpS Γ gNe (rNeP Γ.K) := by
  intro W F μ G H S x y vx vy Q t rx ry q
  unfold gNe at q
  split at q
  · rename_i p p' e1 e2
    obtain ⟨a1, a2, a3⟩ := py_ok t _ _ _ _ rx e1
    obtain ⟨b1, b2, b3⟩ := py_ok t _ _ _ _ ry e2
    exact ⟨p, p', a1, b1, a3, b3, a2, q.ok t _ (.bl _)⟩
  · exact q.elim
theorem flat_eqv {d e : D} {v w : V} {p q : PyData} {K : PySem.W.Frag} {μ : List Addr} {G : Hp} {S : Sto} (fd : flatD d = true) (fe : flatD e = true) (rd : VR K μ G d v) (re : VR K μ G e w) (hp : py S 0 d = some p) (hq : py S 0 e = some q) : eqV v w = PyData.eqv p q ∧ flatV v = true ∧ flatV w = true := by
  cases d <;> simp [flatD] at fd <;> cases e <;> simp [flatD] at fe <;> cases rd <;> cases re <;> simp [py] at hp hq
  · subst hp; subst hq; simp [eqV, flatV, PyData.eqv]
  · obtain ⟨_, hq⟩ := hq; subst hp; subst hq; simp [eqV, flatV, PyData.eqv]
  · obtain ⟨_, hp⟩ := hp; subst hp; subst hq; simp [eqV, flatV, PyData.eqv]
  · obtain ⟨_, hp⟩ := hp; obtain ⟨_, hq⟩ := hq; subst hp; subst hq; simp [eqV, flatV, PyData.eqv]
theorem flat_any {x : D} {vx : V} {p : PyData} {K : PySem.W.Frag} {μ : List Addr} {G : Hp} {S : Sto} (fx : flatD x = true) (rx : VR K μ G x vx) (hp : py S 0 x = some p) :
    ∀ (ds : List D) (vs : List V) (qs : List PyData), ds.all flatD = true → VRs K μ G ds vs → omap (py S 0) ds = some qs → (vs.any fun y => eqV y vx) = (qs.any fun z => PyData.eqv z p) ∧ vs.all flatV = true
  | [], vs, qs, _, r, h => by cases r; simp [omap] at h; subst h; simp
  | d :: ds, vs, qs, fd, r, h => by
    cases r with
    | cons r1 r2 =>
      simp only [List.all_cons, Bool.and_eq_true] at fd
      simp only [omap] at h
      split at h
      · rename_i p' qs' e1 e2
        cases h
        obtain ⟨c1, c2, _⟩ := flat_eqv fd.1 fx r1 rx e1 hp
        obtain ⟨d1, d2⟩ := flat_any fx rx hp ds _ _ fd.2 r2 e2
        simp [c1, c2, d1, d2]
      · cases h
theorem flatV_of {x : D} {vx : V} {K : PySem.W.Frag} {μ : List Addr} {G : Hp} (fx : flatD x = true) (rx : VR K μ G x vx) : flatV vx = true := by
  cases x <;> simp [flatD] at fx <;> cases rx <;> rfl
def rInT (K : PySem.W.Frag) (neg : Bool) : R2 := fun x y H Q => rIn K neg x y H Q ∨ if neg = true then rNotInD K x y H Q else rInD K x y H Q
theorem os_in (neg : Bool) : OpS Γ (gIn neg) (rInT Γ.K neg) := by
  intro W F μ G H S x y vx vy Q t rx ry q
  unfold gIn at q
  split at q
  · rename_i ds
    split at q
    · rename_i hf
      rw [Bool.and_eq_true] at hf
      split at q
      · rename_i p qs e1 e2
        obtain ⟨a, vs, rfl, h1, _, h2⟩ := t.tup ry
        obtain ⟨c1, c2⟩ := flat_any hf.1 rx e1 ds vs qs hf.2 h2 e2
        refine .inl ⟨a, vs, rfl, .inr h1, flatV_of hf.1 rx, c2, ?_⟩
        have z := q.ok t _ (.bl _)
        unfold inV
        rw [c1]
        cases neg <;> simpa using z
      · exact q.elim
    · exact q.elim
  · split at q
    · rename_i ds p e1 e2
      split at q
      · rename_i qs e3
        obtain ⟨a1, a2, a3⟩ := py_ok t _ _ _ _ rx e2
        obtain ⟨a, vs, rfl, h1, h2⟩ := t.lst' ry e1
        obtain ⟨b1, b2, b3⟩ := py_all (py_ok t 60) _ _ _ h2 e3
        have sx : SeqAt.shaped p = true := by
          unfold SeqAt.shaped
          rw [a3, Bool.true_and]
          exact decide_eq_true (by omega)
        have sl : SeqAt.shaped (.list qs) = true := by
          have h1 := depthAll_le b2
          have h2 : (PyData.list qs).depth ≤ 64 := by simp only [PyData.depth]; omega
          have h3 : (PyData.list qs).canLay0 = true := by simp only [PyData.canLay0]; exact layAll_of b3
          unfold SeqAt.shaped
          rw [h3, decide_eq_true h2]
          rfl
        have hd : Dp Γ.K H (.ref a) (.list qs) := .lst (.inl (.inl h1)) b1
        have z := q.ok t _ (.bl _)
        refine .inr ?_
        cases neg with
        | true => exact ⟨p, qs, a1, hd, sx, sl, by simpa using z⟩
        | false => exact ⟨p, qs, a1, hd, sx, sl, by simpa using z⟩
      · exact q.elim
    · exact q.elim
theorem op_inT (hu : X.A.units + 65 < cLine) : OpR X (compareOp .In) (rInT X.K false) := by
  intro pins s σ H x y v u Q I rx ry h
  rcases h with h | h
  · exact op_in_seq pins s σ H x y v u Q I rx ry h
  · exact op_inD hu pins s σ H x y v u Q I rx ry (by simpa using h)
theorem op_notInT (hu : X.A.units + 65 < cLine) : OpR X (compareOp .NotIn) (rInT X.K true) := by
  intro pins s σ H x y v u Q I rx ry h
  rcases h with h | h
  · exact op_notIn_seq pins s σ H x y v u Q I rx ry h
  · exact op_notInD hu pins s σ H x y v u Q I rx ry (by simpa using h)
theorem u200 {k : Nat} {A : Around} (r : Room k A) : A.units + 200 < cLine := by have := r.un; omega
theorem u65 {k : Nat} {A : Around} (r : Room k A) : A.units + 65 < cLine := by have := r.un; omega
theorem ve_eq {k : Nat} (hr : Room k X.A) (ha : VE X Γ W a fa) (hb : VE X Γ W b fb) (hK : X.K = Γ.K := by rfl) : VE X Γ W (.Compare a [.Eq] [b] pos) (op2 gEq fa fb) := ve_cmp (op_eqP (u200 hr)) (hK ▸ os_eq) ha hb (nomark _)
theorem ve_ne {k : Nat} (hr : Room k X.A) (ha : VE X Γ W a fa) (hb : VE X Γ W b fb) (hK : X.K = Γ.K := by rfl) : VE X Γ W (.Compare a [.NotEq] [b] pos) (op2 gNe fa fb) := ve_cmp (op_neP (u200 hr)) (hK ▸ os_ne) ha hb (nomark _)
theorem ve_in {k : Nat} (hr : Room k X.A) (ha : VE X Γ W a fa) (hb : VE X Γ W b fb) (hK : X.K = Γ.K := by rfl) (hm : behindInMarks .In b = false := by rfl) : VE X Γ W (.Compare a [.In] [b] pos) (op2 (gIn false) fa fb) := ve_cmp (op_inT (u65 hr)) (hK ▸ os_in false) ha hb hm
theorem ve_notIn {k : Nat} (hr : Room k X.A) (ha : VE X Γ W a fa) (hb : VE X Γ W b fb) (hK : X.K = Γ.K := by rfl) (hm : behindInMarks .NotIn b = false := by rfl) : VE X Γ W (.Compare a [.NotIn] [b] pos) (op2 (gIn true) fa fb) := ve_cmp (op_notInT (u65 hr)) (hK ▸ os_in true) ha hb hm
def gLt := gCmp fun i j => decide (i < j)
def gLe := gCmp fun i j => decide (i ≤ j)
def gGt := gCmp fun i j => decide (j < i)
def gGe := gCmp fun i j => decide (j ≤ i)
theorem ve_lt (ha : VE X Γ W a fa) (hb : VE X Γ W b fb) : VE X Γ W (.Compare a [.Lt] [b] pos) (op2 gLt fa fb) := ve_cmp op_lt os_cmp ha hb (nomark _)
theorem ve_le (ha : VE X Γ W a fa) (hb : VE X Γ W b fb) : VE X Γ W (.Compare a [.LtE] [b] pos) (op2 gLe fa fb) := ve_cmp op_le os_cmp ha hb (nomark _)
theorem ve_gt (ha : VE X Γ W a fa) (hb : VE X Γ W b fb) : VE X Γ W (.Compare a [.Gt] [b] pos) (op2 gGt fa fb) := ve_cmp op_gt os_cmp ha hb (nomark _)
theorem ve_ge (ha : VE X Γ W a fa) (hb : VE X Γ W b fb) : VE X Γ W (.Compare a [.GtE] [b] pos) (op2 gGe fa fb) := ve_cmp op_ge os_cmp ha hb (nomark _)
theorem ve_isN (ha : VE X Γ W a fa) (hb : VE X Γ W b fb) : VE X Γ W (.Compare a [.Is] [b] pos) (op2 gIsN fa fb) := ve_cmp op_isN os_isN ha hb (nomark _)
theorem ve_notN (ha : VE X Γ W a fa) (hb : VE X Γ W b fb) : VE X Γ W (.Compare a [.IsNot] [b] pos) (op2 gNotN fa fb) := ve_cmp op_notN os_notN ha hb (nomark _)
theorem vt_eq {k : Nat} (hr : Room k X.A) (ha : VE X Γ W a fa) (hb : VE X Γ W b fb) (hK : X.K = Γ.K := by rfl) : VT X Γ W (.Compare a [.Eq] [b] pos) (tTst (op2 gEq fa fb)) := vt_cmp (op_eqP (u200 hr)) (hK ▸ os_eq) ha hb (nomark _)
theorem vt_ne {k : Nat} (hr : Room k X.A) (ha : VE X Γ W a fa) (hb : VE X Γ W b fb) (hK : X.K = Γ.K := by rfl) : VT X Γ W (.Compare a [.NotEq] [b] pos) (tTst (op2 gNe fa fb)) := vt_cmp (op_neP (u200 hr)) (hK ▸ os_ne) ha hb (nomark _)
theorem vt_in {k : Nat} (hr : Room k X.A) (ha : VE X Γ W a fa) (hb : VE X Γ W b fb) (hK : X.K = Γ.K := by rfl) (hm : behindInMarks .In b = false := by rfl) : VT X Γ W (.Compare a [.In] [b] pos) (tTst (op2 (gIn false) fa fb)) := vt_cmp (op_inT (u65 hr)) (hK ▸ os_in false) ha hb hm
theorem vt_notIn {k : Nat} (hr : Room k X.A) (ha : VE X Γ W a fa) (hb : VE X Γ W b fb) (hK : X.K = Γ.K := by rfl) (hm : behindInMarks .NotIn b = false := by rfl) : VT X Γ W (.Compare a [.NotIn] [b] pos) (tTst (op2 (gIn true) fa fb)) := vt_cmp (op_notInT (u65 hr)) (hK ▸ os_in true) ha hb hm
theorem vt_lt (ha : VE X Γ W a fa) (hb : VE X Γ W b fb) : VT X Γ W (.Compare a [.Lt] [b] pos) (tTst (op2 gLt fa fb)) := vt_cmp op_lt os_cmp ha hb (nomark _)
theorem vt_le (ha : VE X Γ W a fa) (hb : VE X Γ W b fb) : VT X Γ W (.Compare a [.LtE] [b] pos) (tTst (op2 gLe fa fb)) := vt_cmp op_le os_cmp ha hb (nomark _)
theorem vt_gt (ha : VE X Γ W a fa) (hb : VE X Γ W b fb) : VT X Γ W (.Compare a [.Gt] [b] pos) (tTst (op2 gGt fa fb)) := vt_cmp op_gt os_cmp ha hb (nomark _)
theorem vt_ge (ha : VE X Γ W a fa) (hb : VE X Γ W b fb) : VT X Γ W (.Compare a [.GtE] [b] pos) (tTst (op2 gGe fa fb)) := vt_cmp op_ge os_cmp ha hb (nomark _)
theorem vt_isN (ha : VE X Γ W a fa) (hb : VE X Γ W b fb) : VT X Γ W (.Compare a [.Is] [b] pos) (tTst (op2 gIsN fa fb)) := vt_cmp op_isN os_isN ha hb (nomark _)
theorem vt_notN (ha : VE X Γ W a fa) (hb : VE X Γ W b fb) : VT X Γ W (.Compare a [.IsNot] [b] pos) (tTst (op2 gNotN fa fb)) := vt_cmp op_notN os_notN ha hb (nomark _)
end

/-! ### and, or, not, x if t else y -/
def tAnd (f g : Tx) : Tx := fun σ S => (f σ S).bind fun b S1 => if b = true then g σ S1 else .ok false S1
def tOr (f g : Tx) : Tx := fun σ S => (f σ S).bind fun b S1 => if b = true then .ok true S1 else g σ S1
def tNot (f : Tx) : Tx := fun σ S => (f σ S).bind fun b S1 => .ok (!b) S1
def eAnd (f g : Ex) : Ex := fun σ S => (f σ S).bind fun v S1 => match v with
  | .bl b => if b = true then g σ S1 else .ok (.bl false) S1
  | _ => .no
def eOr (f g : Ex) : Ex := fun σ S => (f σ S).bind fun v S1 => match v with
  | .bl b => if b = true then .ok (.bl true) S1 else g σ S1
  | _ => .no
def gNot (x : D) (S : Sto) : R D := match x with
  | .bl b => .ok (.bl (!b)) S
  | _ => .no
def eIf (t : Tx) (f g : Ex) : Ex := fun σ S => (t σ S).bind fun b S1 => if b = true then f σ S1 else g σ S1
section
variable {X : Cx} {Γ : Gm} {W : WX} {e a b c : Expr} {rest : List Expr} {f g fa fb : Ex} {t u : Tx} {pos : Pos}
abbrev VW (X : Cx) (Γ : Gm) (W : WX) (e : Expr) (f : Tx) : Prop := PW X e (ttOf Γ W f)
theorem vw_and1 (ha : VT X Γ W a t) : VW X Γ W (.BoolOp .And [a] pos) t := pw_and1 ha
theorem vw_or1 (ha : VT X Γ W a t) : VW X Γ W (.BoolOp .Or [a] pos) t := pw_or1 ha
theorem vw_and (ha : VT X Γ W a t) (hb : VW X Γ W (.BoolOp .And (b :: rest) pos) u) : VW X Γ W (.BoolOp .And (a :: b :: rest) pos) (tAnd t u) := by
  refine PW.imp (pw_and ha hb) fun σv H Q ⟨F, μ, G, σ, S, hσ, hs, h⟩ => ?_
  refine ttOf.at hσ hs (Wp.bind h) fun v μ1 G1 H1 S1 l s t q => ?_
  split
  · rename_i hv; rw [if_pos hv] at q; exact ⟨F, μ1, G1, σ, S1, hσ.mono l s, t, q⟩
  · rename_i hv; rw [if_neg hv] at q; exact q.ok t
theorem vw_or (ha : VT X Γ W a t) (hb : VW X Γ W (.BoolOp .Or (b :: rest) pos) u) : VW X Γ W (.BoolOp .Or (a :: b :: rest) pos) (tOr t u) := by
  refine PW.imp (pw_or ha hb) fun σv H Q ⟨F, μ, G, σ, S, hσ, hs, h⟩ => ?_
  refine ttOf.at hσ hs (Wp.bind h) fun v μ1 G1 H1 S1 l s t q => ?_
  split
  · rename_i hv; rw [if_pos hv] at q; exact q.ok t
  · rename_i hv; rw [if_neg hv] at q; exact ⟨F, μ1, G1, σ, S1, hσ.mono l s, t, q⟩
theorem vt_w (h : VW X Γ W e t) : VT X Γ W e t := h.pt
theorem vt_not (ha : VT X Γ W a t) : VT X Γ W (.UnaryOp .Not a pos) (tNot t) := by
  refine PT.imp (pt_not ha) fun σv H Q ⟨F, μ, G, σ, S, hσ, hs, h⟩ => ?_
  exact ttOf.at hσ hs (Wp.bind h) fun v μ1 G1 H1 S1 l s t q => q.ok t
theorem ve_one {op} (h : VE X Γ W a f) : VE X Γ W (.BoolOp op [a] pos) f := pe_one h
theorem ve_and (ha : VE X Γ W a f) (hb : VE X Γ W (.BoolOp .And (b :: rest) pos) g) : VE X Γ W (.BoolOp .And (a :: b :: rest) pos) (eAnd f g) := by
  refine PE.imp (pe_and ha hb) fun σv H Q ⟨F, μ, G, σ, S, hσ, hs, h⟩ => ?_
  refine tOf.at hσ hs (Wp.bind h) fun v μ1 G1 H1 S1 vv l s t r q => ?_
  split at q
  · rename_i k
    cases r
    refine ⟨k, rfl, ?_⟩
    split
    · rename_i hk; rw [if_pos hk] at q; exact ⟨F, μ1, G1, σ, S1, hσ.mono l s, t, q⟩
    · rename_i hk; rw [if_neg hk] at q; exact q.ok t _ (.bl _)
  · exact q.elim
theorem ve_or (ha : VE X Γ W a f) (hb : VE X Γ W (.BoolOp .Or (b :: rest) pos) g) : VE X Γ W (.BoolOp .Or (a :: b :: rest) pos) (eOr f g) := by
  refine PE.imp (pe_or ha hb) fun σv H Q ⟨F, μ, G, σ, S, hσ, hs, h⟩ => ?_
  refine tOf.at hσ hs (Wp.bind h) fun v μ1 G1 H1 S1 vv l s t r q => ?_
  split at q
  · rename_i k
    cases r
    refine ⟨k, rfl, ?_⟩
    split
    · rename_i hk; rw [if_pos hk] at q; exact q.ok t _ (.bl _)
    · rename_i hk; rw [if_neg hk] at q; exact ⟨F, μ1, G1, σ, S1, hσ.mono l s, t, q⟩
  · exact q.elim
theorem ve_not (ha : VE X Γ W a f) : VE X Γ W (.UnaryOp .Not a pos) (op1 gNot f) := by
  refine PE.imp (pe_not ha) fun σv H Q ⟨F, μ, G, σ, S, hσ, hs, h⟩ => ?_
  refine tOf.at hσ hs (Wp.bind h) fun v μ1 G1 H1 S1 vv l s t r q => ?_
  unfold gNot at q
  split at q
  · cases r; exact ⟨_, rfl, q.ok t _ (.bl _)⟩
  · exact q.elim
theorem ve_ife (hc : VT X Γ W c t) (ha : VE X Γ W a f) (hb : VE X Γ W b g) : VE X Γ W (.IfExp c a b pos) (eIf t f g) := by
  refine PE.imp (pe_ifExp hc ha hb) fun σv H Q ⟨F, μ, G, σ, S, hσ, hs, h⟩ => ?_
  refine ttOf.at hσ hs (Wp.bind h) fun v μ1 G1 H1 S1 l s t q => ?_
  split
  · rename_i hv; rw [if_pos hv] at q; exact ⟨F, μ1, G1, σ, S1, hσ.mono l s, t, q⟩
  · rename_i hv; rw [if_neg hv] at q; exact ⟨F, μ1, G1, σ, S1, hσ.mono l s, t, q⟩
end
end Ev

/-! Ev, the rules, part 3: subscripts, slices, len, isinstance, lists' methods. -/
namespace Ev
open PySem PySem.Spec PyProof.Rows L2

/-! ### subscripts -/
def seqOf (S : Sto) : D → Option (List D)
  | .tup ds => some ds
  | d => lstOf S d
def gIdx (x y : D) (S : Sto) : R D := match y with
  | .int i => (match x with
    | .str z => if z.length ≤ sizeLine then (match atI z.cps.toList i with
      | some c => .ok (.str ⟨#[c]⟩) S
      | none => .no) else .no
    | x => match seqOf S x with
      | some ds => (match atI ds i with
        | some d => .ok d S
        | none => .no)
      | none => .no)
  | _ => .no
/-- the part from lo to hi -/
def cutG {α : Type} (xs : List α) (lo hi : Option Int) : List α := (xs.drop (HT.sIx xs.length 0 lo)).take (HT.sIx xs.length xs.length hi - HT.sIx xs.length 0 lo)
def gSl (x : D) (lo hi : Option Int) (S : Sto) : R D := match x with
  | .str z => if z.length ≤ sizeLine then .ok (.str (cutS z lo hi)) S else .no
  | x => match lstOf S x with
    | some ds => .ok (.lst (cutG ds lo hi)) S
    | none => .no
def gSlN (x : D) (lo hi : Option Int) (S : Sto) : R D := match lstOf S x with
  | some ds => .ok (.cell S.length) (S ++ [some (.lst (cutG ds lo hi))])
  | none => .no
abbrev Ox := Env → Sto → R (Option Int)
def oN : Ox := fun _ S => .ok none S
def oS (f : Ex) : Ox := fun σ S => (f σ S).bind fun v S1 => match v with
  | .int i => .ok (some i) S1
  | _ => .no
def eSl (g : D → Option Int → Option Int → Sto → R D) (f : Ex) (lo hi : Ox) : Ex := fun σ S => (f σ S).bind fun x S1 => (lo σ S1).bind fun l S2 => (hi σ S2).bind fun h S3 => g x l h S3
section
variable {Γ : Gm} {W : XK} {F : Hp} {μ : List Addr} {G H : Hp} {S : Sto} {d : D} {v : V}
theorem VRs.at {ds : List D} {vs : List V} (h : VRs Γ.K μ G ds vs) {i : Int} {d : D} (e : atI ds i = some d) : ∃ v, atI vs i = some v ∧ VR Γ.K μ G d v := by
  unfold atI at e ⊢
  rw [h.length] at e
  cases hx : ixN vs.length i with
  | none => rw [hx] at e; cases e
  | some j =>
    rw [hx] at e
    simp only [Option.bind_some] at e ⊢
    exact h.get e
theorem VRs.cut {ds : List D} {vs : List V} (h : VRs Γ.K μ G ds vs) (lo hi : Option Int) : VRs Γ.K μ G (cutG ds lo hi) (cutV vs lo hi) := by
  unfold cutG cutV
  rw [h.length]
  exact (h.drop _).take _
end
section
variable {X : Cx} {Γ : Gm} {W : WX} {e a b : Expr} {lo hi : Option Expr} {f fa fb : Ex} {pos p2 : Pos} {ol oh : Ox}
theorem os_idx : OpS Γ gIdx (rIx Γ.K) := by
  intro W F μ G H S x y vx vy Q t rx ry q
  unfold gIdx at q
  split at q
  · rename_i i
    cases ry
    split at q
    · rename_i z
      cases rx
      split at q
      · rename_i hz
        split at q
        · rename_i c hc
          exact .inr (.inr ⟨z, i, c, rfl, rfl, hz, hc, q.ok t _ (.str _)⟩)
        · exact q.elim
      · exact q.elim
    · split at q
      · rename_i ds hd
        split at q
        · rename_i d he
          unfold seqOf at hd
          split at hd
          · cases hd
            obtain ⟨p, vs, rfl, h1, _, h2⟩ := t.tup rx
            obtain ⟨w, e1, r1⟩ := h2.at he
            exact .inr (.inl ⟨p, vs, i, w, rfl, rfl, h1, e1, q.ok t _ r1⟩)
          · obtain ⟨p, vs, rfl, h1, h2⟩ := t.lst rx hd
            obtain ⟨w, e1, r1⟩ := h2.at he
            exact .inl ⟨p, vs, i, w, rfl, rfl, h1, e1, q.ok t _ r1⟩
        · exact q.elim
      · exact q.elim
  · exact q.elim
theorem ve_ix (ha : VE X Γ W a fa) (hb : VE X Γ W b fb) (hs : PlainIx b := by exact fun _ _ => rfl) (hK : X.K = Γ.K := by rfl) : VE X Γ W (.Subscript a b pos) (op2 gIdx fa fb) :=
  PE.imp (pe_ix ix_seq ha hb hs) fun _ _ _ h => tOp_of (hK ▸ os_idx) h
abbrev VO (X : Cx) (Γ : Gm) (W : WX) (e : Option Expr) (f : Ox) : Prop := PO X e (fun σv H Q => ∃ F μ G σ S, SR Γ.K μ G σ σv ∧ Sit Γ F μ G H S ∧ Wp Γ F (fun c d H' => W c d σv H') μ G (f σ S) fun o _ _ H' _ => Q o H')
theorem PO.imp {e : Option Expr} {t t' : TO} (h : PO X e t) (i : ∀ σ H Q, t' σ H Q → t σ H Q) : PO X e t' := ⟨fun pins s σ H Q I q => h.run pins s σ H Q I (i σ H Q q)⟩
theorem vo_none : VO X Γ W none oN := PO.imp po_none fun σv H Q ⟨F, μ, G, σ, S, hσ, hs, h⟩ => h.ok hs
theorem vo_some (h : VE X Γ W e f) : VO X Γ W (some e) (oS f) := by
  refine PO.imp (po_some h) fun σv H Q ⟨F, μ, G, σ, S, hσ, hs, h⟩ => ?_
  refine tOf.at hσ hs (Wp.bind h) fun v μ1 G1 H1 S1 vv l s t r q => ?_
  split at q
  · cases r; exact ⟨_, rfl, q.ok t⟩
  · exact q.elim
theorem sl_D : SlR X (fun x lo hi H Q => rSlL X.K x lo hi H Q ∨ rSlS x lo hi H Q) := SlR.or sl_list sl_str
theorem sl_of {g : D → Option Int → Option Int → Sto → R D} {r : V → Option Int → Option Int → Hp → VK → Prop}
    (hg : ∀ (W : XK) (F : Hp) (μ : List Addr) (G H : Hp) (S : Sto) (x : D) (vx : V) (l h : Option Int) (Q : VK), Sit Γ F μ G H S → VR Γ.K μ G x vx → Wp Γ F W μ G (g x l h S) (fun v μ' G' H' _ => ∀ vv, VR Γ.K μ' G' v vv → Q vv H') → r vx l h H Q)
    (hr : SlR X r) (he : VE X Γ W e f) (hl : VO X Γ W lo ol) (hh : VO X Γ W hi oh) : VE X Γ W (.Subscript e (.Slice lo hi none p2) pos) (eSl g f ol oh) := by
  refine PE.imp (pe_slice hr he hl hh) fun σv H Q ⟨F, μ, G, σ, S, hσ, hs, h⟩ => ?_
  refine tOf.at hσ hs (Wp.bind h) fun v μ1 G1 H1 S1 vv l s t r q => ?_
  refine ⟨F, μ1, G1, σ, S1, hσ.mono l s, t, (Wp.bind q).imp fun o μ2 G2 H2 S2 l2 s2 t2 q2 => ?_⟩
  refine ⟨F, μ2, G2, σ, S2, (hσ.mono l s).mono l2 s2, t2, (Wp.bind q2).imp fun o' μ3 G3 H3 S3 l3 s3 t3 q3 => ?_⟩
  exact hg _ _ _ _ _ _ _ _ _ _ _ t3 ((r.mono l2 s2).mono l3 s3) q3
theorem ve_sl (he : VE X Γ W e f) (hl : VO X Γ W lo ol) (hh : VO X Γ W hi oh) (hK : X.K = Γ.K := by rfl) : VE X Γ W (.Subscript e (.Slice lo hi none p2) pos) (eSl gSl f ol oh) := by
  refine sl_of (fun W F μ G H S x vx l h Q t rx q => ?_) sl_D he hl hh
  rw [hK]
  unfold gSl at q
  split at q
  · rename_i z
    cases rx
    split at q
    · exact .inr ⟨z, rfl, by assumption, q.ok t _ (.str _)⟩
    · exact q.elim
  · split at q
    · rename_i ds hd
      obtain ⟨p, vs, rfl, h1, h2⟩ := t.lst rx hd
      exact .inl ⟨p, vs, rfl, h1, t.newL (h2.cut l h) q⟩
    · exact q.elim
theorem ve_slN (he : VE X Γ W e f) (hl : VO X Γ W lo ol) (hh : VO X Γ W hi oh) (hK : X.K = Γ.K := by rfl) : VE X Γ W (.Subscript e (.Slice lo hi none p2) pos) (eSl gSlN f ol oh) := by
  refine sl_of (fun W F μ G H S x vx l h Q t rx q => ?_) sl_list he hl hh
  rw [hK]
  unfold gSlN at q
  split at q
  · rename_i ds hd
    obtain ⟨p, vs, rfl, h1, h2⟩ := t.lst rx hd
    exact ⟨p, vs, rfl, h1, fun p np => new_cell t (h2.cut l h) q np⟩
  · exact q.elim
end

/-! ### built-in calls -/
def CaS (Γ : Gm) (g : List D → Sto → R D) (r : List V → Hp → VK → Prop) : Prop :=
  ∀ (W : XK) (F : Hp) (μ : List Addr) (G H : Hp) (S : Sto) (xs : List D) (vs : List V) (Q : VK), Sit Γ F μ G H S → VRs Γ.K μ G xs vs → Wp Γ F W μ G (g xs S) (fun v μ' G' H' _ => ∀ vv, VR Γ.K μ' G' v vv → Q vv H') → r vs H Q
def eCall (g : List D → Sto → R D) (a : Ax) : Ex := fun σ S => (a σ S).bind g
section
variable {X : Cx} {Γ : Gm} {W : WX} {e o : Expr} {es : List Expr} {f : Ex} {fs : Ax} {p pos apos cpos : Pos} {x name : Str} {id T : String} {g : List D → Sto → R D} {r : List V → Hp → VK → Prop}
theorem tCB_of (hg : CaS Γ g r) {σv : L2.St} {H : Hp} {Q : VK} (h : tOf Γ W (eCall g fs) σv H Q) : tCB r (taOf Γ W fs) σv H Q := by
  obtain ⟨F, μ, G, σ, S, hσ, hs, h⟩ := h
  exact taOf.at hσ hs (Wp.bind h) fun vs μ1 G1 H1 S1 vv l s t r q => hg _ _ _ _ _ _ _ _ _ t r q
theorem ve_cb (hc : CallR X (.builtin id) r) (hs : CaS Γ g r) (hg : Gl X x) (hm : X.mg x = none) (hv : bootBuiltins x = some (.builtin id)) (ha : VA X Γ W (e :: es) fs) (hn : x ≠ "__name__" := by decide) (hdb : (x == ("__debug__" : Str)) = false := by decide)
    (he : starEach (e :: es) X.env = (false, eval e X.env) :: starEach es X.env := by rfl) (hpl : (backTo pos (starEach es X.env)).any (·.1) = false := by rfl) : VE X Γ W (.Call (.Name x p) (e :: es) [] pos) (eCall g fs) :=
  PE.imp (pe_callB hc hg hm hv ha hn hdb he hpl) fun _ _ _ h => tCB_of hs h
theorem ve_cty (hc : CallR X (.type T) r) (hs : CaS Γ g r) (hg : Gl X x) (hm : X.mg x = none) (hv : bootBuiltins x = some (.type T)) (ha : VA X Γ W (e :: es) fs) (hn : x ≠ "__name__" := by decide) (hdb : (x == ("__debug__" : Str)) = false := by decide)
    (he : starEach (e :: es) X.env = (false, eval e X.env) :: starEach es X.env := by rfl) (hpl : (backTo pos (starEach es X.env)).any (·.1) = false := by rfl) : VE X Γ W (.Call (.Name x p) (e :: es) [] pos) (eCall g fs) :=
  PE.imp (pe_callTy hc hg hm hv ha hn hdb he hpl) fun _ _ _ h => tCB_of hs h
/-- len -/
def gLen (xs : List D) (S : Sto) : R D := match xs with
  | [.str z] => if z.length ≤ sizeLine then .ok (.int z.length) S else .no
  | [x] => match seqOf S x with
    | some ds => .ok (.int ds.length) S
    | none => .no
  | _ => .no
theorem cs_len : CaS Γ gLen (fun xs H Q => ∃ x n, xs = [x] ∧ LenV Γ.K x H n ∧ Q (.int n) H) := by
  intro W F μ G H S xs vs Q t rs q
  unfold gLen at q
  split at q
  · rename_i z
    cases rs with
    | cons r1 r2 =>
      cases r2; cases r1
      split at q
      · exact ⟨_, z.length, rfl, ⟨by assumption, rfl⟩, q.ok t _ (.int _)⟩
      · exact q.elim
  · cases rs with
    | cons r1 r2 =>
      cases r2
      split at q
      · rename_i ds hd
        unfold seqOf at hd
        split at hd
        · cases hd
          obtain ⟨p, vs, rfl, h1, _, h2⟩ := t.tup r1
          exact ⟨_, ds.length, rfl, .inr ⟨vs, h1, h2.length⟩, q.ok t _ (.int _)⟩
        · obtain ⟨p, vs, rfl, h1, h2⟩ := t.lst r1 hd
          exact ⟨_, ds.length, rfl, .inl ⟨vs, h1, h2.length⟩, q.ok t _ (.int _)⟩
      · exact q.elim
  · exact q.elim
theorem ve_len (hm : X.mg "len" = none) (ha : VE X Γ W e f) (hg : Gl X "len" := by rfl) (hK : X.K = Γ.K := by rfl) (hs : starEach (e :: []) X.env = (false, eval e X.env) :: starEach [] X.env := by rfl) (hpl : (backTo pos (starEach [] X.env)).any (·.1) = false := by rfl) :
    VE X Γ W (.Call (.Name "len" p) [e] [] pos) (eCall gLen (aCons f aNil)) := ve_cb (id := "len") call_len (hK ▸ cs_len) hg hm PySem.boot_len (va_cons ha va_nil hs) (by decide) (by decide) hs hpl
/-- isinstance(x, T), T a built-in type -/
def tyName (S : Sto) : D → Option String
  | .non => some "NoneType"
  | .bl _ => some "bool"
  | .int _ => some "int"
  | .str _ => some "str"
  | .tup _ => some "tuple"
  | .lst _ => some "list"
  | .scr _ => none
  | .cell k => match S[k]? with
    | some (some (.lst _)) => some "list"
    | some (some (.dct _)) => some "dict"
    | _ => none
def gIsT (T : String) (x : D) (S : Sto) : R D := match tyName S x with
  | some n => .ok (.bl (n == T || (n == "bool" && T == "int"))) S
  | none => .no
theorem tyName_ok {W : XK} {F : Hp} {μ : List Addr} {G H : Hp} {S : Sto} {d : D} {v : V} {n : String} (t : Sit Γ F μ G H S) (r : VR Γ.K μ G d v) (h : tyName S d = some n) : TyX Γ.K H v (.type n) := by
  cases r with
  | non => simp [tyName] at h; subst h; exact .base .non
  | bl b => simp [tyName] at h; subst h; exact .base (.bl b)
  | int i => simp [tyName] at h; subst h; exact .base (.int i)
  | str i => simp [tyName] at h; subst h; exact .base (.str i)
  | tup h1 _ => simp [tyName] at h; subst h; exact .base (.tup (t.sub _ _ h1))
  | lst h1 _ => simp [tyName] at h; subst h; exact .base (.lst (t.sub _ _ h1))
  | scr _ => simp [tyName] at h
  | cell hk =>
    simp only [tyName] at h
    split at h
    · rename_i hs
      cases h
      obtain ⟨a, ha, vs, h1, _⟩ := t.at_ _ _ hs
      rw [hk] at ha; cases ha
      exact .base (.lst h1)
    · rename_i hs
      cases h
      obtain ⟨a, ha, vs, h1, _⟩ := t.at_ _ _ hs
      rw [hk] at ha; cases ha
      exact .base (.dK h1)
    · cases h
def tyNames : List String := ["NoneType", "bool", "int", "str", "tuple", "list", "dict"]
theorem tyName_mem {S : Sto} {d : D} {n : String} (h : tyName S d = some n) : n ∈ tyNames := by
  cases d with
  | cell k =>
    simp only [tyName] at h
    split at h
    · cases h; decide
    · cases h; decide
    · cases h
  | scr _ => simp [tyName] at h
  | _ => (simp [tyName] at h; subst h; decide)
theorem ve_isT {T : String} {p2 : Pos} (hc : VE X Γ W e f) (hT : ∀ n ∈ tyNames, kitB n T = some (n == T || (n == "bool" && T == "int"))) (hv : bootBuiltins (Str.ofString T) = some (.type T)) (hm : X.mg (Str.ofString T) = none) (hmi : X.mg "isinstance" = none) (hg : Gl X (Str.ofString T)) (hgi : Gl X "isinstance" := by rfl)
    (hn : (Str.ofString T) ≠ "__name__") (hd : ((Str.ofString T) == ("__debug__" : Str)) = false)
    (hK : X.K = Γ.K := by rfl)
    (hs : starEach (e :: [.Name (Str.ofString T) p2]) X.env = (false, eval e X.env) :: starEach [.Name (Str.ofString T) p2] X.env := by rfl) :
    VE X Γ W (.Call (.Name "isinstance" p) [e, .Name (Str.ofString T) p2] [] pos) (op1 (gIsT T) f) := by
  refine PE.imp (pe_callB (id := "isinstance") call_isi hgi hmi (by decide +kernel) (pa_cons hc (pa_cons (pe_bltn (v := .ty T) hg hm hv rfl hn hd) pa_nil) hs) (by decide) (by decide) hs rfl) fun σv H Q ⟨F, μ, G, σ, S, hσ, hs, h⟩ => ?_
  refine tOf.at hσ hs (Wp.bind h) fun v μ1 G1 H1 S1 vv l s t r q => ?_
  unfold gIsT at q
  split at q
  · rename_i n hn
    have ty := tyName_ok (W := fun _ _ _ => True) t r hn
    rw [← hK] at ty
    exact ⟨vv, .ty T, .type n, .type T, _, rfl, .ty T, ty, kit_ty (hT n (tyName_mem hn)), q.ok t _ (.bl _)⟩
  · exact q.elim
end

/-! ### lists' methods -/
def gAppend (x : D) (ys : List D) (S : Sto) : R D := match x, ys with
  | .cell k, [y] => (match S[k]? with
    | some (some (.lst ds)) => if ds.length < sizeLine then .ok .non (S.set k (some (.lst (ds ++ [y])))) else .no
    | _ => .no)
  | _, _ => .no
def gExtend (x : D) (ys : List D) (S : Sto) : R D := match x, ys with
  | .cell k, [y] => (match S[k]?, lstOf' S y with
    | some (some (.lst ds)), some es => if ds.length + es.length ≤ sizeLine then .ok .non (S.set k (some (.lst (ds ++ es)))) else .no
    | _, _ => .no)
  | _, _ => .no
def gPop (x : D) (ys : List D) (S : Sto) : R D := match x, ys with
  | .cell k, [] => (match S[k]? with
    | some (some (.lst ds)) => (match ds[ds.length - 1]? with
      | some d => .ok d (S.set k (some (.lst ds.dropLast)))
      | none => .no)
    | _ => .no)
  | _, _ => .no
def MeS (Γ : Gm) (T : String) (g : D → List D → Sto → R D) (r : V → List V → Hp → VK → Prop) : Prop :=
  ∀ (W : XK) (F : Hp) (μ : List Addr) (G H : Hp) (S : Sto) (x : D) (vx : V) (ys : List D) (vs : List V) (Q : VK), Sit Γ F μ G H S → VR Γ.K μ G x vx → VRs Γ.K μ G ys vs → Wp Γ F W μ G (g x ys S) (fun v μ' G' H' _ => ∀ vv, VR Γ.K μ' G' v vv → Q vv H') → r vx vs H Q
/-- the receiver's kind is looked at ahead of the arguments -/
def isTy (T : String) (x : D) (S : Sto) : Bool := match x with
  | .str _ => T == "str"
  | .lst _ => T == "list"
  | .cell k => match S[k]? with
    | some (some (.lst _)) => T == "list"
    | some (some (.dct _)) => T == "dict"
    | _ => false
  | _ => false
def eMeth (T : String) (g : D → List D → Sto → R D) (f : Ex) (a : Ax) : Ex := fun σ S => (f σ S).bind fun x S1 => if isTy T x S1 = true then (a σ S1).bind fun ys S2 => g x ys S2 else .no
theorem VRs.dropLast {Γ : Gm} {μ : List Addr} {G : Hp} {ds : List D} {vs : List V} (h : VRs Γ.K μ G ds vs) : VRs Γ.K μ G ds.dropLast vs.dropLast := by
  rw [List.dropLast_eq_take, List.dropLast_eq_take, h.length]
  exact h.take _
section
variable {X : Cx} {Γ : Gm} {W : WX} {e o : Expr} {es : List Expr} {f : Ex} {fs : Ax} {p pos apos cpos : Pos} {x name : Str} {id T : String} {g : D → List D → Sto → R D} {r : V → List V → Hp → VK → Prop}
theorem isTy_ok {F : Hp} {μ : List Addr} {G H : Hp} {S : Sto} {d : D} {v : V} (t : Sit Γ F μ G H S) (r : VR Γ.K μ G d v) (h : isTy T d S = true) : tyV Γ.K T v H := by
  cases r with
  | str x => exact (show T = "str" by simpa [isTy] using h)
  | lst h1 _ => exact .inl ⟨by simpa [isTy] using h, _, .inl (.inl (t.sub _ _ h1))⟩
  | cell hk =>
    simp only [isTy] at h
    split at h
    · rename_i hs
      obtain ⟨a, ha, vs, h1, _⟩ := t.at_ _ _ hs
      rw [hk] at ha; cases ha
      exact .inl ⟨by simpa using h, _, .inl (.inl h1)⟩
    · rename_i hs
      obtain ⟨a, ha, vs, h1, _⟩ := t.at_ _ _ hs
      rw [hk] at ha; cases ha
      exact .inr (.inr (.inl ⟨by simpa using h, .inl ⟨_, h1⟩⟩))
    · cases h
  | _ => simp [isTy] at h
theorem ve_bm (pa : PlainAttrs T) (slot : Slot T name id) (hty : typeOf (.builtin id) = pure (.type "method_descriptor")) (hm : MtR X id r) (hS : MeS Γ T g r) (ho : VE X Γ W o f) (ha : VA X Γ W (e :: es) fs) (hK : X.K = Γ.K := by rfl)
    (hbase : attributeBase o name X.env (eval o X.env) = eval o X.env := by rfl)
    (hfew : ((backTo cpos (starEach (e :: es) X.env)).all (fun x => !x.1) && (backToKw cpos (keywordEach [] X.env)).all (fun x => x.1.isSome)
      && decide ((e :: es).length + ([] : List Keyword).length + (if ([] : List Keyword).isEmpty then 0 else 1) < 30)) = true := by rfl)
    (hline : (apos.endLine == cpos.line) = true := by rfl) (hs : starEach (e :: es) X.env = (false, eval e X.env) :: starEach es X.env := by rfl) (hplain : (backTo cpos (starEach es X.env)).any (·.1) = false := by rfl) :
    VE X Γ W (.Call (.Attribute o name apos) (e :: es) [] cpos) (eMeth T g f fs) := by
  refine PE.imp (pe_bm pa slot hty hm ho ha hbase hfew hline hs hplain) fun σv H Q ⟨F, μ, G, σ, S, hσ, hs, h⟩ => ?_
  refine tOf.at hσ hs (Wp.bind h) fun v μ1 G1 H1 S1 vv l s t r q => ?_
  split at q
  · rename_i hi
    refine ⟨by rw [hK]; exact isTy_ok t r hi, ?_⟩
    exact taOf.at (hσ.mono l s) t (Wp.bind q) fun vs μ2 G2 H2 S2 ws l2 s2 t2 r2 q2 => hS _ _ _ _ _ _ _ _ _ _ _ t2 (r.mono l2 s2) r2 q2
  · exact q.elim
theorem ve_bm0 (pa : PlainAttrs T) (slot : Slot T name id) (hty : typeOf (.builtin id) = pure (.type "method_descriptor")) (hm : MtR X id r) (hS : MeS Γ T g r) (ho : VE X Γ W o f) (hK : X.K = Γ.K := by rfl)
    (hbase : attributeBase o name X.env (eval o X.env) = eval o X.env := by rfl) (hline : (apos.endLine == cpos.line) = true := by rfl) : VE X Γ W (.Call (.Attribute o name apos) [] [] cpos) (eMeth T g f aNil) := by
  refine PE.imp (pe_bm0 pa slot hty hm ho hbase hline) fun σv H Q ⟨F, μ, G, σ, S, hσ, hs, h⟩ => ?_
  refine tOf.at hσ hs (Wp.bind h) fun v μ1 G1 H1 S1 vv l s t r q => ?_
  split at q
  · rename_i hi
    exact ⟨by rw [hK]; exact isTy_ok t r hi, hS _ _ _ _ _ _ _ _ _ _ _ t r .nil q⟩
  · exact q.elim
theorem ms_append : MeS Γ "list" gAppend rAppend := by
  intro W F μ G H S x vx ys vs Q t rx rs q
  unfold gAppend at q
  split at q
  · rename_i k y
    split at q
    · rename_i ds hk
      split at q
      · rename_i hz
        cases rs with
        | cons r1 r2 =>
          cases r2
          cases rx with
          | cell ha =>
            obtain ⟨a, ha', vs, h1, h2⟩ := t.at_ _ _ hk
            rw [ha] at ha'; cases ha'
            refine ⟨_, vs, _, rfl, rfl, h1, by rw [← h2.length]; exact hz, ?_⟩
            exact q _ _ _ (Le.refl _) (Same.refl _) (t.write _ hk ha (fun b hb => upd_ne hb) ⟨_, upd_same, h2.append (.cons r1 .nil)⟩) _ .non
      · exact q.elim
    · exact q.elim
  · exact q.elim
theorem ms_extend : MeS Γ "list" gExtend rExtend := by
  intro W F μ G H S x vx ys vs Q t rx rs q
  unfold gExtend at q
  split at q
  · rename_i k y
    split at q
    · rename_i ds es hk he
      split at q
      · rename_i hz
        cases rs with
        | cons r1 r2 =>
          cases r2
          cases rx with
          | cell ha =>
            obtain ⟨a, ha', vs, h1, h2⟩ := t.at_ _ _ hk
            rw [ha] at ha'; cases ha'
            obtain ⟨b, ws, rfl, h3, h4⟩ := t.lst' r1 he
            refine ⟨_, b, vs, ws, rfl, rfl, h1, h3, by rw [← h2.length, ← h4.length]; exact hz, ?_⟩
            exact q _ _ _ (Le.refl _) (Same.refl _) (t.write _ hk ha (fun b hb => upd_ne hb) ⟨_, upd_same, h2.append h4⟩) _ .non
      · exact q.elim
    · exact q.elim
  · exact q.elim
theorem ms_pop : MeS Γ "list" gPop rPop := by
  intro W F μ G H S x vx ys vs Q t rx rs q
  unfold gPop at q
  split at q
  · rename_i k
    split at q
    · rename_i ds hk
      split at q
      · rename_i d hd
        cases rs
        cases rx with
        | cell ha =>
          obtain ⟨a, ha', vs, h1, h2⟩ := t.at_ _ _ hk
          rw [ha] at ha'; cases ha'
          rw [h2.length] at hd
          obtain ⟨y, e1, r1⟩ := h2.get hd
          refine ⟨_, vs, y, rfl, rfl, h1, e1, ?_⟩
          exact q _ _ _ (Le.refl _) (Same.refl _) (t.write _ hk ha (fun b hb => upd_ne hb) ⟨_, upd_same, h2.dropLast⟩) _ (r1)
      · exact q.elim
    · exact q.elim
  · exact q.elim
theorem ve_append (ho : VE X Γ W o f) (ha : VE X Γ W e fa) (hK : X.K = Γ.K := by rfl) (hbase : attributeBase o "append" X.env (eval o X.env) = eval o X.env := by rfl)
    (hfew : ((backTo cpos (starEach [e] X.env)).all (fun x => !x.1) && (backToKw cpos (keywordEach [] X.env)).all (fun x => x.1.isSome)
      && decide ([e].length + ([] : List Keyword).length + (if ([] : List Keyword).isEmpty then 0 else 1) < 30)) = true := by rfl)
    (hline : (apos.endLine == cpos.line) = true := by rfl) (hs : starEach [e] X.env = (false, eval e X.env) :: starEach [] X.env := by rfl) (hplain : (backTo cpos (starEach [] X.env)).any (·.1) = false := by rfl) :
    VE X Γ W (.Call (.Attribute o "append" apos) [e] [] cpos) (eMeth "list" gAppend f (aCons fa aNil)) :=
  ve_bm PySem.F.plainAttrs_list PySem.F.slot_list_append PySem.F.type_list_append mt_append ms_append ho (va_cons ha va_nil hs) hK hbase hfew hline hs hplain
theorem ve_extend (ho : VE X Γ W o f) (ha : VE X Γ W e fa) (hK : X.K = Γ.K := by rfl) (hbase : attributeBase o "extend" X.env (eval o X.env) = eval o X.env := by rfl)
    (hfew : ((backTo cpos (starEach [e] X.env)).all (fun x => !x.1) && (backToKw cpos (keywordEach [] X.env)).all (fun x => x.1.isSome)
      && decide ([e].length + ([] : List Keyword).length + (if ([] : List Keyword).isEmpty then 0 else 1) < 30)) = true := by rfl)
    (hline : (apos.endLine == cpos.line) = true := by rfl) (hs : starEach [e] X.env = (false, eval e X.env) :: starEach [] X.env := by rfl) (hplain : (backTo cpos (starEach [] X.env)).any (·.1) = false := by rfl) :
    VE X Γ W (.Call (.Attribute o "extend" apos) [e] [] cpos) (eMeth "list" gExtend f (aCons fa aNil)) :=
  ve_bm PySem.F.plainAttrs_list PySem.F.slot_list_extend PySem.F.type_list_extend mt_extend ms_extend ho (va_cons ha va_nil hs) hK hbase hfew hline hs hplain
theorem ve_pop (ho : VE X Γ W o f) (hK : X.K = Γ.K := by rfl) (hbase : attributeBase o "pop" X.env (eval o X.env) = eval o X.env := by rfl) (hline : (apos.endLine == cpos.line) = true := by rfl) :
    VE X Γ W (.Call (.Attribute o "pop" apos) [] [] cpos) (eMeth "list" gPop f aNil) :=
  ve_bm0 PySem.F.plainAttrs_list PySem.F.slot_list_pop PySem.F.type_list_pop mt_pop ms_pop ho hK hbase hline
end
end Ev

/-! Ev, the rules, part 4: statements, targets, loops, comprehensions. -/
namespace Ev
open PySem PySem.Spec PyProof.Rows L2

/-! ### statements -/
def SO.of {α : Type} (r : R α) (σ : Env) (k : α → Sto → SO) : SO := match r with
  | .no => .no
  | .ok v S => k v S
  | .ex c a S => .ex c a σ S
@[simp] theorem SO.of_no {α : Type} (σ : Env) (k : α → Sto → SO) : SO.of (.no : R α) σ k = .no := rfl
@[simp] theorem SO.of_ok {α : Type} (σ : Env) (v : α) (S : Sto) (k : α → Sto → SO) : SO.of (.ok v S) σ k = k v S := rfl
@[simp] theorem SO.of_ex {α : Type} (σ : Env) (c : Nat) (a : Option D) (S : Sto) (k : α → Sto → SO) : SO.of (.ex c a S : R α) σ k = .ex c a σ S := rfl
theorem Wps.of {α : Type} {Γ : Gm} {F : Hp} {W : WX} {μ : List Addr} {G H : Hp} {r : R α} {σ : Env} {σv : L2.St} {S : Sto} {k : α → Sto → SO} {E : Ends} (h : Wps Γ F W μ G (SO.of r σ k) E) (hσ : SR Γ.K μ G σ σv) :
    Wp Γ F (fun c d H' => W c d σv H') μ G r fun v μ' G' _ S' => Wps Γ F W μ' G' (k v S') E := by
  cases r with
  | no => exact h
  | ok v S' => exact fun μ' G' H' l s t => h.mono l s
  | ex c a S' => exact fun μ' G' H' l s t d x => h μ' G' H' l s t σv d (hσ.mono l s) x
def sSeq (f g : Sx) : Sx := fun σ S => match f σ S with
  | .nx σ' S' => g σ' S'
  | r => r
def sNil : Sx := fun σ S => .nx σ S
def sExp (f : Ex) : Sx := fun σ S => SO.of (f σ S) σ fun _ S1 => .nx σ S1
def sRet (f : Ex) : Sx := fun σ S => SO.of (f σ S) σ fun v S1 => .rt v S1
def sRetN : Sx := fun _ S => .rt .non S
def sIf (t : Tx) (f g : Sx) : Sx := fun σ S => SO.of (t σ S) σ fun b S1 => if b = true then f σ S1 else g σ S1
def sAsg (i : Nat) (f : Ex) : Sx := fun σ S => SO.of (f σ S) σ fun v S1 => .nx (σ.set i (some v)) S1
def sNo : Sx := fun _ _ => .no
def sBrk : Sx := fun σ S => .bk σ S
def sCnt : Sx := fun σ S => .ct σ S
/-- a local's list is frozen -/
def sFrz (i : Nat) : Sx := fun σ S => match σ[i]? with
  | some (some d) => SO.of (frzD d S) σ fun v S1 => .nx (σ.set i (some v)) S1
  | _ => .no
section
variable {X : Cx} {Γ : Gm} {W : WX} {st : Stmt} {rest : List Stmt} {e c : Expr} {f : Ex} {t : Tx} {g h : Sx} {pos : Pos}
theorem Wps.seq {F : Hp} {μ : List Addr} {G : Hp} {σ : Env} {S : Sto} {E : Ends} (q : Wps Γ F W μ G (sSeq g h σ S) E) : Wps Γ F W μ G (g σ S) { E with nx := tsOf Γ W h E } := by
  unfold sSeq at q
  cases hg : g σ S with
  | no => rw [hg] at q; exact q
  | nx σ' S' =>
    rw [hg] at q
    exact fun μ' G' H' l s t σv' hσ => ⟨F, μ', G', σ', S', hσ, t, q.mono l s⟩
  | rt v S' => rw [hg] at q; exact q
  | bk σ' S' => rw [hg] at q; exact q
  | ct σ' S' => rw [hg] at q; exact q
  | ex c a σ' S' => rw [hg] at q; exact q
theorem vss_nil : VSs X Γ W [] sNil := PSs.imp pss_nil fun D σv H ⟨F, μ, G, σ, S, hσ, hs, h⟩ => h _ _ _ (Le.refl _) (Same.refl _) hs _ hσ
theorem vss_cons (h1 : VS X Γ W st g) (h2 : VSs X Γ W rest h) : VSs X Γ W (st :: rest) (sSeq g h) :=
  PSs.imp (pss_cons h1 h2) fun D σv H ⟨F, μ, G, σ, S, hσ, hs, h⟩ => ⟨F, μ, G, σ, S, hσ, hs, h.seq⟩
theorem vss_one (h1 : VS X Γ W st g) : VSs X Γ W [st] g := pss_one h1
theorem vs_pass : VS X Γ W (.Pass pos) sNil := PS.imp ps_pass fun D σv H ⟨F, μ, G, σ, S, hσ, hs, h⟩ => h _ _ _ (Le.refl _) (Same.refl _) hs _ hσ
theorem vs_break : VS X Γ W (.Break pos) sBrk := PS.imp ps_break fun D σv H ⟨F, μ, G, σ, S, hσ, hs, h⟩ => h _ _ _ (Le.refl _) (Same.refl _) hs _ hσ
theorem vs_continue : VS X Γ W (.Continue pos) sCnt := PS.imp ps_continue fun D σv H ⟨F, μ, G, σ, S, hσ, hs, h⟩ => h _ _ _ (Le.refl _) (Same.refl _) hs _ hσ
theorem vs_never : VS X Γ W st sNo := PS.imp ps_never fun D σv H ⟨F, μ, G, σ, S, hσ, hs, h⟩ => h
theorem vss_never {sts : List Stmt} : VSs X Γ W sts sNo := PSs.imp pss_never fun D σv H ⟨F, μ, G, σ, S, hσ, hs, h⟩ => h
theorem vs_exp (he : VE X Γ W e f) (hs : swapsWith e none pos.line X.env = pure false := by rfl) : VS X Γ W (.Expr e pos) (sExp f) := by
  refine PS.imp (ps_expr he hs) fun D σv H ⟨F, μ, G, σ, S, hσ, hs, h⟩ => ?_
  exact tOf.at hσ hs (Wps.of (H := H) (S := S) h hσ) fun v μ1 G1 H1 S1 vv l s t r q => q _ _ _ (Le.refl _) (Same.refl _) t _ (hσ.mono l s)
theorem vs_ret (he : VE X Γ W e f) : VS X Γ W (.Return (some e) pos) (sRet f) := by
  refine PS.imp (ps_ret he) fun D σv H ⟨F, μ, G, σ, S, hσ, hs, h⟩ => ?_
  exact tOf.at hσ hs (Wps.of (H := H) (S := S) h hσ) fun v μ1 G1 H1 S1 vv l s t r q => q _ _ _ (Le.refl _) (Same.refl _) t _ r
theorem vs_retN : VS X Γ W (.Return none pos) sRetN := PS.imp ps_retN fun D σv H ⟨F, μ, G, σ, S, hσ, hs, h⟩ => h _ _ _ (Le.refl _) (Same.refl _) hs _ .non
theorem vs_if {a b : List Stmt} (hc : VT X Γ W c t) (ha : VSs X Γ W a g) (hb : VSs X Γ W b h) : VS X Γ W (.If c a b pos) (sIf t g h) := by
  refine PS.imp (ps_if hc ha hb) fun D σv H ⟨F, μ, G, σ, S, hσ, hs, h⟩ => ?_
  refine ttOf.at hσ hs (Wps.of (H := H) (S := S) h hσ) fun v μ1 G1 H1 S1 l s t q => ?_
  split
  · rename_i hv; rw [if_pos hv] at q; exact ⟨F, μ1, G1, σ, S1, hσ.mono l s, t, q⟩
  · rename_i hv; rw [if_neg hv] at q; exact ⟨F, μ1, G1, σ, S1, hσ.mono l s, t, q⟩
theorem vs_set {i : Nat} {x : Str} {pos' : Pos} (hN : X.N.Nodup) (he : VE X Γ W e f) (hi : X.N[i]? = some x := by rfl) (hx : Loc X.env.scope x := by first | exact Or.inl rfl | exact Or.inr rfl) (hs : swapsWith e (some (.Name x pos')) pos.line X.env = pure false := by rfl)
    (hf : X.fn x = true ∨ X.env.scope.names.lookup x = some .local := by first | exact .inl rfl | exact .inr rfl | assumption) : VS X Γ W (.Assign [.Name x pos'] e pos) (sAsg i f) := by
  refine PS.imp (ps_set hN hi hx he hs hf) fun D σv H ⟨F, μ, G, σ, S, hσ, hs, h⟩ => ?_
  exact tOf.at hσ hs (Wps.of (H := H) (S := S) h hσ) fun v μ1 G1 H1 S1 vv l s t r q => q _ _ _ (Le.refl _) (Same.refl _) t _ ((hσ.mono l s).set r i)
/-- ahead of some statements a local's list is frozen -/
theorem vss_frz {sts : List Stmt} (i : Nat) (h1 : VSs X Γ W sts h) : VSs X Γ W sts (sSeq (sFrz i) h) := by
  refine PSs.imp h1 fun D σv H ⟨F, μ, G, σ, S, hσ, hs, q⟩ => ?_
  unfold sSeq sFrz at q
  cases hi : σ[i]? with
  | none => rw [hi] at q; exact q.elim
  | some o =>
    cases o with
    | none => rw [hi] at q; exact q.elim
    | some d =>
      rw [hi] at q
      obtain ⟨v, e1, r⟩ := hσ.get hi
      have hset : ∀ (σv : L2.St) (i : Nat) (v : V), σv[i]? = some (some v) → σv.set i (some v) = σv := fun σv i v e => by
        obtain ⟨hl, e⟩ := List.getElem?_eq_some_iff.mp e
        apply List.ext_getElem (by simp)
        intro j h1 h2
        rw [List.getElem_set]
        split
        · rename_i z; subst z; exact e.symm
        · rfl
      cases d with
      | cell k =>
        simp only [frzD] at q
        cases hk : S[k]? with
        | none => rw [hk] at q; exact q.elim
        | some oc =>
          rw [hk] at q
          cases oc with
          | none => exact q.elim
          | some c =>
            cases c with
            | lst ds =>
              cases r with
              | cell ha =>
                obtain ⟨a', G', ha', sg, t', r'⟩ := hs.freeze hk
                rw [ha] at ha'; cases ha'
                have hh := (hσ.mono (Le.refl _) sg).set r' i
                rw [hset _ _ _ e1] at hh
                exact ⟨F, μ, G', _, _, hh, t', q.mono (Le.refl _) sg⟩
            | ins _ _ => exact q.elim
            | dct _ => exact q.elim
            | exn _ _ => exact q.elim
      | _ =>
        have hh := hσ.set r i
        rw [hset _ _ _ e1] at hh
        exact ⟨F, μ, G, _, _, hh, hs, q⟩
end

/-! ### targets -/
abbrev Hx := D → Env → Option Env
abbrev Hxs := List D → Env → Option Env
def hName (i : Nat) : Hx := fun d σ => some (σ.set i (some d))
def hNil : Hxs := fun ds σ => match ds with
  | [] => some σ
  | _ => none
def hCons (h : Hx) (hs : Hxs) : Hxs := fun ds σ => match ds with
  | d :: r => (h d σ).bind fun σ' => hs r σ'
  | _ => none
def hTup (n : Nat) (hs : Hxs) : Hx := fun d σ => match d with
  | .tup ds => if ds.length = n then hs ds σ else none
  | _ => none
/-- the slots but those of ws are as they were -/
def Agr (ws : List Nat) (σv σv' : L2.St) : Prop := σv'.length = σv.length ∧ ∀ i : Nat, i ∉ ws → σv'[i]? = σv[i]?
theorem Agr.refl (ws : List Nat) (σv : L2.St) : Agr ws σv σv := ⟨rfl, fun _ _ => rfl⟩
theorem Agr.trans {ws ws' : List Nat} {a b c : L2.St} (h : Agr ws a b) (h' : Agr ws' b c) : Agr (ws ++ ws') a c := ⟨h'.1.trans h.1, fun i hi => by
  rw [List.mem_append, not_or] at hi
  exact (h'.2 i hi.2).trans (h.2 i hi.1)⟩
def tgOf (Γ : Gm) (h : Hx) (ws : List Nat) : TG := fun v σv H Q => ∃ F μ G S d σ σ', VR Γ.K μ G d v ∧ SR Γ.K μ G σ σv ∧ Sit Γ F μ G H S ∧ h d σ = some σ' ∧ ∀ σv', SR Γ.K μ G σ' σv' → Agr ws σv σv' → Q σv' H
def tgsOf (Γ : Gm) (h : Hxs) (ws : List Nat) : TGs := fun vs σv H Q => ∃ F μ G S ds σ σ', VRs Γ.K μ G ds vs ∧ SR Γ.K μ G σ σv ∧ Sit Γ F μ G H S ∧ h ds σ = some σ' ∧ ∀ σv', SR Γ.K μ G σ' σv' → Agr ws σv σv' → Q σv' H
abbrev VG (X : Cx) (Γ : Gm) (e : Expr) (h : Hx) (ws : List Nat) : Prop := PG X e (tgOf Γ h ws)
abbrev VGs (X : Cx) (Γ : Gm) (es : List Expr) (h : Hxs) (ws : List Nat) : Prop := PGs X es (tgsOf Γ h ws)
section
variable {X : Cx} {Γ : Gm} {W : WX} {e tg : Expr} {es : List Expr} {f : Ex} {h : Hx} {hs : Hxs} {ws ws' : List Nat} {pos : Pos}
theorem PG.imp {t t' : TG} (h : PG X e t) (i : ∀ v σ H Q, t' v σ H Q → t v σ H Q) : PG X e t' := ⟨fun pins s σ H v u Q I r q => h.run pins s σ H v u Q I r (i v σ H Q q)⟩
theorem PGs.imp {t t' : TGs} (h : PGs X es t) (i : ∀ v σ H Q, t' v σ H Q → t v σ H Q) : PGs X es t' := ⟨fun pins s σ H v u Q I r q => h.run pins s σ H v u Q I r (i v σ H Q q)⟩
theorem vg_name {i : Nat} {x : Str} (hN : X.N.Nodup) (hi : X.N[i]? = some x := by rfl) (hx : Loc X.env.scope x := by first | exact Or.inl rfl | exact Or.inr rfl) (hf : X.fn x = true ∨ X.env.scope.names.lookup x = some .local := by first | exact .inl rfl | exact .inr rfl | assumption) : VG X Γ (.Name x pos) (hName i) [i] := by
  refine PG.imp (pg_name hN hi hx hf) fun v σv H Q ⟨F, μ, G, S, d, σ, σ', r, hσ, t, e, q⟩ => ?_
  cases e
  exact q _ (hσ.set r i) ⟨by simp, fun j hj => by rw [List.getElem?_set_ne (fun z => hj (by simp [z]))]⟩
theorem vgs_nil : VGs X Γ [] hNil [] := by
  refine PGs.imp pgs_nil fun v σv H Q ⟨F, μ, G, S, d, σ, σ', r, hσ, t, e, q⟩ => ?_
  unfold hNil at e
  split at e
  · cases e; cases r; exact ⟨rfl, q _ hσ (Agr.refl _ _)⟩
  · cases e
theorem vgs_cons (h1 : VG X Γ e h ws) (h2 : VGs X Γ es hs ws') (hz : (assignEach (e :: es) X.env).map (·.2) = assign e X.env :: (assignEach es X.env).map (·.2) := by rfl) : VGs X Γ (e :: es) (hCons h hs) (ws ++ ws') := by
  refine PGs.imp (pgs_cons h1 h2 hz) fun v σv H Q ⟨F, μ, G, S, d, σ, σ', r, hσ, t, e, q⟩ => ?_
  unfold hCons at e
  split at e
  · rename_i d ds
    rw [Option.bind_eq_some_iff] at e
    obtain ⟨σ1, e1, e2⟩ := e
    cases r with
    | cons r1 r2 => exact ⟨_, _, rfl, F, μ, G, S, d, σ, σ1, r1, hσ, t, e1, fun σv1 hσ1 ag => ⟨F, μ, G, S, ds, σ1, σ', r2, hσ1, t, e2, fun σv2 hσ2 ag2 => q σv2 hσ2 (ag.trans ag2)⟩⟩
  · cases e
theorem vg_tup {k : Nat} {n : Nat} (hc : X.calm = true) (h : VGs X Γ es hs ws) (hK : X.K = Γ.K := by rfl) (hn : (assignEach es X.env).length = n := by rfl) (hst : (assignEach es X.env).findIdx? (·.1) = none := by rfl) : VG X Γ (.Tuple es k pos) (hTup n hs) ws := by
  refine PG.imp (pg_tup hc h hn hst) fun v σv H Q ⟨F, μ, G, S, d, σ, σ', r, hσ, t, e, q⟩ => ?_
  unfold hTup at e
  split at e
  · rename_i ds
    split at e
    · rename_i hl
      obtain ⟨a, vs, rfl, h1, _, h2⟩ := t.tup r
      refine ⟨a, vs, rfl, by rw [hK]; exact h1, ?_, F, μ, G, S, ds, σ, σ', h2, hσ, t, e, q⟩
      rw [← h2.length, hl]
    · cases e
  · cases e
def sTgt (h : Hx) (f : Ex) : Sx := fun σ S => SO.of (f σ S) σ fun v S1 => match h v σ with
  | some σ' => .nx σ' S1
  | none => .no
theorem vs_asg (he : VE X Γ W e f) (hg : VG X Γ tg h ws) (hs : swapsWithSole [tg] e pos.line X.env = pure false := by rfl) (hw : swappedStores [tg] e X.env = pure none := by rfl)
    (h1 : (assignEach [tg] X.env).map (·.2) = [assign tg X.env] := by rfl) : VS X Γ W (.Assign [tg] e pos) (sTgt h f) := by
  refine PS.imp (ps_asg he hg hs hw h1) fun D σv H ⟨F, μ, G, σ, S, hσ, hs, h⟩ => ?_
  refine tOf.at hσ hs (Wps.of (H := H) (S := S) h hσ) fun v μ1 G1 H1 S1 vv l s t r q => ?_
  split at q
  · rename_i σ' e
    exact ⟨F, μ1, G1, S1, v, σ, σ', r, hσ.mono l s, t, e, fun σv' h' _ => q _ _ _ (Le.refl _) (Same.refl _) t _ h'⟩
  · exact q.elim
/-- xs[i] = e -/
def sIx (fv fo fi : Ex) : Sx := fun σ S => SO.of (fv σ S) σ fun v S1 => SO.of (fo σ S1) σ fun o S2 => SO.of (fi σ S2) σ fun i S3 => match o, i with
  | .cell k, .int n => (match S3[k]? with
    | some (some (.lst ds)) => (match ixN ds.length n with
      | some j => .nx σ (S3.set k (some (.lst (ds.set j v))))
      | none => .no)
    | _ => .no)
  | _, _ => .no
theorem vs_ix {o i : Expr} {fo fi : Ex} {spos : Pos} (hv : VE X Γ W e f) (ho : VE X Γ W o fo) (hi : VE X Γ W i fi)
    (ha : ∀ v, assign (.Subscript o i spos) X.env v = (do
      let ov ← holding [v] (eval o X.env)
      let iv ← holding [v, ov] (eval i X.env)
      standAt spos
      holding [v, ov, iv] (setItem ov iv v)
      release [v, ov, iv] []) := by intro _; rfl)
    (hs : swapsWithSole [(.Subscript o i spos)] e pos.line X.env = pure false := by rfl) (hw : swappedStores [(.Subscript o i spos)] e X.env = pure none := by rfl)
    (h1 : (assignEach [(.Subscript o i spos)] X.env).map (·.2) = [assign (.Subscript o i spos) X.env] := by rfl) : VS X Γ W (.Assign [.Subscript o i spos] e pos) (sIx f fo fi) := by
  refine PS.imp (ps_asg hv (pg_sub ho hi set_list ha) hs hw h1) fun D σv H ⟨F, μ, G, σ, S, hσ, hs, h⟩ => ?_
  refine tOf.at hσ hs (Wps.of (H := H) (S := S) h hσ) fun v μ1 G1 H1 S1 vv l s t r q => ?_
  refine tOf.at (hσ.mono l s) t (Wps.of (H := H1) (S := S1) q (hσ.mono l s)) fun w μ2 G2 H2 S2 ww l2 s2 t2 r2 q2 => ?_
  have hσ2 := (hσ.mono l s).mono l2 s2
  refine tOf.at hσ2 t2 (Wps.of (H := H2) (S := S2) q2 hσ2) fun x μ3 G3 H3 S3 xx l3 s3 t3 r3 q3 => ?_
  split at q3
  · rename_i k n
    split at q3
    · rename_i ds hk
      split at q3
      · rename_i j hj
        cases r3
        have r2' := r2.mono l3 s3
        cases r2' with
        | cell ha =>
          obtain ⟨a, ha', vs, e1, e2⟩ := t3.at_ _ _ hk
          rw [ha] at ha'; cases ha'
          refine ⟨_, vs, n, j, rfl, rfl, e1, by rw [← e2.length]; exact hj, ?_⟩
          exact q3 _ _ _ (Le.refl _) (Same.refl _) (t3.write _ hk ha (fun b hb => upd_ne hb) ⟨_, upd_same, e2.set ((r.mono l2 s2).mono l3 s3) j⟩) _ (hσ2.mono l3 s3)
      · exact q3.elim
    · exact q3.elim
  · exact q3.elim
/-- n += e, ints -/
def sAug (i : Nat) (g : D → D → Sto → R D) (f : Ex) : Sx := fun σ S => match σ[i]? with
  | some (some x) => SO.of (f σ S) σ fun y S1 => SO.of (g x y S1) σ fun z S2 => .nx (σ.set i (some z)) S2
  | _ => .no
def gAddI (x y : D) (S : Sto) : R D := match x, y with
  | .int i, .int j => .ok (.int (i + j)) S
  | _, _ => .no
theorem vs_aug {i : Nat} {x : Str} {pos' : Pos} (hN : X.N.Nodup) (he : VE X Γ W e f) (hi : X.N[i]? = some x := by rfl) (hx : Loc X.env.scope x := by first | exact Or.inl rfl | exact Or.inr rfl) (hf : X.fn x = true ∨ X.env.scope.names.lookup x = some .local := by first | exact .inl rfl | exact .inr rfl | assumption) :
    VS X Γ W (.AugAssign (.Name x pos') .Add e pos) (sAug i gAddI f) := by
  refine PS.imp (ps_aug hN hi hx he ip_add hf) fun D σv H ⟨F, μ, G, σ, S, hσ, hs, h⟩ => ?_
  unfold sAug at h
  split at h
  · rename_i d hd
    obtain ⟨v, e1, r⟩ := hσ.get hd
    refine ⟨v, e1, ?_⟩
    refine tOf.at hσ hs (Wps.of (H := H) (S := S) h hσ) fun w μ1 G1 H1 S1 ww l s t r2 q => ?_
    unfold gAddI at q
    split at q
    · cases r; cases r2
      exact ⟨_, _, rfl, rfl, q _ _ _ (Le.refl _) (Same.refl _) t _ ((hσ.mono l s).set (.int _) i)⟩
    · exact q.elim
  · exact h.elim
end
end Ev

/-! Ev, the rules, part 5: loops, comprehensions. -/
namespace Ev
open PySem PySem.Spec PyProof.Rows L2

/-! ### what is walked -/
/-- items, and what must stand while they are walked -/
abbrev Ix := Env → Sto → R ((Sto → Prop) × List D)
def JOk (Γ : Gm) (F0 : Hp) (μ0 : List Addr) (G0 : Hp) (J : It) (chk : Sto → Prop) (ds : List D) : Prop :=
  ∀ F μ G H S, Le μ0 μ → Same G0 G → Sit Γ F μ G H S → chk S → ∀ i : Nat, (ds.length ≤ i → J.stop i H) ∧
    ∀ d, ds[i]? = some d → J.go i H ∧ ∀ x H', J.yld i H x H' → ∃ G', Same G G' ∧ Sit Γ F μ G' H' S ∧ VR Γ.K μ G' d x
def tiOf (Γ : Gm) (W : WX) (f : Ix) : TI := fun σv H Rk => ∃ F μ G σ S, SR Γ.K μ G σ σv ∧ Sit Γ F μ G H S ∧ Wp Γ F (fun c d H' => W c d σv H') μ G (f σ S) fun p μ' G' H' _ => ∀ J, JOk Γ F μ' G' J p.1 p.2 → Rk J H'
abbrev VI (X : Cx) (Γ : Gm) (W : WX) (tg iter : Expr) (f : Ix) : Prop := PI X tg iter (tiOf Γ W f)
theorem PI.imp {X : Cx} {tg e : Expr} {t t' : TI} (h : PI X tg e t) (i : ∀ σ H Q, t' σ H Q → t σ H Q) : PI X tg e t' := ⟨fun pins s σ H Q I q => h.run pins s σ H Q I (i σ H Q q)⟩
def still : Sto → Prop := fun _ => True
/-- a list's items; a cell's list must stand -/
def itL (d : D) (S : Sto) : Option ((Sto → Prop) × List D) := match d with
  | .cell k => (match S[k]? with
    | some (some (.lst ds)) => some (fun S => S[k]? = some (some (.lst ds)), ds)
    | _ => none)
  | d => (lstOf S d).map fun ds => (still, ds)
def iL (f : Ex) : Ix := fun σ S => (f σ S).bind fun d S1 => match itL d S1 with
  | some p => .ok p S1
  | none => .no
def iT (f : Ex) : Ix := fun σ S => (f σ S).bind fun d S1 => match d with
  | .tup ds => .ok (still, ds) S1
  | _ => .no
def iStr (f : Ex) : Ix := fun σ S => (f σ S).bind fun d S1 => match d with
  | .str x => .ok (still, x.cps.toList.map fun c => .str ⟨#[c]⟩) S1
  | _ => .no
def pairsFrom : Nat → List D → List D
  | _, [] => []
  | k, d :: r => .tup [.int (k : Nat), d] :: pairsFrom (k + 1) r
def iEnum (f : Ex) : Ix := fun σ S => (f σ S).bind fun d S1 => match itL d S1 with
  | some p => .ok (p.1, pairsFrom 0 p.2) S1
  | none => .no
def iRev (f : Ex) : Ix := fun σ S => (f σ S).bind fun d S1 => match itL d S1 with
  | some p => .ok (p.1, p.2.reverse) S1
  | none => .no
def intsD (lo : Int) (n : Nat) : List D := (List.range n).map fun i => .int (lo + (i : Nat))
noncomputable def iR1 (f : Ex) : Ix := fun σ S => (f σ S).bind fun d S1 => match d with
  | .int j => cif (-4611686018427387904 ≤ j ∧ j < 4611686018427387904) (.ok (still, intsD 0 j.toNat) S1) .no
  | _ => .no
noncomputable def iR2 (f g : Ex) : Ix := fun σ S => (f σ S).bind fun d S1 => (g σ S1).bind fun e S2 => match d, e with
  | .int i, .int j => cif (-4611686018427387904 ≤ i ∧ i < 4611686018427387904 ∧ -4611686018427387904 ≤ j ∧ j < 4611686018427387904) (.ok (still, intsD i (j - i).toNat) S2) .no
  | _, _ => .no
theorem pairs_get : ∀ (ds : List D) (k i : Nat) (d : D), (pairsFrom k ds)[i]? = some d → ∃ e, ds[i]? = some e ∧ d = .tup [.int ((k + i : Nat) : Int), e]
  | [], k, i, d, h => by simp [pairsFrom] at h
  | e :: r, k, 0, d, h => by simp [pairsFrom] at h; exact ⟨e, rfl, h.symm⟩
  | e :: r, k, i + 1, d, h => by
    obtain ⟨e', h1, h2⟩ := pairs_get r (k + 1) i d (by simpa [pairsFrom] using h)
    exact ⟨e', by simpa using h1, by rw [h2, show k + 1 + i = k + (i + 1) by omega]⟩
theorem pairs_len : ∀ (ds : List D) (k : Nat), (pairsFrom k ds).length = ds.length
  | [], _ => rfl
  | d :: r, k => by simp [pairsFrom, pairs_len r]
section
variable {X : Cx} {Γ : Gm} {W : WX} {tg e a b : Expr} {f fa fb : Ex} {p pos : Pos}
/-- where an item list stands -/
theorem itL_ok {F : Hp} {μ : List Addr} {G H : Hp} {S : Sto} {d : D} {v : V} {q : (Sto → Prop) × List D} (t : Sit Γ F μ G H S) (r : VR Γ.K μ G d v) (h : itL d S = some q) :
    ∃ a, v = .ref a ∧ (∃ vs, SqL Γ.K H a vs ∧ VRs Γ.K μ G q.2 vs) ∧ ∀ F' μ' G' H' S', Le μ μ' → Same G G' → Sit Γ F' μ' G' H' S' → q.1 S' → ∃ vs, SqL Γ.K H' a vs ∧ VRs Γ.K μ' G' q.2 vs := by
  unfold itL at h
  split at h
  · rename_i k
    split at h
    · rename_i ds hk
      cases h
      cases r with
      | cell ha =>
        obtain ⟨a, ha', vs, h1, h2⟩ := t.at_ _ _ hk
        rw [ha] at ha'; cases ha'
        refine ⟨_, rfl, ⟨vs, .inl (.inl h1), h2⟩, fun F' μ' G' H' S' l s t' hc => ?_⟩
        obtain ⟨a', ha', vs', h1', h2'⟩ := t'.at_ _ _ hc
        have := l _ _ ha
        rw [this] at ha'; cases ha'
        exact ⟨vs', .inl (.inl h1'), h2'⟩
    · cases h
  · rename_i hn
    rw [Option.map_eq_some_iff] at h
    obtain ⟨ds, hd, rfl⟩ := h
    cases d with
    | cell k => exact absurd rfl (hn k)
    | lst es =>
      cases hd
      cases r with
      | lst h1 h2 => exact ⟨_, rfl, ⟨_, .inl (.inl (t.sub _ _ h1)), h2⟩, fun F' μ' G' H' S' l s t' _ => ⟨_, .inl (.inl (t'.sub _ _ (s _ _ h1))), h2.mono l s⟩⟩
    | scr ns =>
      cases hd
      cases r with
      | scr h1 => exact ⟨_, rfl, ⟨_, t.sub.seq h1, vrs_ints _⟩, fun F' μ' G' H' S' l s t' _ => ⟨_, t'.sub.seq (s.seq h1), vrs_ints _⟩⟩
    | _ => simp [lstOf] at hd
theorem sql_len {K : PySem.W.Frag} {μ : List Addr} {G : Hp} {ds : List D} {vs : List V} (h : VRs K μ G ds vs) {i : Nat} (hi : ds.length ≤ i) : vs.length ≤ i := by rw [← h.length]; exact hi
theorem vi_list (h : VE X Γ W e f) (hK : X.K = Γ.K := by rfl) : VI X Γ W tg e (iL f) := by
  refine PI.imp (pi_list h) fun σv H Q ⟨F, μ, G, σ, S, hσ, hs, h⟩ => ?_
  refine tOf.at hσ hs (Wp.bind h) fun v μ1 G1 H1 S1 vv l s t r q => ?_
  split at q
  · rename_i p hp
    obtain ⟨a, rfl, ⟨vs, h1, h2⟩, hg⟩ := itL_ok t r hp
    refine ⟨a, rfl, ⟨vs, by rw [hK]; exact h1⟩, q.ok t _ fun F' μ' G' H' S' l' s' t' hc i => ?_⟩
    obtain ⟨vs', e1, e2⟩ := hg F' μ' G' H' S' l' s' t' hc
    rw [← hK] at e1
    refine ⟨fun hi => ⟨vs', e1, sql_len e2 hi⟩, fun d hd => ?_⟩
    obtain ⟨y, hy, ry⟩ := e2.get hd
    refine ⟨⟨vs', y, e1, hy⟩, fun x H2 ⟨hH, hx⟩ => ?_⟩
    subst hH
    have := hx vs' e1
    rw [hy] at this; cases this
    exact ⟨G', Same.refl _, t', ry⟩
  · exact q.elim
theorem vi_tup (h : VE X Γ W e f) (hK : X.K = Γ.K := by rfl) : VI X Γ W tg e (iT f) := by
  refine PI.imp (pi_tup h) fun σv H Q ⟨F, μ, G, σ, S, hσ, hs, h⟩ => ?_
  refine tOf.at hσ hs (Wp.bind h) fun v μ1 G1 H1 S1 vv l s t r q => ?_
  split at q
  · rename_i ds
    cases r with
    | tup h1 h2 =>
      refine ⟨_, rfl, ⟨_, .inl (.inl (t.sub _ _ h1))⟩, q.ok t _ fun F' μ' G' H' S' l' s' t' hc i => ?_⟩
      have e1 := t'.sub _ _ (s' _ _ h1)
      have e2 := h2.mono l' s'
      refine ⟨fun hi => ⟨_, .inl (.inl e1), sql_len e2 hi⟩, fun d hd => ?_⟩
      obtain ⟨y, hy, ry⟩ := e2.get hd
      refine ⟨⟨_, y, .inl (.inl e1), hy⟩, fun x H2 ⟨hH, hx⟩ => ?_⟩
      subst hH
      have := hx _ (.inl (.inl e1))
      rw [hy] at this; cases this
      exact ⟨G', Same.refl _, t', ry⟩
  · exact q.elim
theorem vi_str (h : VE X Γ W e f) : VI X Γ W tg e (iStr f) := by
  refine PI.imp (pi_str h) fun σv H Q ⟨F, μ, G, σ, S, hσ, hs, h⟩ => ?_
  refine tOf.at hσ hs (Wp.bind h) fun v μ1 G1 H1 S1 vv l s t r q => ?_
  split at q
  · rename_i z
    cases r
    refine ⟨z, rfl, q.ok t _ fun F' μ' G' H' S' l' s' t' hc i => ?_⟩
    refine ⟨fun hi => by show z.cps.size ≤ i; simpa using hi, fun d hd => ?_⟩
    rw [List.getElem?_map, Option.map_eq_some_iff] at hd
    obtain ⟨c, hc', rfl⟩ := hd
    have hc'' : z.cps[i]? = some c := by simpa using hc'
    refine ⟨(Array.getElem?_eq_some_iff.mp hc'').1, fun x H2 ⟨hH, c', hx, ex⟩ => ?_⟩
    subst hH
    rw [hc''] at hx; cases hx
    subst ex
    exact ⟨G', Same.refl _, t', .str _⟩
  · exact q.elim
theorem vi_enum {elts : List Expr} {kk : Nat} {tpos : Pos} (hm : X.mg "enumerate" = none) (h : VE X Γ W e f) (hg : Gl X "enumerate" := by rfl) (hK : X.K = Γ.K := by rfl) (hs : starEach [e] X.env = [(false, eval e X.env)] := by rfl) :
    VI X Γ W (.Tuple elts kk tpos) (.Call (.Name "enumerate" p) [e] [] pos) (iEnum f) := by
  refine PI.imp (pi_enum hg hm (pa_cons h pa_nil hs) hs) fun σv H Q ⟨F, μ, G, σ, S, hσ, hs, h⟩ => ?_
  refine tOf.at hσ hs (Wp.bind h) fun v μ1 G1 H1 S1 vv l s t r q => ?_
  split at q
  · rename_i p hp
    obtain ⟨a, rfl, ⟨vs, h1, h2⟩, hgg⟩ := itL_ok t r hp
    refine ⟨a, vs, rfl, by rw [hK]; exact h1, q.ok t _ fun F' μ' G' H' S' l' s' t' hc i => ?_⟩
    obtain ⟨vs', e1, e2⟩ := hgg F' μ' G' H' S' l' s' t' hc
    rw [← hK] at e1
    refine ⟨fun hi => ⟨vs', e1, sql_len e2 (by rw [pairs_len] at hi; exact hi)⟩, fun d hd => ?_⟩
    obtain ⟨e', he', rfl⟩ := pairs_get _ _ _ _ hd
    obtain ⟨y, hy, ry⟩ := e2.get he'
    refine ⟨⟨vs', y, e1, hy⟩, fun x H2 ⟨T, x', ex, nT, eH, hx⟩ => ?_⟩
    have := hx vs' e1
    rw [hy] at this; cases this
    subst ex eH
    have ng := (t'.fresh nT).2
    refine ⟨upd G' T (.tup [.int (i : Nat), y]), same_upd ng, t'.allocG _ nT, .tup upd_same (.cons ?_ (.cons (ry.mono (Le.refl _) (same_upd ng)) .nil))⟩
    rw [Nat.zero_add]
    exact .int _
  · exact q.elim
theorem vi_rev (hm : X.mg "reversed" = none) (h : VE X Γ W e f) (hg : Gl X "reversed" := by rfl) (hK : X.K = Γ.K := by rfl) (hs : starEach [e] X.env = [(false, eval e X.env)] := by rfl) :
    VI X Γ W tg (.Call (.Name "reversed" p) [e] [] pos) (iRev f) := by
  refine PI.imp (pi_reversed hg hm (pa_cons h pa_nil hs) hs) fun σv H Q ⟨F, μ, G, σ, S, hσ, hs, h⟩ => ?_
  refine tOf.at hσ hs (Wp.bind h) fun v μ1 G1 H1 S1 vv l s t r q => ?_
  split at q
  · rename_i p hp
    obtain ⟨a, rfl, ⟨vs, h1, h2⟩, hgg⟩ := itL_ok t r hp
    refine ⟨a, vs, rfl, by rw [hK]; exact h1, q.ok t _ fun F' μ' G' H' S' l' s' t' hc i => ?_⟩
    obtain ⟨vs', e1, e2⟩ := hgg F' μ' G' H' S' l' s' t' hc
    rw [← hK] at e1
    have hl : vs.length = p.2.length := h2.length.symm
    refine ⟨fun hi => by show vs.length ≤ i; rw [hl]; simpa using hi, fun d hd => ?_⟩
    have hi : i < p.2.length := by have := (List.getElem?_eq_some_iff.mp hd).1; simpa using this
    rw [List.getElem?_reverse hi] at hd
    obtain ⟨y, hy, ry⟩ := e2.get hd
    rw [← hl] at hy
    refine ⟨⟨by rw [hl]; exact hi, vs', y, e1, hy⟩, fun x H2 ⟨hH, hx⟩ => ?_⟩
    subst hH
    have := hx vs' e1
    rw [hy] at this; cases this
    exact ⟨G', Same.refl _, t', ry⟩
  · exact q.elim
theorem j_range {F : Hp} {μ : List Addr} {G : Hp} (lo : Int) (n : Nat) : JOk Γ F μ G (Itr lo n) still (intsD lo n) := fun F' μ' G' H' S' l' s' t' hc i => by
  refine ⟨fun hi => by show n ≤ i; simpa [intsD] using hi, fun d hd => ?_⟩
  unfold intsD at hd
  rw [List.getElem?_map, Option.map_eq_some_iff] at hd
  obtain ⟨j, hj, rfl⟩ := hd
  have hi : i < n := by have := (List.getElem?_eq_some_iff.mp hj).1; simpa using this
  have ej : j = i := by rw [List.getElem?_range hi] at hj; cases hj; rfl
  subst ej
  refine ⟨hi, fun x H2 ⟨hH, hx⟩ => ?_⟩
  subst hH hx
  exact ⟨G', Same.refl _, t', .int _⟩
theorem vi_r1 (hm : X.mg "range" = none) (h : VE X Γ W e f) (hg : Gl X "range" := by rfl) (hs : starEach [e] X.env = [(false, eval e X.env)] := by rfl) : VI X Γ W tg (.Call (.Name "range" p) [e] [] pos) (iR1 f) := by
  refine PI.imp (pi_range1 hg hm (pa_cons h pa_nil hs) hs) fun σv H Q ⟨F, μ, G, σ, S, hσ, hs, h⟩ => ?_
  refine tOf.at hσ hs (Wp.bind h) fun v μ1 G1 H1 S1 vv l s t r q => ?_
  split at q
  · rename_i j
    by_cases hj : -4611686018427387904 ≤ j ∧ j < 4611686018427387904
    · rw [cif_pos hj] at q
      cases r
      exact ⟨_, rfl, by omega, by omega, q.ok t _ (j_range 0 _)⟩
    · rw [cif_neg hj] at q; exact q.elim
  · exact q.elim
theorem vi_r2 (hm : X.mg "range" = none) (ha : VE X Γ W a fa) (hb : VE X Γ W b fb) (hg : Gl X "range" := by rfl) (hs : starEach [a, b] X.env = [(false, eval a X.env), (false, eval b X.env)] := by rfl) (hs2 : starEach [b] X.env = [(false, eval b X.env)] := by rfl) :
    VI X Γ W tg (.Call (.Name "range" p) [a, b] [] pos) (iR2 fa fb) := by
  refine PI.imp (pi_range2 hg hm (pa_cons ha (pa_cons hb pa_nil hs2) (by rw [hs2]; exact hs)) hs hs2) fun σv H Q ⟨F, μ, G, σ, S, hσ, hs, h⟩ => ?_
  refine tOf.at hσ hs (Wp.bind h) fun v μ1 G1 H1 S1 vv l s t r q => ?_
  refine tOf.at (hσ.mono l s) t (Wp.bind q) fun w μ2 G2 H2 S2 ww l2 s2 t2 r2 q2 => ?_
  have r' := r.mono l2 s2
  split at q2
  · rename_i i j
    by_cases hj : -4611686018427387904 ≤ i ∧ i < 4611686018427387904 ∧ -4611686018427387904 ≤ j ∧ j < 4611686018427387904
    · rw [cif_pos hj] at q2
      cases r'; cases r2
      exact ⟨_, _, rfl, by omega, q2.ok t2 _ (j_range _ _)⟩
    · rw [cif_neg hj] at q2; exact q2.elim
  · exact q2.elim
end

/-! ### for -/
open Classical in
/-- the items one by one -/
noncomputable def forL (chk : Sto → Prop) (h : Hx) (body : Sx) : List D → Sx
  | [], σ, S => if chk S then .nx σ S else .no
  | d :: r, σ, S => if chk S then (match h d σ with
    | none => .no
    | some σ1 => match body σ1 S with
      | .nx σ2 S2 => forL chk h body r σ2 S2
      | .ct σ2 S2 => forL chk h body r σ2 S2
      | .bk σ2 S2 => .nx σ2 S2
      | o => o) else .no
noncomputable def sFor (fi : Ix) (h : Hx) (body : Sx) : Sx := fun σ S => SO.of (fi σ S) σ fun p S1 => forL p.1 h body p.2 σ S1
section
variable {X : Cx} {Γ : Gm} {W : WX} {tg iter c : Expr} {body : List Stmt} {fi : Ix} {h : Hx} {ws : List Nat} {g : Sx} {t : Tx} {pos : Pos}
theorem vs_for (hp : PassesOwn (model X.prog X.w) X.A X.env X.xe) (hc : X.calm = true) (hi : VI X Γ W tg iter fi) (hg : VG X Γ tg h ws) (hb : VSs X Γ W body g) (hs : ∀ x, foldedSetIterable iter X.env x = pure x := by intro _; rfl) :
    VS X Γ W (.For tg iter body [] pos) (sFor fi h g) := by
  refine PS.imp (ps_for hp hc hi hg hb hs) fun D σv H ⟨F, μ, G, σ, S, hσ, hs, q⟩ => ?_
  refine ⟨F, μ, G, σ, S, hσ, hs, (Wps.of (H := H) (S := S) q hσ).imp fun p μ1 G1 H1 S1 l s t q J hJ => ?_⟩
  refine ⟨fun i m σv H => ∃ F μ G σ S, m = p.2.length - i ∧ i ≤ p.2.length ∧ Le μ1 μ ∧ Same G1 G ∧ SR Γ.K μ G σ σv ∧ Sit Γ F μ G H S ∧ Wps Γ F W μ G (forL p.1 h g (p.2.drop i) σ S) D, ⟨p.2.length, F, μ1, G1, σ, S1, by simp, Nat.zero_le _, Le.refl _, Same.refl _, hσ.mono l s, t, by simpa using q⟩, ?_⟩
  rintro i m σv H ⟨F, μ, G, σ, S, rfl, hi, l, s, hσ, t, q⟩
  by_cases hlt : i < p.2.length
  · rw [List.drop_eq_getElem_cons hlt] at q
    unfold forL at q
    split at q
    · rename_i hck
      obtain ⟨_, hgo⟩ := hJ F μ G H S l s t hck i
      obtain ⟨g1, g2⟩ := hgo p.2[i] (List.getElem?_eq_getElem hlt)
      refine .inr ⟨g1, fun σv H => ∃ F μ G σ S, Le μ1 μ ∧ Same G1 G ∧ SR Γ.K μ G σ σv ∧ Sit Γ F μ G H S ∧ Wps Γ F W μ G (forL p.1 h g (p.2.drop (i + 1)) σ S) D, ?_, fun x H' hy => ?_⟩
      · rintro σv' H' ⟨F, μ, G, σ, S, l, s, hσ, t, q⟩
        exact ⟨p.2.length - (i + 1), by omega, F, μ, G, σ, S, rfl, hlt, l, s, hσ, t, q⟩
      · obtain ⟨G', sg, t', r⟩ := g2 x H' hy
        split at q
        · exact q.elim
        · rename_i σ1 e1
          refine ⟨F, μ, G', S, p.2[i], σ, σ1, r, hσ.mono (Le.refl _) sg, t', e1, fun σv1 hσ1 _ => ⟨F, μ, G', σ1, S, hσ1, t', ?_⟩⟩
          have l' := l
          have s' := s.trans sg
          cases hb : g σ1 S with
          | no => rw [hb] at q; exact q
          | nx σ2 S2 =>
            rw [hb] at q
            exact fun μ2 G2 H2 l2 s2 t2 σv2 hσ2 => ⟨F, μ2, G2, σ2, S2, l'.trans l2, s'.trans s2, hσ2, t2, q.mono l2 (sg.trans s2)⟩
          | ct σ2 S2 =>
            rw [hb] at q
            exact fun μ2 G2 H2 l2 s2 t2 σv2 hσ2 => ⟨F, μ2, G2, σ2, S2, l'.trans l2, s'.trans s2, hσ2, t2, q.mono l2 (sg.trans s2)⟩
          | bk σ2 S2 => rw [hb] at q; exact fun μ2 G2 H2 l2 s2 t2 σv2 hσ2 => q μ2 G2 H2 l2 (sg.trans s2) t2 σv2 hσ2
          | rt v S2 => rw [hb] at q; exact fun μ2 G2 H2 l2 s2 t2 => q μ2 G2 H2 l2 (sg.trans s2) t2
          | ex c a σ2 S2 => rw [hb] at q; exact fun μ2 G2 H2 l2 s2 t2 => q μ2 G2 H2 l2 (sg.trans s2) t2
    · exact q.elim
  · have e : i = p.2.length := by omega
    subst e
    rw [List.drop_length] at q
    unfold forL at q
    split at q
    · rename_i hck
      obtain ⟨hst, _⟩ := hJ F μ G H S l s t hck p.2.length
      exact .inl ⟨hst (Nat.le_refl _), q _ _ _ (Le.refl _) (Same.refl _) t _ hσ⟩
    · exact q.elim

/-! ### while -/
def whileN (t : Tx) (body : Sx) : Nat → Sx
  | 0, _, _ => .no
  | n + 1, σ, S => SO.of (t σ S) σ fun b S1 => if b = true then (match body σ S1 with
    | .nx σ2 S2 => whileN t body n σ2 S2
    | .ct σ2 S2 => whileN t body n σ2 S2
    | .bk σ2 S2 => .nx σ2 S2
    | o => o) else .nx σ S1
open Classical in
noncomputable def sWhile (t : Tx) (body : Sx) : Sx := fun σ S => if h : ∃ n, whileN t body n σ S ≠ .no then whileN t body (Classical.choose h) σ S else .no
theorem whileN_mono (t : Tx) (body : Sx) : ∀ (n m : Nat) (σ : Env) (S : Sto), whileN t body n σ S ≠ .no → n ≤ m → whileN t body m σ S = whileN t body n σ S := by
  intro n
  induction n with
  | zero => intro m σ S h _; exact absurd rfl h
  | succ n ih =>
    intro m σ S h hm
    obtain ⟨m, rfl⟩ : ∃ k, m = k + 1 := ⟨m - 1, by omega⟩
    simp only [whileN] at h ⊢
    cases ht : t σ S with
    | no => rfl
    | ex c a S1 => rfl
    | ok b S1 =>
      rw [ht] at h
      simp only [SO.of_ok] at h ⊢
      cases b with
      | false => rfl
      | true =>
        simp only [if_true] at h ⊢
        cases hb : body σ S1 with
        | nx σ2 S2 => rw [hb] at h; exact ih m σ2 S2 h (by omega)
        | ct σ2 S2 => rw [hb] at h; exact ih m σ2 S2 h (by omega)
        | _ => rfl
theorem sWhile_eq {t : Tx} {body : Sx} (n : Nat) {σ : Env} {S : Sto} {r : SO} (h : whileN t body n σ S = r) (hr : r ≠ .no) : sWhile t body σ S = r := by
  have hx : ∃ n, whileN t body n σ S ≠ .no := ⟨n, by rw [h]; exact hr⟩
  unfold sWhile
  rw [dif_pos hx]
  have h1 := Classical.choose_spec hx
  have h2 := whileN_mono t body _ (max n (Classical.choose hx)) σ S h1 (Nat.le_max_right _ _)
  have h3 := whileN_mono t body n (max n (Classical.choose hx)) σ S (by rw [h]; exact hr) (Nat.le_max_left _ _)
  rw [← h2, h3, h]
theorem vs_while (hp : PassesOwn (model X.prog X.w) X.A X.env X.xe) (hc : VT X Γ W c t) (hb : VSs X Γ W body g) : VS X Γ W (.While c body [] pos) (sWhile t g) := by
  refine PS.imp (ps_while hp hc hb) fun D σv H ⟨F, μ, G, σ, S, hσ, hs, q⟩ => ?_
  unfold sWhile at q
  split at q
  · rename_i hx
    generalize Classical.choose hx = n at q
    refine ⟨fun m σv H => ∃ F μ G σ S, SR Γ.K μ G σ σv ∧ Sit Γ F μ G H S ∧ Wps Γ F W μ G (whileN t g m σ S) D, ⟨n, F, μ, G, σ, S, hσ, hs, q⟩, ?_⟩
    rintro m σv H ⟨F, μ, G, σ, S, hσ, hs, q⟩
    cases m with
    | zero => exact q.elim
    | succ m =>
      unfold whileN at q
      refine ttOf.at hσ hs (Wps.of (H := H) (S := S) q hσ) fun v μ1 G1 H1 S1 l s t1 q => ?_
      have hσ1 := hσ.mono l s
      split
      · rename_i hv
        rw [if_pos hv] at q
        refine ⟨fun σv H => ∃ F μ G σ S, SR Γ.K μ G σ σv ∧ Sit Γ F μ G H S ∧ Wps Γ F W μ G (whileN t g m σ S) D, fun σ' H' hN => ⟨m, Nat.lt_succ_self _, hN⟩, F, μ1, G1, σ, S1, hσ1, t1, ?_⟩
        cases hbd : g σ S1 with
        | no => rw [hbd] at q; exact q
        | nx σ2 S2 => rw [hbd] at q; exact fun μ2 G2 H2 l2 s2 t2 σv2 hσ2 => ⟨F, μ2, G2, σ2, S2, hσ2, t2, q.mono l2 s2⟩
        | ct σ2 S2 => rw [hbd] at q; exact fun μ2 G2 H2 l2 s2 t2 σv2 hσ2 => ⟨F, μ2, G2, σ2, S2, hσ2, t2, q.mono l2 s2⟩
        | bk σ2 S2 => rw [hbd] at q; exact q
        | rt v S2 => rw [hbd] at q; exact q
        | ex c a σ2 S2 => rw [hbd] at q; exact q
      · rename_i hv
        rw [if_neg hv] at q
        exact q _ _ _ (Le.refl _) (Same.refl _) t1 _ hσ1
  · exact q.elim
end

/-! ### comprehensions -/
def wipeE (σ : Env) : List Nat → Env
  | [] => σ
  | v :: vs => (wipeE σ vs).set v none
open Classical in
/-- the items one by one: what is made of them, the store behind -/
noncomputable def compL (chk : Sto → Prop) (h : Hx) (t : Tx) (f : Ex) (σ : Env) : List D → List D → Sto → R (List D)
  | [], acc, S => if chk S then .ok acc S else .no
  | d :: r, acc, S => if chk S then (match h d σ with
    | none => .no
    | some σ1 => (match t σ1 S with
      | .ok b S1 => if b = true then (match f σ1 S1 with
        | .ok v S2 => if acc.length < sizeLine then compL chk h t f σ r (acc ++ [v]) S2 else .no
        | _ => .no) else compL chk h t f σ r acc S1
      | _ => .no)) else .no
def tYes : Tx := fun _ S => .ok true S
/-- the list never changes; or it is a cell -/
noncomputable def eComp (fi : Ix) (h : Hx) (t : Tx) (f : Ex) (own : List Nat) : Ex := fun σ S => (fi σ S).bind fun p S1 => (compL p.1 h t f (wipeE σ own) p.2 [] S1).bind fun ds S2 => .ok (.lst ds) S2
noncomputable def eCompN (fi : Ix) (h : Hx) (t : Tx) (f : Ex) (own : List Nat) : Ex := fun σ S => (fi σ S).bind fun p S1 => (compL p.1 h t f (wipeE σ own) p.2 [] S1).bind fun ds S2 => .ok (.cell S2.length) (S2 ++ [some (.lst ds)])
theorem SR.wipe {K : PySem.W.Frag} {μ : List Addr} {G : Hp} {σ : Env} {σv : L2.St} (h : SR K μ G σ σv) : ∀ vs : List Nat, SR K μ G (wipeE σ vs) (wipe σv vs)
  | [] => h
  | v :: vs => (h.wipe vs).unset v
abbrev W0 : WX := fun _ _ _ _ => False
section
variable {X : Cx} {Γ : Gm} {W : WX} {elt tg iter c : Expr} {ifs : List Expr} {scope : Scope} {own : List (Str × Nat)} {fi : Ix} {h : Hx} {t : Tx} {f : Ex} {pos : Pos}
theorem VTs_nil : PTs X [] (ttOf Γ W tYes) := ⟨fun pins s σv H Q I ⟨F, μ, G, σ, S, hσ, hs, q⟩ => (pts_nil (X := X)).run pins s σv H Q I (q.ok hs)⟩
theorem VTs_one (hc : VT X Γ W c t) : PTs X [c] (ttOf Γ W t) := pts_one hc
/-- the frame with one thing more (or changed) that is ours alone -/
theorem Sit.framed {F : Hp} {μ : List Addr} {G H : Hp} {S : Sto} (s : Sit Γ F μ G H S) {p : Addr} (o : HO) (nm : p ∉ μ) (ng : G p = none) : Sit Γ (upd F p o) μ G (upd H p o) S := by
  refine ⟨fun b x e => ?_, fun b x e => ?_, fun a ha => ?_, fun a u e => ?_, s.len, s.nd, fun a ha => ?_, s.off, fun k c hk => ?_⟩
  · have hb : b ≠ p := fun z => by rw [z, ng] at e; cases e
    rw [upd_ne hb]; exact s.sub b x e
  · rw [upd_get] at e ⊢
    split
    · rename_i z; rw [if_pos z] at e; exact e
    · rename_i z; rw [if_neg z] at e; exact s.frm b x e
  · rw [upd_ne (fun z => nm (by rw [← z]; exact ha))]; exact s.fmu a ha
  · rw [upd_ne (fun z => by rw [z, ng] at e; cases e)]; exact s.fg a u e
  · rw [upd_ne (fun z => nm (by rw [← z]; exact ha))]; exact s.dom a ha
  · obtain ⟨a, ha, hc⟩ := s.at_ k c hk
    refine ⟨a, ha, hc.mono (Le.refl _) (Same.refl _) fun o e => ?_⟩
    rw [upd_ne (fun z => nm (by rw [← z]; exact List.mem_of_getElem? ha))]
    exact e
theorem Sit.unframe {F F' : Hp} {μ : List Addr} {G H : Hp} {S : Sto} (s : Sit Γ F' μ G H S) (h : Same F F') : Sit Γ F μ G H S :=
  ⟨s.sub, h.trans s.frm, fun a ha => h.free (s.fmu a ha), fun a o e => h.free (s.fg a o e), s.len, s.nd, s.dom, s.off, s.at_⟩
theorem Sit.adoptG {F : Hp} {μ : List Addr} {G H : Hp} {S : Sto} (s : Sit Γ F μ G H S) {p : Addr} {o : HO} (hp : H p = some o) (nm : p ∉ μ) (ng : G p = none) (nf : F p = none) : Sit Γ F μ (upd G p o) H S := by
  refine ⟨fun b x e => ?_, s.frm, s.fmu, fun a u e => ?_, s.len, s.nd, s.dom, fun k a c h1 h2 => ?_, fun k c hk => ?_⟩
  · rw [upd_get] at e
    split at e
    · rename_i z; subst z; cases e; exact hp
    · exact s.sub b x e
  · rw [upd_get] at e
    split at e
    · rename_i z; rw [z]; exact nf
    · exact s.fg a u e
  · rw [upd_ne (fun z => nm (by rw [← z]; exact List.mem_of_getElem? h2))]; exact s.off k a c h1 h2
  · obtain ⟨a, ha, hc⟩ := s.at_ k c hk
    exact ⟨a, ha, hc.mono (Le.refl _) (same_upd ng) fun o e => e⟩
theorem Sit.adoptC {F : Hp} {μ : List Addr} {G H : Hp} {S : Sto} (s : Sit Γ F μ G H S) {p : Addr} {o : HO} (c : C) (hp : H p = some o) (nm : p ∉ μ) (ng : G p = none) (nf : F p = none) (hc : CR Γ (μ ++ [p]) G H c p) : Sit Γ F (μ ++ [p]) G H (S ++ [some c]) := by
  refine ⟨s.sub, s.frm, fun a ha => ?_, s.fg, by simp [s.len], ?_, fun a ha => ?_, fun k a c' h1 h2 => ?_, fun k c' h => ?_⟩
  · rcases List.mem_append.mp ha with h | h
    · exact s.fmu a h
    · simp at h; subst h; exact nf
  · rw [List.nodup_append]
    refine ⟨s.nd, by simp, fun a ha b hb => ?_⟩
    simp at hb
    subst hb
    exact fun e => nm (e ▸ ha)
  · rcases List.mem_append.mp ha with h | h
    · exact s.dom a h
    · simp at h; subst h; rw [hp]; simp
  · by_cases hk : k < S.length
    · rw [List.getElem?_append_left hk] at h1
      rw [List.getElem?_append_left (by rw [s.len]; exact hk)] at h2
      exact s.off k a c' h1 h2
    · have e : k = S.length := by
        have := (List.getElem?_eq_some_iff.mp h1).1
        simp at this
        omega
      subst e
      rw [← s.len] at h2
      simp at h2
      subst h2
      exact ng
  · by_cases hk : k < S.length
    · rw [List.getElem?_append_left hk] at h
      obtain ⟨a, h1, h2⟩ := s.at_ k c' h
      exact ⟨a, Le.push _ _ _ _ h1, h2.mono (Le.push _ _) (Same.refl G) fun o e => e⟩
    · have e : k = S.length := by
        have := (List.getElem?_eq_some_iff.mp h).1
        simp at this
        omega
      subst e
      simp at h
      subst h
      exact ⟨p, by rw [← s.len]; simp, hc⟩
theorem wipe_len (σ : L2.St) (vs : List Nat) : (wipe σ vs).length = σ.length := wipe_length σ vs
theorem wipe_get : ∀ (σ : L2.St) (vs : List Nat) (i : Nat), (wipe σ vs)[i]? = if i ∈ vs ∧ i < σ.length then some none else σ[i]?
  | σ, [], i => by simp [wipe]
  | σ, v :: vs, i => by
    unfold wipe
    by_cases hv : v = i
    · subst hv
      by_cases hl : v < σ.length
      · rw [List.getElem?_set_self (by rw [wipe_len]; exact hl)]
        simp [hl]
      · rw [List.getElem?_eq_none (by simp [wipe_len]; omega), List.getElem?_eq_none (by omega)]
        simp [hl]
    · rw [List.getElem?_set_ne hv, wipe_get σ vs i]
      simp only [List.mem_cons, show ¬ i = v from fun e => hv e.symm, false_or]
theorem wipe_agr {ws vs : List Nat} {σ0 σ1 : L2.St} (h : Agr ws (wipe σ0 vs) σ1) (hw : ∀ i ∈ ws, i ∈ vs) : wipe σ1 vs = wipe σ0 vs := by
  apply List.ext_getElem?
  intro i
  have hl := h.1
  rw [wipe_len] at hl
  rw [wipe_get, wipe_get, hl]
  split
  · rfl
  · rename_i hn
    by_cases hi : i ∈ vs
    · have hge : σ0.length ≤ i := by
        have : ¬ i < σ0.length := fun z => hn ⟨hi, z⟩
        omega
      rw [List.getElem?_eq_none (by omega), List.getElem?_eq_none hge]
    · rw [h.2 i (fun z => hi (hw i z)), wipe_get, if_neg (fun z => hi z.1)]
theorem lc_run {hh : Hx} {tt : Tx} {ff : Ex} {ws vs : List Nat} {F : Hp} {μ : List Addr} {G H1 : Hp} {σ : Env} {σv : L2.St} {S1 : Sto} {p : (Sto → Prop) × List D} {J : It} {Q : VK} {k : List Ev.D → List Addr → Hp → Hp → Sto → Prop} {WW : XK}
    (hσ : SR Γ.K μ G σ σv) (t1 : Sit Γ F μ G H1 S1) (q : Wp Γ F WW μ G (compL p.1 hh tt ff (wipeE σ vs) p.2 [] S1) k) (hJ : JOk Γ F μ G J p.1 p.2) (hws : ∀ i ∈ ws, i ∈ vs)
    (hend : ∀ (D : Addr) (ds : List Ev.D) (vv : List V) (μ' : List Addr) (G' H' : Hp) (S' : Sto), F D = none → Le μ μ' → Same G G' → Sit Γ F μ' G' H' S' → H' D = some (.lst vv) → D ∉ μ' → G' D = none → VRs Γ.K μ' G' ds vv → k ds μ' G' H' S' → Q (.ref D) H') :
    ∀ D, H1 D = none → ∃ Wi : Nat → Nat → Hp → Prop, (∃ m, Wi 0 m (upd H1 D (.lst []))) ∧ ∀ i m H, Wi i m H →
      (J.stop i H ∧ Q (.ref D) H) ∨ (J.go i H ∧ ∃ Nx : Hp → Prop, (∀ H', Nx H' → ∃ m', m' < m ∧ Wi (i + 1) m' H') ∧ ∀ x H', J.yld i H x H' → tgOf Γ hh ws x (wipe σv vs) H' fun σ2 H2 => wipe σ2 vs = wipe σv vs ∧ ttOf Γ W0 tt σ2 H2 fun b H3 =>
        if b = true then tOf Γ W0 ff σ2 H3 fun y H4 => ∃ acc, H4 D = some (.lst acc) ∧ acc.length < sizeLine ∧ Nx (upd H4 D (.lst (acc ++ [y]))) else Nx H3) := by
  intro D nD
  obtain ⟨nm, ng⟩ := t1.fresh nD
  have nf := t1.freshF nD
  have sF : ∀ vv, Same F (upd F D (.lst vv)) := fun vv => same_upd nf
  refine ⟨fun i m Hc => ∃ μ' G' S' acc vv, m = p.2.length - i ∧ i ≤ p.2.length ∧ Le μ μ' ∧ Same G G' ∧ Sit Γ (upd F D (.lst vv)) μ' G' Hc S' ∧ VRs Γ.K μ' G' acc vv ∧ Wp Γ F WW μ' G' (compL p.1 hh tt ff (wipeE σ vs) (p.2.drop i) acc S') k,
    ⟨p.2.length, μ, G, S1, [], [], by simp, Nat.zero_le _, Le.refl _, Same.refl _, t1.framed _ nm ng, .nil, by simpa using q⟩, ?_⟩
  rintro i m Hc ⟨μ', G', S', acc, vv, rfl, hi, l, s, t, r, q⟩
  have hDm : D ∉ μ' := fun z => by have := t.fmu D z; rw [upd_same] at this; cases this
  have hDg : ∀ {G' : Hp} {H : Hp} {μ' : List Addr} {S' : Sto} {vv : List V}, Sit Γ (upd F D (.lst vv)) μ' G' H S' → G' D = none := fun {G' H μ' S' vv} t => by
    cases e : G' D with
    | none => rfl
    | some o => have := t.fg D o e; rw [upd_same] at this; cases this
  have hDH : ∀ {G' : Hp} {H : Hp} {μ' : List Addr} {S' : Sto} {vv : List V}, Sit Γ (upd F D (.lst vv)) μ' G' H S' → H D = some (.lst vv) := fun t => t.frm D _ upd_same
  by_cases hlt : i < p.2.length
  · rw [List.drop_eq_getElem_cons hlt] at q
    unfold compL at q
    split at q
    · rename_i hck
      obtain ⟨_, hgo⟩ := hJ (upd F D (.lst vv)) μ' G' Hc S' l s t hck i
      obtain ⟨g1, g2⟩ := hgo p.2[i] (List.getElem?_eq_getElem hlt)
      refine .inr ⟨g1, fun Hc => ∃ μ' G' S' acc vv, Le μ μ' ∧ Same G G' ∧ Sit Γ (upd F D (.lst vv)) μ' G' Hc S' ∧ VRs Γ.K μ' G' acc vv ∧ Wp Γ F WW μ' G' (compL p.1 hh tt ff (wipeE σ vs) (p.2.drop (i + 1)) acc S') k, ?_, fun x H' hy => ?_⟩
      · rintro H' ⟨μ', G', S', acc, vv, l, s, t, r, q⟩
        exact ⟨p.2.length - (i + 1), by omega, μ', G', S', acc, vv, rfl, hlt, l, s, t, r, q⟩
      · obtain ⟨G2, sg, t2, rx⟩ := g2 x H' hy
        split at q
        · exact q.elim
        · rename_i σ1 e1
          have hσ' : SR Γ.K μ' G2 (wipeE σ vs) (wipe σv vs) := (hσ.mono l (s.trans sg)).wipe vs
          refine ⟨_, μ', G2, S', p.2[i], wipeE σ vs, σ1, rx, hσ', t2, e1, fun σv1 hσ1 ag => ⟨wipe_agr ag hws, _, μ', G2, σ1, S', hσ1, t2, ?_⟩⟩
          cases ht : tt σ1 S' with
          | no => rw [ht] at q; exact q.elim
          | ex c a S3 => rw [ht] at q; exact q.elim
          | ok b S3 =>
            rw [ht] at q
            intro μ3 G3 H3 l3 s3 t3
            simp only at q
            by_cases hb : b = true
            · subst hb
              simp only [if_true] at q ⊢
              refine ⟨_, μ3, G3, σ1, S3, hσ1.mono l3 s3, t3, ?_⟩
              cases hf : ff σ1 S3 with
              | no => rw [hf] at q; exact q.elim
              | ex c a S4 => rw [hf] at q; exact q.elim
              | ok v S4 =>
                rw [hf] at q
                intro μ4 G4 H4 l4 s4 t4 y ry
                simp only at q
                split at q
                · rename_i hz
                  have r4 : VRs Γ.K μ4 G4 acc vv := (r.mono l3 (sg.trans s3)).mono l4 s4
                  refine ⟨vv, hDH t4, by rw [← r4.length]; exact hz, μ4, G4, S4, acc ++ [v], vv ++ [y], (l.trans l3).trans l4, ((s.trans sg).trans s3).trans s4, ?_, r4.append (.cons ry .nil), ?_⟩
                  · have hm : D ∉ μ4 := fun z => by have := t4.fmu D z; rw [upd_same] at this; cases this
                    have := t4.framed (.lst (vv ++ [y])) hm (hDg t4)
                    rw [upd_upd] at this
                    exact this
                  · exact q.mono (l3.trans l4) ((sg.trans s3).trans s4) fun _ _ _ _ _ _ _ _ z => z
                · exact q.elim
            · have hb' : b = false := by simpa using hb
              subst hb'
              simp only [Bool.false_eq_true, if_false] at q ⊢
              exact ⟨μ3, G3, S3, acc, vv, l.trans l3, (s.trans sg).trans s3, t3, r.mono l3 (sg.trans s3), q.mono l3 (sg.trans s3) fun _ _ _ _ _ _ _ _ z => z⟩
    · exact q.elim
  · have e : i = p.2.length := by omega
    subst e
    rw [List.drop_length] at q
    unfold compL at q
    split at q
    · rename_i hck
      obtain ⟨hst, _⟩ := hJ (upd F D (.lst vv)) μ' G' Hc S' l s t hck p.2.length
      have tf := t.unframe (sF vv)
      exact .inl ⟨hst (Nat.le_refl _), hend D acc vv μ' G' Hc S' nf l s tf (hDH t) hDm (hDg t) r (q.ok tf)⟩
    · exact q.elim
variable {ws : List Nat}
theorem comp_of {σv : L2.St} {H : Hp} {Q : VK} (hws : ∀ i ∈ ws, i ∈ own.map (·.2)) (q : tOf Γ W (eComp fi h t f (own.map (·.2))) σv H Q) : tLc (tiOf Γ W fi) (tgOf Γ h ws) (ttOf Γ W0 t) (tOf Γ W0 f) (own.map (·.2)) σv H Q := by
  obtain ⟨F, μ, G, σ, S, hσ, hs, q⟩ := q
  refine ⟨F, μ, G, σ, S, hσ, hs, (Wp.bind q).imp fun p μ1 G1 H1 S1 l s t1 q J hJ => ?_⟩
  refine lc_run (hσ.mono l s) t1 (Wp.bind q) hJ hws fun D ds vv μ' G' H' S' nf l' s' t' hD nm ng r q => ?_
  exact q _ _ _ (Le.refl _) (same_upd ng) (t'.adoptG hD nm ng nf) _ (.lst upd_same (r.mono (Le.refl _) (same_upd ng)))
theorem compN_of {σv : L2.St} {H : Hp} {Q : VK} (hws : ∀ i ∈ ws, i ∈ own.map (·.2)) (q : tOf Γ W (eCompN fi h t f (own.map (·.2))) σv H Q) : tLc (tiOf Γ W fi) (tgOf Γ h ws) (ttOf Γ W0 t) (tOf Γ W0 f) (own.map (·.2)) σv H Q := by
  obtain ⟨F, μ, G, σ, S, hσ, hs, q⟩ := q
  refine ⟨F, μ, G, σ, S, hσ, hs, (Wp.bind q).imp fun p μ1 G1 H1 S1 l s t1 q J hJ => ?_⟩
  refine lc_run (hσ.mono l s) t1 (Wp.bind q) hJ hws fun D ds vv μ' G' H' S' nf l' s' t' hD nm ng r q => ?_
  exact q _ _ _ (Le.push _ _) (Same.refl _) (t'.adoptC (.lst ds) hD nm ng nf ⟨vv, hD, r.mono (Le.push _ _) (Same.refl _)⟩) _ (.cell (by rw [← t'.len]; simp))
abbrev BlkEnv (X : Cx) (scope : Scope) (P : Cx → Prop) : Prop := ∀ (s : Shared) (H : Hp) (C : Addr) (cl : List (Str × Addr)) (fp : List Addr), P (X.blk s H scope (compEnvC scope cl C X.env) fp)
theorem ve_comp (hc : X.calm = true) (hN : X.N.Nodup) (hi : VI X Γ W tg iter fi) (ok : BlkOk X.N X.env.scope scope own)
    (hg : BlkEnv X scope fun Y => VG Y Γ tg h ws) (ht : BlkEnv X scope fun Y => PTs Y ifs (ttOf Γ W0 t)) (he : BlkEnv X scope fun Y => VE Y Γ W0 elt f)
    (hws : ∀ i ∈ ws, i ∈ own.map (·.2) := by decide) (hs : ∀ x, foldedSetIterable iter X.env x = pure x := by intro _; rfl) : VE X Γ W (.ListComp elt [⟨tg, iter, ifs, 0⟩] scope pos) (eComp fi h t f (own.map (·.2))) :=
  PE.imp (pe_lc hc hN hi ok hg ht he hs) fun _ _ _ q => comp_of hws q
theorem ve_compN (hc : X.calm = true) (hN : X.N.Nodup) (hi : VI X Γ W tg iter fi) (ok : BlkOk X.N X.env.scope scope own)
    (hg : BlkEnv X scope fun Y => VG Y Γ tg h ws) (ht : BlkEnv X scope fun Y => PTs Y ifs (ttOf Γ W0 t)) (he : BlkEnv X scope fun Y => VE Y Γ W0 elt f)
    (hws : ∀ i ∈ ws, i ∈ own.map (·.2) := by decide) (hs : ∀ x, foldedSetIterable iter X.env x = pure x := by intro _; rfl) : VE X Γ W (.ListComp elt [⟨tg, iter, ifs, 0⟩] scope pos) (eCompN fi h t f (own.map (·.2))) :=
  PE.imp (pe_lc hc hN hi ok hg ht he hs) fun _ _ _ q => compN_of hws q
/-- name = [..] on one line -/
theorem vs_setLc {i : Nat} {y : Str} {py spos : Pos} (hc : X.calm = true) (hN : X.N.Nodup) (hi : VI X Γ W tg iter fi) (ok : BlkOk X.N X.env.scope scope own)
    (hg : BlkEnv X scope fun Y => VG Y Γ tg h ws) (ht : BlkEnv X scope fun Y => PTs Y ifs (ttOf Γ W0 t)) (he : BlkEnv X scope fun Y => VE Y Γ W0 elt f)
    (hsw : swapsWith (.ListComp elt [⟨tg, iter, ifs, 0⟩] scope pos) (some (.Name y py)) spos.line X.env = pure true) (hy : X.N[i]? = some y := by rfl) (hyl : X.env.scope.names.lookup y = some .local := by rfl)
    (hws : ∀ i ∈ ws, i ∈ own.map (·.2) := by decide) (hs : ∀ x, foldedSetIterable iter X.env x = pure x := by intro _; rfl) :
    VS X Γ W (.Assign [.Name y py] (.ListComp elt [⟨tg, iter, ifs, 0⟩] scope pos) spos) (sAsg i (eComp fi h t f (own.map (·.2)))) := by
  refine PS.imp (ps_setLc hc hN hy hyl hsw hi ok hg ht he hs) fun D σv H ⟨F, μ, G, σ, S, hσ, hs, q⟩ => comp_of hws ?_
  exact tOf.at hσ hs (Wps.of (H := H) (S := S) q hσ) fun v μ1 G1 H1 S1 vv l s t r q => q _ _ _ (Le.refl _) (Same.refl _) t _ ((hσ.mono l s).set r i)
theorem vs_setLcN {i : Nat} {y : Str} {py spos : Pos} (hc : X.calm = true) (hN : X.N.Nodup) (hi : VI X Γ W tg iter fi) (ok : BlkOk X.N X.env.scope scope own)
    (hg : BlkEnv X scope fun Y => VG Y Γ tg h ws) (ht : BlkEnv X scope fun Y => PTs Y ifs (ttOf Γ W0 t)) (he : BlkEnv X scope fun Y => VE Y Γ W0 elt f)
    (hsw : swapsWith (.ListComp elt [⟨tg, iter, ifs, 0⟩] scope pos) (some (.Name y py)) spos.line X.env = pure true) (hy : X.N[i]? = some y := by rfl) (hyl : X.env.scope.names.lookup y = some .local := by rfl)
    (hws : ∀ i ∈ ws, i ∈ own.map (·.2) := by decide) (hs : ∀ x, foldedSetIterable iter X.env x = pure x := by intro _; rfl) :
    VS X Γ W (.Assign [.Name y py] (.ListComp elt [⟨tg, iter, ifs, 0⟩] scope pos) spos) (sAsg i (eCompN fi h t f (own.map (·.2)))) := by
  refine PS.imp (ps_setLc hc hN hy hyl hsw hi ok hg ht he hs) fun D σv H ⟨F, μ, G, σ, S, hσ, hs, q⟩ => compN_of hws ?_
  exact tOf.at hσ hs (Wps.of (H := H) (S := S) q hσ) fun v μ1 G1 H1 S1 vv l s t r q => q _ _ _ (Le.refl _) (Same.refl _) t _ ((hσ.mono l s).set r i)
end
end Ev

/-! Ev, the rules, part 6: defs and their calls. -/
namespace Ev
open PySem PySem.Spec PyProof.Rows L2

/-! ### what is cleared away behind a call -/
mutual
/-- all handles are below n -/
def hb (n : Nat) : D → Bool
  | .cell k => decide (k < n)
  | .tup ds => hbs n ds
  | .lst ds => hbs n ds
  | _ => true
def hbs (n : Nat) : List D → Bool
  | [] => true
  | d :: r => hb n d && hbs n r
end
def hbC (n : Nat) : C → Bool
  | .lst ds => hbs n ds
  | .ins _ fs => hbs n (fs.map (·.2))
  | .dct kvs => hbs n (kvs.map (·.2))
  | .exn _ _ => true
theorem hbs_all {n : Nat} : ∀ {ds : List D}, hbs n ds = true ↔ ∀ d ∈ ds, hb n d = true
  | [] => by simp [hbs]
  | d :: r => by simp [hbs, hbs_all (ds := r)]
section
variable {K : PySem.W.Frag} {μ μ0 : List Addr} {G : Hp}
mutual
theorem VR.down' {n : Nat} (hn : ∀ k a, k < n → μ[k]? = some a → μ0[k]? = some a) : ∀ {d : D} {v : V}, VR K μ G d v → hb n d = true → VR K μ0 G d v
  | _, _, .non, h => .non
  | _, _, .bl b, h => .bl b
  | _, _, .int i, h => .int i
  | _, _, .str x, h => .str x
  | _, _, .tup e r, h => .tup e (VRs.down' hn r (by simpa [hb] using h))
  | _, _, .lst e r, h => .lst e (VRs.down' hn r (by simpa [hb] using h))
  | _, _, .scr e, h => .scr e
  | _, _, .cell e, h => .cell (hn _ _ (by simpa [hb] using h) e)
theorem VRs.down' {n : Nat} (hn : ∀ k a, k < n → μ[k]? = some a → μ0[k]? = some a) : ∀ {ds : List D} {vs : List V}, VRs K μ G ds vs → hbs n ds = true → VRs K μ0 G ds vs
  | _, _, .nil, h => .nil
  | _, _, .cons r s, h => by
    simp only [hbs, Bool.and_eq_true] at h
    exact .cons (VR.down' hn r h.1) (VRs.down' hn s h.2)
end
theorem VR.down {n : Nat} {d : D} {v : V} (r : VR K μ G d v) (hn : ∀ k a, k < n → μ[k]? = some a → μ0[k]? = some a) (h : hb n d = true) : VR K μ0 G d v := VR.down' hn r h
theorem VRs.down {n : Nat} {ds : List D} {vs : List V} (r : VRs K μ G ds vs) (hn : ∀ k a, k < n → μ[k]? = some a → μ0[k]? = some a) (h : hbs n ds = true) : VRs K μ0 G ds vs := VRs.down' hn r h
mutual
theorem VR.hb : ∀ {d : D} {v : V}, VR K μ G d v → hb μ.length d = true
  | _, _, .non => rfl
  | _, _, .bl b => rfl
  | _, _, .int i => rfl
  | _, _, .str x => rfl
  | _, _, .tup e r => by simpa [Ev.hb] using VRs.hb r
  | _, _, .lst e r => by simpa [Ev.hb] using VRs.hb r
  | _, _, .scr e => rfl
  | _, _, .cell e => by simpa [Ev.hb] using (List.getElem?_eq_some_iff.mp e).1
theorem VRs.hb : ∀ {ds : List D} {vs : List V}, VRs K μ G ds vs → hbs μ.length ds = true
  | _, _, .nil => rfl
  | _, _, .cons r s => by simp [Ev.hbs, VR.hb r, VRs.hb s]
end
theorem FR.down {κ : Type} {n : Nat} (hn : ∀ k a, k < n → μ[k]? = some a → μ0[k]? = some a) {fs : List (κ × D)} {fv : List (κ × V)} (h : hbs n (fs.map (·.2)) = true) (r : FR K μ G fs fv) : FR K μ0 G fs fv := by
  induction r with
  | nil => exact .nil
  | cons r _ ih =>
    simp only [List.map_cons, hbs, Bool.and_eq_true] at h
    exact .cons (r.down hn h.1) (ih h.2)
theorem FR.hb {κ : Type} {fs : List (κ × D)} {fv : List (κ × V)} (r : FR K μ G fs fv) : hbs μ.length (fs.map (·.2)) = true := by
  induction r with
  | nil => rfl
  | cons r _ ih => simp [Ev.hbs, r.hb, ih]
end
theorem CR.hb {Γ : Gm} {μ : List Addr} {G H : Hp} {c : C} {a : Addr} (h : CR Γ μ G H c a) : hbC μ.length c = true := by
  cases c with
  | lst ds => obtain ⟨vs, _, h2⟩ := h; exact h2.hb
  | ins c fs => obtain ⟨dx, fv, _, h2⟩ := h; exact h2.hb
  | dct kvs => obtain ⟨kv, _, h2⟩ := h; exact h2.hb
  | exn c i => rfl
theorem CR.down {Γ : Gm} {μ μ0 : List Addr} {G H : Hp} {c : C} {a : Addr} {n : Nat} (hn : ∀ k a, k < n → μ[k]? = some a → μ0[k]? = some a) (h : CR Γ μ G H c a) (hc : hbC n c = true) : CR Γ μ0 G H c a := by
  cases c with
  | lst ds => obtain ⟨vs, h1, h2⟩ := h; exact ⟨vs, h1, h2.down hn hc⟩
  | ins c fs => obtain ⟨dx, fv, h1, h2⟩ := h; exact ⟨dx, fv, h1, h2.down hn hc⟩
  | dct kvs => obtain ⟨kv, h1, h2⟩ := h; exact ⟨kv, h1, h2.down hn hc⟩
  | exn c i => exact h
/-- behind a call that began at S, the value v2 in S2 may be told as v1 in S1 -/
def Cl (S : Sto) (v2 : D) (S2 : Sto) (v1 : D) (S1 : Sto) : Prop :=
  ∀ (Γ : Gm) (F : Hp) (μ0 : List Addr) (G0 H0 : Hp) (μ : List Addr) (G H : Hp) (vv : V), Sit Γ F μ0 G0 H0 S → Le μ0 μ → Same G0 G → Sit Γ F μ G H S2 → VR Γ.K μ G v2 vv →
    ∃ μ1 G1, Le μ0 μ1 ∧ Same G G1 ∧ Sit Γ F μ1 G1 H S1 ∧ VR Γ.K μ1 G1 v1 vv
theorem Cl.refl (S : Sto) (v : D) (S2 : Sto) : Cl S v S2 v S2 := fun Γ F μ0 G0 H0 μ G H vv t0 l s t r => ⟨μ, G, l, Same.refl _, t, r⟩
theorem Le.take {μ0 μ : List Addr} (l : Le μ0 μ) {n : Nat} (h : μ0.length ≤ n) : Le μ0 (μ.take n) := fun k a e => by
  have hk := (List.getElem?_eq_some_iff.mp e).1
  rw [List.getElem?_take_of_lt (by omega)]
  exact l k a e
theorem take_down {μ : List Addr} {n : Nat} : ∀ k a, k < n → μ[k]? = some a → (μ.take n)[k]? = some a := fun k a hk e => by
  rw [List.getElem?_take_of_lt hk]; exact e
/-- the later cells are dropped -/
theorem Sit.drop {Γ : Gm} {F : Hp} {μ : List Addr} {G H : Hp} {S J : Sto} (t : Sit Γ F μ G H (S ++ J)) (h : ∀ (k : Nat) (c : C), S[k]? = some (some c) → hbC S.length c = true) : Sit Γ F (μ.take S.length) G H S := by
  have hl := t.len
  rw [List.length_append] at hl
  refine ⟨t.sub, t.frm, fun a ha => t.fmu a (List.mem_of_mem_take ha), t.fg, by simp; omega, t.nd.sublist (List.take_sublist _ _), fun a ha => t.dom a (List.mem_of_mem_take ha), fun k a c h1 h2 => ?_, fun k c h1 => ?_⟩
  · have hk := (List.getElem?_eq_some_iff.mp h1).1
    rw [List.getElem?_take_of_lt hk] at h2
    exact t.off k a c (by rw [List.getElem?_append_left hk]; exact h1) h2
  · have hk := (List.getElem?_eq_some_iff.mp h1).1
    obtain ⟨a, ha, hc⟩ := t.at_ k c (by rw [List.getElem?_append_left hk]; exact h1)
    exact ⟨a, take_down k a hk ha, hc.down take_down (h k c h1)⟩
theorem Sit.hbs {Γ : Gm} {F : Hp} {μ : List Addr} {G H : Hp} {S : Sto} (t : Sit Γ F μ G H S) (k : Nat) (c : C) (h : S[k]? = some (some c)) : hbC S.length c = true := by
  obtain ⟨a, _, hc⟩ := t.at_ k c h
  rw [← t.len]
  exact hc.hb
/-- what the call has made is dropped; old cells may have changed -/
theorem Cl.drop {S S' J : Sto} {v : D} (hl : S'.length = S.length) (hS : ∀ (k : Nat) (c : C), S'[k]? = some (some c) → S[k]? = some (some c) ∨ hbC S.length c = true) (hv : hb S.length v = true) : Cl S v (S' ++ J) v S' :=
  fun Γ F μ0 G0 H0 μ G H vv t0 l s t r => by
    refine ⟨μ.take S'.length, G, l.take (by rw [hl, t0.len]; exact Nat.le_refl _), Same.refl _, t.drop fun k c h => ?_, r.down (n := S.length) (fun k a hk e => by rw [hl]; exact take_down k a hk e) hv⟩
    rcases hS k c h with h | h
    · rw [hl]; exact t0.hbs k c h
    · rw [hl]; exact h
/-- all is as it was -/
theorem Cl.pure {S J : Sto} {v : D} (hv : hb S.length v = true) : Cl S v (S ++ J) v S := Cl.drop rfl (fun _ _ h => .inl h) hv
/-- the list that comes back never changes from here on -/
theorem Cl.frz {S J : Sto} {j : Nat} {ds : List D} (hj : J[j]? = some (some (.lst ds))) (hv : hb S.length (.lst ds) = true) : Cl S (.cell (S.length + j)) (S ++ J) (.lst ds) S :=
  fun Γ F μ0 G0 H0 μ G H vv t0 l s t r => by
    have hk : (S ++ J)[S.length + j]? = some (some (.lst ds)) := by rw [List.getElem?_append_right (by omega)]; simpa using hj
    obtain ⟨a, G', ha, sg, t', r'⟩ := t.freeze hk
    rw [List.set_append_right _ _ (by omega)] at t'
    have e : vv = .ref a := by
      cases r with
      | cell e => rw [ha] at e; cases e; rfl
    subst e
    have hl := t0.len
    refine ⟨μ.take S.length, G', l.take (by rw [hl]; exact Nat.le_refl _), sg, t'.drop fun k c h => t0.hbs k c h, r'.down (n := S.length) take_down hv⟩
/-- the new thing that comes back is the one new cell -/
theorem Cl.fresh {S J : Sto} {j : Nat} {c : C} (hj : J[j]? = some (some c)) (hc : hbC S.length c = true) : Cl S (.cell (S.length + j)) (S ++ J) (.cell S.length) (S ++ [some c]) :=
  fun Γ F μ0 G0 H0 μ G H vv t0 l s t r => by
    have hk : (S ++ J)[S.length + j]? = some (some c) := by rw [List.getElem?_append_right (by omega)]; simpa using hj
    obtain ⟨a, ha, hcr⟩ := t.at_ _ _ hk
    have e : vv = .ref a := by
      cases r with
      | cell e => rw [ha] at e; cases e; rfl
    subst e
    have hl := t0.len
    have htl : (μ.take S.length).length = S.length := by
      have := t.len
      rw [List.length_append] at this
      rw [List.length_take]; omega
    have td : Sit Γ F (μ.take S.length) G H S := t.drop fun k c h => t0.hbs k c h
    have hg : G a = none := t.off _ a c hk ha
    have hm : a ∉ μ.take S.length := fun z => by
      obtain ⟨i, hi⟩ := List.getElem?_of_mem z
      have hil : i < S.length := by have := (List.getElem?_eq_some_iff.mp hi).1; rw [htl] at this; exact this
      rw [List.getElem?_take_of_lt hil] at hi
      obtain ⟨p1, q1⟩ := List.getElem?_eq_some_iff.mp hi
      obtain ⟨p2, q2⟩ := List.getElem?_eq_some_iff.mp ha
      have := (List.getElem_inj t.nd).mp (q1.trans q2.symm)
      omega
    obtain ⟨o, ho⟩ := hcr.there
    have hcd : CR Γ (μ.take S.length) G H c a := hcr.down take_down hc
    exact ⟨μ.take S.length ++ [a], G, (l.take (by rw [hl]; exact Nat.le_refl _)).trans (Le.push _ _), Same.refl _, td.adoptC c ho hm hg (t.fmu a (List.mem_of_getElem? ha)) (hcd.mono (Le.push _ _) (Same.refl _) fun o e => e),
      .cell (by rw [List.getElem?_append_right (by omega), htl]; simp)⟩

/-! ### defs -/
def spOf (Γ : Gm) (n : Nat) (fn : Fn) : Sp := fun vs H Q E => ∃ F μ G ds S, ds.length = n ∧ VRs Γ.K μ G ds vs ∧ Sit Γ F μ G H S ∧ Wp Γ F E μ G (fn ds S) fun v μ' G' H' _ => ∀ vv, VR Γ.K μ' G' v vv → Q vv H'
/-- a body, run -/
def runB (n : Nat) (body : Sx) : Fn := fun ds S => match body (ds.map some ++ List.replicate (n - ds.length) none) S with
  | .nx _ S' => .ok .non S'
  | .rt v S' => .ok v S'
  | .ex c a _ S' => .ex c a S'
  | _ => .no
/-- an exception's argument holds no handle -/
def plainA : Option D → Bool
  | none => true
  | some (.int _) => true
  | _ => false
/-- what is promised is what the body does -/
def Ref (S : Sto) (r1 r2 : R D) : Prop := match r1 with
  | .no => True
  | .ok v S1 => ∃ v2 S2, r2 = .ok v2 S2 ∧ Cl S v2 S2 v S1
  | .ex c a S1 => ∃ J, r2 = .ex c a (S1 ++ J) ∧ S1.length = S.length ∧ (∀ (k : Nat) (x : C), S1[k]? = some (some x) → S[k]? = some (some x) ∨ hbC S.length x = true) ∧ plainA a = true
theorem Ref.no {S : Sto} {r : R D} : Ref S .no r := trivial
theorem Ref.ok {S : Sto} {v v2 : D} {S1 S2 : Sto} {r : R D} (h : r = .ok v2 S2) (c : Cl S v2 S2 v S1) : Ref S (.ok v S1) r := ⟨v2, S2, h, c⟩
theorem Ref.self {S : Sto} {v : D} {S1 : Sto} {r : R D} (h : r = .ok v S1) : Ref S (.ok v S1) r := ⟨v, S1, h, Cl.refl _ _ _⟩
def eFn (n : Nat) (fn : Fn) (a : Ax) : Ex := fun σ S => (a σ S).bind fun ds S1 => if ds.length = n then fn ds S1 else .no
section
variable {P : Program} {w : World} {K : PySem.W.Frag} {mg : Str → Option Value} {base : Heap} {Γ : Gm}
theorem fn_ok {x qual : Str} {st : Stmt} {f : Addr} {fd : FuncData} {N ps : List Str} {k n : Nat} {fn : Fn} {body : Sx} (Fu : FunD K x qual (defArgs st) (defBody st) (defScope st) [] [] f fd) (Sc : FnScope N ps (defScope st)) (hK : Γ.K = K) (hn : ps.length = n)
    (hbody : ∀ (cdv : Value) (A : Around) (outer : List PySem.Env) (s : Shared) (H : Hp) (E : XK), Room k (A.deeper (envOfC qual (defScope st) s.heap.objs.size f cdv)) →
      VSs (cxOf (L2.CX P w) P w K mg base N qual (defScope st) f cdv A outer s H E) Γ (fun c d _ H => E c d H) (defBody st) body)
    (hfn : ∀ ds S, ds.length = n → Ref S (fn ds S) (runB N.length body ds S)) : FnOk P w K mg base (L2.CX P w) (k + 1) f fd ps (spOf Γ n fn) := by
  refine Fu.ok (CX := L2.CX P w) Sc (fun vs H Q E ⟨F, μ, G, ds, S, hl, r, t, q⟩ => by rw [← r.length, hl, hn]) fun cdv A outer s H vs Q E hr ⟨F, μ, G, ds, S, hl, r, t, q⟩ => ⟨_, hbody cdv A outer s H E hr, ?_⟩
  have hr := hfn ds S hl
  have hvl : vs.length = ds.length := r.length.symm
  have hσ : SR Γ.K μ G (ds.map some ++ List.replicate (N.length - ds.length) none) (L2.start N vs) := by
    unfold L2.start
    rw [hvl]
    exact SR.args r _
  refine ⟨F, μ, G, _, S, hσ, t, ?_⟩
  cases hf : fn ds S with
  | no => rw [hf] at q; exact q.elim
  | ok v S1 =>
    rw [hf] at hr q
    obtain ⟨v2, S2, h2, cl⟩ := hr
    unfold runB at h2
    cases hb : body (ds.map some ++ List.replicate (N.length - ds.length) none) S with
    | no => rw [hb] at h2; cases h2
    | nx σ' S' =>
      rw [hb] at h2; cases h2
      intro μ' G' H' l' s' t' σv' _
      obtain ⟨μ1, G1, l1, s1, t1, r1⟩ := cl Γ F μ G H μ' G' H' .non t l' s' t' .non
      exact q μ1 G1 H' l1 (s'.trans s1) t1 .non r1
    | rt v' S' =>
      rw [hb] at h2; cases h2
      intro μ' G' H' l' s' t' vv rr
      obtain ⟨μ1, G1, l1, s1, t1, r1⟩ := cl Γ F μ G H μ' G' H' vv t l' s' t' rr
      exact q μ1 G1 H' l1 (s'.trans s1) t1 vv r1
    | bk σ' S' => rw [hb] at h2; cases h2
    | ct σ' S' => rw [hb] at h2; cases h2
    | ex c a σ' S' => rw [hb] at h2; cases h2
  | ex c a S1 =>
    rw [hf] at hr q
    obtain ⟨J, h2, hSl, hSk, pa⟩ := hr
    unfold runB at h2
    cases hb : body (ds.map some ++ List.replicate (N.length - ds.length) none) S with
    | no => rw [hb] at h2; cases h2
    | nx σ' S' => rw [hb] at h2; cases h2
    | rt v' S' => rw [hb] at h2; cases h2
    | bk σ' S' => rw [hb] at h2; cases h2
    | ct σ' S' => rw [hb] at h2; cases h2
    | ex c' a' σ' S' =>
      rw [hb] at h2; cases h2
      intro μ' G' H' l' s' t' σv' d _ x
      refine q (μ'.take S1.length) G' H' (l'.take (by rw [t.len, hSl]; exact Nat.le_refl _)) s' (t'.drop fun k c h => by
        rcases hSk k c h with h | h
        · rw [hSl]; exact t.hbs k c h
        · rw [hSl]; exact h) d ?_
      cases a with
      | none =>
        cases d with
        | none => exact trivial
        | some d => exact x.elim
      | some y =>
        cases y with
        | int i =>
          cases d with
          | none => exact x
          | some d =>
            obtain ⟨va, x1, x2, x3, x4⟩ := x
            cases x2
            exact ⟨_, x1, .int i, fun z => x3 (List.mem_of_mem_take z), x4⟩
        | _ => simp [plainA] at pa
end
section
variable {X : Cx} {Γ : Gm} {W : WX} {k n : Nat} {f : Addr} {fd : FuncData} {ps : List Str} {fn : Fn} {x : Str} {p pos : Pos} {e : Expr} {es : List Expr} {a : Ax}
theorem fn_of {F : Hp} {μ : List Addr} {G H1 : Hp} {S1 : Sto} {ds : List D} {vs : List V} {Q : VK} {E : XK} (t : Sit Γ F μ G H1 S1) (r : VRs Γ.K μ G ds vs) (q : Wp Γ F E μ G (if ds.length = n then fn ds S1 else .no) fun v μ' G' H' _ => ∀ vv, VR Γ.K μ' G' v vv → Q vv H') : spOf Γ n fn vs H1 Q E := by
  split at q
  · rename_i hl; exact ⟨F, μ, G, ds, S1, hl, r, t, q⟩
  · exact q.elim
theorem ve_call (Fo : FnOk X.prog X.w X.K X.mg X.base (L2.CX X.prog X.w) k f fd ps (spOf Γ n fn)) (hr : Room k X.A) (hm : X.mg x = some (.ref f)) (hk : PySem.W.keepIn X.K (.ref f) = true) (hb : Binds X.K fd ps []) (tk : Takes X W) (ha : VA X Γ W (e :: es) a) (hg : Gl X x := by rfl)
    (hdb : (x == ("__debug__" : Str)) = false := by decide) (he : starEach (e :: es) X.env = (false, eval e X.env) :: starEach es X.env := by rfl) (hpl : (backTo pos (starEach es X.env)).any (·.1) = false := by rfl) :
    VE X Γ W (.Call (.Name x p) (e :: es) [] pos) (eFn n fn a) := by
  refine PE.imp (pe_callS Fo hr hg hm hk hb (fun σ => passAt tk σ) ha hdb he hpl) fun σv H Q ⟨F, μ, G, σ, S, hσ, hs, h⟩ => ?_
  exact taOf.at hσ hs (Wp.bind h) fun vs μ1 G1 H1 S1 vv l s t r q => fn_of t r q
theorem ve_call0 (Fo : FnOk X.prog X.w X.K X.mg X.base (L2.CX X.prog X.w) k f fd ps (spOf Γ n fn)) (hr : Room k X.A) (hm : X.mg x = some (.ref f)) (hk : PySem.W.keepIn X.K (.ref f) = true) (hb : Binds X.K fd ps []) (tk : Takes X W) (hg : Gl X x := by rfl)
    (hdb : (x == ("__debug__" : Str)) = false := by decide) : VE X Γ W (.Call (.Name x p) [] [] pos) (eFn n fn aNil) := by
  refine ⟨fun pins s σv H Q I ⟨F, μ, G, σ, S, hσ, hs, h⟩ => ?_⟩
  refine wpAny_Call_Name_kw (ld_glob I hg hm ?_ hdb)
  exact PySem.W.callWith_K0 I.kIn hk (run_fnS (us := []) Fo hr hb (passAt tk σv) I .nil (fn_of hs .nil h))
theorem takes00 {X : Cx} : Takes X W0 := takes0
end
/-- the def x (or the method m of the class x) keeps the promise fn, k calls deep -/
structure Has (P : Program) (w : World) (K : PySem.W.Frag) (mg : Str → Option Value) (base : Heap) (Γ : Gm) (k : Nat) (x : Str) (m : Option Str) (ps : List Str) (n : Nat) (fn : Fn) : Prop where
  ex : ∃ fd, FnOk P w K mg base (L2.CX P w) k (He.fAd K (x, m)) fd ps (spOf Γ n fn) ∧ Binds K fd ps []
  kp : PySem.W.keepIn K (.ref (He.fAd K (x, m))) = true
section
variable {P : Program} {w : World} {K : PySem.W.Frag} {mg : Str → Option Value} {base : Heap} {Γ : Gm} {k j n : Nat} {x : Str} {m : Option Str} {ps : List Str} {fn : Fn}
theorem Has.mono (h : Has P w K mg base Γ j x m ps n fn) (l : j ≤ k) : Has P w K mg base Γ k x m ps n fn := by
  obtain ⟨⟨fd, F, b⟩, kp⟩ := h
  exact ⟨⟨fd, F.mono l, b⟩, kp⟩
/-- where a def stands -/
structure At (K : PySem.W.Frag) (x : Str) (m : Option Str) (nm qual : Str) (st : Stmt) (ps : List Str) : Prop where
  ex : ∃ fd, FunD K nm qual (defArgs st) (defBody st) (defScope st) [] [] (He.fAd K (x, m)) fd ∧ Binds K fd ps []
/-- nothing is promised -/
theorem Has.none {nm qual : Str} {st : Stmt} (a : At K x m nm qual st ps) (h : ∀ ds S, fn ds S = .no) : Has P w K mg base Γ 0 x m ps n fn := by
  obtain ⟨fd, F, b⟩ := a.ex
  refine ⟨⟨fd, ⟨fun vs H Q E ⟨F, μ, G, ds, S, hl, r, t, q⟩ => ?_, fun A outer s H args us vs Q E hr he hb hv ⟨F, μ, G, ds, S, hl, r, t, q⟩ => ?_⟩, b⟩, F.kp⟩
  · rw [h] at q; exact q.elim
  · rw [h] at q; exact q.elim
theorem Has.of {nm qual : Str} {st : Stmt} {N : List Str} {body : Sx} (a : At K x m nm qual st ps) (Sc : FnScope N ps (defScope st)) (hK : Γ.K = K) (hn : ps.length = n)
    (hbody : ∀ (cdv : Value) (A : Around) (outer : List PySem.Env) (s : Shared) (H : Hp) (E : XK), Room k (A.deeper (envOfC qual (defScope st) s.heap.objs.size (He.fAd K (x, m)) cdv)) →
      VSs (cxOf (L2.CX P w) P w K mg base N qual (defScope st) (He.fAd K (x, m)) cdv A outer s H E) Γ (fun c d _ H => E c d H) (defBody st) body)
    (hfn : ∀ ds S, ds.length = n → Ref S (fn ds S) (runB N.length body ds S)) : Has P w K mg base Γ (k + 1) x m ps n fn := by
  obtain ⟨fd, F, b⟩ := a.ex
  exact ⟨⟨fd, fn_ok F Sc hK hn hbody hfn, b⟩, F.kp⟩
/-- another promise that asks more -/
theorem Has.imp {fn' : Fn} (h : Has P w K mg base Γ k x m ps n fn) (hf : ∀ ds S, fn' ds S = .no ∨ fn' ds S = fn ds S) : Has P w K mg base Γ k x m ps n fn' := by
  obtain ⟨⟨fd, F, b⟩, kp⟩ := h
  refine ⟨⟨fd, F.imp fun vs H Q E ⟨F, μ, G, ds, S, hl, r, t, q⟩ => ⟨F, μ, G, ds, S, hl, r, t, ?_⟩, b⟩, kp⟩
  rcases hf ds S with e | e
  · rw [e] at q; exact q.elim
  · rw [e] at q; exact q
end
section
variable {X : Cx} {Γ : Gm} {W : WX} {k n : Nat} {ps : List Str} {fn : Fn} {x : Str} {p pos : Pos} {e : Expr} {es : List Expr} {a : Ax}
theorem Has.call (h : Has X.prog X.w X.K X.mg X.base Γ k x .none ps n fn) (hm : X.mg x = some (.ref (He.ga X.K x))) (hr : Room k X.A) (tk : Takes X W) (ha : VA X Γ W (e :: es) a) (hg : Gl X x := by rfl)
    (hdb : (x == ("__debug__" : Str)) = false := by decide) (he : starEach (e :: es) X.env = (false, eval e X.env) :: starEach es X.env := by rfl) (hpl : (backTo pos (starEach es X.env)).any (·.1) = false := by rfl) :
    VE X Γ W (.Call (.Name x p) (e :: es) [] pos) (eFn n fn a) := by
  obtain ⟨⟨fd, F, b⟩, kp⟩ := h
  exact ve_call F hr hm kp b tk ha hg hdb he hpl
theorem Has.call0 (h : Has X.prog X.w X.K X.mg X.base Γ k x .none ps n fn) (hm : X.mg x = some (.ref (He.ga X.K x))) (hr : Room k X.A) (tk : Takes X W) (hg : Gl X x := by rfl)
    (hdb : (x == ("__debug__" : Str)) = false := by decide) : VE X Γ W (.Call (.Name x p) [] [] pos) (eFn n fn aNil) := by
  obtain ⟨⟨fd, F, b⟩, kp⟩ := h
  exact ve_call0 F hr hm kp b tk hg hdb
theorem ve_isT_ (T : String) (hT : ∀ n ∈ tyNames, kitB n T = some (n == T || (n == "bool" && T == "int"))) (hv : bootBuiltins (Str.ofString T) = some (.type T)) (hn : (Str.ofString T) ≠ "__name__") (hd : ((Str.ofString T) == ("__debug__" : Str)) = false)
    {f : Ex} {p2 : Pos} (hm : X.mg (Str.ofString T) = none) (hmi : X.mg "isinstance" = none) (hc : VE X Γ W e f) (hg : Gl X (Str.ofString T)) (hgi : Gl X "isinstance") (hK : X.K = Γ.K)
    (hs : starEach (e :: [.Name (Str.ofString T) p2]) X.env = (false, eval e X.env) :: starEach [.Name (Str.ofString T) p2] X.env) :
    VE X Γ W (.Call (.Name "isinstance" p) [e, .Name (Str.ofString T) p2] [] pos) (op1 (gIsT T) f) := ve_isT hc hT hv hm hmi hg hgi hn hd hK hs
theorem ve_isT_str {f : Ex} {p2 : Pos} (hm : X.mg "str" = none) (hmi : X.mg "isinstance" = none) (hc : VE X Γ W e f) (hg : Gl X "str" := by rfl) (hgi : Gl X "isinstance" := by rfl) (hK : X.K = Γ.K := by rfl) (hs : starEach (e :: [.Name "str" p2]) X.env = (false, eval e X.env) :: starEach [.Name "str" p2] X.env := by rfl) :
    VE X Γ W (.Call (.Name "isinstance" p) [e, .Name "str" p2] [] pos) (op1 (gIsT "str") f) := ve_isT_ "str" (by decide +kernel) (by decide +kernel) (by decide +kernel) (by decide +kernel) hm hmi hc hg hgi hK hs
theorem ve_isT_int {f : Ex} {p2 : Pos} (hm : X.mg "int" = none) (hmi : X.mg "isinstance" = none) (hc : VE X Γ W e f) (hg : Gl X "int" := by rfl) (hgi : Gl X "isinstance" := by rfl) (hK : X.K = Γ.K := by rfl) (hs : starEach (e :: [.Name "int" p2]) X.env = (false, eval e X.env) :: starEach [.Name "int" p2] X.env := by rfl) :
    VE X Γ W (.Call (.Name "isinstance" p) [e, .Name "int" p2] [] pos) (op1 (gIsT "int") f) := ve_isT_ "int" (by decide +kernel) (by decide +kernel) (by decide +kernel) (by decide +kernel) hm hmi hc hg hgi hK hs
theorem ve_isT_bool {f : Ex} {p2 : Pos} (hm : X.mg "bool" = none) (hmi : X.mg "isinstance" = none) (hc : VE X Γ W e f) (hg : Gl X "bool" := by rfl) (hgi : Gl X "isinstance" := by rfl) (hK : X.K = Γ.K := by rfl) (hs : starEach (e :: [.Name "bool" p2]) X.env = (false, eval e X.env) :: starEach [.Name "bool" p2] X.env := by rfl) :
    VE X Γ W (.Call (.Name "isinstance" p) [e, .Name "bool" p2] [] pos) (op1 (gIsT "bool") f) := ve_isT_ "bool" (by decide +kernel) (by decide +kernel) (by decide +kernel) (by decide +kernel) hm hmi hc hg hgi hK hs
theorem ve_isT_list {f : Ex} {p2 : Pos} (hm : X.mg "list" = none) (hmi : X.mg "isinstance" = none) (hc : VE X Γ W e f) (hg : Gl X "list" := by rfl) (hgi : Gl X "isinstance" := by rfl) (hK : X.K = Γ.K := by rfl) (hs : starEach (e :: [.Name "list" p2]) X.env = (false, eval e X.env) :: starEach [.Name "list" p2] X.env := by rfl) :
    VE X Γ W (.Call (.Name "isinstance" p) [e, .Name "list" p2] [] pos) (op1 (gIsT "list") f) := ve_isT_ "list" (by decide +kernel) (by decide +kernel) (by decide +kernel) (by decide +kernel) hm hmi hc hg hgi hK hs
theorem ve_isT_tuple {f : Ex} {p2 : Pos} (hm : X.mg "tuple" = none) (hmi : X.mg "isinstance" = none) (hc : VE X Γ W e f) (hg : Gl X "tuple" := by rfl) (hgi : Gl X "isinstance" := by rfl) (hK : X.K = Γ.K := by rfl) (hs : starEach (e :: [.Name "tuple" p2]) X.env = (false, eval e X.env) :: starEach [.Name "tuple" p2] X.env := by rfl) :
    VE X Γ W (.Call (.Name "isinstance" p) [e, .Name "tuple" p2] [] pos) (op1 (gIsT "tuple") f) := ve_isT_ "tuple" (by decide +kernel) (by decide +kernel) (by decide +kernel) (by decide +kernel) hm hmi hc hg hgi hK hs
end
end Ev

/-! Ev, how the evaluator is run: rows for simp. -/
namespace Ev
open PySem PySem.Spec PyProof.Rows L2

/-! ### the store -/
section
variable {S L : Sto} {k : Nat} {c : Option C}
@[simp] theorem get_app0 : (S ++ L)[S.length]? = L[0]? := by rw [List.getElem?_append_right (Nat.le_refl _)]; simp
@[simp] theorem get_app : (S ++ L)[S.length + k]? = L[k]? := by rw [List.getElem?_append_right (by omega)]; simp
@[simp] theorem set_app0 : (S ++ L).set S.length c = S ++ L.set 0 c := by rw [List.set_append_right _ _ (Nat.le_refl _)]; simp
@[simp] theorem set_app : (S ++ L).set (S.length + k) c = S ++ L.set k c := by rw [List.set_append_right _ _ (by omega)]; simp
theorem get_old {x : Option C} (h : S[k]? = some x) : (S ++ L)[k]? = some x := by
  rw [List.getElem?_append_left (List.getElem?_eq_some_iff.mp h).1]; exact h
theorem set_old (h : k < S.length) : (S ++ L).set k c = S.set k c ++ L := by rw [List.set_append_left _ _ h]
end
section
variable {σ : Env} {S : Sto}
/-! ### expressions -/
@[simp] theorem eVar_eq (i : Nat) : eVar i σ S = match σ[i]? with
  | some (some d) => .ok d S
  | _ => .no := rfl
@[simp] theorem eC_eq (d : D) : eC d σ S = .ok d S := rfl
@[simp] theorem aNil_eq : aNil σ S = .ok [] S := rfl
@[simp] theorem aCons_eq (f : Ex) (g : Ax) : aCons f g σ S = (f σ S).bind fun d S1 => (g σ S1).bind fun ds S2 => .ok (d :: ds) S2 := rfl
@[simp] theorem eTup_eq (a : Ax) : eTup a σ S = (a σ S).bind fun ds S1 => if ds.length ≤ 1000 then .ok (.tup ds) S1 else .no := rfl
@[simp] theorem eLst_eq (a : Ax) : eLst a σ S = (a σ S).bind fun ds S1 => if ds.length ≤ 1000 then .ok (.lst ds) S1 else .no := rfl
@[simp] theorem eNew_eq (a : Ax) : eNew a σ S = (a σ S).bind fun ds S1 => if ds.length ≤ 1000 then .ok (.cell S1.length) (S1 ++ [some (.lst ds)]) else .no := rfl
@[simp] theorem eFrz_eq (f : Ex) : eFrz f σ S = (f σ S).bind frzD := rfl
@[simp] theorem frzD_cell (k : Nat) : frzD (.cell k) S = match S[k]? with
    | some (some (.lst ds)) => .ok (.lst ds) (S.set k none)
    | _ => .no := rfl
@[simp] theorem frzD_lst (ds : List D) : frzD (.lst ds) S = .ok (.lst ds) S := rfl
@[simp] theorem frzD_tup (ds : List D) : frzD (.tup ds) S = .ok (.tup ds) S := rfl
@[simp] theorem op1_eq (g : D → Sto → R D) (f : Ex) : op1 g f σ S = (f σ S).bind g := rfl
@[simp] theorem op2_eq (g : D → D → Sto → R D) (f1 f2 : Ex) : op2 g f1 f2 σ S = (f1 σ S).bind fun x S1 => (f2 σ S1).bind fun y S2 => g x y S2 := rfl
@[simp] theorem tTst_eq (f : Ex) : tTst f σ S = (f σ S).bind fun v S1 => match v with
  | .bl b => .ok b S1
  | _ => .no := rfl
@[simp] theorem tAnd_eq (f g : Tx) : tAnd f g σ S = (f σ S).bind fun b S1 => if b = true then g σ S1 else .ok false S1 := rfl
@[simp] theorem tOr_eq (f g : Tx) : tOr f g σ S = (f σ S).bind fun b S1 => if b = true then .ok true S1 else g σ S1 := rfl
@[simp] theorem tNot_eq (f : Tx) : tNot f σ S = (f σ S).bind fun b S1 => .ok (!b) S1 := rfl
@[simp] theorem tYes_eq : tYes σ S = .ok true S := rfl
@[simp] theorem eAnd_eq (f g : Ex) : eAnd f g σ S = (f σ S).bind fun v S1 => match v with
  | .bl b => if b = true then g σ S1 else .ok (.bl false) S1
  | _ => .no := rfl
@[simp] theorem eOr_eq (f g : Ex) : eOr f g σ S = (f σ S).bind fun v S1 => match v with
  | .bl b => if b = true then .ok (.bl true) S1 else g σ S1
  | _ => .no := rfl
@[simp] theorem gNot_bl (b : Bool) : gNot (.bl b) S = .ok (.bl (!b)) S := rfl
@[simp] theorem eIf_eq (t : Tx) (f g : Ex) : eIf t f g σ S = (t σ S).bind fun b S1 => if b = true then f σ S1 else g σ S1 := rfl
@[simp] theorem eSl_eq (g : D → Option Int → Option Int → Sto → R D) (f : Ex) (lo hi : Ox) : eSl g f lo hi σ S = (f σ S).bind fun x S1 => (lo σ S1).bind fun l S2 => (hi σ S2).bind fun h S3 => g x l h S3 := rfl
@[simp] theorem oN_eq : oN σ S = .ok none S := rfl
@[simp] theorem oS_eq (f : Ex) : oS f σ S = (f σ S).bind fun v S1 => match v with
  | .int i => .ok (some i) S1
  | _ => .no := rfl
@[simp] theorem eCall_eq (g : List D → Sto → R D) (a : Ax) : eCall g a σ S = (a σ S).bind g := rfl
@[simp] theorem eFn_eq (n : Nat) (fn : Fn) (a : Ax) : eFn n fn a σ S = (a σ S).bind fun ds S1 => if ds.length = n then fn ds S1 else .no := rfl
@[simp] theorem eMeth_eq (T : String) (g : D → List D → Sto → R D) (f : Ex) (a : Ax) : eMeth T g f a σ S = (f σ S).bind fun x S1 => if isTy T x S1 = true then (a σ S1).bind fun ys S2 => g x ys S2 else .no := rfl
/-! ### statements -/
@[simp] theorem sSeq_eq (f g : Sx) : sSeq f g σ S = match f σ S with
  | .nx σ' S' => g σ' S'
  | r => r := rfl
@[simp] theorem sNil_eq : sNil σ S = .nx σ S := rfl
@[simp] theorem sExp_eq (f : Ex) : sExp f σ S = SO.of (f σ S) σ fun _ S1 => .nx σ S1 := rfl
@[simp] theorem sRet_eq (f : Ex) : sRet f σ S = SO.of (f σ S) σ fun v S1 => .rt v S1 := rfl
@[simp] theorem sRetN_eq : sRetN σ S = .rt .non S := rfl
@[simp] theorem sIf_eq (t : Tx) (f g : Sx) : sIf t f g σ S = SO.of (t σ S) σ fun b S1 => if b = true then f σ S1 else g σ S1 := rfl
@[simp] theorem sAsg_eq (i : Nat) (f : Ex) : sAsg i f σ S = SO.of (f σ S) σ fun v S1 => .nx (σ.set i (some v)) S1 := rfl
@[simp] theorem sNo_eq : sNo σ S = .no := rfl
@[simp] theorem sBrk_eq : sBrk σ S = .bk σ S := rfl
@[simp] theorem sCnt_eq : sCnt σ S = .ct σ S := rfl
@[simp] theorem sFrz_eq (i : Nat) : sFrz i σ S = match σ[i]? with
  | some (some d) => SO.of (frzD d S) σ fun v S1 => .nx (σ.set i (some v)) S1
  | _ => .no := rfl
@[simp] theorem sTgt_eq (h : Hx) (f : Ex) : sTgt h f σ S = SO.of (f σ S) σ fun v S1 => match h v σ with
  | some σ' => .nx σ' S1
  | none => .no := rfl
@[simp] theorem sIx_eq (fv fo fi : Ex) : sIx fv fo fi σ S = SO.of (fv σ S) σ fun v S1 => SO.of (fo σ S1) σ fun o S2 => SO.of (fi σ S2) σ fun i S3 => match o, i with
  | .cell k, .int n => (match S3[k]? with
    | some (some (.lst ds)) => (match ixN ds.length n with
      | some j => .nx σ (S3.set k (some (.lst (ds.set j v))))
      | none => .no)
    | _ => .no)
  | _, _ => .no := rfl
@[simp] theorem sAug_eq (i : Nat) (g : D → D → Sto → R D) (f : Ex) : sAug i g f σ S = match σ[i]? with
  | some (some x) => SO.of (f σ S) σ fun y S1 => SO.of (g x y S1) σ fun z S2 => .nx (σ.set i (some z)) S2
  | _ => .no := rfl
@[simp] theorem hName_eq (i : Nat) (d : D) : hName i d σ = some (σ.set i (some d)) := rfl
@[simp] theorem hNil_eq : hNil [] σ = some σ := rfl
@[simp] theorem hCons_eq (h : Hx) (hs : Hxs) (d : D) (r : List D) : hCons h hs (d :: r) σ = (h d σ).bind fun σ' => hs r σ' := rfl
@[simp] theorem hTup_eq (n : Nat) (hs : Hxs) (ds : List D) : hTup n hs (.tup ds) σ = if ds.length = n then hs ds σ else none := rfl
@[simp] theorem sFor_eq (fi : Ix) (h : Hx) (body : Sx) : sFor fi h body σ S = SO.of (fi σ S) σ fun p S1 => forL p.1 h body p.2 σ S1 := rfl
@[simp] theorem iL_eq (f : Ex) : iL f σ S = (f σ S).bind fun d S1 => match itL d S1 with
  | some p => .ok p S1
  | none => .no := rfl
@[simp] theorem iT_eq (f : Ex) : iT f σ S = (f σ S).bind fun d S1 => match d with
  | .tup ds => .ok (still, ds) S1
  | _ => .no := rfl
@[simp] theorem iStr_eq (f : Ex) : iStr f σ S = (f σ S).bind fun d S1 => match d with
  | .str x => .ok (still, x.cps.toList.map fun c => .str ⟨#[c]⟩) S1
  | _ => .no := rfl
@[simp] theorem iEnum_eq (f : Ex) : iEnum f σ S = (f σ S).bind fun d S1 => match itL d S1 with
  | some p => .ok (p.1, pairsFrom 0 p.2) S1
  | none => .no := rfl
@[simp] theorem iRev_eq (f : Ex) : iRev f σ S = (f σ S).bind fun d S1 => match itL d S1 with
  | some p => .ok (p.1, p.2.reverse) S1
  | none => .no := rfl
@[simp] theorem iR1_eq (f : Ex) : iR1 f σ S = (f σ S).bind fun d S1 => match d with
  | .int j => cif (-4611686018427387904 ≤ j ∧ j < 4611686018427387904) (.ok (still, intsD 0 j.toNat) S1) .no
  | _ => .no := rfl
@[simp] theorem iR2_eq (f g : Ex) : iR2 f g σ S = (f σ S).bind fun d S1 => (g σ S1).bind fun e S2 => match d, e with
  | .int i, .int j => cif (-4611686018427387904 ≤ i ∧ i < 4611686018427387904 ∧ -4611686018427387904 ≤ j ∧ j < 4611686018427387904) (.ok (still, intsD i (j - i).toNat) S2) .no
  | _, _ => .no := rfl
@[simp] theorem itL_lst (ds : List D) : itL (.lst ds) S = some (still, ds) := rfl
@[simp] theorem itL_cell (k : Nat) : itL (.cell k) S = match S[k]? with
    | some (some (.lst ds)) => some (fun S => S[k]? = some (some (.lst ds)), ds)
    | _ => none := rfl
@[simp] theorem eComp_eq (fi : Ix) (h : Hx) (t : Tx) (f : Ex) (own : List Nat) : eComp fi h t f own σ S = (fi σ S).bind fun p S1 => (compL p.1 h t f (wipeE σ own) p.2 [] S1).bind fun ds S2 => .ok (.lst ds) S2 := rfl
@[simp] theorem eCompN_eq (fi : Ix) (h : Hx) (t : Tx) (f : Ex) (own : List Nat) : eCompN fi h t f own σ S = (fi σ S).bind fun p S1 => (compL p.1 h t f (wipeE σ own) p.2 [] S1).bind fun ds S2 => .ok (.cell S2.length) (S2 ++ [some (.lst ds)]) := rfl
@[simp] theorem wipeE_nil : wipeE σ [] = σ := rfl
@[simp] theorem wipeE_cons (v : Nat) (vs : List Nat) : wipeE σ (v :: vs) = (wipeE σ vs).set v none := rfl
end
/-! ### operations -/
section
variable {S : Sto}
@[simp] theorem gAdd_int (i j : Int) : gAdd (.int i) (.int j) S = .ok (.int (i + j)) S := rfl
@[simp] theorem gAdd_str (i j : Str) : gAdd (.str i) (.str j) S = if i.length + j.length ≤ sizeLine then .ok (.str (i ++ j)) S else .no := rfl
@[simp] theorem gAdd_lst (a b : List D) : gAdd (.lst a) (.lst b) S = if a.length + b.length ≤ sizeLine then .ok (.lst (a ++ b)) S else .no := rfl
@[simp] theorem gAddI_int (i j : Int) : gAddI (.int i) (.int j) S = .ok (.int (i + j)) S := rfl
@[simp] theorem gSub_int (i j : Int) : gSub (.int i) (.int j) S = .ok (.int (i - j)) S := rfl
@[simp] theorem gMul_int (i j : Int) : gMul (.int i) (.int j) S = cif ((-18446744073709551616 < i ∧ i < 18446744073709551616) ∨ (-18446744073709551616 < j ∧ j < 18446744073709551616)) (.ok (.int (i * j)) S) .no := rfl
@[simp] theorem gDiv_int (i j : Int) : gDiv (.int i) (.int j) S = cif (0 < j ∧ j < 18446744073709551616) (.ok (.int (i / j)) S) .no := rfl
@[simp] theorem gMod_int (i j : Int) : gMod (.int i) (.int j) S = if 0 < j then .ok (.int (i % j)) S else .no := rfl
@[simp] theorem gNeg_int (i : Int) : gNeg (.int i) S = .ok (.int (-i)) S := rfl
@[simp] theorem gLt_int (i j : Int) : gLt (.int i) (.int j) S = .ok (.bl (decide (i < j))) S := rfl
@[simp] theorem gLe_int (i j : Int) : gLe (.int i) (.int j) S = .ok (.bl (decide (i ≤ j))) S := rfl
@[simp] theorem gGt_int (i j : Int) : gGt (.int i) (.int j) S = .ok (.bl (decide (j < i))) S := rfl
@[simp] theorem gGe_int (i j : Int) : gGe (.int i) (.int j) S = .ok (.bl (decide (j ≤ i))) S := rfl
@[simp] theorem gIsN_non : gIsN .non .non S = .ok (.bl true) S := rfl
@[simp] theorem gIsN_cell (k : Nat) : gIsN (.cell k) .non S = .ok (.bl false) S := rfl
@[simp] theorem gIsN_int (k : Int) : gIsN (.int k) .non S = .ok (.bl false) S := rfl
@[simp] theorem gIsN_tup (k : List D) : gIsN (.tup k) .non S = .ok (.bl false) S := rfl
@[simp] theorem gIsN_lst (k : List D) : gIsN (.lst k) .non S = .ok (.bl false) S := rfl
@[simp] theorem gNotN_non : gNotN .non .non S = .ok (.bl false) S := rfl
@[simp] theorem gNotN_cell (k : Nat) : gNotN (.cell k) .non S = .ok (.bl true) S := rfl
@[simp] theorem gNotN_int (k : Int) : gNotN (.int k) .non S = .ok (.bl true) S := rfl
@[simp] theorem gNotN_tup (k : List D) : gNotN (.tup k) .non S = .ok (.bl true) S := rfl
@[simp] theorem gNotN_lst (k : List D) : gNotN (.lst k) .non S = .ok (.bl true) S := rfl
@[simp] theorem gIdx_tup (ds : List D) (i : Int) : gIdx (.tup ds) (.int i) S = match atI ds i with
        | some d => .ok d S
        | none => .no := rfl
@[simp] theorem gIdx_lst (ds : List D) (i : Int) : gIdx (.lst ds) (.int i) S = match atI ds i with
        | some d => .ok d S
        | none => .no := rfl
theorem gIdx_cell' {k : Nat} {ds : List D} (h : S[k]? = some (some (.lst ds))) (i : Int) : gIdx (.cell k) (.int i) S = match atI ds i with
        | some d => .ok d S
        | none => .no := by simp only [gIdx, seqOf, lstOf, h] <;> rfl
@[simp] theorem gIdx_cell (k : Nat) (i : Int) : gIdx (.cell k) (.int i) S = match S[k]? with
    | some (some (.lst ds)) => (match atI ds i with
        | some d => .ok d S
        | none => .no)
    | _ => .no := by
  simp only [gIdx, seqOf, lstOf]
  cases S[k]? with
  | none => rfl
  | some o =>
    cases o with
    | none => rfl
    | some c => cases c <;> rfl
@[simp] theorem gIdx_str (z : Str) (i : Int) : gIdx (.str z) (.int i) S = if z.length ≤ sizeLine then (match atI z.cps.toList i with
      | some c => .ok (.str ⟨#[c]⟩) S
      | none => .no) else .no := rfl
@[simp] theorem gSl_lst (ds : List D) (lo hi : Option Int) : gSl (.lst ds) lo hi S = .ok (.lst (cutG ds lo hi)) S := rfl
@[simp] theorem gSl_scr (ns : List Int) (lo hi : Option Int) : gSl (.scr ns) lo hi S = .ok (.lst (cutG (ns.map D.int) lo hi)) S := rfl
@[simp] theorem gSl_str (z : Str) (lo hi : Option Int) : gSl (.str z) lo hi S = if z.length ≤ sizeLine then .ok (.str (cutS z lo hi)) S else .no := rfl
@[simp] theorem gSl_cell (k : Nat) (lo hi : Option Int) : gSl (.cell k) lo hi S = match S[k]? with
    | some (some (.lst ds)) => .ok (.lst (cutG ds lo hi)) S
    | _ => .no := by
  simp only [gSl, lstOf]
  cases S[k]? with
  | none => rfl
  | some o =>
    cases o with
    | none => rfl
    | some c => cases c <;> rfl
@[simp] theorem gSlN_cell (k : Nat) (lo hi : Option Int) : gSlN (.cell k) lo hi S = match S[k]? with
    | some (some (.lst ds)) => .ok (.cell S.length) (S ++ [some (.lst (cutG ds lo hi))])
    | _ => .no := by
  simp only [gSlN, lstOf]
  cases S[k]? with
  | none => rfl
  | some o =>
    cases o with
    | none => rfl
    | some c => cases c <;> rfl
@[simp] theorem gLen_str (z : Str) : gLen [.str z] S = if z.length ≤ sizeLine then .ok (.int z.length) S else .no := rfl
@[simp] theorem gLen_lst (ds : List D) : gLen [.lst ds] S = .ok (.int ds.length) S := rfl
@[simp] theorem gLen_tup (ds : List D) : gLen [.tup ds] S = .ok (.int ds.length) S := rfl
@[simp] theorem gLen_cell (k : Nat) : gLen [.cell k] S = match S[k]? with
    | some (some (.lst ds)) => .ok (.int ds.length) S
    | _ => .no := by
  simp only [gLen, seqOf, lstOf]
  cases S[k]? with
  | none => rfl
  | some o =>
    cases o with
    | none => rfl
    | some c => cases c <;> rfl
@[simp] theorem gIsT_str (T : String) (z : Str) : gIsT T (.str z) S = .ok (.bl ("str" == T || ("str" == "bool" && T == "int"))) S := rfl
@[simp] theorem gIsT_tup (T : String) (z : List D) : gIsT T (.tup z) S = .ok (.bl ("tuple" == T || ("tuple" == "bool" && T == "int"))) S := rfl
@[simp] theorem gIsT_lst (T : String) (z : List D) : gIsT T (.lst z) S = .ok (.bl ("list" == T || ("list" == "bool" && T == "int"))) S := rfl
@[simp] theorem gIsT_int (T : String) (z : Int) : gIsT T (.int z) S = .ok (.bl ("int" == T || ("int" == "bool" && T == "int"))) S := rfl
@[simp] theorem gIsT_bl (T : String) (z : Bool) : gIsT T (.bl z) S = .ok (.bl ("bool" == T || ("bool" == "bool" && T == "int"))) S := rfl
@[simp] theorem gIsT_non (T : String) : gIsT T .non S = .ok (.bl ("NoneType" == T || ("NoneType" == "bool" && T == "int"))) S := rfl
@[simp] theorem isTy_cell (T : String) (k : Nat) : isTy T (.cell k) S = match S[k]? with
    | some (some (.lst _)) => T == "list"
    | some (some (.dct _)) => T == "dict"
    | _ => false := rfl
@[simp] theorem isTy_str (T : String) (z : Str) : isTy T (.str z) S = (T == "str") := rfl
@[simp] theorem gAppend_cell (k : Nat) (y : D) : gAppend (.cell k) [y] S = match S[k]? with
    | some (some (.lst ds)) => if ds.length < sizeLine then .ok .non (S.set k (some (.lst (ds ++ [y])))) else .no
    | _ => .no := rfl
@[simp] theorem gExtend_cell (k : Nat) (es : List D) : gExtend (.cell k) [.lst es] S = match S[k]? with
    | some (some (.lst ds)) => if ds.length + es.length ≤ sizeLine then .ok .non (S.set k (some (.lst (ds ++ es)))) else .no
    | _ => .no := by
  simp only [gExtend, lstOf']
  cases S[k]? with
  | none => rfl
  | some o =>
    cases o with
    | none => rfl
    | some c => cases c <;> rfl
@[simp] theorem gPop_cell (k : Nat) : gPop (.cell k) [] S = match S[k]? with
    | some (some (.lst ds)) => (match ds[ds.length - 1]? with
      | some d => .ok d (S.set k (some (.lst ds.dropLast)))
      | none => .no)
    | _ => .no := rfl
@[simp] theorem atI_0 {α : Type} (x : α) (xs : List α) : atI (x :: xs) 0 = some x := by
  have h : (0 : Int) < ((x :: xs).length : Int) := by simp only [List.length_cons]; omega
  simp only [atI, ixN, show (0 : Int) ≤ 0 by decide, if_true, h, Option.bind_some]; rfl
@[simp] theorem atI_1 {α : Type} (x y : α) (xs : List α) : atI (x :: y :: xs) 1 = some y := by
  have h : (1 : Int) < ((x :: y :: xs).length : Int) := by simp only [List.length_cons]; omega
  simp only [atI, ixN, show (0 : Int) ≤ 1 by decide, if_true, h, Option.bind_some]; rfl
@[simp] theorem atI_2 {α : Type} (x y z : α) (xs : List α) : atI (x :: y :: z :: xs) 2 = some z := by
  have h : (2 : Int) < ((x :: y :: z :: xs).length : Int) := by simp only [List.length_cons]; omega
  simp only [atI, ixN, show (0 : Int) ≤ 2 by decide, if_true, h, Option.bind_some]; rfl
@[simp] theorem atI_3 {α : Type} (x y z w : α) (xs : List α) : atI (x :: y :: z :: w :: xs) 3 = some w := by
  have h : (3 : Int) < ((x :: y :: z :: w :: xs).length : Int) := by simp only [List.length_cons]; omega
  simp only [atI, ixN, show (0 : Int) ≤ 3 by decide, if_true, h, Option.bind_some]; rfl
@[simp] theorem atI_last' {α : Type} (x : α) (xs : List α) : atI (xs ++ [x]) (-1) = some x := atI_last xs x
theorem atI_get {α : Type} {xs : List α} {j : Nat} {x : α} (h : xs[j]? = some x) : atI xs (j : Int) = some x := atI_nat h
@[simp] theorem forL_still_nil (h : Hx) (body : Sx) (σ : Env) : forL still h body [] σ S = .nx σ S := by simp [forL, still]
@[simp] theorem forL_still_cons (h : Hx) (body : Sx) (d : D) (r : List D) (σ : Env) : forL still h body (d :: r) σ S = match h d σ with
    | none => .no
    | some σ1 => match body σ1 S with
      | .nx σ2 S2 => forL still h body r σ2 S2
      | .ct σ2 S2 => forL still h body r σ2 S2
      | .bk σ2 S2 => .nx σ2 S2
      | o => o := by
  rw [forL, if_pos (show still S from trivial)] <;> rfl
@[simp] theorem compL_still_nil (h : Hx) (t : Tx) (f : Ex) (σ : Env) (acc : List D) : compL still h t f σ [] acc S = .ok acc S := by simp [compL, still]
@[simp] theorem compL_still_cons (h : Hx) (t : Tx) (f : Ex) (σ : Env) (acc : List D) (d : D) (r : List D) : compL still h t f σ (d :: r) acc S = match h d σ with
    | none => .no
    | some σ1 => match t σ1 S with
      | .ok b S1 => if b = true then (match f σ1 S1 with
        | .ok v S2 => if acc.length < sizeLine then compL still h t f σ r (acc ++ [v]) S2 else .no
        | _ => .no) else compL still h t f σ r acc S1
      | _ => .no := by
  rw [compL, if_pos (show still S from trivial)] <;> rfl
theorem sizeLine_val : sizeLine = 16777216 := by decide
/-- one way to write each: x of type α as data -/
noncomputable def un {α β : Type} (e : α → β) (b : β) : Option α := by classical exact if h : ∃ a, e a = b then some h.choose else none
theorem un_e {α β : Type} {e : α → β} (inj : ∀ a b, e a = e b → a = b) (a : α) : un e (e a) = some a := by
  have h : ∃ x, e x = e a := ⟨a, rfl⟩
  unfold un
  rw [dif_pos h]
  exact congrArg some (inj _ _ h.choose_spec)
theorem un_some {α β : Type} {e : α → β} {a : α} {b : β} (h : un e b = some a) : e a = b := by
  unfold un at h
  split at h
  · rename_i hx; cases h; exact hx.choose_spec
  · cases h
/-- a promise by data of a type: arguments that are e a, where ok a -/
noncomputable def fnOf {α : Type} (e : α → List D) (ok : α → Prop) (r : α → Sto → R D) : Fn := fun ds S => by
  classical exact match un e ds with
  | some a => if ok a then r a S else .no
  | none => .no
theorem fnOf_eq {α : Type} {e : α → List D} {ok : α → Prop} {r : α → Sto → R D} (inj : ∀ a b, e a = e b → a = b) {a : α} (h : ok a) : fnOf e ok r (e a) S = r a S := by
  unfold fnOf
  rw [un_e inj]
  exact if_pos h
theorem fnOf_ref {α : Type} {e : α → List D} {ok : α → Prop} {r : α → Sto → R D} {n : Nat} {body : Sx} (h : ∀ a S, ok a → Ref S (r a S) (runB n body (e a) S)) (ds : List D) (S : Sto) : Ref S (fnOf e ok r ds S) (runB n body ds S) := by
  unfold fnOf
  cases hu : un e ds with
  | none => exact Ref.no
  | some a =>
    have := un_some hu
    subst this
    by_cases ho : ok a
    · simp only [if_pos ho]; exact h a S ho
    · simp only [if_neg ho]; exact Ref.no
theorem fnOf_no {α : Type} {e : α → List D} {ok : α → Prop} {r : α → Sto → R D} (h : ∀ a, ¬ ok a) (ds : List D) : fnOf e ok r ds S = .no := by
  unfold fnOf
  cases hu : un e ds with
  | none => rfl
  | some a => simp only [if_neg (h a)]
end
end Ev

/-! Ev: what a call has built out of new lists is told as data that never change. -/
namespace Ev
open PySem PySem.Spec PyProof.Rows L2
section
variable (n : Nat) (J : Sto)
mutual
/-- d with the new lists (those of J, the j-th one at handle n + j) read as data -/
inductive Fz : D → D → Prop
  | non : Fz .non .non
  | bl (b : Bool) : Fz (.bl b) (.bl b)
  | int (i : Int) : Fz (.int i) (.int i)
  | str (x : Str) : Fz (.str x) (.str x)
  | scr (ns : List Int) : Fz (.scr ns) (.scr ns)
  | tup {ds es : List D} : FzAll ds es → Fz (.tup ds) (.tup es)
  | lst {ds es : List D} : FzAll ds es → Fz (.lst ds) (.lst es)
  | cell {j : Nat} {ds es : List D} : J[j]? = some (some (.lst ds)) → FzAll ds es → Fz (.cell (n + j)) (.lst es)
  | old {k : Nat} : k < n → Fz (.cell k) (.cell k)
inductive FzAll : List D → List D → Prop
  | nil : FzAll [] []
  | cons {d e : D} {ds es : List D} : Fz d e → FzAll ds es → FzAll (d :: ds) (e :: es)
end
end
section
variable {n : Nat} {J J' : Sto}
mutual
theorem Fz.mono (h : ∀ (j : Nat) (c : C), J[j]? = some (some c) → J'[j]? = some (some c)) : ∀ {d e : D}, Fz n J d e → Fz n J' d e
  | _, _, .non => .non
  | _, _, .bl b => .bl b
  | _, _, .int i => .int i
  | _, _, .str x => .str x
  | _, _, .scr x => .scr x
  | _, _, .tup r => .tup (FzAll.mono h r)
  | _, _, .lst r => .lst (FzAll.mono h r)
  | _, _, .cell e r => .cell (h _ _ e) (FzAll.mono h r)
  | _, _, .old e => .old e
theorem FzAll.mono (h : ∀ (j : Nat) (c : C), J[j]? = some (some c) → J'[j]? = some (some c)) : ∀ {ds es : List D}, FzAll n J ds es → FzAll n J' ds es
  | _, _, .nil => .nil
  | _, _, .cons a r => .cons (Fz.mono h a) (FzAll.mono h r)
end
theorem FzAll.append {ds es ds' es' : List D} (h : FzAll n J ds es) (h' : FzAll n J ds' es') : FzAll n J (ds ++ ds') (es ++ es') := by
  induction ds generalizing es with
  | nil => cases h; exact h'
  | cons d r ih =>
    cases h with
    | cons a b => exact .cons a (ih b)
mutual
/-- data without new handles are told as they are -/
theorem Fz.same : ∀ (d : D), hb n d = true → Fz n J d d
  | .non, _ => .non
  | .bl b, _ => .bl b
  | .int i, _ => .int i
  | .str x, _ => .str x
  | .scr x, _ => .scr x
  | .tup ds, h => .tup (FzAll.same ds (by simpa [hb] using h))
  | .lst ds, h => .lst (FzAll.same ds (by simpa [hb] using h))
  | .cell k, h => .old (by simpa [hb] using h)
theorem FzAll.same : ∀ (ds : List D), hbs n ds = true → FzAll n J ds ds
  | [], _ => .nil
  | d :: r, h => by
    simp only [hbs, Bool.and_eq_true] at h
    exact .cons (Fz.same d h.1) (FzAll.same r h.2)
end
mutual
theorem Fz.vr {K : PySem.W.Frag} {μ μ1 : List Addr} {G G1 : Hp} (hG : Same G G1) (h1 : ∀ k a, k < n → μ[k]? = some a → μ1[k]? = some a)
    (hJ : ∀ (j : Nat) (ds : List D), J[j]? = some (some (.lst ds)) → ∃ a vs, μ[n + j]? = some a ∧ G1 a = some (.lst vs) ∧ VRs K μ G ds vs) : ∀ {d e : D} {v : V}, Fz n J d e → VR K μ G d v → VR K μ1 G1 e v
  | _, _, _, .non, .non => .non
  | _, _, _, .bl b, .bl _ => .bl b
  | _, _, _, .int i, .int _ => .int i
  | _, _, _, .str x, .str _ => .str x
  | _, _, _, .scr x, .scr h => .scr (hG.seq h)
  | _, _, _, .tup r, .tup e s => .tup (hG _ _ e) (FzAll.vr hG h1 hJ r s)
  | _, _, _, .lst r, .lst e s => .lst (hG _ _ e) (FzAll.vr hG h1 hJ r s)
  | _, _, _, .cell ej r, .cell e => by
    obtain ⟨a, vs, q1, q2, q3⟩ := hJ _ _ ej
    rw [q1] at e; cases e
    exact .lst q2 (FzAll.vr hG h1 hJ r q3)
  | _, _, _, .old hk, .cell e => .cell (h1 _ _ hk e)
theorem FzAll.vr {K : PySem.W.Frag} {μ μ1 : List Addr} {G G1 : Hp} (hG : Same G G1) (h1 : ∀ k a, k < n → μ[k]? = some a → μ1[k]? = some a)
    (hJ : ∀ (j : Nat) (ds : List D), J[j]? = some (some (.lst ds)) → ∃ a vs, μ[n + j]? = some a ∧ G1 a = some (.lst vs) ∧ VRs K μ G ds vs) : ∀ {ds es : List D} {vs : List V}, FzAll n J ds es → VRs K μ G ds vs → VRs K μ1 G1 es vs
  | _, _, _, .nil, .nil => .nil
  | _, _, _, .cons a r, .cons x s => .cons (Fz.vr hG h1 hJ a x) (FzAll.vr hG h1 hJ r s)
end
end
/-- all new lists frozen at once -/
theorem Sit.frzAll {Γ : Gm} {F : Hp} {μ : List Addr} {G H : Hp} {S J : Sto} (t : Sit Γ F μ G H (S ++ J)) : ∃ G1, Same G G1 ∧ (∀ a ∈ μ.take S.length, G1 a = G a) ∧ Sit Γ F μ G1 H (S ++ J.map fun o => match o with | some (.lst _) => none | o => o) ∧
    ∀ (j : Nat) (ds : List D), J[j]? = some (some (.lst ds)) → ∃ a vs, μ[S.length + j]? = some a ∧ G1 a = some (.lst vs) ∧ VRs Γ.K μ G ds vs := by
  classical
  let isN : Addr → Prop := fun b => ∃ (j : Nat) (ds : List D), J[j]? = some (some (.lst ds)) ∧ μ[S.length + j]? = some b
  have gnone : ∀ b, isN b → G b = none := fun b ⟨j, ds, h1, h2⟩ => t.off (S.length + j) b (.lst ds) (by rw [List.getElem?_append_right (by omega)]; simpa using h1) h2
  have inj : ∀ (i j : Nat) (a : Addr), μ[i]? = some a → μ[j]? = some a → i = j := fun i j a h1 h2 => by
    obtain ⟨p1, q1⟩ := List.getElem?_eq_some_iff.mp h1
    obtain ⟨p2, q2⟩ := List.getElem?_eq_some_iff.mp h2
    exact (List.getElem_inj t.nd).mp (q1.trans q2.symm)
  refine ⟨fun b => if isN b then H b else G b, fun b x e => ?_, fun a ha => ?_, ⟨fun b x e => ?_, t.frm, t.fmu, fun b o e => ?_, ?_, t.nd, t.dom, fun k a c h1 h2 => ?_, fun k c h1 => ?_⟩, fun j ds hj => ?_⟩
  · have hn : ¬ isN b := fun z => by rw [gnone b z] at e; cases e
    simp only [if_neg hn]; exact e
  · have hn : ¬ isN a := fun ⟨j, ds, h1, h2⟩ => by
      obtain ⟨i, hi⟩ := List.getElem?_of_mem ha
      have hil : i < S.length := by have := (List.getElem?_eq_some_iff.mp hi).1; rw [List.length_take] at this; omega
      rw [List.getElem?_take_of_lt hil] at hi
      have := inj _ _ _ hi h2
      omega
    simp only [if_neg hn]
  · by_cases hn : isN b
    · simp only [if_pos hn] at e; exact e
    · simp only [if_neg hn] at e; exact t.sub b x e
  · by_cases hn : isN b
    · obtain ⟨j, ds, h1, h2⟩ := hn
      exact t.fmu b (List.mem_of_getElem? h2)
    · simp only [if_neg hn] at e; exact t.fg b o e
  · have := t.len; simpa using this
  · have hk : (S ++ J)[k]? = some (some c) ∧ (S.length ≤ k → ∀ ds, c ≠ .lst ds) := by
      by_cases hk : k < S.length
      · rw [List.getElem?_append_left hk] at h1 ⊢
        exact ⟨h1, fun z => by omega⟩
      · rw [List.getElem?_append_right (by omega), List.getElem?_map, Option.map_eq_some_iff] at h1
        obtain ⟨o, h3, h4⟩ := h1
        rw [List.getElem?_append_right (by omega)]
        cases o with
        | none => cases h4
        | some c' =>
          cases c' with
          | lst ds => cases h4
          | ins _ _ => cases h4; exact ⟨h3, fun _ ds e => by cases e⟩
          | dct _ => cases h4; exact ⟨h3, fun _ ds e => by cases e⟩
          | exn _ _ => cases h4; exact ⟨h3, fun _ ds e => by cases e⟩
    have hn : ¬ isN a := fun ⟨j, ds, h3, h4⟩ => by
      have e := inj _ _ _ h2 h4
      subst e
      have := hk.1
      rw [List.getElem?_append_right (by omega)] at this
      simp only [Nat.add_sub_cancel_left] at this
      rw [h3] at this
      cases this
      exact hk.2 (by omega) ds rfl
    simp only [if_neg hn]
    exact t.off k a c hk.1 h2
  · have hk : (S ++ J)[k]? = some (some c) := by
      by_cases hk : k < S.length
      · rw [List.getElem?_append_left hk] at h1 ⊢
        exact h1
      · rw [List.getElem?_append_right (by omega), List.getElem?_map, Option.map_eq_some_iff] at h1
        obtain ⟨o, h3, h4⟩ := h1
        rw [List.getElem?_append_right (by omega)]
        cases o with
        | none => cases h4
        | some c' =>
          cases c' with
          | lst ds => cases h4
          | ins _ _ => cases h4; exact h3
          | dct _ => cases h4; exact h3
          | exn _ _ => cases h4; exact h3
    obtain ⟨a, ha, hc⟩ := t.at_ k c hk
    refine ⟨a, ha, hc.mono (Le.refl _) (fun b x e => ?_) fun o e => e⟩
    have hn : ¬ isN b := fun z => by rw [gnone b z] at e; cases e
    simp only [if_neg hn]; exact e
  · obtain ⟨a, ha, vs, h1, h2⟩ := t.at_ (S.length + j) (.lst ds) (by rw [List.getElem?_append_right (by omega)]; simpa using hj)
    exact ⟨a, vs, ha, by simp only [if_pos (show isN a from ⟨j, ds, hj, ha⟩)]; exact h1, h2⟩
/-- what comes back is told as data -/
theorem Cl.fz {S J : Sto} {v e : D} (h : Fz S.length J v e) : Cl S v (S ++ J) e S :=
  fun Γ F μ0 G0 H0 μ G H vv t0 l s t r => by
    obtain ⟨G1, s1, _, t1, hJ⟩ := t.frzAll
    have hl := t0.len
    exact ⟨μ.take S.length, G1, l.take (by rw [hl]; exact Nat.le_refl _), s1, t1.drop fun k c h => t0.hbs k c h, Fz.vr s1 (fun k a hk e => take_down k a hk e) hJ h r⟩
end Ev

namespace Ev
open PySem PySem.Spec PyProof.Rows L2
/-! papers, signs -/
inductive Fo where
  | nil | tx (s : Str) (r : Fo) | el (n : Str) (k : Fo) (r : Fo)
inductive Pt where
  | tx (s : Str) | el (n : Str) (k : Fo)
inductive Sg where
  | op (n : Str) | tx (s : Str) | cl
def Fo.ds : Fo → List D
  | .nil => []
  | .tx s r => .str s :: r.ds
  | .el n k r => .tup [.str n, .lst k.ds] :: r.ds
def Pt.d : Pt → D
  | .tx s => .str s
  | .el n k => .tup [.str n, .lst k.ds]
def Sg.d : Sg → D
  | .op n => .tup [.str "open", .str n]
  | .tx s => .tup [.str "text", .str s]
  | .cl => .tup [.str "close"]
def sgs (ss : List Sg) : D := .lst (ss.map Sg.d)
theorem Fo.inj : ∀ a b : Fo, a.ds = b.ds → a = b
  | .nil, .nil, _ => rfl
  | .nil, .tx _ _, h => by simp [Fo.ds] at h
  | .nil, .el _ _ _, h => by simp [Fo.ds] at h
  | .tx _ _, .nil, h => by simp [Fo.ds] at h
  | .el _ _ _, .nil, h => by simp [Fo.ds] at h
  | .tx s r, .tx s' r', h => by simp [Fo.ds] at h; rw [h.1, Fo.inj r r' h.2]
  | .tx s r, .el _ _ _, h => by simp [Fo.ds] at h
  | .el _ _ _, .tx s r, h => by simp [Fo.ds] at h
  | .el n k r, .el n' k' r', h => by simp [Fo.ds] at h; rw [h.1.1, Fo.inj k k' h.1.2, Fo.inj r r' h.2]
theorem Pt.inj : ∀ a b : Pt, a.d = b.d → a = b
  | .tx _, .tx _, h => by simp [Pt.d] at h; rw [h]
  | .tx _, .el _ _, h => by simp [Pt.d] at h
  | .el _ _, .tx _, h => by simp [Pt.d] at h
  | .el n k, .el n' k', h => by simp [Pt.d] at h; rw [h.1, Fo.inj k k' h.2]
def Fo.sg : Fo → List Sg
  | .nil => []
  | .tx s r => .tx s :: r.sg
  | .el n k r => .op n :: (k.sg ++ .cl :: r.sg)
def Pt.sg : Pt → List Sg
  | .tx s => [.tx s]
  | .el n k => .op n :: (k.sg ++ [.cl])
/-- how deep calls go -/
def Fo.dp : Fo → Nat
  | .nil => 0
  | .tx _ r => max 1 r.dp
  | .el _ k r => max (k.dp + 1) r.dp
def Pt.dp : Pt → Nat
  | .tx _ => 1
  | .el _ k => k.dp + 1
theorem Sg.hb (n : Nat) (s : Sg) : hb n s.d = true := by cases s <;> simp [Sg.d, Ev.hb, Ev.hbs]
theorem hbs_sg (n : Nat) (ss : List Sg) : hbs n (ss.map Sg.d) = true := hbs_all.mpr fun d hd => by
  obtain ⟨s, _, rfl⟩ := List.mem_map.mp hd
  exact s.hb n
noncomputable def b_signs_of (f_signs_of : Fn) : Sx :=
      (sSeq (sIf (tTst (op1 (gIsT "str") (eVar 0))) (sRet (eLst (aCons (eTup (aCons (eC (.str "text")) (aCons (eVar 0) aNil))) aNil))) sNil)
      (sSeq (sAsg 1 (eNew (aCons (eTup (aCons (eC (.str "open")) (aCons (op2 gIdx (eVar 0) (eC (.int 0))) aNil))) aNil)))
      (sSeq (sFor (iL (op2 gIdx (eVar 0) (eC (.int 1)))) (hName 2) (sExp (eMeth "list" gExtend (eVar 1) (aCons (eFn 1 f_signs_of (aCons (eVar 2) aNil)) aNil))))
      (sSeq (sExp (eMeth "list" gAppend (eVar 1) (aCons (eTup (aCons (eC (.str "close")) aNil)) aNil)))
      (sRet (eVar 1))))))
/-- at most a million signs -/
noncomputable def fn_signs_of (k : Nat) : Fn := fnOf (fun p : Pt => [p.d]) (fun p => p.dp ≤ k ∧ p.sg.length ≤ 1000000) fun p S => .ok (sgs p.sg) S
theorem inj1 {α : Type} {e : α → D} (h : ∀ a b, e a = e b → a = b) : ∀ a b : α, [e a] = [e b] → a = b := fun a b q => h a b (List.head_eq_of_cons_eq q)
theorem fn_signs_of_0 (ds : List D) (S : Sto) : fn_signs_of 0 ds S = .no := fnOf_no (fun p h => by cases p <;> simp [Pt.dp] at h) ds
theorem signs_of_tx {k : Nat} (s : Str) (S : Sto) (hk : 1 ≤ k) : fn_signs_of k [.str s] S = .ok (.lst [Sg.d (.tx s)]) S := fnOf_eq (a := Pt.tx s) (inj1 Pt.inj) ⟨hk, by simp [Pt.sg]⟩
theorem signs_of_el {k : Nat} (n : Str) (f : Fo) (S : Sto) (hk : f.dp + 1 ≤ k) (hz : f.sg.length ≤ 999998) : fn_signs_of k [.tup [.str n, .lst f.ds]] S = .ok (.lst ((Pt.el n f).sg.map Sg.d)) S := fnOf_eq (a := Pt.el n f) (inj1 Pt.inj) ⟨hk, by simp [Pt.sg]; omega⟩
theorem signs_loop (k : Nat) (x : D) : ∀ (f : Fo) (y : Option D) (S : Sto) (acc : List D), f.dp ≤ k → acc.length + f.sg.length ≤ 1000000 →
    ∃ y', forL still (hName 2) (sExp (eMeth "list" gExtend (eVar 1) (aCons (eFn 1 (fn_signs_of k) (aCons (eVar 2) aNil)) aNil))) f.ds [some x, some (.cell S.length), y] (S ++ [some (.lst acc)]) =
      .nx [some x, some (.cell S.length), y'] (S ++ [some (.lst (acc ++ f.sg.map Sg.d))])
  | .nil, y, S, acc, _, _ => ⟨y, by simp [Fo.ds, Fo.sg]⟩
  | .tx s r, y, S, acc, hd, hz => by
    simp only [Fo.dp, Fo.sg, List.length_cons] at hd hz
    obtain ⟨y', h⟩ := signs_loop k x r (some (.str s)) S (acc ++ [Sg.d (.tx s)]) (by omega) (by simp; omega)
    refine ⟨y', ?_⟩
    have hs : acc.length + 1 ≤ sizeLine := by rw [sizeLine_val]; omega
    simp [Fo.ds, Fo.sg, signs_of_tx s _ (show 1 ≤ k by omega), hs, h]
  | .el n f r, y, S, acc, hd, hz => by
    simp only [Fo.dp, Fo.sg, List.length_cons, List.length_append] at hd hz
    obtain ⟨y', h⟩ := signs_loop k x r (some (.tup [.str n, .lst f.ds])) S (acc ++ (Pt.el n f).sg.map Sg.d) (by omega) (by simp [Pt.sg]; omega)
    refine ⟨y', ?_⟩
    have hs : acc.length + (Pt.el n f).sg.length ≤ sizeLine := by rw [sizeLine_val]; simp [Pt.sg]; omega
    simp [Fo.ds, signs_of_el n f _ (show f.dp + 1 ≤ k by omega) (by omega), hs, h]
    simp [Pt.sg, Fo.sg]
theorem ref_signs_of (k : Nat) (ds : List D) (S : Sto) : Ref S (fn_signs_of (k + 1) ds S) (runB 3 (b_signs_of (fn_signs_of k)) ds S) := by
  refine fnOf_ref (fun p S ⟨hd, hz⟩ => ?_) ds S
  cases p with
  | tx s => exact Ref.self (by simp [runB, b_signs_of, Pt.d, Pt.sg, sgs, Sg.d])
  | el n f =>
    simp only [Pt.dp, Pt.sg, List.length_cons, List.length_append, List.length_nil] at hd hz
    obtain ⟨y', h⟩ := signs_loop k (Pt.el n f).d f none S [Sg.d (.op n)] (by omega) (by simp; omega)
    have hs : f.sg.length + 1 < sizeLine := by rw [sizeLine_val]; omega
    refine Ref.ok (v2 := .cell (S.length + 0)) (S2 := S ++ [some (.lst ((Pt.el n f).sg.map Sg.d))]) ?_ (Cl.frz (j := 0) (by simp [Pt.sg]) (by simp only [Ev.hb]; exact hbs_sg _ _))
    simp [Pt.d, Sg.d] at h
    simp [runB, b_signs_of, Pt.d, h, hs]
    simp [Pt.sg, Sg.d]

/-! many_parts -/
def Fo.many : Fo → Nat
  | .nil => 0
  | .tx _ r => r.many
  | .el _ k r => 1 + k.many + r.many
def Pt.many : Pt → Nat
  | .tx _ => 0
  | .el _ k => 1 + k.many
noncomputable def b_many_parts (f_many_parts : Fn) : Sx :=
      (sSeq (sIf (tTst (op1 (gIsT "str") (eVar 0))) (sRet (eC (.int 0))) sNil)
      (sSeq (sAsg 1 (eC (.int 1)))
      (sSeq (sFor (iL (op2 gIdx (eVar 0) (eC (.int 1)))) (hName 2) (sAug 1 gAddI (eFn 1 f_many_parts (aCons (eVar 2) aNil))))
      (sRet (eVar 1)))))
noncomputable def fn_many_parts (k : Nat) : Fn := fnOf (fun p : Pt => [p.d]) (fun p => p.dp ≤ k) fun p S => .ok (.int p.many) S
theorem fn_many_parts_0 (ds : List D) (S : Sto) : fn_many_parts 0 ds S = .no := fnOf_no (fun p h => by cases p <;> simp [Pt.dp] at h) ds
theorem many_parts_tx {k : Nat} (s : Str) (S : Sto) (hk : 1 ≤ k) : fn_many_parts k [.str s] S = .ok (.int 0) S := fnOf_eq (a := Pt.tx s) (inj1 Pt.inj) hk
theorem many_parts_el {k : Nat} (n : Str) (f : Fo) (S : Sto) (hk : f.dp + 1 ≤ k) : fn_many_parts k [.tup [.str n, .lst f.ds]] S = .ok (.int ((Pt.el n f).many)) S := fnOf_eq (a := Pt.el n f) (inj1 Pt.inj) hk
theorem many_loop (k : Nat) (x : D) (S : Sto) : ∀ (f : Fo) (y : Option D) (m : Int), f.dp ≤ k →
    ∃ y', forL still (hName 2) (sAug 1 gAddI (eFn 1 (fn_many_parts k) (aCons (eVar 2) aNil))) f.ds [some x, some (.int m), y] S = .nx [some x, some (.int (m + f.many)), y'] S
  | .nil, y, m, _ => ⟨y, by simp [Fo.ds, Fo.many]⟩
  | .tx s r, y, m, hd => by
    simp only [Fo.dp] at hd
    obtain ⟨y', h⟩ := many_loop k x S r (some (.str s)) (m + 0) (by omega)
    exact ⟨y', by simp [Fo.ds, Fo.many, many_parts_tx s _ (show 1 ≤ k by omega)]; simpa using h⟩
  | .el n f r, y, m, hd => by
    simp only [Fo.dp] at hd
    obtain ⟨y', h⟩ := many_loop k x S r (some (.tup [.str n, .lst f.ds])) (m + (Pt.el n f).many) (by omega)
    refine ⟨y', ?_⟩
    simp [Fo.ds, many_parts_el n f _ (show f.dp + 1 ≤ k by omega), h]
    simp [Pt.many, Fo.many]; omega
theorem ref_many_parts (k : Nat) (ds : List D) (S : Sto) : Ref S (fn_many_parts (k + 1) ds S) (runB 3 (b_many_parts (fn_many_parts k)) ds S) := by
  refine fnOf_ref (fun p S hd => ?_) ds S
  cases p with
  | tx s => exact Ref.self (by simp [runB, b_many_parts, Pt.d, Pt.many])
  | el n f =>
    simp only [Pt.dp] at hd
    obtain ⟨y', h⟩ := many_loop k (Pt.el n f).d S f none 1 (by omega)
    simp [Pt.d] at h
    exact Ref.self (by simp [runB, b_many_parts, Pt.d, h, Pt.many])
/-! can_come -/
noncomputable def b_can_come : Sx :=
      (sSeq (sIf (tTst (op2 gEq (op2 gIdx (eVar 0) (eC (.int 0))) (eC (.str "open")))) (sRet (eOr (op2 gGt (eVar 2) (eC (.int 0))) (op1 gNot (eVar 1)))) sNil)
      (sRet (op2 gGt (eVar 2) (eC (.int 0)))))
def canCome (s : Sg) (begun : Bool) (n : Int) : Bool := match s with
  | .op _ => decide (0 < n) || !begun
  | _ => decide (0 < n)
theorem Sg.inj : ∀ a b : Sg, a.d = b.d → a = b := by
  have h1 : ("open" : Str) ≠ "text" := by decide +kernel
  intro a b h
  cases a <;> cases b <;> simp [Sg.d] at h ⊢
  · exact h
  · exact h1 h.1
  · exact h1 h.1.symm
  · exact h
noncomputable def fn_can_come : Fn := fnOf (fun p : Sg × Bool × Int => [p.1.d, .bl p.2.1, .int p.2.2]) (fun _ => True) fun p S => .ok (.bl (canCome p.1 p.2.1 p.2.2)) S
theorem can_come_eq (s : Sg) (b : Bool) (n : Int) (S : Sto) : fn_can_come [s.d, .bl b, .int n] S = .ok (.bl (canCome s b n)) S :=
  fnOf_eq (e := fun p : Sg × Bool × Int => [p.1.d, .bl p.2.1, .int p.2.2]) (a := (s, b, n)) (fun a b h => by
    obtain ⟨a1, a2, a3⟩ := a
    obtain ⟨b1, b2, b3⟩ := b
    simp at h
    rw [Sg.inj _ _ h.1, h.2.1, h.2.2]) trivial
@[simp] theorem gEq_int (i j : Int) (S : Sto) : gEq (.int i) (.int j) S = .ok (.bl (i == j)) S := rfl
@[simp] theorem gNe_int (i j : Int) (S : Sto) : gNe (.int i) (.int j) S = .ok (.bl (!(i == j))) S := rfl
theorem gEq_str {x y : Str} (hx : PyData.strOk x = true) (hy : PyData.strOk y = true) (S : Sto) : gEq (.str x) (.str y) S = .ok (.bl (x == y)) S := by
  simp [gEq, py, hx, hy, PyData.eqv]
theorem gNe_str {x y : Str} (hx : PyData.strOk x = true) (hy : PyData.strOk y = true) (S : Sto) : gNe (.str x) (.str y) S = .ok (.bl (!(x == y))) S := by
  simp [gNe, py, hx, hy, PyData.eqv]
@[simp] theorem eq_oo (S : Sto) : gEq (.str "open") (.str "open") S = .ok (.bl true) S := by rw [gEq_str (by decide +kernel) (by decide +kernel)]; rfl
@[simp] theorem eq_to (S : Sto) : gEq (.str "text") (.str "open") S = .ok (.bl false) S := by rw [gEq_str (by decide +kernel) (by decide +kernel), show (("text" : Str) == "open") = false by decide +kernel]
@[simp] theorem eq_co (S : Sto) : gEq (.str "close") (.str "open") S = .ok (.bl false) S := by rw [gEq_str (by decide +kernel) (by decide +kernel), show (("close" : Str) == "open") = false by decide +kernel]
@[simp] theorem eq_ot (S : Sto) : gEq (.str "open") (.str "text") S = .ok (.bl false) S := by rw [gEq_str (by decide +kernel) (by decide +kernel), show (("open" : Str) == "text") = false by decide +kernel]
@[simp] theorem eq_tt (S : Sto) : gEq (.str "text") (.str "text") S = .ok (.bl true) S := by rw [gEq_str (by decide +kernel) (by decide +kernel)]; rfl
@[simp] theorem eq_ct (S : Sto) : gEq (.str "close") (.str "text") S = .ok (.bl false) S := by rw [gEq_str (by decide +kernel) (by decide +kernel), show (("close" : Str) == "text") = false by decide +kernel]
@[simp] theorem eq_oc (S : Sto) : gEq (.str "open") (.str "close") S = .ok (.bl false) S := by rw [gEq_str (by decide +kernel) (by decide +kernel), show (("open" : Str) == "close") = false by decide +kernel]
@[simp] theorem eq_tc (S : Sto) : gEq (.str "text") (.str "close") S = .ok (.bl false) S := by rw [gEq_str (by decide +kernel) (by decide +kernel), show (("text" : Str) == "close") = false by decide +kernel]
@[simp] theorem eq_cc (S : Sto) : gEq (.str "close") (.str "close") S = .ok (.bl true) S := by rw [gEq_str (by decide +kernel) (by decide +kernel)]; rfl
theorem ref_can_come (ds : List D) (S : Sto) : Ref S (fn_can_come ds S) (runB 3 b_can_come ds S) := by
  refine fnOf_ref (fun p S _ => ?_) ds S
  obtain ⟨s, b, n⟩ := p
  cases s with
  | op m =>
    refine Ref.self ?_
    by_cases h : 0 < n <;> simp [runB, b_can_come, Sg.d, canCome, h]
  | tx m => exact Ref.self (by simp [runB, b_can_come, Sg.d, canCome])
  | cl => exact Ref.self (by simp [runB, b_can_come, Sg.d, canCome])
end Ev

/-! stump: a paper out of a row of signs, by lists that grow -/
namespace Ev
open PySem PySem.Spec PyProof.Rows L2
def Fo.app : Fo → Fo → Fo
  | .nil, g => g
  | .tx s r, g => .tx s (r.app g)
  | .el n k r, g => .el n k (r.app g)
theorem Fo.app_ds : ∀ f g : Fo, (f.app g).ds = f.ds ++ g.ds
  | .nil, g => rfl
  | .tx s r, g => by simp [Fo.app, Fo.ds, Fo.app_ds r g]
  | .el n k r, g => by simp [Fo.app, Fo.ds, Fo.app_ds r g]
theorem Fo.app_sg : ∀ f g : Fo, (f.app g).sg = f.sg ++ g.sg
  | .nil, g => rfl
  | .tx s r, g => by simp [Fo.app, Fo.sg, Fo.app_sg r g]
  | .el n k r, g => by simp [Fo.app, Fo.sg, Fo.app_sg r g]
theorem Fo.app_nil : ∀ f : Fo, f.app .nil = f
  | .nil => rfl
  | .tx s r => by simp [Fo.app, Fo.app_nil r]
  | .el n k r => by simp [Fo.app, Fo.app_nil r]
theorem Fo.app_assoc : ∀ f g h : Fo, (f.app g).app h = f.app (g.app h)
  | .nil, g, h => rfl
  | .tx s r, g, h => by simp [Fo.app, Fo.app_assoc r g h]
  | .el n k r, g, h => by simp [Fo.app, Fo.app_assoc r g h]
/-- a paper that is coming: what has closed at the bottom, the open parts from the innermost -/
structure Zp where
  bot : Fo
  st : List (Str × Fo)
/-- something more in the innermost open part -/
def addSt (fs : Fo) : List (Str × Fo) → List (Str × Fo)
  | [] => []
  | (m, f) :: r => (m, f.app fs) :: r
def addBot (fs bot : Fo) : List (Str × Fo) → Fo
  | [] => bot.app fs
  | _ :: _ => bot
def Zp.step (z : Zp) : Sg → Zp
  | .op n => ⟨z.bot, (n, .nil) :: z.st⟩
  | .tx s => match z.st with
    | [] => z
    | p :: r => ⟨z.bot, addSt (.tx s .nil) (p :: r)⟩
  | .cl => match z.st with
    | [] => z
    | (n, f) :: r => ⟨addBot (.el n f .nil) z.bot r, addSt (.el n f .nil) r⟩
/-- all open parts closed at once; acc comes into the innermost -/
def upF (acc : Fo) : List (Str × Fo) → Fo → Fo
  | [], bot => bot.app acc
  | (n, f) :: r, bot => upF (.el n (f.app acc) .nil) r bot
def Zp.all (z : Zp) : Fo := upF .nil z.st z.bot
def Zp.begun (z : Zp) : Bool := match z.st, z.bot with
  | [], .nil => false
  | _, _ => true
def Zp.can (z : Zp) (s : Sg) : Bool := canCome s z.begun z.st.length
/-- the signs can come one behind the other -/
def okFrom : Zp → List Sg → Bool
  | _, [] => true
  | z, s :: r => z.can s && okFrom (z.step s) r
def Zp.run (z : Zp) (ss : List Sg) : Zp := ss.foldl Zp.step z
def z0 : Zp := ⟨.nil, []⟩
/-- the cells: from the innermost open part outwards, each with what has closed in it and then the part that is open in it -/
inductive Chn (n : Nat) (J Jc : Sto) (t : Nat) : List (Str × Fo) → Fo → List Nat → List D → Prop
  | base {ds link : List D} {bot : Fo} : J[0]? = some (some (.lst (ds ++ link))) → Jc[0]? = some none → ds.length + link.length ≤ t → FzAll n Jc ds bot.ds → Chn n J Jc t [] bot [0] link
  | cons {j : Nat} {js : List Nat} {ds link : List D} {m : Str} {f : Fo} {r : List (Str × Fo)} {bot : Fo} : J[j]? = some (some (.lst (ds ++ link))) → Jc[j]? = some none → 2 ≤ j → j ∉ js → ds.length + link.length ≤ t → FzAll n Jc ds f.ds →
      Chn n J Jc t r bot js [.tup [.str m, .cell (n + j)]] → Chn n J Jc t ((m, f) :: r) bot (j :: js) link
section
variable {n : Nat} {J Jc J' Jc' : Sto} {t : Nat}
theorem Chn.mono {st : List (Str × Fo)} {bot : Fo} {js : List Nat} {link : List D} (h : Chn n J Jc t st bot js link) {t' : Nat} (ht : t ≤ t') (hJ : ∀ j ∈ js, J'[j]? = J[j]?) (hc : ∀ j ∈ js, Jc'[j]? = some none)
    (hm : ∀ (j : Nat) (c : C), Jc[j]? = some (some c) → Jc'[j]? = some (some c)) : Chn n J' Jc' t' st bot js link := by
  induction h with
  | base h1 h2 h3 h4 => exact .base (by rw [hJ 0 (by simp)]; exact h1) (hc 0 (by simp)) (by omega) (h4.mono hm)
  | cons h1 h2 h3 h4 h5 h6 _ ih => exact .cons (by rw [hJ _ (by simp)]; exact h1) (hc _ (by simp)) h3 h4 (by omega) (h6.mono hm) (ih (fun j hj => hJ j (by simp [hj])) fun j hj => hc j (by simp [hj]))
theorem Chn.len {st : List (Str × Fo)} {bot : Fo} {js : List Nat} {link : List D} (h : Chn n J Jc t st bot js link) : js.length = st.length + 1 := by
  induction h with
  | base => rfl
  | cons _ _ _ _ _ _ _ ih => simp [ih]
theorem Chn.ne1 {st : List (Str × Fo)} {bot : Fo} {js : List Nat} {link : List D} (h : Chn n J Jc t st bot js link) : 1 ∉ js := by
  induction h with
  | base => simp
  | cons _ _ h3 _ _ _ _ ih => simp only [List.mem_cons, not_or]; exact ⟨by omega, ih⟩
theorem Chn.lt {st : List (Str × Fo)} {bot : Fo} {js : List Nat} {link : List D} (h : Chn n J Jc t st bot js link) : ∀ j ∈ js, j < J.length := by
  induction h with
  | base h1 => intro j hj; simp at hj; subst hj; exact (List.getElem?_eq_some_iff.mp h1).1
  | cons h1 _ _ _ _ _ _ ih =>
    intro j hj
    rcases List.mem_cons.mp hj with rfl | hj
    · exact (List.getElem?_eq_some_iff.mp h1).1
    · exact ih j hj
/-- the innermost level's cell, and what another content makes of it -/
theorem Chn.top {st : List (Str × Fo)} {bot : Fo} {js : List Nat} (h : Chn n J Jc t st bot js []) : ∃ j jr ds, js = j :: jr ∧ J[j]? = some (some (.lst ds)) ∧ ds.length ≤ t ∧ j ∉ jr ∧ (st = [] → j = 0) ∧
    (∀ link, Chn n (J.set j (some (.lst (ds ++ link)))) Jc (t + link.length) st bot js link) ∧
    ∀ xs fs, FzAll n Jc xs fs.ds → Chn n (J.set j (some (.lst (ds ++ xs)))) Jc (t + xs.length) (addSt fs st) (addBot fs bot st) js [] := by
  cases h with
  | base h1 h2 h3 h4 =>
    rename_i ds
    have hl := (List.getElem?_eq_some_iff.mp h1).1
    rw [List.append_nil] at h1
    refine ⟨0, [], ds, rfl, h1, by simpa using h3, by simp, fun _ => rfl, fun link => .base (List.getElem?_set_self hl) h2 (by simp at h3; omega) h4, fun xs fs hx => .base (by rw [List.getElem?_set_self hl, List.append_nil]) h2 (by simp at h3 ⊢; omega) (by rw [addBot, Fo.app_ds]; exact h4.append hx)⟩
  | cons h1 h2 h3 h4 h5 h6 h7 =>
    rename_i j js ds m f r
    have hl := (List.getElem?_eq_some_iff.mp h1).1
    rw [List.append_nil] at h1
    have hs : ∀ x, ∀ i ∈ js, (J.set j x)[i]? = J[i]? := fun x i hi => List.getElem?_set_ne (fun e => h4 (by rw [e]; exact hi))
    have hc := fun {t'} (ht : t ≤ t') (x : Option C) => h7.mono (J' := J.set j x) (Jc' := Jc) ht (hs x) (fun i hi => by
      clear hs
      have : ∀ {st : List (Str × Fo)} {bot : Fo} {js : List Nat} {link : List D}, Chn n J Jc t st bot js link → ∀ i ∈ js, Jc[i]? = some none := fun h => by
        induction h with
        | base _ q => intro i hi; simp at hi; subst hi; exact q
        | cons _ q _ _ _ _ _ ih =>
          intro i hi
          rcases List.mem_cons.mp hi with rfl | hi
          · exact q
          · exact ih i hi
      exact this h7 i hi) fun _ _ e => e
    refine ⟨j, js, ds, rfl, h1, by simpa using h5, h4, (fun e => by cases e), fun link => .cons (List.getElem?_set_self hl) h2 h3 h4 (by simp at h5; omega) h6 (hc (by omega) _), fun xs fs hx => .cons (by rw [List.getElem?_set_self hl, List.append_nil]) h2 h3 h4 (by simp at h5 ⊢; omega) (by rw [Fo.app_ds]; exact h6.append hx) (hc (by omega) _)⟩
theorem Chn.free {st : List (Str × Fo)} {bot : Fo} {js : List Nat} {link : List D} (h : Chn n J Jc t st bot js link) : ∀ i ∈ js, Jc[i]? = some none := by
  induction h with
  | base _ q => intro i hi; simp at hi; subst hi; exact q
  | cons _ q _ _ _ _ _ ih =>
    intro i hi
    rcases List.mem_cons.mp hi with rfl | hi
    · exact q
    · exact ih i hi
theorem Chn.absorb {st : List (Str × Fo)} {bot fs : Fo} {js : List Nat} {link : List D} (h : Chn n J Jc t st bot js link) (hl : FzAll n Jc link fs.ds) : Chn n J Jc t (addSt fs st) (addBot fs bot st) js [] := by
  cases h with
  | base h1 h2 h3 h4 => exact .base (by rw [List.append_nil]; exact h1) h2 (by simpa using h3) (by rw [addBot, Fo.app_ds]; exact h4.append hl)
  | cons h1 h2 h3 h4 h5 h6 h7 => exact .cons (by rw [List.append_nil]; exact h1) h2 h3 h4 (by simpa using h5) (by rw [Fo.app_ds]; exact h6.append hl) h7
/-- in the end: all is read as data -/
theorem Chn.fin {st : List (Str × Fo)} {bot : Fo} {js : List Nat} {link : List D} (h : Chn n J Jc t st bot js link) (hJ : ∀ (j : Nat) (c : C), Jc[j]? = some (some c) → J[j]? = some (some c)) : ∀ fl : Fo, FzAll n J link fl.ds → ∃ ds, J[0]? = some (some (.lst ds)) ∧ FzAll n J ds (upF fl st bot).ds := by
  induction h with
  | base h1 h2 h3 h4 => exact fun fl hl => ⟨_, h1, by rw [upF, Fo.app_ds]; exact (h4.mono hJ).append hl⟩
  | cons h1 h2 h3 h4 h5 h6 _ ih =>
    intro fl hl
    refine ih _ (.cons (.tup (.cons (.str _) (.cons ?_ .nil))) .nil)
    rw [Fo.app_ds]
    exact .cell h1 ((h6.mono hJ).append hl)
end
/-- the loop's state behind some signs -/
structure StI (n : Nat) (J : Sto) (z : Zp) (t : Nat) : Prop where
  ex : ∃ Jc js, Chn n J Jc t z.st z.bot js [] ∧ (∀ (j : Nat) (c : C), Jc[j]? = some (some c) → J[j]? = some (some c)) ∧ Jc.length = J.length ∧ Jc[1]? = some none ∧ J[1]? = some (some (.lst (js.reverse.map fun j => .cell (n + j)))) ∧ z.st.length ≤ t
theorem StI.start (n : Nat) : StI n [some (.lst []), some (.lst [.cell n])] z0 0 :=
  ⟨[none, none], [0], .base (ds := []) rfl rfl (Nat.le_refl _) .nil, fun j c h => by
    rcases j with _ | _ | j <;> simp at h, rfl, rfl, rfl, Nat.le_refl _⟩
noncomputable def b_stump (f_can_come : Fn) : Sx :=
      (sSeq (sAsg 1 (eNew aNil))
      (sSeq (sAsg 2 (eNew (aCons (eVar 1) aNil)))
      (sSeq (sFor (iEnum (eVar 0)) (hTup 2 (hCons (hName 3) (hCons (hName 4) hNil))) (sSeq (sIf (tNot (tTst (eFn 3 f_can_come (aCons (eVar 4) (aCons (op2 gGt (eCall gLen (aCons (eVar 1) aNil)) (eC (.int 0))) (aCons (op2 gSub (eCall gLen (aCons (eVar 2) aNil)) (eC (.int 1))) aNil)))))) sNo sNil)
      (sIf (tTst (op2 gEq (op2 gIdx (eVar 4) (eC (.int 0))) (eC (.str "open")))) (sSeq (sAsg 5 (eNew aNil))
      (sSeq (sExp (eMeth "list" gAppend (op2 gIdx (eVar 2) (op1 gNeg (eC (.int 1)))) (aCons (eTup (aCons (op2 gIdx (eVar 4) (eC (.int 1))) (aCons (eVar 5) aNil))) aNil)))
      (sExp (eMeth "list" gAppend (eVar 2) (aCons (eVar 5) aNil))))) (sIf (tTst (op2 gEq (op2 gIdx (eVar 4) (eC (.int 0))) (eC (.str "text")))) (sExp (eMeth "list" gAppend (op2 gIdx (eVar 2) (op1 gNeg (eC (.int 1)))) (aCons (op2 gIdx (eVar 4) (eC (.int 1))) aNil))) (sExp (eMeth "list" gPop (eVar 2) aNil))))))
      (sRet (op2 gIdx (eVar 1) (eC (.int 0)))))))
/-- the loop's body -/
noncomputable def stumpB : Sx := (sSeq (sIf (tNot (tTst (eFn 3 fn_can_come (aCons (eVar 4) (aCons (op2 gGt (eCall gLen (aCons (eVar 1) aNil)) (eC (.int 0))) (aCons (op2 gSub (eCall gLen (aCons (eVar 2) aNil)) (eC (.int 1))) aNil)))))) sNo sNil)
      (sIf (tTst (op2 gEq (op2 gIdx (eVar 4) (eC (.int 0))) (eC (.str "open")))) (sSeq (sAsg 5 (eNew aNil))
      (sSeq (sExp (eMeth "list" gAppend (op2 gIdx (eVar 2) (op1 gNeg (eC (.int 1)))) (aCons (eTup (aCons (op2 gIdx (eVar 4) (eC (.int 1))) (aCons (eVar 5) aNil))) aNil)))
      (sExp (eMeth "list" gAppend (eVar 2) (aCons (eVar 5) aNil))))) (sIf (tTst (op2 gEq (op2 gIdx (eVar 4) (eC (.int 0))) (eC (.str "text")))) (sExp (eMeth "list" gAppend (op2 gIdx (eVar 2) (op1 gNeg (eC (.int 1)))) (aCons (op2 gIdx (eVar 4) (eC (.int 1))) aNil))) (sExp (eMeth "list" gPop (eVar 2) aNil)))))
theorem b_stump_eq : b_stump fn_can_come = (sSeq (sAsg 1 (eNew aNil)) (sSeq (sAsg 2 (eNew (aCons (eVar 1) aNil))) (sSeq (sFor (iEnum (eVar 0)) (hTup 2 (hCons (hName 3) (hCons (hName 4) hNil))) stumpB) (sRet (op2 gIdx (eVar 1) (eC (.int 0))))))) := rfl
theorem begun_len {n : Nat} {J Jc : Sto} {t : Nat} {z : Zp} {js : List Nat} (h : Chn n J Jc t z.st z.bot js []) : ∃ ds, J[0]? = some (some (.lst ds)) ∧ z.begun = decide ((0 : Int) < (ds.length : Int)) := by
  obtain ⟨bot, st⟩ := z
  have key : ∀ {st : List (Str × Fo)} {bot : Fo} {js : List Nat} {link : List D}, Chn n J Jc t st bot js link → ∃ ds, J[0]? = some (some (.lst ds)) ∧ ((st ≠ [] ∨ link ≠ []) → ds ≠ []) ∧ (st = [] → link = [] → FzAll n Jc ds bot.ds) := fun h => by
    induction h with
    | base h1 h2 h3 h4 => exact ⟨_, h1, fun q => by rcases q with q | q <;> simp_all, fun _ e => by subst e; simpa using h4⟩
    | cons h1 h2 h3 h4 h5 h6 _ ih =>
      obtain ⟨ds, a1, a2, a3⟩ := ih
      exact ⟨ds, a1, fun _ => a2 (.inr (by simp)), fun e => by cases e⟩
  obtain ⟨ds, h1, h2, h3⟩ := key h
  refine ⟨ds, h1, ?_⟩
  cases st with
  | nil =>
    have h3 := h3 rfl rfl
    cases bot with
    | nil => simp [Fo.ds] at h3; cases h3; simp [Zp.begun]
    | tx s r => simp [Fo.ds] at h3; cases h3; simp [Zp.begun]
    | el s k r => simp [Fo.ds] at h3; cases h3; simp [Zp.begun]
  | cons p r =>
    have h2 := h2 (.inl (by simp))
    have hl : 0 < ds.length := List.length_pos_iff.mpr h2
    have hl' : (0 : Int) < (ds.length : Int) := by omega
    rw [decide_eq_true hl']
    cases bot <;> rfl
theorem stump_turn {S J : Sto} {z : Zp} {t : Nat} {s : Sg} {x a b e : Option D} {i : Int} (h : StI S.length J z t) (hc : z.can s = true) (ht : t ≤ 1000000) :
    ∃ J' e', StI S.length J' (z.step s) (t + 1) ∧ stumpB [x, some (.cell S.length), some (.cell (S.length + 1)), some (.int i), some s.d, e] (S ++ J) = .nx [x, some (.cell S.length), some (.cell (S.length + 1)), some (.int i), some s.d, e'] (S ++ J') := by
  obtain ⟨Jc, js, hch, hle, hlen, hp, hpile, hst⟩ := h.ex
  obtain ⟨dsA, hA, hbg⟩ := begun_len hch
  have hjl := hch.len
  obtain ⟨j, jr, ds, rfl, hj, hdt, hjn, hj0, hlink, happ⟩ := hch.top
  simp only [List.reverse_cons, List.map_append, List.map_cons, List.map_nil] at hpile
  simp only [List.length_cons, Nat.add_right_cancel_iff] at hjl
  have hj1 : j ≠ 1 := fun e => hch.ne1 (by simp [e])
  have hjJ : j < J.length := (List.getElem?_eq_some_iff.mp hj).1
  have h1J : 1 < J.length := (List.getElem?_eq_some_iff.mp hpile).1
  have hds : ds.length < sizeLine := by rw [sizeLine_val]; omega
  have hpl : (jr.length : Int) + 1 - 1 = (z.st.length : Int) := by omega
  have hpz : jr.length + 1 < sizeLine := by rw [sizeLine_val]; omega
  have hcan : canCome s (decide ((0 : Int) < (dsA.length : Int))) (z.st.length : Int) = true := by rw [← hbg]; exact hc
  have hset : ∀ (l : Sto) (c : Option C) (i : Nat), i ≠ j → (l.set j c)[i]? = l[i]? := fun l c i h => List.getElem?_set_ne (Ne.symm h)
  have hset1 : ∀ (l : Sto) (c : Option C) (i : Nat), i ≠ 1 → (l.set 1 c)[i]? = l[i]? := fun l c i h => List.getElem?_set_ne (Ne.symm h)
  have hcc : ∀ S', fn_can_come [s.d, .bl (decide ((0 : Int) < (dsA.length : Int))), .int (z.st.length : Int)] S' = .ok (.bl true) S' := fun S' => by rw [can_come_eq, hcan]
  cases s with
  | op m =>
    have e1 : (J ++ [some (C.lst [])])[1]? = some (some (.lst (jr.reverse.map (fun j => D.cell (S.length + j)) ++ [.cell (S.length + j)]))) := by rw [List.getElem?_append_left h1J]; exact hpile
    have ej : (J ++ [some (C.lst [])])[j]? = some (some (.lst ds)) := by rw [List.getElem?_append_left hjJ]; exact hj
    refine ⟨((J ++ [some (C.lst [])]).set j (some (.lst (ds ++ [D.tup [.str m, .cell (S.length + J.length)]])))).set 1 (some (.lst ((jr.reverse.map (fun j => D.cell (S.length + j)) ++ [.cell (S.length + j)]) ++ [.cell (S.length + J.length)]))), some (.cell (S.length + J.length)), ⟨Jc ++ [none], J.length :: j :: jr, ?_, ?_, ?_, ?_, ?_, ?_⟩, ?_⟩
    · have hold := hlink [D.tup [.str m, .cell (S.length + J.length)]]
      have hlt := hch.lt
      have hfr := hch.free
      have hne := hch.ne1
      refine .cons (ds := []) ?_ ?_ (by omega) (fun z => by have := hlt _ z; omega) (by simp) .nil (hold.mono (by simp) (fun i hi => ?_) (fun i hi => ?_) fun i c e => ?_)
      · rw [hset1 _ _ _ (by omega), hset _ _ _ (by omega)]; simp
      · rw [← hlen]; simp
      · have h1 : i ≠ 1 := fun e => hne (by rw [← e]; exact hi)
        rw [hset1 _ _ _ h1, List.set_append_left _ _ hjJ, List.getElem?_append_left (by simpa using hlt i hi)]
      · rw [List.getElem?_append_left (by rw [hlen]; exact hlt i hi)]; exact hfr i hi
      · rw [List.getElem?_append_left (List.getElem?_eq_some_iff.mp e).1]; exact e
    · intro i c e
      have hi : i < Jc.length := by
        have := (List.getElem?_eq_some_iff.mp e).1
        simp at this
        rcases Nat.lt_or_ge i Jc.length with h | h
        · exact h
        · have : i = Jc.length := by omega
          subst this
          simp at e
      rw [List.getElem?_append_left hi] at e
      have n1 : i ≠ 1 := fun z => by rw [z, hp] at e; cases e
      have nj : i ≠ j := fun z => by rw [z, hch.free j (by simp)] at e; cases e
      rw [hset1 _ _ _ n1, hset _ _ _ nj, List.getElem?_append_left (by omega)]
      exact hle i c e
    · simp [hlen]
    · rw [List.getElem?_append_left (by omega)]; exact hp
    · rw [List.getElem?_set_self (by simp; omega)]; simp
    · simp [Zp.step]; omega
    · simp [Sg.d] at hcc
      simp [stumpB, hcc, hA, hpile, hpl, e1, ej, hset, hj1.symm, hds, hpz, Sg.d, Nat.add_assoc]
  | tx m =>
    cases hz : z.st with
    | nil => rw [hz] at hcan; simp [canCome] at hcan
    | cons p r =>
      have hn := happ [.str m] (.tx m .nil) (.cons (.str m) .nil)
      refine ⟨J.set j (some (.lst (ds ++ [.str m]))), e, ⟨Jc, j :: jr, ?_, ?_, ?_, hp, ?_, ?_⟩, ?_⟩
      · rw [hz] at hn
        simp only [Zp.step, hz]
        exact hn
      · intro i c e
        have nj : i ≠ j := fun z => by rw [z, hch.free j (by simp)] at e; cases e
        rw [hset _ _ _ nj]; exact hle i c e
      · simp [hlen]
      · rw [hset _ _ _ hj1.symm]; simpa using hpile
      · obtain ⟨p1, p2⟩ := p
        rw [hz] at hst
        simp only [Zp.step, hz, addSt, List.length_cons] at hst ⊢; omega
      · simp [Sg.d] at hcc
        simp [stumpB, hcc, hA, hpile, hpl, hj, hds, Sg.d]
  | cl =>
    cases hz : z.st with
    | nil => rw [hz] at hcan; simp [canCome] at hcan
    | cons p r =>
      obtain ⟨m, f⟩ := p
      rw [hz] at hch
      have hfr := hch.free
      have hne := hch.ne1
      cases hch with
      | cons q1 q2 q3 q4 q5 q6 q7 =>
        rename_i ds0
        rw [List.append_nil] at q1
        have hjc : j < Jc.length := by omega
        have hJc' : ∀ (i : Nat) (c : C), Jc[i]? = some (some c) → (Jc.set j (some (.lst ds0)))[i]? = some (some c) := fun i c e => by
          have nj : i ≠ j := fun z => by rw [z, q2] at e; cases e
          rw [hset _ _ _ nj]; exact e
        refine ⟨J.set 1 (some (.lst (jr.reverse.map fun j => D.cell (S.length + j)))), e, ⟨Jc.set j (some (.lst ds0)), jr, ?_, ?_, ?_, ?_, ?_, ?_⟩, ?_⟩
        · simp only [Zp.step, hz]
          refine (q7.mono (J' := J.set 1 (some (.lst (jr.reverse.map fun j => D.cell (S.length + j))))) (Jc' := Jc.set j (some (.lst ds0))) (Nat.le_succ t) (fun i hi => ?_) (fun i hi => ?_) hJc').absorb (.cons (.tup (.cons (.str _) (.cons (.cell ?_ (q6.mono hJc')) .nil))) .nil)
          · exact hset1 _ _ _ fun e => hne (by rw [← e]; simp [hi])
          · rw [hset _ _ _ (fun e => q4 (by rw [← e]; exact hi))]; exact hfr i (by simp [hi])
          · exact List.getElem?_set_self hjc
        · intro i c e
          by_cases nj : i = j
          · subst nj
            rw [List.getElem?_set_self hjc] at e
            cases e
            rw [hset1 _ _ _ hj1]; exact q1
          · rw [hset _ _ _ nj] at e
            have n1 : i ≠ 1 := fun z => by rw [z, hp] at e; cases e
            rw [hset1 _ _ _ n1]; exact hle i c e
        · simp [hlen]
        · rw [hset _ _ _ hj1.symm]; exact hp
        · rw [List.getElem?_set_self h1J]
        · rw [hz] at hst
          have : (addSt (.el m f .nil) r).length = r.length := by cases r <;> simp [addSt]
          simp only [Zp.step, hz, List.length_cons] at hst ⊢; omega
        · have hjp : jr.length + 1 - 1 = jr.length := by omega
          simp [Sg.d] at hcc
          simp [stumpB, hcc, hA, hpile, hpl, Sg.d]
theorem okFrom_cons {z : Zp} {s : Sg} {r : List Sg} (h : okFrom z (s :: r) = true) : z.can s = true ∧ okFrom (z.step s) r = true := by simpa [okFrom] using h
theorem stump_loop {S : Sto} {x : Option D} : ∀ (ss : List Sg) (J : Sto) (z : Zp) (t k : Nat) (a b e : Option D), StI S.length J z t → okFrom z ss = true → t + ss.length ≤ 1000000 →
    ∃ J' a' b' e', StI S.length J' (z.run ss) (t + ss.length) ∧ forL still (hTup 2 (hCons (hName 3) (hCons (hName 4) hNil))) stumpB (pairsFrom k (ss.map Sg.d)) [x, some (.cell S.length), some (.cell (S.length + 1)), a, b, e] (S ++ J) =
      .nx [x, some (.cell S.length), some (.cell (S.length + 1)), a', b', e'] (S ++ J')
  | [], J, z, t, k, a, b, e, h, _, _ => ⟨J, a, b, e, h, by simp [pairsFrom]⟩
  | s :: r, J, z, t, k, a, b, e, h, ho, ht => by
    obtain ⟨h1, h2⟩ := okFrom_cons ho
    simp only [List.length_cons] at ht
    obtain ⟨J1, e1, hs1, he1⟩ := stump_turn (x := x) (a := a) (b := b) (e := e) (i := (k : Int)) h h1 (by omega)
    obtain ⟨J', a', b', e', hs, he⟩ := stump_loop (x := x) r J1 (z.step s) (t + 1) (k + 1) (some (.int k)) (some s.d) e1 hs1 h2 (by omega)
    refine ⟨J', a', b', e', ?_, ?_⟩
    · have : t + (s :: r).length = t + 1 + r.length := by simp; omega
      rw [this]; exact hs
    · simp [pairsFrom, he1, he]
/-- what has been opened: nothing yet, or one part alone at the outside -/
def Zp.one (z : Zp) : Prop := z.bot = .nil ∨ (z.st = [] ∧ ∃ n k, z.bot = .el n k .nil)
theorem Zp.one_step {z : Zp} {s : Sg} (h : z.one) (hc : z.can s = true) : (z.step s).one ∧ (z.step s).begun = true := by
  obtain ⟨bot, st⟩ := z
  cases s with
  | op n =>
    refine ⟨?_, by cases bot <;> rfl⟩
    rcases h with h | ⟨h1, n', k, h2⟩
    · exact .inl h
    · simp only at h1 h2
      subst h1 h2
      simp [Zp.can, canCome, Zp.begun] at hc
  | tx n =>
    cases st with
    | nil => simp [Zp.can, canCome] at hc
    | cons p r =>
      refine ⟨?_, by cases bot <;> rfl⟩
      rcases h with h | ⟨h1, _⟩
      · exact .inl h
      · cases h1
  | cl =>
    cases st with
    | nil => simp [Zp.can, canCome] at hc
    | cons p r =>
      obtain ⟨m, f⟩ := p
      rcases h with h | ⟨h1, _⟩
      · simp only at h
        subst h
        cases r with
        | nil => exact ⟨.inr ⟨rfl, m, f, rfl⟩, rfl⟩
        | cons q r => exact ⟨.inl rfl, by obtain ⟨q1, q2⟩ := q; rfl⟩
      · cases h1
theorem Zp.one_run : ∀ (ss : List Sg) (z : Zp), z.one → okFrom z ss = true → (z.run ss).one ∧ (ss ≠ [] ∨ z.begun = true → (z.run ss).begun = true)
  | [], z, h, _ => ⟨h, fun q => by rcases q with q | q; exact absurd rfl q; exact q⟩
  | s :: r, z, h, ho => by
    obtain ⟨h1, h2⟩ := okFrom_cons ho
    obtain ⟨a, b⟩ := Zp.one_step h h1
    obtain ⟨c, d⟩ := Zp.one_run r (z.step s) a h2
    exact ⟨c, fun _ => d (.inr b)⟩
theorem upF_nil : ∀ (st : List (Str × Fo)) (acc : Fo), st ≠ [] → ∃ n k, upF acc st .nil = .el n k .nil
  | [], acc, h => absurd rfl h
  | [(n, f)], acc, _ => ⟨n, f.app acc, rfl⟩
  | (n, f) :: q :: r, acc, _ => upF_nil (q :: r) _ (by simp)
theorem Zp.all_one {z : Zp} (h : z.one) (hb : z.begun = true) : ∃ n k, z.all = .el n k .nil := by
  obtain ⟨bot, st⟩ := z
  rcases h with h | ⟨h1, n, k, h2⟩
  · simp only at h
    subst h
    cases st with
    | nil => simp [Zp.begun] at hb
    | cons p r => exact upF_nil _ _ (by simp)
  · simp only at h1 h2
    subst h1 h2
    exact ⟨n, k, rfl⟩
/-- the paper of some signs, all open parts closed at once -/
def stumpP (ss : List Sg) : Pt := match (z0.run ss).all with
  | .el n k _ => .el n k
  | _ => .tx ""
theorem stumpP_all {ss : List Sg} (h : ss ≠ []) (ho : okFrom z0 ss = true) : ∃ n k, stumpP ss = .el n k ∧ (z0.run ss).all = .el n k .nil := by
  obtain ⟨a, b⟩ := Zp.one_run ss z0 (.inl rfl) ho
  obtain ⟨n, k, e⟩ := Zp.all_one a (b (.inl h))
  exact ⟨n, k, by simp [stumpP, e], e⟩
noncomputable def fn_stump : Fn := fnOf (fun ss : List Sg => [sgs ss]) (fun ss => ss ≠ [] ∧ okFrom z0 ss = true ∧ ss.length ≤ 900000) fun ss S => .ok (stumpP ss).d S
theorem map_inj {α : Type} {e : α → D} (h : ∀ a b, e a = e b → a = b) : ∀ a b : List α, a.map e = b.map e → a = b
  | [], [], _ => rfl
  | [], _ :: _, h' => by simp at h'
  | _ :: _, [], h' => by simp at h'
  | a :: r, b :: s, h' => by
    simp only [List.map_cons, List.cons.injEq] at h'
    rw [h a b h'.1, map_inj h r s h'.2]
theorem sgs_inj : ∀ a b : List Sg, [sgs a] = [sgs b] → a = b := fun a b h => map_inj Sg.inj a b (by simpa [sgs] using h)
theorem stump_eq {ss : List Sg} (h : ss ≠ []) (ho : okFrom z0 ss = true) (hz : ss.length ≤ 900000) (S : Sto) : fn_stump [.lst (ss.map Sg.d)] S = .ok (stumpP ss).d S := fnOf_eq (a := ss) sgs_inj ⟨h, ho, hz⟩
theorem ref_stump (ds : List D) (S : Sto) : Ref S (fn_stump ds S) (runB 6 (b_stump fn_can_come) ds S) := by
  refine fnOf_ref (fun ss S ⟨h, ho, hz⟩ => ?_) ds S
  obtain ⟨n, k, e1, e2⟩ := stumpP_all h ho
  obtain ⟨J', a', b', e', hs, he⟩ := stump_loop (S := S) (x := some (sgs ss)) ss _ z0 0 0 none none none (StI.start S.length) ho (by omega)
  obtain ⟨Jc, js, hch, hle, _, _, _, _⟩ := hs.ex
  obtain ⟨ds0, h0, hf⟩ := hch.fin hle .nil .nil
  have e2' : upF .nil (z0.run ss).st (z0.run ss).bot = .el n k .nil := e2
  rw [e2'] at hf
  simp only [Fo.ds] at hf
  cases hf with
  | cons hd hr =>
    cases hr
    rename_i d0
    refine Ref.ok (v2 := d0) (S2 := S ++ J') ?_ (Cl.fz (by rw [e1]; exact hd))
    rw [b_stump_eq]
    simp [sgs, z0] at he
    simp [runB, sgs, he, h0]
/-! the signs of a paper make the paper -/
theorem run_fo : ∀ (f : Fo) (bot : Fo) (m : Str) (g : Fo) (r : List (Str × Fo)), Zp.run ⟨bot, (m, g) :: r⟩ f.sg = ⟨bot, (m, g.app f) :: r⟩ ∧ okFrom ⟨bot, (m, g) :: r⟩ f.sg = true
  | .nil, bot, m, g, r => by simp [Fo.sg, Zp.run, Fo.app_nil, okFrom]
  | .tx s f, bot, m, g, r => by
    have ih := run_fo f bot m (g.app (.tx s .nil)) r
    simp only [Zp.run] at ih
    simp [Fo.sg, Zp.run, Zp.step, addSt, okFrom, Zp.can, canCome, ih, Fo.app_assoc, Fo.app]
  | .el n k f, bot, m, g, r => by
    have ih1 := run_fo k bot n .nil ((m, g) :: r)
    have ih2 := run_fo f bot m (g.app (.el n k .nil)) r
    have hap : ∀ (z : Zp) (a b : List Sg), okFrom z (a ++ b) = (okFrom z a && okFrom (z.run a) b) := by
      intro z a
      induction a generalizing z with
      | nil => intro b; simp [okFrom, Zp.run]
      | cons s a ih => intro b; simp [okFrom, ih, Zp.run, Bool.and_assoc]
    simp only [Zp.run] at ih1 ih2 hap
    simp [Fo.sg, Zp.run, Zp.step, okFrom, hap, ih1, Zp.can, canCome, addSt, addBot, ih2, Fo.app_assoc, Fo.app]
    omega
theorem okFrom_app (z : Zp) (a b : List Sg) : okFrom z (a ++ b) = (okFrom z a && okFrom (z.run a) b) := by
  induction a generalizing z with
  | nil => simp [okFrom, Zp.run]
  | cons s a ih => simp [okFrom, ih, Zp.run, Bool.and_assoc]
theorem run_app (z : Zp) (a b : List Sg) : z.run (a ++ b) = (z.run a).run b := by simp [Zp.run]
theorem stumpP_sg (n : Str) (k : Fo) : stumpP (Pt.el n k).sg = .el n k ∧ okFrom z0 (Pt.el n k).sg = true := by
  have ih := run_fo k .nil n .nil []
  constructor
  · simp only [stumpP, Pt.sg, ← List.cons_append, run_app]
    have e : z0.run (.op n :: k.sg) = Zp.run ⟨.nil, [(n, .nil)]⟩ k.sg := rfl
    rw [e, ih.1]
    simp [Zp.run, Zp.step, addBot, addSt, Zp.all, upF, Fo.app]
  · have e : okFrom z0 (Pt.el n k).sg = okFrom ⟨.nil, [(n, .nil)]⟩ (k.sg ++ [.cl]) := by
      simp [Pt.sg, okFrom, z0, Zp.can, canCome, Zp.begun, Zp.step]
    rw [e, okFrom_app, ih.2, ih.1]
    simp [okFrom, Zp.can, canCome]
end Ev

/-! Ev, the rules, part 7: further built-ins. -/
namespace Ev
open PySem PySem.Spec PyProof.Rows L2
/-- list(x): a list that never changes; one that may -/
def gList (xs : List D) (S : Sto) : R D := match xs with
  | [x] => match seqOf S x with
    | some ds => .ok (.lst ds) S
    | none => .no
  | _ => .no
def gListN (xs : List D) (S : Sto) : R D := match xs with
  | [x] => match seqOf S x with
    | some ds => .ok (.cell S.length) (S ++ [some (.lst ds)])
    | none => .no
  | _ => .no
def gInt (xs : List D) (S : Sto) : R D := match xs with
  | [.int i] => .ok (.int i) S
  | [.bl b] => .ok (.int (if b then 1 else 0)) S
  | _ => .no
section
variable {X : Cx} {Γ : Gm} {W : WX} {e : Expr} {f : Ex} {fs : Ax} {p pos : Pos}
theorem seq_ok {F : Hp} {μ : List Addr} {G H : Hp} {S : Sto} {d : D} {v : V} {ds : List D} (t : Sit Γ F μ G H S) (r : VR Γ.K μ G d v) (h : seqOf S d = some ds) : ∃ a vs, v = .ref a ∧ (SqL Γ.K H a vs ∨ SqT Γ.K H a vs) ∧ VRs Γ.K μ G ds vs := by
  unfold seqOf at h
  split at h
  · cases h
    obtain ⟨a, vs, rfl, h1, _, h2⟩ := t.tup r
    exact ⟨a, vs, rfl, .inr h1, h2⟩
  · obtain ⟨a, vs, rfl, h1, h2⟩ := t.lst r h
    exact ⟨a, vs, rfl, .inl h1, h2⟩
abbrev rListOf (K : PySem.W.Frag) : List V → Hp → VK → Prop := fun xs H Q => ∃ p ys, xs = [.ref p] ∧ (SqL K H p ys ∨ SqT K H p ys) ∧ ∀ l, H l = none → Q (.ref l) (upd H l (.lst ys))
theorem cs_list : CaS Γ gList (rListOf Γ.K) := by
  intro W F μ G H S xs vs Q t rs q
  unfold gList at q
  split at q
  · cases rs with
    | cons r1 r2 =>
      cases r2
      split at q
      · rename_i ds hd
        obtain ⟨a, vs, rfl, h1, h2⟩ := seq_ok t r1 hd
        exact ⟨a, vs, rfl, h1, t.newL h2 q⟩
      · exact q.elim
  · exact q.elim
theorem cs_listN : CaS Γ gListN (rListOf Γ.K) := by
  intro W F μ G H S xs vs Q t rs q
  unfold gListN at q
  split at q
  · cases rs with
    | cons r1 r2 =>
      cases r2
      split at q
      · rename_i ds hd
        obtain ⟨a, vs, rfl, h1, h2⟩ := seq_ok t r1 hd
        exact ⟨a, vs, rfl, h1, fun p np => new_cell t h2 q np⟩
      · exact q.elim
  · exact q.elim
theorem ve_blist (hm : X.mg "list" = none) (ha : VA X Γ W [e] fs) (hg : Gl X "list" := by rfl) (hK : X.K = Γ.K := by rfl) (hs : starEach (e :: []) X.env = (false, eval e X.env) :: starEach [] X.env := by rfl) (hpl : (backTo pos (starEach [] X.env)).any (·.1) = false := by rfl) :
    VE X Γ W (.Call (.Name "list" p) [e] [] pos) (eCall gList fs) := ve_cty (T := "list") call_list_of (hK ▸ cs_list) hg hm (by decide +kernel) ha (by decide) (by decide) hs hpl
theorem ve_blistN (hm : X.mg "list" = none) (ha : VA X Γ W [e] fs) (hg : Gl X "list" := by rfl) (hK : X.K = Γ.K := by rfl) (hs : starEach (e :: []) X.env = (false, eval e X.env) :: starEach [] X.env := by rfl) (hpl : (backTo pos (starEach [] X.env)).any (·.1) = false := by rfl) :
    VE X Γ W (.Call (.Name "list" p) [e] [] pos) (eCall gListN fs) := ve_cty (T := "list") call_list_of (hK ▸ cs_listN) hg hm (by decide +kernel) ha (by decide) (by decide) hs hpl
theorem cs_int : CaS Γ gInt (fun xs H Q => (∃ i, xs = [.int i] ∧ Q (.int i) H) ∨ ∃ k, xs = [.bl k] ∧ Q (.int (if k then 1 else 0)) H) := by
  intro W F μ G H S xs vs Q t rs q
  unfold gInt at q
  split at q
  · cases rs with
    | cons r1 r2 => cases r2; cases r1; exact .inl ⟨_, rfl, q.ok t _ (.int _)⟩
  · cases rs with
    | cons r1 r2 => cases r2; cases r1; exact .inr ⟨_, rfl, q.ok t _ (.int _)⟩
  · exact q.elim
theorem ve_bint (hm : X.mg "int" = none) (ha : VA X Γ W [e] fs) (hg : Gl X "int" := by rfl) (hs : starEach (e :: []) X.env = (false, eval e X.env) :: starEach [] X.env := by rfl) (hpl : (backTo pos (starEach [] X.env)).any (·.1) = false := by rfl) :
    VE X Γ W (.Call (.Name "int" p) [e] [] pos) (eCall gInt fs) := ve_cty (T := "int") call_int1 cs_int hg hm (by decide +kernel) ha (by decide) (by decide) hs hpl
end
section
variable {S : Sto}
@[simp] theorem gList_lst (ds : List D) : gList [.lst ds] S = .ok (.lst ds) S := rfl
@[simp] theorem gListN_lst (ds : List D) : gListN [.lst ds] S = .ok (.cell S.length) (S ++ [some (.lst ds)]) := rfl
@[simp] theorem gList_cell (k : Nat) : gList [.cell k] S = match S[k]? with
    | some (some (.lst ds)) => .ok (.lst ds) S
    | _ => .no := by
  simp only [gList, seqOf, lstOf]
  cases S[k]? with
  | none => rfl
  | some o =>
    cases o with
    | none => rfl
    | some c => cases c <;> rfl
@[simp] theorem gInt_int (i : Int) : gInt [.int i] S = .ok (.int i) S := rfl
@[simp] theorem gInt_bl (b : Bool) : gInt [.bl b] S = .ok (.int (if b then 1 else 0)) S := rfl
end
/-! comprehensions whose parts leave the store as it is -/
theorem compL_gen {chk : Sto → Prop} {h : Hx} {t : Tx} {f : Ex} {σ : Env} {S : Sto} (hc : chk S) (p : D → Bool) (g : D → D) : ∀ (items acc : List D),
    (∀ d ∈ items, ∃ σ1, h d σ = some σ1 ∧ t σ1 S = .ok (p d) S ∧ (p d = true → f σ1 S = .ok (g d) S)) → acc.length + items.length ≤ sizeLine → compL chk h t f σ items acc S = .ok (acc ++ (items.filter p).map g) S
  | [], acc, _, _ => by simp [compL, hc]
  | d :: r, acc, hi, hz => by
    obtain ⟨σ1, h1, h2, h3⟩ := hi d (by simp)
    simp only [List.length_cons] at hz
    rw [compL, if_pos hc]
    simp only [h1, h2]
    by_cases hp : p d = true
    · simp only [hp, if_true, h3 hp]
      rw [if_pos (by omega), compL_gen hc p g r (acc ++ [g d]) (fun d hd => hi d (by simp [hd])) (by simp; omega)]
      simp [hp]
    · simp only [hp, if_false, Bool.false_eq_true]
      rw [compL_gen hc p g r acc (fun d hd => hi d (by simp [hd])) (by omega)]
      simp [hp]
theorem compL_map {chk : Sto → Prop} {h : Hx} {f : Ex} {σ : Env} {S : Sto} (hc : chk S) (g : D → D) (items : List D) (hi : ∀ d ∈ items, ∃ σ1, h d σ = some σ1 ∧ f σ1 S = .ok (g d) S) (hz : items.length ≤ sizeLine) : compL chk h tYes f σ items [] S = .ok (items.map g) S := by
  have := compL_gen (t := tYes) (f := f) (h := h) (σ := σ) hc (fun _ => true) g items [] (fun d hd => by obtain ⟨σ1, a, b⟩ := hi d hd; exact ⟨σ1, a, rfl, fun _ => b⟩) (by simpa using hz)
  rw [List.filter_eq_self.mpr (fun _ _ => rfl), List.nil_append] at this
  exact this
theorem compL_filter {chk : Sto → Prop} {h : Hx} {t : Tx} {f : Ex} {σ : Env} {S : Sto} (hc : chk S) (p : D → Bool) (g : D → D) (items : List D)
    (hi : ∀ d ∈ items, ∃ σ1, h d σ = some σ1 ∧ t σ1 S = .ok (p d) S ∧ (p d = true → f σ1 S = .ok (g d) S)) (hz : items.length ≤ sizeLine) : compL chk h t f σ items [] S = .ok ((items.filter p).map g) S := by
  have := compL_gen hc p g items [] hi (by simpa using hz)
  simpa using this
/-! slices -/
theorem cutG_from {α : Type} (xs : List α) (t : Nat) : cutG xs (some (t : Int)) none = xs.drop t := by
  unfold cutG
  rw [HT.sIx_none, HT.sIx_nat]
  rcases Nat.lt_or_ge t xs.length with h | h
  · rw [Nat.min_eq_left (by omega), List.take_of_length_le (by simp)]
  · rw [Nat.min_eq_right h, List.drop_length, List.drop_of_length_le h]; simp
theorem cutG_to {α : Type} (xs : List α) (t : Nat) : cutG xs none (some (t : Int)) = xs.take t := by
  unfold cutG
  rw [HT.sIx_none, HT.sIx_nat]
  simp only [List.drop_zero, Nat.sub_zero]
  rcases Nat.lt_or_ge t xs.length with h | h
  · rw [Nat.min_eq_left (by omega)]
  · rw [Nat.min_eq_right h, List.take_length, List.take_of_length_le h]
theorem cutG_to' {α : Type} (xs : List α) {i : Int} (h : 0 ≤ i) : cutG xs none (some i) = xs.take i.toNat := by
  obtain ⟨n, rfl⟩ := Int.eq_ofNat_of_zero_le h
  exact cutG_to xs n
theorem cutG_from' {α : Type} (xs : List α) {i : Int} (h : 0 ≤ i) : cutG xs (some i) none = xs.drop i.toNat := by
  obtain ⟨n, rfl⟩ := Int.eq_ofNat_of_zero_le h
  exact cutG_from xs n
theorem intsD_zero (n : Nat) : intsD 0 n = (List.range n).map fun (k : Nat) => D.int (k : Int) := by
  unfold intsD
  simp
theorem atI_map {α : Type} (e : α → D) (xs : List α) (i : Int) : atI (xs.map e) i = (atI xs i).map e := by
  unfold atI
  simp only [List.length_map]
  cases ixN xs.length i with
  | none => rfl
  | some j => simp
theorem atI_mod {α : Type} (xs : List α) (h : xs ≠ []) (i : Int) : ∃ (j : Nat) (x : α), i % (xs.length : Int) = (j : Int) ∧ j < xs.length ∧ xs[j]? = some x ∧ atI xs (i % (xs.length : Int)) = some x ∧ ixN xs.length (i % (xs.length : Int)) = some j := by
  have hl : 0 < xs.length := List.length_pos_iff.mpr h
  have h1 : 0 ≤ i % (xs.length : Int) := Int.emod_nonneg _ (by omega)
  have h2 : i % (xs.length : Int) < (xs.length : Int) := Int.emod_lt_of_pos _ (by omega)
  obtain ⟨j, e⟩ := Int.eq_ofNat_of_zero_le h1
  have hj : j < xs.length := by omega
  have hx : xs[j]? = some xs[j] := List.getElem?_eq_getElem hj
  have hi : ixN xs.length (i % (xs.length : Int)) = some j := by
    rw [e]
    unfold ixN
    rw [if_pos (by omega), if_pos (by omega)]
    rfl
  exact ⟨j, xs[j], e, hj, hx, by rw [e]; exact atI_nat hx, hi⟩
end Ev

/-! the law's own draws, by cells -/
namespace Ev
open PySem PySem.Spec PyProof.Rows L2
noncomputable def b_law_mix : Sx :=
      (sSeq (sAsg 2 (op2 gMod (op2 gMul (op2 gAdd (op2 gAdd (op2 gMod (eVar 0) (eC (.int 2147483647))) (op2 gMul (op2 gMul (eVar 1) (eVar 1)) (eC (.int 7919)))) (eC (.int 104729))) (eC (.int 48271))) (eC (.int 2147483647))))
      (sRet (op2 gMod (op2 gAdd (op2 gMul (eVar 2) (eVar 2)) (op2 gMul (eC (.int 69621)) (eVar 1))) (eC (.int 2147483629)))))
def mixI (c t : Int) : Int :=
  let n := (c % 2147483647 + t * t * 7919 + 104729) * 48271 % 2147483647
  (n * n + 69621 * t) % 2147483629
theorem mixI_pos (c t : Int) : 0 ≤ mixI c t ∧ mixI c t < 2147483629 := by unfold mixI; constructor; exact Int.emod_nonneg _ (by decide); exact Int.emod_lt_of_pos _ (by decide)
noncomputable def fn_law_mix : Fn := fnOf (fun p : Int × Int => [.int p.1, .int p.2]) (fun p => 0 ≤ p.2 ∧ p.2 < 2 ^ 62) fun p S => .ok (.int (mixI p.1 p.2)) S
theorem mix_eq {c t : Int} (h0 : 0 ≤ t) (h : t < 2 ^ 62) (S : Sto) : fn_law_mix [.int c, .int t] S = .ok (.int (mixI c t)) S :=
  fnOf_eq (e := fun p : Int × Int => [.int p.1, .int p.2]) (a := (c, t)) (fun a b h => by
    obtain ⟨a1, a2⟩ := a
    obtain ⟨b1, b2⟩ := b
    simp at h
    rw [h.1, h.2]) ⟨h0, h⟩
theorem ref_law_mix (ds : List D) (S : Sto) : Ref S (fn_law_mix ds S) (runB 3 b_law_mix ds S) := by
  refine fnOf_ref (fun p S ⟨h0, h1⟩ => ?_) ds S
  obtain ⟨c, t⟩ := p
  simp only at h0 h1
  have hn := Int.emod_nonneg ((c % 2147483647 + t * t * 7919 + 104729) * 48271) (show (2147483647 : Int) ≠ 0 by decide)
  have hn2 := Int.emod_lt_of_pos ((c % 2147483647 + t * t * 7919 + 104729) * 48271) (show (0 : Int) < 2147483647 by decide)
  have g1 : (-18446744073709551616 : Int) < t ∧ t < 18446744073709551616 := by omega
  have g2 : (-18446744073709551616 : Int) < (c % 2147483647 + t * t * 7919 + 104729) * 48271 % 2147483647 ∧ (c % 2147483647 + t * t * 7919 + 104729) * 48271 % 2147483647 < 18446744073709551616 := by omega
  exact Ref.self (by simp [runB, b_law_mix, g1, g2, mixI])
noncomputable def b_law_cells_s1 : Sx :=
      (sAsg 3 (op2 gAdd (eSl gSl (eVar 0) oN (oS (eC (.int 63)))) (eLst (aCons (eVar 1) aNil))))
noncomputable def b_law_cells_s2 : Sx :=
      (sAsg 4 (eNew aNil))
noncomputable def b_law_cells_s4 : Sx :=
      (sAsg 5 (eCompN (iL (eVar 3)) (hName 9) tYes (op2 gDiv (eVar 9) (eC (.int 100000))) [9]))
noncomputable def b_law_cells_l1 : Sx :=
      (sSeq (sAsg 7 (op2 gMod (eVar 6) (eCall gLen (aCons (eVar 5) aNil))))
      (sSeq (sExp (eMeth "list" gAppend (eVar 4) (aCons (op2 gMod (op2 gIdx (eVar 5) (eVar 7)) (eC (.int 2147483587))) aNil)))
      (sIx (op2 gDiv (op2 gIdx (eVar 5) (eVar 7)) (eC (.int 2147483587))) (eVar 5) (eVar 7))))
noncomputable def b_law_cells_s5 : Sx :=
      (sFor (iR1 (op2 gAdd (op2 gAdd (eVar 1) (eVar 2)) (eC (.int 1)))) (hName 6) (b_law_cells_l1))
noncomputable def b_law_cells_s6 : Sx :=
      (sAsg 4 (eSl gSlN (eVar 4) (oS (eVar 1)) oN))
noncomputable def b_law_cells_s7 : Sx :=
      (sRet (eSl gSl (eVar 4) oN (oS (op2 gAdd (eC (.int 1)) (op2 gMod (op2 gIdx (eVar 4) (eVar 2)) (eVar 2))))))
noncomputable def b_law_cells_i1 : Sx :=
      (sSeq (b_law_cells_s4)
      (sSeq (b_law_cells_s5)
      (sSeq (b_law_cells_s6)
      (b_law_cells_s7))))
noncomputable def b_law_cells_s3 : Sx :=
      (sIf (tTst (op2 gEq (op2 gMod (op2 gDiv (op2 gIdx (eVar 3) (eC (.int 0))) (eC (.int 50000))) (eC (.int 2))) (eC (.int 1)))) (b_law_cells_i1) sNil)
noncomputable def b_law_cells_s8 : Sx :=
      (sAsg 8 (eC (.int 0)))
noncomputable def b_law_cells_l2 (f_law_mix : Fn) : Sx :=
      (sAsg 8 (op2 gMod (op2 gAdd (op2 gMul (eVar 8) (eC (.int 31))) (eFn 2 f_law_mix (aCons (eVar 9) (aCons (op2 gAdd (eVar 6) (eVar 1)) aNil)))) (eC (.int 2147483629))))
noncomputable def b_law_cells_s9 (f_law_mix : Fn) : Sx :=
      (sFor (iEnum (eVar 3)) (hTup 2 (hCons (hName 6) (hCons (hName 9) hNil))) (b_law_cells_l2 f_law_mix))
noncomputable def b_law_cells_l3 (f_law_mix : Fn) : Sx :=
      (sSeq (sAsg 10 (eFn 2 f_law_mix (aCons (op2 gIdx (eVar 3) (op2 gMod (eVar 6) (eCall gLen (aCons (eVar 3) aNil)))) (aCons (op2 gAdd (op2 gAdd (op2 gMod (eVar 8) (eC (.int 1009))) (eVar 6)) (eVar 1)) aNil))))
      (sExp (eMeth "list" gAppend (eVar 4) (aCons (op2 gMod (op2 gAdd (op2 gMul (eVar 10) (eVar 10)) (op2 gMul (eC (.int 7)) (eVar 6))) (eC (.int 2147483587))) aNil))))
noncomputable def b_law_cells_s10 (f_law_mix : Fn) : Sx :=
      (sFor (iR1 (op2 gAdd (eC (.int 1)) (op2 gMod (op2 gDiv (eVar 8) (eC (.int 1009))) (eVar 2)))) (hName 6) (b_law_cells_l3 f_law_mix))
noncomputable def b_law_cells_s11 : Sx :=
      (sRet (eVar 4))
noncomputable def b_law_cells (f_law_mix : Fn) : Sx :=
      (sSeq (b_law_cells_s1)
      (sSeq (b_law_cells_s2)
      (sSeq (b_law_cells_s3)
      (sSeq (b_law_cells_s8)
      (sSeq (b_law_cells_s9 f_law_mix)
      (sSeq (b_law_cells_s10 f_law_mix)
      (b_law_cells_s11)))))))
def inR (xs : List Int) : Prop := ∀ x ∈ xs, 0 ≤ x ∧ x < 2147483587
theorem inR_snoc {xs : List Int} {x : Int} (h : inR xs) (h0 : 0 ≤ x) (h1 : x < 2147483587) : inR (xs ++ [x]) := fun y hy => by
  rcases List.mem_append.mp hy with hy | hy
  · exact h y hy
  · simp at hy; subst hy; exact ⟨h0, h1⟩
theorem cells_loop1 : ∀ (ks : List Nat) (found lefts : List Int), lefts ≠ [] → found.length + ks.length ≤ 100000 → inR found → ∃ (found' lefts' : List Int), found'.length = found.length + ks.length ∧ inR found' ∧
    ∀ (S : Sto) (a b c d k at_ x8 x9 x10 : Option D), ∃ k' at', forL still (hName 6) b_law_cells_l1 (ks.map fun (k : Nat) => D.int (k : Int)) [a, b, c, d, some (.cell S.length), some (.cell (S.length + 1)), k, at_, x8, x9, x10] (S ++ [some (.lst (found.map D.int)), some (.lst (lefts.map D.int))]) =
      .nx [a, b, c, d, some (.cell S.length), some (.cell (S.length + 1)), k', at', x8, x9, x10] (S ++ [some (.lst (found'.map D.int)), some (.lst (lefts'.map D.int))])
  | [], found, lefts, _, _, hr => ⟨found, lefts, by simp, hr, fun S a b c d k at_ x8 x9 x10 => ⟨k, at_, by simp⟩⟩
  | k :: ks, found, lefts, hl, hz, hr => by
    obtain ⟨j, y, e1, e2, e3, e4, e5⟩ := atI_mod lefts hl (k : Int)
    simp only [List.length_cons] at hz
    obtain ⟨found', lefts', h1, h2, h3⟩ := cells_loop1 ks (found ++ [y % 2147483587]) (lefts.set j (y / 2147483587)) (by simpa using hl) (by simp; omega) (inR_snoc hr (Int.emod_nonneg _ (by decide)) (Int.emod_lt_of_pos _ (by decide)))
    refine ⟨found', lefts', by rw [h1]; simp; omega, h2, fun S a b c d k0 at0 x8 x9 x10 => ?_⟩
    obtain ⟨k', at', h⟩ := h3 S a b c d (some (.int k)) (some (.int ((k : Int) % (lefts.length : Int)))) x8 x9 x10
    refine ⟨k', at', ?_⟩
    have hs : found.length < sizeLine := by rw [sizeLine_val]; omega
    have hp : (0 : Int) < (lefts.length : Int) := by have := List.length_pos_iff.mpr hl; omega
    simp only [List.map_append, List.map_cons, List.map_nil, List.map_set] at h
    have ht : b_law_cells_l1 [a, b, c, d, some (.cell S.length), some (.cell (S.length + 1)), some (.int (k : Int)), at0, x8, x9, x10] (S ++ [some (.lst (found.map D.int)), some (.lst (lefts.map D.int))]) =
        .nx [a, b, c, d, some (.cell S.length), some (.cell (S.length + 1)), some (.int (k : Int)), some (.int ((k : Int) % (lefts.length : Int))), x8, x9, x10] (S ++ [some (.lst (found.map D.int ++ [D.int (y % 2147483587)])), some (.lst ((lefts.map D.int).set j (D.int (y / 2147483587))))]) := by
      simp [b_law_cells_l1, atI_map, e4, e5, hs, hp, List.length_pos_iff.mpr hl]
    simp [ht, h]
theorem cells_loop2 (t : Nat) (ht : t ≤ 10000) : ∀ (cs : List Int) (i : Nat) (n : Int), i + cs.length ≤ 10000 → 0 ≤ n → ∃ n' : Int, 0 ≤ n' ∧
    ∀ (S : Sto) (a c d f x5 k x7 y x10 : Option D), ∃ k' y', forL still (hTup 2 (hCons (hName 6) (hCons (hName 9) hNil))) (b_law_cells_l2 fn_law_mix) (pairsFrom i (cs.map D.int)) [a, some (.int (t : Int)), c, d, f, x5, k, x7, some (.int n), y, x10] S =
      .nx [a, some (.int (t : Int)), c, d, f, x5, k', x7, some (.int n'), y', x10] S
  | [], i, n, _, h0 => ⟨n, h0, fun S a c d f x5 k x7 y x10 => ⟨k, y, by simp [pairsFrom]⟩⟩
  | x :: cs, i, n, hz, h0 => by
    simp only [List.length_cons] at hz
    obtain ⟨n', h1, h2⟩ := cells_loop2 t ht cs (i + 1) ((n * 31 + mixI x ((i : Int) + (t : Int))) % 2147483629) (by omega) (Int.emod_nonneg _ (by decide))
    refine ⟨n', h1, fun S a c d f x5 k x7 y x10 => ?_⟩
    obtain ⟨k', y', h⟩ := h2 S a c d f x5 (some (.int i)) x7 (some (.int x)) x10
    have hm : ∀ S', fn_law_mix [.int x, .int ((i : Int) + (t : Int))] S' = .ok (.int (mixI x ((i : Int) + (t : Int)))) S' := fun S' => mix_eq (by omega) (by omega) S'
    have htt : (b_law_cells_l2 fn_law_mix) [a, some (.int (t : Int)), c, d, f, x5, some (.int (i : Int)), x7, some (.int n), some (.int x), x10] S = .nx [a, some (.int (t : Int)), c, d, f, x5, some (.int (i : Int)), x7, some (.int ((n * 31 + mixI x ((i : Int) + (t : Int))) % 2147483629)), some (.int x), x10] S := by
      simp [b_law_cells_l2, hm]
    exact ⟨k', y', by simp [pairsFrom, htt, h]⟩
theorem cells_loop3 (t : Nat) (ht : t ≤ 10000) (cs : List Int) (hc : cs ≠ []) (n : Int) : ∀ (ks : List Nat) (found : List Int), (∀ k ∈ ks, k ≤ 10000) → found.length + ks.length ≤ 10000 → inR found → ∃ found' : List Int, found'.length = found.length + ks.length ∧ inR found' ∧
    ∀ (S : Sto) (a c x5 k x7 x9 x10 : Option D), ∃ k' x10', forL still (hName 6) (b_law_cells_l3 fn_law_mix) (ks.map fun (k : Nat) => D.int (k : Int)) [a, some (.int (t : Int)), c, some (.lst (cs.map D.int)), some (.cell S.length), x5, k, x7, some (.int n), x9, x10] (S ++ [some (.lst (found.map D.int))]) =
      .nx [a, some (.int (t : Int)), c, some (.lst (cs.map D.int)), some (.cell S.length), x5, k', x7, some (.int n), x9, x10'] (S ++ [some (.lst (found'.map D.int))])
  | [], found, _, _, hr => ⟨found, by simp, hr, fun S a c x5 k x7 x9 x10 => ⟨k, x10, by simp⟩⟩
  | k :: ks, found, hk, hz, hr => by
    obtain ⟨j, y, e1, e2, e3, e4, e5⟩ := atI_mod cs hc (k : Int)
    simp only [List.length_cons] at hz
    have hkk := hk k (by simp)
    have hn0 := Int.emod_nonneg n (show (1009 : Int) ≠ 0 by decide)
    have hn1 := Int.emod_lt_of_pos n (show (0 : Int) < 1009 by decide)
    generalize hm : mixI y (n % 1009 + (k : Int) + (t : Int)) = m
    have hm0 : 0 ≤ m ∧ m < 2147483629 := by rw [← hm]; exact mixI_pos _ _
    obtain ⟨found', h1, h2, h3⟩ := cells_loop3 t ht cs hc n ks (found ++ [(m * m + 7 * (k : Int)) % 2147483587]) (fun k hk' => hk k (by simp [hk'])) (by simp; omega) (inR_snoc hr (Int.emod_nonneg _ (by decide)) (Int.emod_lt_of_pos _ (by decide)))
    refine ⟨found', by rw [h1]; simp; omega, h2, fun S a c x5 k0 x7 x9 x10 => ?_⟩
    obtain ⟨k', x10', h⟩ := h3 S a c x5 (some (.int k)) x7 x9 (some (.int m))
    have hs : found.length < sizeLine := by rw [sizeLine_val]; omega
    have hp : (0 : Int) < (cs.length : Int) := by have := List.length_pos_iff.mpr hc; omega
    have hmm : ∀ S', fn_law_mix [.int y, .int (n % 1009 + (k : Int) + (t : Int))] S' = .ok (.int m) S' := fun S' => by rw [mix_eq (by omega) (by omega) S', hm]
    have g : (-18446744073709551616 : Int) < m ∧ m < 18446744073709551616 := by omega
    simp only [List.map_append, List.map_cons, List.map_nil] at h
    have htt : (b_law_cells_l3 fn_law_mix) [a, some (.int (t : Int)), c, some (.lst (cs.map D.int)), some (.cell S.length), x5, some (.int (k : Int)), x7, some (.int n), x9, x10] (S ++ [some (.lst (found.map D.int))]) =
        .nx [a, some (.int (t : Int)), c, some (.lst (cs.map D.int)), some (.cell S.length), x5, some (.int (k : Int)), x7, some (.int n), x9, some (.int m)] (S ++ [some (.lst (found.map D.int ++ [D.int ((m * m + 7 * (k : Int)) % 2147483587)]))]) := by
      simp [b_law_cells_l3, atI_map, e4, hs, hp, List.length_pos_iff.mpr hc, hmm, g]
    exact ⟨k', x10', by simp [htt, h]⟩
theorem cells_own (ns : List Int) (t m : Nat) (S : Sto) (cds lds : List D) (found lefts : List Int) (y : Int) (k' at' : Option D)
    (q2 : compL still (hName 9) tYes (op2 gDiv (eVar 9) (eC (.int 100000))) [some (.scr ns), some (.int (t : Int)), some (.int (m : Int)), some (.lst cds), some (.cell S.length), none, none, none, none, none, none] cds [] (S ++ [some (.lst [])]) = .ok lds (S ++ [some (.lst [])]))
    (h : forL still (hName 6) b_law_cells_l1 ((List.range (t + m + 1)).map fun (k : Nat) => D.int (k : Int)) [some (.scr ns), some (.int (t : Int)), some (.int (m : Int)), some (.lst cds), some (.cell S.length), some (.cell (S.length + 1)), none, none, none, none, none] (S ++ [some (.lst []), some (.lst lds)]) =
      .nx [some (.scr ns), some (.int (t : Int)), some (.int (m : Int)), some (.lst cds), some (.cell S.length), some (.cell (S.length + 1)), k', at', none, none, none] (S ++ [some (.lst (found.map D.int)), some (.lst (lefts.map D.int))]))
    (hr1 : ((t : Int) + (m : Int) + 1).toNat = t + m + 1) (hr2 : (-4611686018427387904 : Int) ≤ (t : Int) + (m : Int) + 1 ∧ (t : Int) + (m : Int) + 1 < 4611686018427387904)
    (hcut : cutG (found.map D.int) (some (t : Int)) none = (found.map D.int).drop t) (hcut2 : cutG ((found.map D.int).drop t) none (some (1 + y % (m : Int))) = ((found.map D.int).drop t).take (1 + y % (m : Int)).toNat)
    (hya' : atI ((found.map D.int).drop t) (m : Int) = some (.int y)) (hm : 0 < m) :
    b_law_cells_i1 [some (.scr ns), some (.int (t : Int)), some (.int (m : Int)), some (.lst cds), some (.cell S.length), none, none, none, none, none, none] (S ++ [some (.lst [])]) =
          .rt (.lst (((found.drop t).take (1 + y % (m : Int)).toNat).map D.int)) (S ++ [some (.lst (found.map D.int)), some (.lst (lefts.map D.int)), some (.lst ((found.map D.int).drop t))]) := by
  have p1 : b_law_cells_s4 [some (.scr ns), some (.int (t : Int)), some (.int (m : Int)), some (.lst cds), some (.cell S.length), none, none, none, none, none, none] (S ++ [some (.lst [])]) =
      .nx [some (.scr ns), some (.int (t : Int)), some (.int (m : Int)), some (.lst cds), some (.cell S.length), some (.cell (S.length + 1)), none, none, none, none, none] (S ++ [some (.lst []), some (.lst lds)]) := by
    simp [b_law_cells_s4, q2]
  have p2 : b_law_cells_s5 [some (.scr ns), some (.int (t : Int)), some (.int (m : Int)), some (.lst cds), some (.cell S.length), some (.cell (S.length + 1)), none, none, none, none, none] (S ++ [some (.lst []), some (.lst lds)]) =
      .nx [some (.scr ns), some (.int (t : Int)), some (.int (m : Int)), some (.lst cds), some (.cell S.length), some (.cell (S.length + 1)), k', at', none, none, none] (S ++ [some (.lst (found.map D.int)), some (.lst (lefts.map D.int))]) := by
    simp [b_law_cells_s5, hr1, hr2, intsD_zero, h]
  have p3 : b_law_cells_s6 [some (.scr ns), some (.int (t : Int)), some (.int (m : Int)), some (.lst cds), some (.cell S.length), some (.cell (S.length + 1)), k', at', none, none, none] (S ++ [some (.lst (found.map D.int)), some (.lst (lefts.map D.int))]) =
      .nx [some (.scr ns), some (.int (t : Int)), some (.int (m : Int)), some (.lst cds), some (.cell (S.length + 2)), some (.cell (S.length + 1)), k', at', none, none, none] (S ++ [some (.lst (found.map D.int)), some (.lst (lefts.map D.int)), some (.lst ((found.map D.int).drop t))]) := by
    simp [b_law_cells_s6, hcut]
  have p4 : b_law_cells_s7 [some (.scr ns), some (.int (t : Int)), some (.int (m : Int)), some (.lst cds), some (.cell (S.length + 2)), some (.cell (S.length + 1)), k', at', none, none, none] (S ++ [some (.lst (found.map D.int)), some (.lst (lefts.map D.int)), some (.lst ((found.map D.int).drop t))]) =
      .rt (.lst (((found.drop t).take (1 + y % (m : Int)).toNat).map D.int)) (S ++ [some (.lst (found.map D.int)), some (.lst (lefts.map D.int)), some (.lst ((found.map D.int).drop t))]) := by
    simp [b_law_cells_s7, hya', hcut2, hm]
  simp [b_law_cells_i1, p1, p2, p3, p4]
/-- there are such numbers -/
theorem cells_ex (ns : List Int) (t m : Nat) (ht : t + m ≤ 5000) (hm : 0 < m) (hn : ns.length ≤ 63) : ∃ xs : List Int, xs ≠ [] ∧ xs.length ≤ m ∧ inR xs ∧
    ∀ S : Sto, Ref S (.ok (.lst (xs.map D.int)) S) (runB 11 (b_law_cells fn_law_mix) [.scr ns, .int (t : Int), .int (m : Int)] S) := by
  have hcs : cutG (ns.map D.int) none (some 63) ++ [D.int (t : Int)] = (ns.take 63 ++ [(t : Int)]).map D.int := by
    rw [show (63 : Int) = ((63 : Nat) : Int) from rfl, cutG_to]; simp
  have hcl : (ns.take 63 ++ [(t : Int)]).length ≤ 64 := by simp; omega
  have hcn : ns.take 63 ++ [(t : Int)] ≠ [] := by simp
  have hcz : (cutG (ns.map D.int) none (some 63)).length + 1 ≤ sizeLine := by
    have := congrArg List.length hcs
    simp only [List.length_append, List.length_map, List.length_cons, List.length_nil] at this hcl
    rw [sizeLine_val]; omega
  generalize ns.take 63 ++ [(t : Int)] = cs at hcs hcl hcn
  obtain ⟨c0, cr, rfl⟩ : ∃ c0 cr, cs = c0 :: cr := by cases cs with | nil => exact absurd rfl hcn | cons a b => exact ⟨a, b, rfl⟩
  have hcond : ((c0 / 50000 % 2 == 1) = true) ∨ ((c0 / 50000 % 2 == 1) = false) := by cases (c0 / 50000 % 2 == 1) <;> simp
  have hcz2 : ((c0 :: cr).map D.int).length ≤ sizeLine := by rw [sizeLine_val, List.length_map]; omega
  have hS1 : ∀ S : Sto, b_law_cells_s1 [some (.scr ns), some (.int (t : Int)), some (.int (m : Int)), none, none, none, none, none, none, none, none] S = .nx [some (.scr ns), some (.int (t : Int)), some (.int (m : Int)), some (.lst ((c0 :: cr).map D.int)), none, none, none, none, none, none, none] S := fun S => by
    simp [b_law_cells_s1, hcz, hcs]
  have hS2 : ∀ S : Sto, b_law_cells_s2 [some (.scr ns), some (.int (t : Int)), some (.int (m : Int)), some (.lst ((c0 :: cr).map D.int)), none, none, none, none, none, none, none] S = .nx [some (.scr ns), some (.int (t : Int)), some (.int (m : Int)), some (.lst ((c0 :: cr).map D.int)), some (.cell S.length), none, none, none, none, none, none] (S ++ [some (.lst [])]) := fun S => by
    simp [b_law_cells_s2]
  rcases hcond with hb | hb
  · -- the cells' own figures
    have hcomp : ∀ (S : Sto) (a b c d e f g h i k : Option D), compL still (hName 9) tYes (op2 gDiv (eVar 9) (eC (.int 100000))) [a, b, c, d, e, f, g, h, i, none, k] ((c0 :: cr).map D.int) [] S = .ok (((c0 :: cr).map (· / 100000)).map D.int) S := fun S a b c d e f g h i k => by
      rw [compL_map (h := hName 9) trivial (fun d => match d with | .int c => .int (c / 100000) | d => d) _ (fun d hd => by
        obtain ⟨c', _, rfl⟩ := List.mem_map.mp hd
        exact ⟨_, rfl, by simp⟩) hcz2]
      simp
    obtain ⟨found, lefts, h1, h2, h3⟩ := cells_loop1 (List.range (t + m + 1)) [] ((c0 :: cr).map (· / 100000)) (by simp) (by simp; omega) (fun x hx => by cases hx)
    simp only [List.length_nil, List.length_range, Nat.zero_add] at h1
    have hy : ∃ y, (found.drop t)[m]? = some y := ⟨_, List.getElem?_eq_getElem (by rw [List.length_drop]; omega)⟩
    obtain ⟨y, hy⟩ := hy
    have hya : atI (found.drop t) (m : Int) = some y := atI_nat hy
    have hy0 : 0 ≤ y % (m : Int) := Int.emod_nonneg _ (by omega)
    have hy1 : y % (m : Int) < (m : Int) := Int.emod_lt_of_pos _ (by omega)
    refine ⟨(found.drop t).take (1 + y % (m : Int)).toNat, ?_, ?_, fun x hx => h2 x (List.mem_of_mem_drop (List.mem_of_mem_take hx)), fun S => ?_⟩
    · intro e
      have := congrArg List.length e
      simp only [List.length_take, List.length_drop, List.length_nil] at this
      omega
    · simp only [List.length_take, List.length_drop]; omega
    · obtain ⟨k', at', h⟩ := h3 S (some (.scr ns)) (some (.int (t : Int))) (some (.int (m : Int))) (some (.lst ((c0 :: cr).map D.int))) none none none none none
      simp only [List.map_nil] at h
      have hr1 : ((t : Int) + (m : Int) + 1).toNat = t + m + 1 := by omega
      have hr2 : (-4611686018427387904 : Int) ≤ (t : Int) + (m : Int) + 1 ∧ (t : Int) + (m : Int) + 1 < 4611686018427387904 := by omega
      have hcut : cutG (found.map D.int) (some (t : Int)) none = (found.map D.int).drop t := by rw [cutG_from]
      have hcut2 : cutG ((found.map D.int).drop t) none (some (1 + y % (m : Int))) = ((found.map D.int).drop t).take (1 + y % (m : Int)).toNat := by rw [cutG_to' _ (by omega)]
      have hya' : atI ((found.map D.int).drop t) (m : Int) = some (.int y) := by rw [← List.map_drop, atI_map, hya]; rfl
      refine Ref.ok (v2 := .lst (((found.drop t).take (1 + y % (m : Int)).toNat).map D.int)) (S2 := S ++ [some (.lst (found.map D.int)), some (.lst (lefts.map D.int)), some (.lst ((found.map D.int).drop t))]) ?_ (Cl.pure (by simp only [Ev.hb]; exact hbs_all.mpr fun d hd => by obtain ⟨x, _, rfl⟩ := List.mem_map.mp hd; rfl))
      have g1 := hS1 S
      have g2 := hS2 S
      have q1 := cells_own ns t m S _ _ found lefts y k' at' (hcomp (S ++ [some (.lst [])]) (some (.scr ns)) (some (.int (t : Int))) (some (.int (m : Int))) (some (.lst ((c0 :: cr).map D.int))) (some (.cell S.length)) none none none none none) h hr1 hr2 hcut hcut2 hya' hm
      have q3 : b_law_cells_s3 [some (.scr ns), some (.int (t : Int)), some (.int (m : Int)), some (.lst ((c0 :: cr).map D.int)), some (.cell S.length), none, none, none, none, none, none] (S ++ [some (.lst [])]) =
          .rt (.lst (((found.drop t).take (1 + y % (m : Int)).toNat).map D.int)) (S ++ [some (.lst (found.map D.int)), some (.lst (lefts.map D.int)), some (.lst ((found.map D.int).drop t))]) := by
        rw [← q1]
        simp [b_law_cells_s3, hb]
      generalize (c0 :: cr).map D.int = cds at g1 g2 q3
      simp [runB, b_law_cells, g1, g2, q3]
  · -- mixed
    obtain ⟨n, hn0, hn2⟩ := cells_loop2 t (by omega) (c0 :: cr) 0 0 (by omega) (Int.le_refl _)
    have hq0 : 0 ≤ n / 1009 % (m : Int) := Int.emod_nonneg _ (by omega)
    have hq1 : n / 1009 % (m : Int) < (m : Int) := Int.emod_lt_of_pos _ (by omega)
    obtain ⟨found, h1, h2, h3⟩ := cells_loop3 t (by omega) (c0 :: cr) (by simp) n (List.range (1 + n / 1009 % (m : Int)).toNat) [] (fun k hk => by have := List.mem_range.mp hk; omega) (by simp; omega) (fun x hx => by cases hx)
    simp only [List.length_nil, List.length_range, Nat.zero_add] at h1
    refine ⟨found, fun e => by rw [e] at h1; simp at h1; omega, by omega, h2, fun S => ?_⟩
    obtain ⟨k', y', hA⟩ := hn2 (S ++ [some (.lst [])]) (some (.scr ns)) (some (.int (m : Int))) (some (.lst ((c0 :: cr).map D.int))) (some (.cell S.length)) none none none none none
    obtain ⟨k2, x10, hB⟩ := h3 S (some (.scr ns)) (some (.int (m : Int))) none k' none y' none
    have hr2 : (-4611686018427387904 : Int) ≤ 1 + n / 1009 % (m : Int) ∧ 1 + n / 1009 % (m : Int) < 4611686018427387904 := by omega
    have hm' : (0 : Int) < (m : Int) := by omega
    refine Ref.ok (v2 := .cell (S.length + 0)) (S2 := S ++ [some (.lst (found.map D.int))]) ?_ (Cl.frz (j := 0) rfl (by simp only [Ev.hb]; exact hbs_all.mpr fun d hd => by obtain ⟨x, _, rfl⟩ := List.mem_map.mp hd; rfl))
    simp only [List.map_nil] at hB
    have g1 := hS1 S
    have g2 := hS2 S
    have q3 : b_law_cells_s3 [some (.scr ns), some (.int (t : Int)), some (.int (m : Int)), some (.lst ((c0 :: cr).map D.int)), some (.cell S.length), none, none, none, none, none, none] (S ++ [some (.lst [])]) =
        .nx [some (.scr ns), some (.int (t : Int)), some (.int (m : Int)), some (.lst ((c0 :: cr).map D.int)), some (.cell S.length), none, none, none, none, none, none] (S ++ [some (.lst [])]) := by
      simp [b_law_cells_s3, hb]
    have q4 : ∀ a b c d e S', b_law_cells_s8 [a, b, c, d, e, none, none, none, none, none, none] S' = .nx [a, b, c, d, e, none, none, none, some (.int 0), none, none] S' := fun a b c d e S' => by simp [b_law_cells_s8]
    have hcne : (c0 :: cr).map D.int ≠ [] := by simp
    generalize (c0 :: cr).map D.int = cds at g1 g2 q3 hA hB hcne
    have q5 : b_law_cells_s9 fn_law_mix [some (.scr ns), some (.int (t : Int)), some (.int (m : Int)), some (.lst cds), some (.cell S.length), none, none, none, some (.int 0), none, none] (S ++ [some (.lst [])]) =
        .nx [some (.scr ns), some (.int (t : Int)), some (.int (m : Int)), some (.lst cds), some (.cell S.length), none, k', none, some (.int n), y', none] (S ++ [some (.lst [])]) := by
      simp [b_law_cells_s9, hA]
    have q6 : b_law_cells_s10 fn_law_mix [some (.scr ns), some (.int (t : Int)), some (.int (m : Int)), some (.lst cds), some (.cell S.length), none, k', none, some (.int n), y', none] (S ++ [some (.lst [])]) =
        .nx [some (.scr ns), some (.int (t : Int)), some (.int (m : Int)), some (.lst cds), some (.cell S.length), none, k2, none, some (.int n), y', x10] (S ++ [some (.lst (found.map D.int))]) := by
      simp [b_law_cells_s10, hr2, intsD_zero, hB, hm]
    simp [runB, b_law_cells, g1, g2, q3, q4, q5, q6, b_law_cells_s11]
/-- the numbers that the law draws -/
noncomputable def cellsI (p : List Int × Nat × Nat) : List Int := by
  classical exact if h : p.2.1 + p.2.2 ≤ 5000 ∧ 0 < p.2.2 ∧ p.1.length ≤ 63 then (cells_ex p.1 p.2.1 p.2.2 h.1 h.2.1 h.2.2).choose else []
theorem cellsI_spec (ns : List Int) (t m : Nat) (h1 : t + m ≤ 5000) (h2 : 0 < m) (h3 : ns.length ≤ 63) : cellsI (ns, t, m) ≠ [] ∧ (cellsI (ns, t, m)).length ≤ m ∧ inR (cellsI (ns, t, m)) ∧
    ∀ S : Sto, Ref S (.ok (.lst ((cellsI (ns, t, m)).map D.int)) S) (runB 11 (b_law_cells fn_law_mix) [.scr ns, .int (t : Int), .int (m : Int)] S) := by
  unfold cellsI
  rw [dif_pos ⟨h1, h2, h3⟩]
  exact (cells_ex ns t m h1 h2 h3).choose_spec
noncomputable def fn_law_cells : Fn := fnOf (fun p : List Int × Nat × Nat => [.scr p.1, .int (p.2.1 : Int), .int (p.2.2 : Int)]) (fun p => p.2.1 + p.2.2 ≤ 5000 ∧ 0 < p.2.2 ∧ p.1.length ≤ 63) fun p S => .ok (.lst ((cellsI p).map D.int)) S
theorem cells_eq (ns : List Int) (t m : Nat) (h1 : t + m ≤ 5000) (h2 : 0 < m) (h3 : ns.length ≤ 63) (S : Sto) : fn_law_cells [.scr ns, .int (t : Int), .int (m : Int)] S = .ok (.lst ((cellsI (ns, t, m)).map D.int)) S :=
  fnOf_eq (e := fun p : List Int × Nat × Nat => [.scr p.1, .int (p.2.1 : Int), .int (p.2.2 : Int)]) (a := (ns, t, m)) (fun a b h => by
    obtain ⟨a1, a2, a3⟩ := a
    obtain ⟨b1, b2, b3⟩ := b
    simp at h
    obtain ⟨e1, e2, e3⟩ := h
    have e2 : a2 = b2 := by omega
    have e3 : a3 = b3 := by omega
    rw [e1, e2, e3]) ⟨h1, h2, h3⟩
theorem ref_law_cells (ds : List D) (S : Sto) : Ref S (fn_law_cells ds S) (runB 11 (b_law_cells fn_law_mix) ds S) :=
  fnOf_ref (fun p S ⟨h1, h2, h3⟩ => (cellsI_spec p.1 p.2.1 p.2.2 h1 h2 h3).2.2.2 S) ds S
/-! names -/
noncomputable def b_law_names_s1 (f_law_cells : Fn) : Sx :=
      (sAsg 1 (op2 gIdx (eFn 3 f_law_cells (aCons (eVar 0) (aCons (eC (.int 40)) (aCons (eC (.int 1)) aNil)))) (eC (.int 0))))
noncomputable def b_law_names_s2 : Sx :=
      (sAsg 2 (eSl gSl (eC (.str "abcdefabcde")) oN (oS (op2 gMod (eVar 1) (eC (.int 12))))))
noncomputable def b_law_names_s3 : Sx :=
      (sAsg 3 (op2 gMod (op2 gDiv (eVar 1) (eC (.int 12))) (op2 gAdd (eCall gLen (aCons (eVar 2) aNil)) (eC (.int 1)))))
noncomputable def b_law_names_s4 : Sx :=
      (sRet (eComp (iStr (eC (.str "mnopq"))) (hName 4) tYes (op2 gAdd (op2 gAdd (eSl gSl (eVar 2) oN (oS (eVar 3))) (eVar 4)) (eSl gSl (eVar 2) (oS (eVar 3)) oN)) [4]))
noncomputable def b_law_names (f_law_cells : Fn) : Sx :=
      (sSeq (b_law_names_s1 f_law_cells)
      (sSeq (b_law_names_s2)
      (sSeq (b_law_names_s3)
      (b_law_names_s4))))
/-- a name: small letters, at most twelve -/
def nameOk (s : Str) : Prop := (∀ c ∈ s.cps.toList, 97 ≤ c ∧ c ≤ 122) ∧ s.cps.size ≤ 12 ∧ 1 ≤ s.cps.size
theorem nameOk.str {s : Str} (h : nameOk s) : PyData.strOk s = true := by
  unfold PyData.strOk
  rw [Array.all_eq_true']
  intro c hc
  have := h.1 c (by simpa using hc)
  simp; omega
theorem cut_mem {z : Str} {lo hi : Option Int} {c : Nat} (h : c ∈ (cutS z lo hi).cps.toList) : c ∈ z.cps.toList := by
  simp only [cutS] at h
  exact List.mem_of_mem_drop (List.mem_of_mem_take (by simpa using h))
theorem cut_to (z : Str) {i : Int} (h : 0 ≤ i) : (cutS z none (some i)).cps.toList = z.cps.toList.take i.toNat := by
  have := cutG_to' z.cps.toList h
  have hl : z.length = z.cps.toList.length := by simp [Str.length]
  unfold cutG at this
  simp only [cutS, hl]
  exact this
theorem cut_from (z : Str) {i : Int} (h : 0 ≤ i) : (cutS z (some i) none).cps.toList = z.cps.toList.drop i.toNat := by
  have := cutG_from' z.cps.toList h
  have hl : z.length = z.cps.toList.length := by simp [Str.length]
  unfold cutG at this
  simp only [cutS, hl]
  exact this
theorem str_len (z : Str) : z.length = z.cps.toList.length := by simp [Str.length]
theorem str_app (x y : Str) : (x ++ y).cps.toList = x.cps.toList ++ y.cps.toList := by
  show (x.cps ++ y.cps).toList = _
  simp
/-- the names that are made of a number -/
def stemI (n : Int) : Str := cutS "abcdefabcde" none (some (n % 12))
def atN (n : Int) : Int := n / 12 % ((stemI n).length + 1)
def nameI (n : Int) (c : Nat) : Str := cutS (stemI n) none (some (atN n)) ++ ⟨#[c]⟩ ++ cutS (stemI n) (some (atN n)) none
def namesI (n : Int) : List Str := ("mnopq" : Str).cps.toList.map (nameI n)
theorem stem_len (n : Int) : (stemI n).cps.toList.length ≤ 11 := by
  unfold stemI
  rw [cut_to _ (Int.emod_nonneg _ (by decide)), List.length_take]
  have : ("abcdefabcde" : Str).cps.toList.length = 11 := by decide +kernel
  omega
theorem atN_ok (n : Int) : 0 ≤ atN n ∧ atN n ≤ (stemI n).length := by
  unfold atN
  have h1 := Int.emod_nonneg (n / 12) (show ((stemI n).length : Int) + 1 ≠ 0 by omega)
  have h2 := Int.emod_lt_of_pos (n / 12) (show (0 : Int) < ((stemI n).length : Int) + 1 by omega)
  omega
theorem name_len (n : Int) (c : Nat) : (nameI n c).cps.toList.length = (stemI n).cps.toList.length + 1 := by
  have h := atN_ok n
  unfold nameI
  rw [str_app, str_app, cut_to _ h.1, cut_from _ h.1, List.length_append, List.length_append, List.length_take, List.length_drop]
  rw [str_len] at h
  simp
  omega
theorem names_ok (n : Int) : (namesI n).length = 5 ∧ ∀ s ∈ namesI n, nameOk s := by
  constructor
  · unfold namesI; rw [List.length_map]; decide +kernel
  · intro s hs
    unfold namesI at hs
    obtain ⟨c, hc, rfl⟩ := List.mem_map.mp hs
    have hc' : 97 ≤ c ∧ c ≤ 122 := (show ∀ c ∈ ("mnopq" : Str).cps.toList, 97 ≤ c ∧ c ≤ 122 by decide +kernel) c hc
    have hst : ∀ c ∈ (stemI n).cps.toList, 97 ≤ c ∧ c ≤ 122 := fun c h => (show ∀ c ∈ ("abcdefabcde" : Str).cps.toList, 97 ≤ c ∧ c ≤ 122 by decide +kernel) c (cut_mem h)
    have hl := name_len n c
    have hs := stem_len n
    refine ⟨fun d hd => ?_, by simp at hl hs; omega, by simp at hl; omega⟩
    unfold nameI at hd
    rw [str_app, str_app] at hd
    simp only [List.mem_append] at hd
    rcases hd with (hd | hd) | hd
    · exact hst d (cut_mem hd)
    · simp at hd; subst hd; exact hc'
    · exact hst d (cut_mem hd)
/-- the number that the names are made of -/
noncomputable def nameNo (ns : List Int) : Int := (cellsI (ns, 40, 1)).headD 0
noncomputable def fn_law_names : Fn := fnOf (fun ns : List Int => [.scr ns]) (fun ns => ns.length ≤ 63) fun ns S => .ok (.lst ((namesI (nameNo ns)).map D.str)) S
theorem names_eq (ns : List Int) (h : ns.length ≤ 63) (S : Sto) : fn_law_names [.scr ns] S = .ok (.lst ((namesI (nameNo ns)).map D.str)) S := fnOf_eq (a := ns) (fun a b h => by simpa using h) h
theorem ref_law_names (ds : List D) (S : Sto) : Ref S (fn_law_names ds S) (runB 5 (b_law_names fn_law_cells) ds S) := by
  refine fnOf_ref (fun ns S hn => ?_) ds S
  have hc := cells_eq ns 40 1 (by decide) (by decide) hn S
  obtain ⟨h1, h2, h3, _⟩ := cellsI_spec ns 40 1 (by decide) (by decide) hn
  have hno : ∃ r, cellsI (ns, 40, 1) = nameNo ns :: r := by
    unfold nameNo
    cases e : cellsI (ns, 40, 1) with
    | nil => exact absurd e h1
    | cons a r => exact ⟨r, rfl⟩
  obtain ⟨r, hno⟩ := hno
  rw [hno] at hc
  generalize nameNo ns = n at hc
  have g1 : b_law_names_s1 fn_law_cells [some (.scr ns), none, none, none, none] S = .nx [some (.scr ns), some (.int n), none, none, none] S := by
    simp at hc
    simp [b_law_names_s1, hc]
  have hlen : ("abcdefabcde" : Str).length ≤ sizeLine := by decide +kernel
  have g2 : b_law_names_s2 [some (.scr ns), some (.int n), none, none, none] S = .nx [some (.scr ns), some (.int n), some (.str (stemI n)), none, none] S := by
    simp [b_law_names_s2, hlen, stemI]
  have hsl := stem_len n
  rw [← str_len] at hsl
  have hsz : (stemI n).length ≤ sizeLine := by rw [sizeLine_val]; omega
  have hp : (0 : Int) < ((stemI n).length : Int) + 1 := by omega
  have g3 : b_law_names_s3 [some (.scr ns), some (.int n), some (.str (stemI n)), none, none] S = .nx [some (.scr ns), some (.int n), some (.str (stemI n)), some (.int (atN n)), none] S := by
    simp [b_law_names_s3, hsz, hp, atN]
  have hat := atN_ok n
  have g4 : b_law_names_s4 [some (.scr ns), some (.int n), some (.str (stemI n)), some (.int (atN n)), none] S = .rt (.lst ((namesI n).map D.str)) S := by
    have hcomp := compL_map (chk := still) (h := hName 4) (f := (op2 gAdd (op2 gAdd (eSl gSl (eVar 2) oN (oS (eVar 3))) (eVar 4)) (eSl gSl (eVar 2) (oS (eVar 3)) oN))) (σ := [some (.scr ns), some (.int n), some (.str (stemI n)), some (.int (atN n)), none]) (S := S) trivial
      (fun d => match d with | .str c => .str (cutS (stemI n) none (some (atN n)) ++ c ++ cutS (stemI n) (some (atN n)) none) | d => d) (("mnopq" : Str).cps.toList.map fun c => D.str ⟨#[c]⟩) (fun d hd => by
        obtain ⟨c, _, rfl⟩ := List.mem_map.mp hd
        refine ⟨_, rfl, ?_⟩
        have e1 : (cutS (stemI n) none (some (atN n))).length + (⟨#[c]⟩ : Str).length ≤ sizeLine := by
          rw [str_len, cut_to _ hat.1, List.length_take, sizeLine_val]
          rw [str_len] at hsl
          show _ + 1 ≤ _
          omega
        have e2 : (cutS (stemI n) none (some (atN n)) ++ (⟨#[c]⟩ : Str)).length + (cutS (stemI n) (some (atN n)) none).length ≤ sizeLine := by
          rw [str_len, str_len (cutS _ _ _), str_app, cut_from _ hat.1, cut_to _ hat.1, List.length_append, List.length_take, List.length_drop, sizeLine_val]
          rw [str_len] at hsl
          simp
          simp at hsl
          omega
        simp [hsz, e1, e2]) (by rw [sizeLine_val, List.length_map]; decide +kernel)
    have hmm : (("mnopq" : Str).cps.toList.map fun c => D.str ⟨#[c]⟩).map (fun d => match d with | .str c => .str (cutS (stemI n) none (some (atN n)) ++ c ++ cutS (stemI n) (some (atN n)) none) | d => d) = (namesI n).map D.str := by
      unfold namesI
      rw [List.map_map, List.map_map]
      rfl
    rw [hmm] at hcomp
    unfold b_law_names_s4
    rw [sRet_eq, eComp_eq, iStr_eq, eC_eq]
    simp only [R.ok_bind]
    show SO.of ((compL still (hName 4) tYes _ [some (.scr ns), some (.int n), some (.str (stemI n)), some (.int (atN n)), none] (("mnopq" : Str).cps.toList.map fun c => D.str ⟨#[c]⟩) [] S).bind _) _ _ = _
    rw [hcomp]
    rfl
  exact Ref.self (by simp [runB, b_law_names, g1, g2, g3, g4])
end Ev

/-! the row of signs that the law draws -/
namespace Ev
open PySem PySem.Spec PyProof.Rows L2
/-- the texts in it can be compared -/
def Sg.ok : Sg → Prop
  | .op n => PyData.strOk n = true
  | .tx s => PyData.strOk s = true
  | .cl => True
def Sg.pyd : Sg → PyData
  | .op n => .tuple [.str "open", .str n]
  | .tx s => .tuple [.str "text", .str s]
  | .cl => .tuple [.str "close"]
theorem sg_py {s : Sg} (h : s.ok) (S : Sto) (n : Nat) : py S (n + 1) s.d = some s.pyd := by
  have h1 : PyData.strOk "open" = true := by decide +kernel
  have h2 : PyData.strOk "text" = true := by decide +kernel
  have h3 : PyData.strOk "close" = true := by decide +kernel
  cases s with
  | op m => have h' : PyData.strOk m = true := h; simp [Sg.d, py, omap, Sg.pyd, h1, h']
  | tx m => have h' : PyData.strOk m = true := h; simp [Sg.d, py, omap, Sg.pyd, h2, h']
  | cl => simp [Sg.d, py, omap, Sg.pyd, h3]
theorem omap_map {α : Type} {f : D → Option PyData} {e : α → D} {g : α → PyData} : ∀ {xs : List α}, (∀ x ∈ xs, f (e x) = some (g x)) → omap f (xs.map e) = some (xs.map g)
  | [], _ => rfl
  | x :: r, h => by
    have ih := omap_map (f := f) (e := e) (g := g) (xs := r) fun y hy => h y (by simp [hy])
    simp [omap, h x (by simp), ih]
theorem sgs_py {ss : List Sg} (h : ∀ s ∈ ss, s.ok) (S : Sto) (n : Nat) : omap (py S (n + 1)) (ss.map Sg.d) = some (ss.map Sg.pyd) := omap_map fun s hs => sg_py (h s hs) S n
theorem gEq_cell_nil {S : Sto} {k : Nat} {ds : List D} {ps : List PyData} (h : S[k]? = some (some (.lst ds))) (hp : omap (py S 199) ds = some ps) : gEq (.cell k) (.lst []) S = .ok (.bl (decide (ps = []))) S := by
  simp only [gEq, py, h, hp, Option.map_some, omap]
  cases ps <;> simp [PyData.eqv, PyData.eqvAll]
def fiveT : List Str := ["x", "", "y x", "\"", "[a]"]
def Sg.of (names : List Str) : Sg → Prop
  | .op n => n ∈ names
  | .tx s => s ∈ fiveT
  | .cl => True
theorem fiveT_ok : ∀ s ∈ fiveT, PyData.strOk s = true := by decide +kernel
theorem Sg.of_ok {names : List Str} (hn : ∀ n ∈ names, PyData.strOk n = true) {s : Sg} (h : s.of names) : s.ok := by
  cases s with
  | op n => exact hn n h
  | tx n => exact fiveT_ok n h
  | cl => trivial
noncomputable def b_law_signs_s1 : Sx :=
      (sAsg 2 (eLst (aCons (eC (.str "x")) (aCons (eC (.str "")) (aCons (eC (.str "y x")) (aCons (eC (.str "\"")) (aCons (eC (.str "[a]")) aNil)))))))
noncomputable def b_law_signs_s2 : Sx :=
      (sAsg 3 (eNew aNil))
noncomputable def b_law_signs_s3 : Sx :=
      (sAsg 4 (eC (.int 0)))
noncomputable def b_law_signs_s4 : Sx :=
      (sAsg 5 (eC (.int 0)))
noncomputable def b_law_signs_s6 : Sx :=
      (sExp (eMeth "list" gAppend (eVar 3) (aCons (eTup (aCons (eC (.str "open")) (aCons (op2 gIdx (eVar 1) (op2 gMod (op2 gMod (op2 gDiv (eVar 8) (eC (.int 7))) (eC (.int 11))) (eC (.int 5)))) aNil))) aNil)))
noncomputable def b_law_signs_s7 : Sx :=
      (sAsg 4 (op2 gAdd (eVar 4) (eC (.int 1))))
noncomputable def b_law_signs_i1 : Sx :=
      (sSeq (b_law_signs_s6)
      (b_law_signs_s7))
noncomputable def b_law_signs_s8 : Sx :=
      (sExp (eMeth "list" gAppend (eVar 3) (aCons (eTup (aCons (eC (.str "close")) aNil)) aNil)))
noncomputable def b_law_signs_s9 : Sx :=
      (sAsg 4 (op2 gSub (eVar 4) (eC (.int 1))))
noncomputable def b_law_signs_i2 : Sx :=
      (sSeq (b_law_signs_s8)
      (b_law_signs_s9))
noncomputable def b_law_signs_l1 : Sx :=
      (sSeq (sAsg 8 (eVar 7))
      (sSeq (sIf (tTst (op2 gEq (eVar 6) (eC (.int 0)))) (sAsg 5 (op2 gMod (op2 gDiv (eVar 8) (eC (.int 7))) (eC (.int 3)))) sNil)
      (sSeq (sAsg 9 (op2 gMod (op2 gAdd (eVar 8) (op2 gMul (op2 gMul (eVar 5) (op2 gMod (eVar 6) (eC (.int 2)))) (eC (.int 5)))) (eC (.int 7))))
      (sIf (tOr (tTst (op2 gEq (eVar 3) (eLst aNil))) (tAnd (tTst (op2 gLt (eVar 9) (eC (.int 3)))) (tTst (op2 gGt (eVar 4) (eC (.int 0)))))) (b_law_signs_i1) (sIf (tAnd (tTst (op2 gLt (eVar 9) (eC (.int 5)))) (tTst (op2 gGt (eVar 4) (eC (.int 0))))) (sExp (eMeth "list" gAppend (eVar 3) (aCons (eTup (aCons (eC (.str "text")) (aCons (op2 gIdx (eVar 2) (op2 gMod (op2 gDiv (eVar 8) (eC (.int 7))) (eC (.int 5)))) aNil))) aNil))) (sIf (tOr (tTst (op2 gGt (eVar 4) (eC (.int 1)))) (tAnd (tTst (op2 gEq (eVar 4) (eC (.int 1)))) (tTst (op2 gEq (op2 gMod (op2 gDiv (eVar 8) (eC (.int 7))) (eC (.int 6))) (eC (.int 0)))))) (b_law_signs_i2) sNil))))))
noncomputable def b_law_signs_s5 : Sx :=
      (sFor (iEnum (eVar 0)) (hTup 2 (hCons (hName 6) (hCons (hName 7) hNil))) (b_law_signs_l1))
noncomputable def b_law_signs_s10 : Sx :=
      (sRet (eVar 3))
noncomputable def b_law_signs : Sx :=
      (sSeq (b_law_signs_s1)
      (sSeq (b_law_signs_s2)
      (sSeq (b_law_signs_s3)
      (sSeq (b_law_signs_s4)
      (sSeq (b_law_signs_s5)
      (b_law_signs_s10))))))
/-- what stands behind some turns -/
structure SgI (names : List Str) (ss : List Sg) (d : Nat) : Prop where
  ok : okFrom z0 ss = true
  dep : (z0.run ss).st.length = d
  of : ∀ s ∈ ss, s.of names
theorem SgI.snoc {names : List Str} {ss : List Sg} {d : Nat} {s : Sg} (h : SgI names ss d) (hs : s.of names) (hc : (z0.run ss).can s = true) : SgI names (ss ++ [s]) ((z0.run ss).step s).st.length := by
  refine ⟨?_, ?_, fun x hx => ?_⟩
  · rw [okFrom_app, h.ok]; simp [okFrom, hc]
  · rw [run_app]; simp [Zp.run]
  · rcases List.mem_append.mp hx with hx | hx
    · exact h.of x hx
    · simp at hx; subst hx; exact hs
theorem signs_turn {names : List Str} (hn5 : names.length = 5) (hns : ∀ n ∈ names, PyData.strOk n = true) {ss : List Sg} {d : Nat} (hI : SgI names ss d) (hz : ss.length ≤ 1000) {l c : Int} (hl : 0 ≤ l ∧ l ≤ 2) (k : Nat) :
    ∃ (ss' : List Sg) (d' : Nat) (l' : Int), SgI names ss' d' ∧ (0 ≤ l' ∧ l' ≤ 2) ∧ ss'.length ≤ ss.length + 1 ∧ ss' ≠ [] ∧ ∀ (S : Sto) (a x8 x9 : Option D), ∃ x8' x9',
      b_law_signs_l1 [a, some (.lst (names.map D.str)), some (.lst (fiveT.map D.str)), some (.cell S.length), some (.int (d : Int)), some (.int l), some (.int (k : Int)), some (.int c), x8, x9] (S ++ [some (.lst (ss.map Sg.d))]) =
        .nx [a, some (.lst (names.map D.str)), some (.lst (fiveT.map D.str)), some (.cell S.length), some (.int (d' : Int)), some (.int l'), some (.int (k : Int)), some (.int c), x8', x9'] (S ++ [some (.lst (ss'.map Sg.d))]) := by
  have hl' : ∃ l' : Int, l' = (if (k : Int) = 0 then c / 7 % 3 else l) ∧ 0 ≤ l' ∧ l' ≤ 2 := by
    refine ⟨_, rfl, ?_⟩
    have h1 := Int.emod_nonneg (c / 7) (show (3 : Int) ≠ 0 by decide)
    have h2 := Int.emod_lt_of_pos (c / 7) (show (0 : Int) < 3 by decide)
    split <;> omega
  obtain ⟨l', el, hl0, hl2⟩ := hl'
  obtain ⟨jn, nm, _, _, hjn, han, _⟩ := atI_mod names (by intro e; rw [e] at hn5; simp at hn5) (c / 7 % 11)
  obtain ⟨jt, tx, _, _, hjt, hat, _⟩ := atI_mod fiveT (by decide) (c / 7)
  rw [hn5] at han
  have hf5 : fiveT.length = 5 := rfl
  rw [hf5] at hat
  have hnm : nm ∈ names := List.mem_of_getElem? hjn
  have htx : tx ∈ fiveT := List.mem_of_getElem? hjt
  have hzs : ss.length < sizeLine := by rw [sizeLine_val]; omega
  have g1 : (-18446744073709551616 : Int) < l' ∧ l' < 18446744073709551616 := by omega
  have han' : atI (names.map D.str) (c / 7 % 11 % 5) = some (.str nm) := by rw [atI_map]; simp only [Int.cast_ofNat_Int] at han; rw [han]; rfl
  have hat' : atI (fiveT.map D.str) (c / 7 % 5) = some (.str tx) := by rw [atI_map]; simp only [Int.cast_ofNat_Int] at hat; rw [hat]; rfl
  have hnil : ∀ S : Sto, gEq (.cell S.length) (.lst []) (S ++ [some (.lst (ss.map Sg.d))]) = .ok (.bl (decide (ss = []))) (S ++ [some (.lst (ss.map Sg.d))]) := fun S => by
    rw [gEq_cell_nil (ds := ss.map Sg.d) (ps := ss.map Sg.pyd) (by simp) (sgs_py (fun s hs => Sg.of_ok hns (hI.of s hs)) _ 198)]
    simp
  have pre : ∀ (S : Sto) (a x8 x9 : Option D) (f : Sx), sSeq (sAsg 8 (eVar 7)) (sSeq (sIf (tTst (op2 gEq (eVar 6) (eC (.int 0)))) (sAsg 5 (op2 gMod (op2 gDiv (eVar 8) (eC (.int 7))) (eC (.int 3)))) sNil)
      (sSeq (sAsg 9 (op2 gMod (op2 gAdd (eVar 8) (op2 gMul (op2 gMul (eVar 5) (op2 gMod (eVar 6) (eC (.int 2)))) (eC (.int 5)))) (eC (.int 7)))) f))
      [a, some (.lst (names.map D.str)), some (.lst (fiveT.map D.str)), some (.cell S.length), some (.int (d : Int)), some (.int l), some (.int (k : Int)), some (.int c), x8, x9] (S ++ [some (.lst (ss.map Sg.d))]) =
      f [a, some (.lst (names.map D.str)), some (.lst (fiveT.map D.str)), some (.cell S.length), some (.int (d : Int)), some (.int l'), some (.int (k : Int)), some (.int c), some (.int c), some (.int ((c + l' * ((k : Int) % 2) * 5) % 7))] (S ++ [some (.lst (ss.map Sg.d))]) := fun S a x8 x9 f => by
    subst el
    by_cases hk : (k : Int) = 0
    · simp [hk, if_pos]
    · have hk' : ¬ k = 0 := by omega
      simp only [hk, if_false] at g1
      simp [hk, hk', g1]
  generalize hkind : (c + l' * ((k : Int) % 2) * 5) % 7 = kind at pre
  by_cases hA : ss = [] ∨ (kind < 3 ∧ 0 < d)
  · refine ⟨ss ++ [.op nm], d + 1, l', ?_, ⟨hl0, hl2⟩, by simp, by simp, fun S a x8 x9 => ⟨some (.int c), some (.int kind), ?_⟩⟩
    · have := hI.snoc (s := .op nm) hnm (by
        rcases hA with h | ⟨_, h⟩
        · subst h; simp [Zp.can, canCome, z0, Zp.run, Zp.begun]
        · simp only [Zp.can, canCome, hI.dep, Bool.or_eq_true, decide_eq_true_eq]; left; omega)
      simpa [Zp.step, hI.dep] using this
    · unfold b_law_signs_l1
      rw [pre]
      have hi : ∀ S : Sto, b_law_signs_i1 [a, some (.lst (names.map D.str)), some (.lst (fiveT.map D.str)), some (.cell S.length), some (.int (d : Int)), some (.int l'), some (.int (k : Int)), some (.int c), some (.int c), some (.int kind)] (S ++ [some (.lst (ss.map Sg.d))]) =
          .nx [a, some (.lst (names.map D.str)), some (.lst (fiveT.map D.str)), some (.cell S.length), some (.int ((d : Int) + 1)), some (.int l'), some (.int (k : Int)), some (.int c), some (.int c), some (.int kind)] (S ++ [some (.lst (ss.map Sg.d ++ [Sg.d (.op nm)]))]) := fun S => by
        simp [b_law_signs_i1, b_law_signs_s6, b_law_signs_s7, han', hzs, Sg.d]
      rcases hA with h | ⟨h1, h2⟩
      · have hn := hnil S; simp [h] at hi hn; simp [h, hn, hi]
      · by_cases hss : ss = []
        · have hn := hnil S; simp [hss] at hi hn; simp [hss, hn, hi]
        · simp [hnil, hss, h1, h2, hi]
  · have hss : ss ≠ [] := fun e => hA (.inl e)
    have hA2 : ¬ (kind < 3 ∧ 0 < d) := fun e => hA (.inr e)
    by_cases hB : kind < 5 ∧ 0 < d
    · refine ⟨ss ++ [.tx tx], d, l', ?_, ⟨hl0, hl2⟩, by simp, by simp, fun S a x8 x9 => ⟨some (.int c), some (.int kind), ?_⟩⟩
      · have := hI.snoc (s := .tx tx) htx (by simp only [Zp.can, canCome, hI.dep, decide_eq_true_eq]; omega)
        have hst : ((z0.run ss).step (.tx tx)).st.length = d := by
          rw [← hI.dep]
          simp only [Zp.step]
          cases hz : (z0.run ss).st with
          | nil => simp [hz]
          | cons p r => obtain ⟨p1, p2⟩ := p; simp [addSt]
        rw [hst] at this
        exact this
      · unfold b_law_signs_l1
        rw [pre]
        have hk3 : ¬ kind < 3 := fun e => hA2 ⟨e, hB.2⟩
        simp [hnil, hss, hk3, hB.1, hB.2, hat', hzs, Sg.d]
    · by_cases hC : 1 < d ∨ (d = 1 ∧ c / 7 % 6 = 0)
      · refine ⟨ss ++ [.cl], d - 1, l', ?_, ⟨hl0, hl2⟩, by simp, by simp, fun S a x8 x9 => ⟨some (.int c), some (.int kind), ?_⟩⟩
        · have := hI.snoc (s := .cl) trivial (by simp only [Zp.can, canCome, hI.dep, decide_eq_true_eq]; omega)
          have hst : ((z0.run ss).step .cl).st.length = d - 1 := by
            rw [← hI.dep]
            simp only [Zp.step]
            cases hz : (z0.run ss).st with
            | nil => simp [hz]
            | cons p r =>
              obtain ⟨p1, p2⟩ := p
              cases r <;> simp [addSt]
          rw [hst] at this
          exact this
        · unfold b_law_signs_l1
          rw [pre]
          have hd : 0 < d := by omega
          have hk5 : ¬ kind < 5 := fun e => hB ⟨e, hd⟩
          have hk3 : ¬ kind < 3 := by omega
          have hi : ∀ S : Sto, b_law_signs_i2 [a, some (.lst (names.map D.str)), some (.lst (fiveT.map D.str)), some (.cell S.length), some (.int (d : Int)), some (.int l'), some (.int (k : Int)), some (.int c), some (.int c), some (.int kind)] (S ++ [some (.lst (ss.map Sg.d))]) =
              .nx [a, some (.lst (names.map D.str)), some (.lst (fiveT.map D.str)), some (.cell S.length), some (.int ((d - 1 : Nat) : Int)), some (.int l'), some (.int (k : Int)), some (.int c), some (.int c), some (.int kind)] (S ++ [some (.lst (ss.map Sg.d ++ [Sg.d .cl]))]) := fun S => by
            have e : (d : Int) - 1 = ((d - 1 : Nat) : Int) := by omega
            simp [b_law_signs_i2, b_law_signs_s8, b_law_signs_s9, hzs, Sg.d, e]
          rcases hC with h | ⟨h1, h2⟩
          · have h' : (1 : Int) < (d : Int) := by omega
            simp [hnil, hss, hk3, hk5, h', hi]
          · subst h1
            simp at hi
            simp [hnil, hss, hk3, hk5, h2, hi]
      · refine ⟨ss, d, l', hI, ⟨hl0, hl2⟩, by omega, hss, fun S a x8 x9 => ⟨some (.int c), some (.int kind), ?_⟩⟩
        unfold b_law_signs_l1
        rw [pre]
        rcases Nat.lt_or_ge 0 d with hd | hd
        · have hk5 : ¬ kind < 5 := fun e => hB ⟨e, hd⟩
          have hk3 : ¬ kind < 3 := by omega
          have hd1 : d = 1 := by omega
          subst hd1
          have h6 : ¬ c / 7 % 6 = 0 := fun e => hC (.inr ⟨rfl, e⟩)
          simp [hnil, hss, hk3, hk5, h6]
        · have hd0 : d = 0 := by omega
          subst hd0
          simp [hnil, hss]
theorem draws_loop {names : List Str} (hn5 : names.length = 5) (hns : ∀ n ∈ names, PyData.strOk n = true) : ∀ (cs : List Int) (i : Nat) (ss : List Sg) (d : Nat) (l : Int), SgI names ss d → ss.length + cs.length ≤ 1000 → 0 ≤ l ∧ l ≤ 2 →
    ∃ (ss' : List Sg) (d' : Nat) (l' : Int), SgI names ss' d' ∧ ss'.length ≤ ss.length + cs.length ∧ (ss ≠ [] ∨ cs ≠ [] → ss' ≠ []) ∧ ∀ (S : Sto) (a k c x8 x9 : Option D), ∃ k' c' x8' x9',
      forL still (hTup 2 (hCons (hName 6) (hCons (hName 7) hNil))) b_law_signs_l1 (pairsFrom i (cs.map D.int)) [a, some (.lst (names.map D.str)), some (.lst (fiveT.map D.str)), some (.cell S.length), some (.int (d : Int)), some (.int l), k, c, x8, x9] (S ++ [some (.lst (ss.map Sg.d))]) =
        .nx [a, some (.lst (names.map D.str)), some (.lst (fiveT.map D.str)), some (.cell S.length), some (.int (d' : Int)), some (.int l'), k', c', x8', x9'] (S ++ [some (.lst (ss'.map Sg.d))])
  | [], i, ss, d, l, hI, hz, hl => ⟨ss, d, l, hI, by simp, by simp, fun S a k c x8 x9 => ⟨k, c, x8, x9, by simp [pairsFrom]⟩⟩
  | x :: cs, i, ss, d, l, hI, hz, hl => by
    simp only [List.length_cons] at hz
    obtain ⟨s1, d1, l1, i1, q1, n1, ne1, h1⟩ := signs_turn hn5 hns hI (by omega) (c := x) hl i
    obtain ⟨s2, d2, l2, i2, n2, ne2, h2⟩ := draws_loop hn5 hns cs (i + 1) s1 d1 l1 i1 (by omega) q1
    refine ⟨s2, d2, l2, i2, by simp; omega, fun _ => ne2 (.inl ne1), fun S a k c x8 x9 => ?_⟩
    obtain ⟨y8, y9, g1⟩ := h1 S a x8 x9
    obtain ⟨k', c', z8, z9, g2⟩ := h2 S a (some (.int i)) (some (.int x)) y8 y9
    exact ⟨k', c', z8, z9, by simp [pairsFrom, g1, g2]⟩
def okNames (names : List Str) : Prop := names.length = 5 ∧ ∀ n ∈ names, PyData.strOk n = true
theorem signs_ex (cs : List Int) (names : List Str) (hn : okNames names) (hc : cs.length ≤ 1000) : ∃ ss : List Sg, okFrom z0 ss = true ∧ (∀ s ∈ ss, s.of names) ∧ ss.length ≤ cs.length ∧ (cs ≠ [] → ss ≠ []) ∧
    ∀ S : Sto, Ref S (.ok (sgs ss) S) (runB 10 b_law_signs [.lst (cs.map D.int), .lst (names.map D.str)] S) := by
  obtain ⟨ss, d, l, hI, h2, h3, h4⟩ := draws_loop hn.1 hn.2 cs 0 [] 0 0 ⟨rfl, rfl, by simp⟩ (by simpa using hc) (by decide)
  refine ⟨ss, hI.ok, hI.of, by simpa using h2, fun e => h3 (.inr e), fun S => ?_⟩
  obtain ⟨k', c', x8', x9', h⟩ := h4 S (some (.lst (cs.map D.int))) none none none none
  have g5 : b_law_signs_s5 [some (.lst (cs.map D.int)), some (.lst (names.map D.str)), some (.lst (fiveT.map D.str)), some (.cell S.length), some (.int 0), some (.int 0), none, none, none, none] (S ++ [some (.lst [])]) =
      .nx [some (.lst (cs.map D.int)), some (.lst (names.map D.str)), some (.lst (fiveT.map D.str)), some (.cell S.length), some (.int (d : Int)), some (.int l), k', c', x8', x9'] (S ++ [some (.lst (ss.map Sg.d))]) := by
    simp at h
    simp [b_law_signs_s5, h]
  have g1 : b_law_signs_s1 [some (.lst (cs.map D.int)), some (.lst (names.map D.str)), none, none, none, none, none, none, none, none] S = .nx [some (.lst (cs.map D.int)), some (.lst (names.map D.str)), some (.lst (fiveT.map D.str)), none, none, none, none, none, none, none] S := by
    simp [b_law_signs_s1, fiveT]
  refine Ref.ok (v2 := .cell (S.length + 0)) (S2 := S ++ [some (.lst (ss.map Sg.d))]) ?_ (Cl.frz (j := 0) rfl (by simp only [Ev.hb]; exact hbs_sg _ _))
  · simp [runB, b_law_signs, g1, b_law_signs_s2, b_law_signs_s3, b_law_signs_s4, g5, b_law_signs_s10]
noncomputable def signsI (p : List Int × List Str) : List Sg := by
  classical exact if h : okNames p.2 ∧ p.1.length ≤ 1000 then (signs_ex p.1 p.2 h.1 h.2).choose else []
theorem signsI_spec (cs : List Int) (names : List Str) (hn : okNames names) (hc : cs.length ≤ 1000) : okFrom z0 (signsI (cs, names)) = true ∧ (∀ s ∈ signsI (cs, names), s.of names) ∧ (signsI (cs, names)).length ≤ cs.length ∧ (cs ≠ [] → signsI (cs, names) ≠ []) ∧
    ∀ S : Sto, Ref S (.ok (sgs (signsI (cs, names))) S) (runB 10 b_law_signs [.lst (cs.map D.int), .lst (names.map D.str)] S) := by
  unfold signsI
  rw [dif_pos ⟨hn, hc⟩]
  exact (signs_ex cs names hn hc).choose_spec
noncomputable def fn_law_signs : Fn := fnOf (fun p : List Int × List Str => [.lst (p.1.map D.int), .lst (p.2.map D.str)]) (fun p => okNames p.2 ∧ p.1.length ≤ 1000) fun p S => .ok (sgs (signsI p)) S
theorem signs_eq (cs : List Int) (names : List Str) (hn : okNames names) (hc : cs.length ≤ 1000) (S : Sto) : fn_law_signs [.lst (cs.map D.int), .lst (names.map D.str)] S = .ok (sgs (signsI (cs, names))) S :=
  fnOf_eq (e := fun p : List Int × List Str => [.lst (p.1.map D.int), .lst (p.2.map D.str)]) (a := (cs, names)) (fun a b h => by
    obtain ⟨a1, a2⟩ := a
    obtain ⟨b1, b2⟩ := b
    simp only [List.cons.injEq, D.lst.injEq, and_true] at h
    rw [map_inj (fun a b h => by simpa using h) _ _ h.1, map_inj (fun a b h => by simpa using h) _ _ h.2]) ⟨hn, hc⟩
theorem ref_law_signs (ds : List D) (S : Sto) : Ref S (fn_law_signs ds S) (runB 10 b_law_signs ds S) :=
  fnOf_ref (fun p S ⟨h1, h2⟩ => (signsI_spec p.1 p.2 h1 h2).2.2.2.2 S) ds S
@[simp] theorem sne_open_text : (("open" : Str) = "text") = False := by apply eq_false; decide
@[simp] theorem sne_open_close : (("open" : Str) = "close") = False := by apply eq_false; decide
@[simp] theorem sne_text_open : (("text" : Str) = "open") = False := by apply eq_false; decide
@[simp] theorem sne_text_close : (("text" : Str) = "close") = False := by apply eq_false; decide
@[simp] theorem sne_close_open : (("close" : Str) = "open") = False := by apply eq_false; decide
@[simp] theorem sne_close_text : (("close" : Str) = "text") = False := by apply eq_false; decide
noncomputable def b_law_depth_s1 : Sx :=
      (sRet (op2 gSub (eCall gLen (aCons (eComp (iL (eVar 0)) (hName 1) (tTst (op2 gEq (op2 gIdx (eVar 1) (eC (.int 0))) (eC (.str "open")))) (eVar 1) [1]) aNil)) (eCall gLen (aCons (eComp (iL (eVar 0)) (hName 1) (tTst (op2 gEq (op2 gIdx (eVar 1) (eC (.int 0))) (eC (.str "close")))) (eVar 1) [1]) aNil))))
noncomputable def b_law_depth : Sx :=
      (b_law_depth_s1)
/-- what the signs have opened and not closed -/
def opens (ss : List Sg) : Nat := (ss.filter fun s => match s with | .op _ => true | _ => false).length
def closes (ss : List Sg) : Nat := (ss.filter fun s => match s with | .cl => true | _ => false).length
noncomputable def fn_law_depth : Fn := fnOf (fun ss : List Sg => [sgs ss]) (fun ss => ss.length ≤ 900000) fun ss S => .ok (.int ((opens ss : Int) - (closes ss : Int))) S
theorem depth_eq {ss : List Sg} (h : ss.length ≤ 900000) (S : Sto) : fn_law_depth [.lst (ss.map Sg.d)] S = .ok (.int ((opens ss : Int) - (closes ss : Int))) S := fnOf_eq (a := ss) sgs_inj h
theorem filter_sg (ss : List Sg) (p : D → Bool) : (ss.map Sg.d).filter p = (ss.filter fun s => p s.d).map Sg.d := by
  induction ss with
  | nil => rfl
  | cons s r ih => simp only [List.map_cons, List.filter_cons, ih]; split <;> rfl
theorem ref_law_depth (ds : List D) (S : Sto) : Ref S (fn_law_depth ds S) (runB 2 b_law_depth ds S) := by
  refine fnOf_ref (fun ss S hs => ?_) ds S
  have hz : ss.length ≤ sizeLine := by rw [sizeLine_val]; omega
  have c1 := compL_filter (chk := still) (h := hName 1) (t := tTst (op2 gEq (op2 gIdx (eVar 1) (eC (.int 0))) (eC (.str "open")))) (f := eVar 1) (σ := [some (sgs ss), none]) (S := S) trivial
    (fun d => match d with | .tup (.str t :: _) => decide (t = "open") | _ => false) id (ss.map Sg.d) (fun d hd => by
      obtain ⟨s, _, rfl⟩ := List.mem_map.mp hd
      exact ⟨[some (sgs ss), some s.d], by simp, by cases s <;> simp [Sg.d], fun _ => by simp⟩) (by simpa using hz)
  have c2 := compL_filter (chk := still) (h := hName 1) (t := tTst (op2 gEq (op2 gIdx (eVar 1) (eC (.int 0))) (eC (.str "close")))) (f := eVar 1) (σ := [some (sgs ss), none]) (S := S) trivial
    (fun d => match d with | .tup (.str t :: _) => decide (t = "close") | _ => false) id (ss.map Sg.d) (fun d hd => by
      obtain ⟨s, _, rfl⟩ := List.mem_map.mp hd
      exact ⟨[some (sgs ss), some s.d], by simp, by cases s <;> simp [Sg.d], fun _ => by simp⟩) (by simpa using hz)
  rw [List.map_id, filter_sg] at c1 c2
  have e1 : (ss.filter fun s => match s.d with | .tup (.str t :: _) => decide (t = "open") | _ => false) = ss.filter fun s => match s with | .op _ => true | _ => false := by
    congr 1; funext s; cases s <;> simp [Sg.d]
  have e2 : (ss.filter fun s => match s.d with | .tup (.str t :: _) => decide (t = "close") | _ => false) = ss.filter fun s => match s with | .cl => true | _ => false := by
    congr 1; funext s; cases s <;> simp [Sg.d]
  rw [e1] at c1
  rw [e2] at c2
  have l1 : (ss.filter fun s => match s with | .op _ => true | _ => false).length ≤ ss.length := List.length_filter_le _ _
  have l2 : (ss.filter fun s => match s with | .cl => true | _ => false).length ≤ ss.length := List.length_filter_le _ _
  have q1 : (-18446744073709551616 : Int) < opens ss := by omega
  refine Ref.self ?_
  simp [sgs] at c1 c2
  simp [runB, sgs, b_law_depth, b_law_depth_s1, wipeE, c1, c2, opens, closes]
noncomputable def b_law_paper_s1 : Sx :=
      (sAsg 1 (eNew aNil))
noncomputable def b_law_paper_s2 : Sx :=
      (sAsg 2 (eNew (aCons (eVar 1) aNil)))
noncomputable def b_law_paper_s4 : Sx :=
      (sExp (eMeth "list" gAppend (op2 gIdx (eVar 2) (op1 gNeg (eC (.int 1)))) (aCons (eTup (aCons (op2 gIdx (eVar 3) (eC (.int 1))) (aCons (eNew aNil) aNil))) aNil)))
noncomputable def b_law_paper_s5 : Sx :=
      (sExp (eMeth "list" gAppend (eVar 2) (aCons (op2 gIdx (op2 gIdx (op2 gIdx (eVar 2) (op1 gNeg (eC (.int 1)))) (op1 gNeg (eC (.int 1)))) (eC (.int 1))) aNil)))
noncomputable def b_law_paper_i1 : Sx :=
      (sSeq (b_law_paper_s4)
      (b_law_paper_s5))
noncomputable def b_law_paper_l1 : Sx :=
      (sIf (tTst (op2 gEq (op2 gIdx (eVar 3) (eC (.int 0))) (eC (.str "open")))) (b_law_paper_i1) (sIf (tTst (op2 gEq (op2 gIdx (eVar 3) (eC (.int 0))) (eC (.str "text")))) (sExp (eMeth "list" gAppend (op2 gIdx (eVar 2) (op1 gNeg (eC (.int 1)))) (aCons (op2 gIdx (eVar 3) (eC (.int 1))) aNil))) (sExp (eMeth "list" gPop (eVar 2) aNil))))
noncomputable def b_law_paper_s3 : Sx :=
      (sFor (iL (eVar 0)) (hName 3) (b_law_paper_l1))
noncomputable def b_law_paper_s6 : Sx :=
      (sRet (op2 gIdx (eVar 1) (eC (.int 0))))
noncomputable def b_law_paper : Sx :=
      (sSeq (b_law_paper_s1)
      (sSeq (b_law_paper_s2)
      (sSeq (b_law_paper_s3)
      (b_law_paper_s6))))
theorem paper_turn {S J : Sto} {z : Zp} {t : Nat} {s : Sg} {x : Option D} (h : StI S.length J z t) (hc : z.can s = true) (ht : t ≤ 1000000) :
    ∃ J', StI S.length J' (z.step s) (t + 1) ∧ b_law_paper_l1 [x, some (.cell S.length), some (.cell (S.length + 1)), some s.d] (S ++ J) = .nx [x, some (.cell S.length), some (.cell (S.length + 1)), some s.d] (S ++ J') := by
  obtain ⟨Jc, js, hch, hle, hlen, hp, hpile, hst⟩ := h.ex
  have hjl := hch.len
  obtain ⟨j, jr, ds, rfl, hj, hdt, hjn, hj0, hlink, happ⟩ := hch.top
  simp only [List.reverse_cons, List.map_append, List.map_cons, List.map_nil] at hpile
  simp only [List.length_cons, Nat.add_right_cancel_iff] at hjl
  have hj1 : j ≠ 1 := fun e => hch.ne1 (by simp [e])
  have hjJ : j < J.length := (List.getElem?_eq_some_iff.mp hj).1
  have h1J : 1 < J.length := (List.getElem?_eq_some_iff.mp hpile).1
  have hds : ds.length < sizeLine := by rw [sizeLine_val]; omega
  have hpl : (jr.length : Int) + 1 - 1 = (z.st.length : Int) := by omega
  have hpz : jr.length + 1 < sizeLine := by rw [sizeLine_val]; omega
  have hcan : z.can s = true := hc
  have hset : ∀ (l : Sto) (c : Option C) (i : Nat), i ≠ j → (l.set j c)[i]? = l[i]? := fun l c i h => List.getElem?_set_ne (Ne.symm h)
  have hset1 : ∀ (l : Sto) (c : Option C) (i : Nat), i ≠ 1 → (l.set 1 c)[i]? = l[i]? := fun l c i h => List.getElem?_set_ne (Ne.symm h)
  cases s with
  | op m =>
    have e1 : (J ++ [some (C.lst [])])[1]? = some (some (.lst (jr.reverse.map (fun j => D.cell (S.length + j)) ++ [.cell (S.length + j)]))) := by rw [List.getElem?_append_left h1J]; exact hpile
    have ej : (J ++ [some (C.lst [])])[j]? = some (some (.lst ds)) := by rw [List.getElem?_append_left hjJ]; exact hj
    refine ⟨((J ++ [some (C.lst [])]).set j (some (.lst (ds ++ [D.tup [.str m, .cell (S.length + J.length)]])))).set 1 (some (.lst ((jr.reverse.map (fun j => D.cell (S.length + j)) ++ [.cell (S.length + j)]) ++ [.cell (S.length + J.length)]))), ⟨Jc ++ [none], J.length :: j :: jr, ?_, ?_, ?_, ?_, ?_, ?_⟩, ?_⟩
    · have hold := hlink [D.tup [.str m, .cell (S.length + J.length)]]
      have hlt := hch.lt
      have hfr := hch.free
      have hne := hch.ne1
      refine .cons (ds := []) ?_ ?_ (by omega) (fun z => by have := hlt _ z; omega) (by simp) .nil (hold.mono (by simp) (fun i hi => ?_) (fun i hi => ?_) fun i c e => ?_)
      · rw [hset1 _ _ _ (by omega), hset _ _ _ (by omega)]; simp
      · rw [← hlen]; simp
      · have h1 : i ≠ 1 := fun e => hne (by rw [← e]; exact hi)
        rw [hset1 _ _ _ h1, List.set_append_left _ _ hjJ, List.getElem?_append_left (by simpa using hlt i hi)]
      · rw [List.getElem?_append_left (by rw [hlen]; exact hlt i hi)]; exact hfr i hi
      · rw [List.getElem?_append_left (List.getElem?_eq_some_iff.mp e).1]; exact e
    · intro i c e
      have hi : i < Jc.length := by
        have := (List.getElem?_eq_some_iff.mp e).1
        simp at this
        rcases Nat.lt_or_ge i Jc.length with h | h
        · exact h
        · have : i = Jc.length := by omega
          subst this
          simp at e
      rw [List.getElem?_append_left hi] at e
      have n1 : i ≠ 1 := fun z => by rw [z, hp] at e; cases e
      have nj : i ≠ j := fun z => by rw [z, hch.free j (by simp)] at e; cases e
      rw [hset1 _ _ _ n1, hset _ _ _ nj, List.getElem?_append_left (by omega)]
      exact hle i c e
    · simp [hlen]
    · rw [List.getElem?_append_left (by omega)]; exact hp
    · rw [List.getElem?_set_self (by simp; omega)]; simp
    · simp [Zp.step]; omega
    · have es : ∀ c : Option C, ((J ++ [some (C.lst [])]).set j c)[j]? = some c := fun c => List.getElem?_set_self (by simp; omega)
      simp [b_law_paper_l1, b_law_paper_i1, b_law_paper_s4, b_law_paper_s5, hpile, e1, ej, es, hj, hset, hj1.symm, hds, hpz, Sg.d, Nat.add_assoc]
  | tx m =>
    cases hz : z.st with
    | nil => simp [Zp.can, canCome, hz] at hcan
    | cons p r =>
      have hn := happ [.str m] (.tx m .nil) (.cons (.str m) .nil)
      refine ⟨J.set j (some (.lst (ds ++ [.str m]))), ⟨Jc, j :: jr, ?_, ?_, ?_, hp, ?_, ?_⟩, ?_⟩
      · rw [hz] at hn
        simp only [Zp.step, hz]
        exact hn
      · intro i c e
        have nj : i ≠ j := fun z => by rw [z, hch.free j (by simp)] at e; cases e
        rw [hset _ _ _ nj]; exact hle i c e
      · simp [hlen]
      · rw [hset _ _ _ hj1.symm]; simpa using hpile
      · obtain ⟨p1, p2⟩ := p
        rw [hz] at hst
        simp only [Zp.step, hz, addSt, List.length_cons] at hst ⊢; omega
      · simp [b_law_paper_l1, hpile, hpl, hj, hds, Sg.d]
  | cl =>
    cases hz : z.st with
    | nil => simp [Zp.can, canCome, hz] at hcan
    | cons p r =>
      obtain ⟨m, f⟩ := p
      rw [hz] at hch
      have hfr := hch.free
      have hne := hch.ne1
      cases hch with
      | cons q1 q2 q3 q4 q5 q6 q7 =>
        rename_i ds0
        rw [List.append_nil] at q1
        have hjc : j < Jc.length := by omega
        have hJc' : ∀ (i : Nat) (c : C), Jc[i]? = some (some c) → (Jc.set j (some (.lst ds0)))[i]? = some (some c) := fun i c e => by
          have nj : i ≠ j := fun z => by rw [z, q2] at e; cases e
          rw [hset _ _ _ nj]; exact e
        refine ⟨J.set 1 (some (.lst (jr.reverse.map fun j => D.cell (S.length + j)))), ⟨Jc.set j (some (.lst ds0)), jr, ?_, ?_, ?_, ?_, ?_, ?_⟩, ?_⟩
        · simp only [Zp.step, hz]
          refine (q7.mono (J' := J.set 1 (some (.lst (jr.reverse.map fun j => D.cell (S.length + j))))) (Jc' := Jc.set j (some (.lst ds0))) (Nat.le_succ t) (fun i hi => ?_) (fun i hi => ?_) hJc').absorb (.cons (.tup (.cons (.str _) (.cons (.cell ?_ (q6.mono hJc')) .nil))) .nil)
          · exact hset1 _ _ _ fun e => hne (by rw [← e]; simp [hi])
          · rw [hset _ _ _ (fun e => q4 (by rw [← e]; exact hi))]; exact hfr i (by simp [hi])
          · exact List.getElem?_set_self hjc
        · intro i c e
          by_cases nj : i = j
          · subst nj
            rw [List.getElem?_set_self hjc] at e
            cases e
            rw [hset1 _ _ _ hj1]; exact q1
          · rw [hset _ _ _ nj] at e
            have n1 : i ≠ 1 := fun z => by rw [z, hp] at e; cases e
            rw [hset1 _ _ _ n1]; exact hle i c e
        · simp [hlen]
        · rw [hset _ _ _ hj1.symm]; exact hp
        · rw [List.getElem?_set_self h1J]
        · rw [hz] at hst
          have : (addSt (.el m f .nil) r).length = r.length := by cases r <;> simp [addSt]
          simp only [Zp.step, hz, List.length_cons] at hst ⊢; omega
        · have hjp : jr.length + 1 - 1 = jr.length := by omega
          simp [b_law_paper_l1, hpile, hpl, Sg.d]

theorem paper_loop {S : Sto} {x : Option D} : ∀ (ss : List Sg) (J : Sto) (z : Zp) (t : Nat) (b : Option D), StI S.length J z t → okFrom z ss = true → t + ss.length ≤ 1000000 →
    ∃ J' b', StI S.length J' (z.run ss) (t + ss.length) ∧ forL still (hName 3) b_law_paper_l1 (ss.map Sg.d) [x, some (.cell S.length), some (.cell (S.length + 1)), b] (S ++ J) =
      .nx [x, some (.cell S.length), some (.cell (S.length + 1)), b'] (S ++ J')
  | [], J, z, t, b, h, _, _ => ⟨J, b, h, by simp⟩
  | s :: r, J, z, t, b, h, ho, ht => by
    obtain ⟨h1, h2⟩ := okFrom_cons ho
    simp only [List.length_cons] at ht
    obtain ⟨J1, hs1, he1⟩ := paper_turn (x := x) h h1 (by omega)
    obtain ⟨J', b', hs, he⟩ := paper_loop (x := x) r J1 (z.step s) (t + 1) (some s.d) hs1 h2 (by omega)
    refine ⟨J', b', ?_, ?_⟩
    · have : t + (s :: r).length = t + 1 + r.length := by simp; omega
      rw [this]; exact hs
    · simp [he1, he]
noncomputable def fn_law_paper : Fn := fnOf (fun ss : List Sg => [sgs ss]) (fun ss => ss ≠ [] ∧ okFrom z0 ss = true ∧ ss.length ≤ 900000) fun ss S => .ok (stumpP ss).d S
theorem paper_eq {ss : List Sg} (h : ss ≠ []) (ho : okFrom z0 ss = true) (hz : ss.length ≤ 900000) (S : Sto) : fn_law_paper [.lst (ss.map Sg.d)] S = .ok (stumpP ss).d S := fnOf_eq (a := ss) sgs_inj ⟨h, ho, hz⟩
theorem ref_law_paper (ds : List D) (S : Sto) : Ref S (fn_law_paper ds S) (runB 4 b_law_paper ds S) := by
  refine fnOf_ref (fun ss S ⟨h, ho, hz⟩ => ?_) ds S
  obtain ⟨n, k, e1, e2⟩ := stumpP_all h ho
  obtain ⟨J', b', hs, he⟩ := paper_loop (S := S) (x := some (sgs ss)) ss _ z0 0 none (StI.start S.length) ho (by omega)
  obtain ⟨Jc, js, hch, hle, _, _, _, _⟩ := hs.ex
  obtain ⟨ds0, h0, hf⟩ := hch.fin hle .nil .nil
  have e2' : upF .nil (z0.run ss).st (z0.run ss).bot = .el n k .nil := e2
  rw [e2'] at hf
  simp only [Fo.ds] at hf
  cases hf with
  | cons hd hr =>
    cases hr
    rename_i d0
    refine Ref.ok (v2 := d0) (S2 := S ++ J') ?_ (Cl.fz (by rw [e1]; exact hd))
    simp [sgs] at he
    simp [runB, b_law_paper, b_law_paper_s1, b_law_paper_s2, b_law_paper_s3, b_law_paper_s6, sgs, he, h0]
end Ev

/-! Ev: a body as its own promise, what it has built told as data, old cells as it leaves them. -/
namespace Ev
open PySem PySem.Spec PyProof.Rows L2
section
variable {n : Nat} {J : Sto}
theorem Fz.uniq {d e : D} (h : Fz n J d e) : ∀ e', Fz n J d e' → e = e' := by
  refine Fz.rec (motive_1 := fun d e _ => ∀ e', Fz n J d e' → e = e') (motive_2 := fun ds es _ => ∀ es', FzAll n J ds es' → es = es') ?_ ?_ ?_ ?_ ?_ ?_ ?_ ?_ ?_ ?_ ?_ h
  · intro e' h; cases h; rfl
  · intro b e' h; cases h; rfl
  · intro b e' h; cases h; rfl
  · intro b e' h; cases h; rfl
  · intro b e' h; cases h; rfl
  · intro ds es _ ih e' h
    cases h with
    | tup s => rw [ih _ s]
  · intro ds es _ ih e' h
    cases h with
    | lst s => rw [ih _ s]
  · intro j ds es hj _ ih e' h
    generalize hd : D.cell (n + j) = d0 at h
    cases h with
    | cell hj' r' =>
      rename_i j' ds' es'
      have hh : n + j = n + j' := by injection hd
      have hjj : j = j' := by omega
      subst hjj
      rw [hj] at hj'
      cases hj'
      rw [ih _ r']
    | old hk =>
      injection hd with hh
      omega
    | _ => cases hd
  · intro k hk e' h
    generalize hd : D.cell k = d0 at h
    cases h with
    | cell hj' r' =>
      rename_i j' ds' es'
      injection hd with hh
      omega
    | old hk' => rfl
    | _ => cases hd
  · intro es' h; cases h; rfl
  · intro d e ds es _ _ ih1 ih2 es' h
    cases h with
    | cons a b => rw [ih1 _ a, ih2 _ b]
end
/-- v, what was built told as data -/
noncomputable def fzOf (n : Nat) (J : Sto) (v : D) : D := by classical exact if h : ∃ e, Fz n J v e then h.choose else v
theorem fzOf_eq {n : Nat} {J : Sto} {v e : D} (h : Fz n J v e) : fzOf n J v = e := by
  have hx : ∃ e, Fz n J v e := ⟨e, h⟩
  unfold fzOf
  rw [dif_pos hx]
  exact Fz.uniq hx.choose_spec _ h
/-- old cells as they are left, what was built told as data -/
theorem Cl.fzD {S S' J : Sto} {v e : D} (hl : S'.length = S.length) (hS : ∀ (k : Nat) (c : C), S'[k]? = some (some c) → S[k]? = some (some c) ∨ hbC S.length c = true) (h : Fz S.length J v e) : Cl S v (S' ++ J) e S' :=
  fun Γ F μ0 G0 H0 μ G H vv t0 l s t r => by
    obtain ⟨G1, s1, _, t1, hJ⟩ := t.frzAll
    have hz := t0.len
    rw [hl] at hJ
    refine ⟨μ.take S'.length, G1, l.take (by rw [hl, hz]; exact Nat.le_refl _), s1, t1.drop fun k c h => ?_, Fz.vr s1 (fun k a hk e => by rw [hl]; exact take_down k a hk e) hJ h r⟩
    rcases hS k c h with h | h
    · rw [hl]; exact t0.hbs k c h
    · rw [hl]; exact h
noncomputable def selfD (n : Nat) (body : Sx) : Fn := fun ds S => by
  classical exact match runB n body ds S with
    | .ok v S' => if (S.length ≤ S'.length ∧ ∀ (k : Nat) (c : C), k < S.length → S'[k]? = some (some c) → S[k]? = some (some c) ∨ hbC S.length c = true) ∧ ∃ e, Fz S.length (S'.drop S.length) v e then .ok (fzOf S.length (S'.drop S.length) v) (S'.take S.length) else .no
    | _ => .no
theorem selfD_eq {n : Nat} {body : Sx} {ds : List D} {S S' J : Sto} {v e : D} (h : runB n body ds S = .ok v (S' ++ J)) (hl : S'.length = S.length) (hS : ∀ (k : Nat) (c : C), S'[k]? = some (some c) → S[k]? = some (some c) ∨ hbC S.length c = true) (hv : Fz S.length J v e) : selfD n body ds S = .ok e S' := by
  have hd : (S' ++ J).drop S.length = J := by rw [← hl]; simp
  have ht : (S' ++ J).take S.length = S' := by rw [← hl]; simp
  have hc : (S.length ≤ (S' ++ J).length ∧ ∀ (k : Nat) (c : C), k < S.length → (S' ++ J)[k]? = some (some c) → S[k]? = some (some c) ∨ hbC S.length c = true) ∧ ∃ e, Fz S.length ((S' ++ J).drop S.length) v e :=
    ⟨⟨by simp; omega, fun k c hk hq => hS k c (by rw [List.getElem?_append_left (by omega)] at hq; exact hq)⟩, e, by rw [hd]; exact hv⟩
  unfold selfD
  rw [h]
  simp only
  rw [if_pos hc, ht, hd, fzOf_eq hv]
theorem selfD_pure {n : Nat} {body : Sx} {ds : List D} {S J : Sto} {v e : D} (h : runB n body ds S = .ok v (S ++ J)) (hv : Fz S.length J v e) : selfD n body ds S = .ok e S := selfD_eq h rfl (fun k c q => .inl q) hv
theorem selfD_ref {n : Nat} {body : Sx} (ds : List D) (S : Sto) : Ref S (selfD n body ds S) (runB n body ds S) := by
  unfold selfD
  cases hr : runB n body ds S with
  | no => exact Ref.no
  | ex c a S' => exact Ref.no
  | ok v S' =>
    simp only
    split
    · rename_i h
      obtain ⟨⟨h1, h2⟩, e0, h3⟩ := h
      have e : S'.take S.length ++ S'.drop S.length = S' := List.take_append_drop _ _
      refine Ref.ok (v2 := v) (S2 := S') rfl ?_
      have hl : (S'.take S.length).length = S.length := by rw [List.length_take]; omega
      rw [fzOf_eq h3]
      have := Cl.fzD (S := S) (S' := S'.take S.length) (J := S'.drop S.length) (v := v) (e := e0) hl (fun k c q => by
        have hk : k < S.length := by have := (List.getElem?_eq_some_iff.mp q).1; omega
        rw [List.getElem?_take_of_lt hk] at q
        exact h2 k c hk q) h3
      rw [e] at this
      exact this
    · exact Ref.no
end Ev

/-! Ev, exceptions, part 1: several except clauses with a name; what they caught may be kept. -/
namespace Ev
open PySem PySem.Spec PyProof.Rows L2
/-- the end of a suite that holds the exception at a -/
def keepE (D : Ends) (i : Nat) (cls : Value) (d : Option Addr) (a : Addr) : Ends :=
  { nx := fun σ' H' => D.nx (σ'.set i none) (upd H' a (ExV cls d a)), rt := fun _ _ => False, bk := fun _ _ => False, ct := fun _ _ => False }
def wManyAs (K : PySem.W.Frag) (i : Nat) (Wout : WX) (D : Ends) : List (Value × (Addr → Value → Option Addr → TS)) → WX
  | [] => Wout
  | (c, ts) :: r => fun cls d σ H => ∃ b, PySem.W.exmOne K cls c = some b ∧ (b = true → ∀ a, H a = none → ts a cls d (keepE D i cls d a) (σ.set i (some (.ref a))) H) ∧ (b = false → wManyAs K i Wout D r cls d σ H)
inductive HdsAs (X : Cx) (n : Str) : List ExceptHandler → List (Value × (Addr → Value → Option Addr → TS)) → Prop
  | nil : HdsAs X n [] []
  | cons {x : Str} {c : Value} {ts : Addr → Value → Option Addr → TS} {b₀ : Stmt} {suite : List Stmt} {np pos' : Pos} {hds : List ExceptHandler} {l : List (Value × (Addr → Value → Option Addr → TS))} (hc : Names X x c)
      (hsu : ∀ (a : Addr) (oe : Obj) (cls : Value) (d : Option Addr) (pn : List (Addr × Obj)), Zc cls d oe → (∃ vs, oe.data = .fields vs) → PSs (X.suite a ((a, oe) :: pn)) (b₀ :: suite) (ts a cls d)) (r : HdsAs X n hds l) :
      HdsAs X n (.ExceptHandler (some (.Name x np)) (some n) (b₀ :: suite) pos' :: hds) ((c, ts) :: l)
theorem exV_ok {P : Program} {w : World} {H : Hp} {h : Heap} {a : Addr} {cls : Value} {d : Option Addr} {oe : Obj} {vs : Array Value} (e : h.get? a = some oe) (z : Zc cls d oe) (dd : oe.data = .fields vs) : ObjOk P w H h a (ExV cls d a) :=
  ⟨⟨oe, vs, e, z, dd⟩, ⟨oe, e⟩, fun _ _ ⟨o, v, q, r⟩ k => ⟨o, v, k o q, r⟩⟩
section
variable {X : Cx} {pins : List (Addr × Obj)} {σ : L2.St} {H : Hp} {s : Shared}
/-- an object of the run, not known so far, is known from here on -/
theorem inv_track {a : Addr} {cls : Value} {d : Option Addr} {oe : Obj} {vs : Array Value} (I : Inv X pins σ H s) (ha : s.heap.get? a = some oe) (hz : Zc cls d oe) (hd : oe.data = .fields vs) (na : H a = none) (nL : a ≠ X.env.locals) (n0 : X.s_0.heap.get? a = none) (hp : ∀ p ∈ X.pn ++ pins, p.1 ≠ a) :
    Inv X pins σ (upd H a (ExV cls d a)) s := by
  have ne : ∀ b o, X.s_0.heap.get? b = some o → b ≠ a := fun b o e z => by rw [z, n0] at e; cases e
  have nc : ∀ x c, X.env.cells.lookup x = some c → c ≠ a := fun x c e z => by
    obtain ⟨v, o, ho, hv⟩ := I.cell x c e
    rw [z, ha] at ho
    cases ho
    rw [hd] at hv
    cases hv
  refine ⟨I.ok, I.os, I.bare, ⟨I.base.keep, I.base.slot, fun b o e n hx => ?_, I.base.there, fun b xs e => ?_, fun b o u e => ?_, fun b ps e => ?_⟩, I.loc, I.cell, ?_, fun x c e => ?_, fun p h => ?_, fun b u e => ?_, I.len⟩
  · rw [upd_ne (ne b o e)]; exact I.base.free b o e n hx
  · have q := I.base.tups b xs e
    rw [upd_ne (ne_of_none q na)]; exact q
  · have q := I.base.frzs b o u e
    rw [upd_ne (ne_of_none q na)]; exact q
  · obtain ⟨m, q⟩ := I.base.tbls b ps e
    exact ⟨m, by rw [upd_ne (ne_of_none q na)]; exact q⟩
  · rw [upd_ne (fun z => nL z.symm)]; exact I.free
  · rw [upd_ne (nc x c e)]; exact I.freeC x c e
  · obtain ⟨h1, h2, h3, h4, h5⟩ := I.pin p h
    exact ⟨h1, by rw [upd_ne (hp p h)]; exact h2, h3, h4, h5⟩
  · by_cases hb : b = a
    · subst hb
      rw [upd_same] at e
      cases e
      exact exV_ok ha hz hd
    · rw [upd_ne hb] at e
      exact (I.hok b u e).stay (fun c v _ q => q) (fun c q => by rw [upd_ne (ne_of_none q na)]; exact q) fun c xs q => by rw [upd_ne (ne_of_none q na)]; exact q
end
section
variable {X : Cx} {n : Str} {i : Nat} {body : List Stmt} {h₀ : ExceptHandler} {hds : List ExceptHandler} {l : List (Value × (Addr → Value → Option Addr → TS))} {pos : Pos} {tb : WX → TS} {Wout : WX}
theorem ps_try_keep (hs : X.stack = X.env :: X.outer) (hf : X.env.frame = some X.env.locals) (hex : X.ex = []) (hN : X.N.Nodup) (hi : X.N[i]? = some n) (hln : X.env.kindOf n = some .local) (tk : Takes X Wout)
    (hb : ∀ (W : WX) (pn : List (Addr × Obj)) (xe : Value → Shared → Prop), Takes (X.tr pn xe) W → PassesOwn (model X.prog X.w) X.A X.env xe → PSs (X.tr pn xe) body (tb W))
    (hh : HdsAs X n (h₀ :: hds) l) : PS X (.Try body (h₀ :: hds) [] [] pos) (fun D σ H => tb (wManyAs X.K i Wout D l) D σ H) := by
  refine ⟨fun pins s σ H D I h => ?_⟩
  have ok := I.ok
  have hfr : X.A.frames = some (X.env :: X.outer) := by rw [ok.frames, hs]
  have hloc : Loc X.env.scope n := .inl hln
  refine wpAny_Try_except ?_
  refine wpAny_mono ((hb (wManyAs X.K i Wout D l) (X.pn ++ pins) (fun e s₁ => wpAny (model X.prog X.w) X.A (noteFrame e X.env) (fun _ s₂ => wpAny (model X.prog X.w) X.A (setFlight e none) (fun _ s₃ =>
    wpAny (model X.prog X.w) X.A (handleBy e X.env (h₀ :: hds)) (SP X pins D) X.xe s₃) X.xe s₂) X.xe s₁) (fun u s' xx => ?_) PassesOwn.looking).run [] s σ H D (I.toTry _) h) (fun f s1 hsp => ?_) (fun e s1 he => he)
  · -- the catch
    obtain ⟨a, B, sI, pins', σ', H', cls, d, rfl, J', nb, up, sky, na, os, ag, w⟩ := xx
    have J : Inv X pins σ' H' sI := J'.ofTry ok
    have sky' : Sky B (X.env :: X.outer) a (Zc cls d) X.env.locals s'.heap := by rw [← hs]; exact sky
    show wpAny (model X.prog X.w) X.A (noteFrame (.ref a) X.env) _ _ _
    refine Sky.land Zc.steady hfr hf sky' fun h3 fl3 up3 => ?_
    have J3 : Inv X pins σ' H' { s' with heap := h3 } := J.landed nb fl3.1 (up.trans up3) os ag
    obtain ⟨oe3, vs3, he3, hz3, hd3⟩ := fl3.there
    have notFr : ∀ {h : Heap} {o : Obj} {vs : Array Value}, h.FunFrames B (X.env :: X.outer) → h.get? a = some o → o.data = .fields vs → a ∉ frs (X.env :: X.outer) := fun {h o vs} ff e dd hm => by
      obtain ⟨_, o', e', hnf⟩ := ff.mem hm
      rw [e] at e'; cases e'
      exact hnf _ dd
    have nfr := notFr fl3.2.2.1 he3 hd3
    have nL : a ≠ X.env.locals := fun z => nfr (List.mem_filterMap.mpr ⟨X.env, List.mem_cons_self, by rw [hf, z]⟩)
    have nF : a ∉ X.fs := fun hm => by
      obtain ⟨e, he, q⟩ := List.mem_filterMap.mp hm
      exact nfr (List.mem_filterMap.mpr ⟨e, List.mem_cons_of_mem _ he, q⟩)
    -- it was made within the body
    have nI : sI.heap.get? a = none := by
      cases e : sI.heap.get? a with
      | none => rfl
      | some o =>
        have q := nb a o e (by rw [hs]; exact nfr)
        have z : B.get? a = none := fl3.2.1
        rw [z] at q; cases q
    have n0 : X.s_0.heap.get? a = none := by
      cases e : X.s_0.heap.get? a with
      | none => rfl
      | some o =>
        obtain ⟨o', q⟩ := J.base.there a o e (by rw [hex]; exact fun z => nomatch z)
        rw [nI] at q; cases q
    have hpn : ∀ p ∈ X.pn ++ pins, p.1 ≠ a := fun p hp z => by
      have := (J.pin p hp).1
      rw [z, nI] at this; cases this
    have S3 := J3.suite he3 hd3 na nL nF
    have go : ∀ {hds' : List ExceptHandler} {l' : List (Value × (Addr → Value → Option Addr → TS))}, HdsAs X n hds' l' → wManyAs X.K i Wout D l' cls d σ' H' →
        wpAny (model X.prog X.w) X.A (handleBy (.ref a) X.env hds') (SP X pins D) X.xe { s' with heap := h3 } := by
      intro hds' l' hk
      induction hk with
      | nil =>
        intro w
        refine wpAny_handleBy_nil ?_
        obtain ⟨k1, k2, k3, oe, vs, T, oT, ts', he, hz, hd, h1, hr⟩ := id fl3
        unfold PySem.passOn
        refine wpAny_bind (wpAny_field he hd h1 ?_)
        rw [if_neg (show ¬ ((Value.ref T == Value.none) = true) from by simp)]
        have fin : wpAny (model X.prog X.w) X.A (setFlight (.ref a) X.env.frame) (fun _ s4 => wpAny (model X.prog X.w) X.A (throw (.ref a) : Sem Flow) (SP X pins D) X.xe s4) X.xe { s' with heap := h3 } := by
          rw [hf]
          refine HandSPX.setFlight_upZ fl3 fun h4 hh4 up4 => wpAny_throw (tk _ _ ?_)
          exact ⟨a, B, sI, pins, σ', H', cls, d, rfl, J, nb, (up.trans up3).trans up4, .inr (.inr (by rw [hs]; exact hh4)), na, os, ag, w⟩
        first
          | exact wpAny_bind (wpAny_pure (wpAny_bind fin))
          | exact wpAny_bind fin
      | @cons x c ts b₀ suite np pos' hds2 l2 hc hsu r ih =>
        intro w
        obtain ⟨b, hb1, hyes, hno⟩ := w
        refine wpAny_handleBy_cons (codeAny_handlers_test ?_) (by intro q; cases q)
        have LT : PySem.W.Looks (model X.prog X.w) h3 (typeOf (.ref a)) cls := fun A Q E s k q => wpAny_typeOf_ref (k _ _ he3) (by rw [hz3.1]; exact q)
        have LM := PySem.W.exm_one (M := model X.prog X.w) (J3.kIn) LT hb1
        have test : ∀ {Q : Value → Shared → Prop} {E : Value → Shared → Prop}, Q c { s' with heap := h3 } → wpAny (model X.prog X.w) (X.A.mark (some (.ref a))) (eval (.Name x np) X.env) Q E { s' with heap := h3 } := fun {Q E} q => by
          obtain ⟨hg, hdbg, hm | ⟨hm, hv, hnn⟩⟩ := hc
          · exact ld_glob (X := X.suite a ((a, oe3) :: (X.pn ++ pins))) S3 hg hm q hdbg
          · exact ld_blt (X := X.suite a ((a, oe3) :: (X.pn ++ pins))) S3 hg hm hv q hnn hdbg
        refine test (LM.here ?_)
        cases b with
        | true =>
          refine codeAny_handlers_suite_as ?_
          refine HandSPX.lands_againZ fl3 fun h4 fl4 up4 => ?_
          have J4 : Inv X pins σ' H' { s' with heap := h4 } := J.landed nb fl4.1 ((up.trans up3).trans up4) os ag
          obtain ⟨oe4, vs4, he4, hz4, hd4⟩ := fl4.there
          have S4 := J4.suite he4 hd4 na nL nF
          refine store_ok (X := X.suite a ((a, oe4) :: (X.pn ++ pins))) (v := .ref a) S4 hN hi hloc rfl (fun s5 S5 => ?_) (.inr hln)
          refine wpAny_mono ((hsu a oe4 cls d (X.pn ++ pins) hz4 ⟨_, hd4⟩).run [] s5 _ H' _ S5 (hyes rfl a na)) (fun f s6 hsp => ?_) (fun _ _ z => False.elim z)
          cases f with
          | next =>
            obtain ⟨σ6, H6, S6, q6⟩ := hsp
            obtain ⟨g6, n6, l6, _, _⟩ := S6.pin (a, oe4) (List.mem_append_left _ List.mem_cons_self)
            exact gone_ok (inv_track (S6.unsuite ok) g6 hz4 hd4 n6 l6 n0 hpn) hN hi hln fun s7 J7 => ⟨_, _, J7, q6⟩
          | brk =>
            obtain ⟨σ6, H6, S6, q6⟩ := hsp
            exact q6.elim
          | cont =>
            obtain ⟨σ6, H6, S6, q6⟩ := hsp
            exact q6.elim
          | ret u =>
            obtain ⟨v6, σ6, H6, S6, r6, q6⟩ := hsp
            exact q6.elim
        | false =>
          show wpAny _ X.A (handleBy (.ref a) X.env hds2) _ _ _
          exact ih (hno rfl)
    exact go hh w
  · cases f with
    | next =>
      obtain ⟨σ', H', J', q⟩ := hsp
      exact wpAny_execs_nil ⟨σ', H', J'.ofTry ok, q⟩
    | brk =>
      obtain ⟨σ', H', J', q⟩ := hsp
      exact ⟨σ', H', J'.ofTry ok, q⟩
    | cont =>
      obtain ⟨σ', H', J', q⟩ := hsp
      exact ⟨σ', H', J'.ofTry ok, q⟩
    | ret u =>
      obtain ⟨v, σ', H', J', r, q⟩ := hsp
      exact ⟨v, σ', H', J'.ofTry ok, r, q⟩
end
end Ev

/-! Ev, exceptions, part 2: try: .. except C as e: kept = e [; place = e.at]. -/
namespace Ev
open PySem PySem.Spec PyProof.Rows L2
/-- a clause: which classes it takes, where the exception is kept, where its at -/
structure Kl where
  p : Nat → Option Bool
  k : Nat
  pl : Option Nat
def hitK : List Kl → Nat → Option (Option Kl)
  | [], _ => some none
  | x :: r, c => match x.p c with
    | none => none
    | some true => some (some x)
    | some false => hitK r c
def iAt : Option D → Option (Option Int)
  | none => some none
  | some (.int i) => some (some i)
  | _ => none
/-- behind the suite -/
def keptS (e : Nat) (x : Kl) (c : Nat) (i : Option Int) (σ : Env) (S : Sto) : SO := match x.pl, i with
  | none, _ => .nx (((σ.set e none).set x.k (some (.cell S.length))).set e none) (S ++ [some (.exn c i)])
  | some p, some j => .nx ((((σ.set e none).set x.k (some (.cell S.length))).set p (some (.int j))).set e none) (S ++ [some (.exn c i)])
  | some _, none => .no
def sTryK (e : Nat) (ks : List Kl) (body : Sx) : Sx := fun σ S => match body σ S with
  | .ex c a σ' S' => (match hitK ks c with
    | none => .no
    | some none => .ex c a σ' S'
    | some (some x) => (match iAt a with
      | none => .no
      | some i => if e < σ'.length then keptS e x c i σ' S' else .no))
  | r => r
section
variable {X : Cx} {Γ : Gm} {n : Str} {e : Nat}
/-- what a clause's suite does -/
def tKeep (e : Nat) (x : Kl) (a : Addr) (cls : Value) (d : Option Addr) (C : Addr) : TS := match x.pl with
  | none => tAsg (tVar e) (gName x.k)
  | some p => tSeq (tAsg (tVar e) (gName x.k)) (tAsg (tXf a cls d C "at" (tVar e)) (gName p))
inductive HdsK (X : Cx) (Γ : Gm) (n : Str) (e : Nat) : List ExceptHandler → List Kl → List (Value × (Addr → Value → Option Addr → TS)) → Prop
  | nil : HdsK X Γ n e [] [] []
  | kept {x y : Str} {C : Addr} {p : Nat → Option Bool} {k : Nat} {np p1 p2 p3 pos' : Pos} {hds : List ExceptHandler} {ks : List Kl} {l : List (Value × (Addr → Value → Option Addr → TS))} (hc : Names X x (.ref C))
      (he : ∀ c b, p c = some b → PySem.W.exmOne X.K (.ref (Γ.ca c)) (.ref C) = some b) (hN : X.N.Nodup) (hi : X.N[k]? = some y) (hy : X.env.scope.names.lookup y = some .local) (r : HdsK X Γ n e hds ks l)
      (hsw : swapsWith (.Name n p2) (some (.Name y p1)) p3.line X.env = pure false := by rfl) :
      HdsK X Γ n e (.ExceptHandler (some (.Name x np)) (some n) [.Assign [.Name y p1] (.Name n p2) p3] pos' :: hds) (⟨p, k, none⟩ :: ks) ((.ref C, fun a cls d => tKeep e ⟨p, k, none⟩ a cls d 0) :: l)
  | place {x y z : Str} {C : Addr} {c0 k pl : Nat} {p : Nat → Option Bool} {np p1 p2 p3 q1 q2 q3 q4 pos' : Pos} {hds : List ExceptHandler} {ks : List Kl} {l : List (Value × (Addr → Value → Option Addr → TS))} (hc : Names X x (.ref C))
      (he : ∀ c b, p c = some b → PySem.W.exmOne X.K (.ref (Γ.ca c)) (.ref C) = some b) (h0 : ∀ c, p c = some true → c = c0) (hX : XfC X.K (Γ.ca c0)) (hno : PySem.W.findIn X.K (.ref (Γ.ca c0)) "at" = some none)
      (hN : X.N.Nodup) (hi : X.N[k]? = some y) (hy : X.env.scope.names.lookup y = some .local) (hj : X.N[pl]? = some z) (hz : X.env.scope.names.lookup z = some .local) (r : HdsK X Γ n e hds ks l)
      (hsw : swapsWith (.Name n p2) (some (.Name y p1)) p3.line X.env = pure false := by rfl) (hsw2 : swapsWith (.Attribute (.Name n q2) "at" q3) (some (.Name z q1)) q4.line X.env = pure false := by rfl) (hb : attributeBase (.Name n q2) "at" X.env (eval (.Name n q2) X.env) = eval (.Name n q2) X.env := by rfl) :
      HdsK X Γ n e (.ExceptHandler (some (.Name x np)) (some n) [.Assign [.Name y p1] (.Name n p2) p3, .Assign [.Name z q1] (.Attribute (.Name n q2) "at" q3) q4] pos' :: hds) (⟨p, k, some pl⟩ :: ks) ((.ref C, fun a cls d => tKeep e ⟨p, k, some pl⟩ a cls d (Γ.ca c0)) :: l)
theorem HdsK.as {hds : List ExceptHandler} {ks : List Kl} {l : List (Value × (Addr → Value → Option Addr → TS))} (h : HdsK X Γ n e hds ks l) (hn : X.N[e]? = some n) (hln : X.env.scope.names.lookup n = some .local) (hd : (n == ("__debug__" : Str)) = false) (hcd : (n == ("__classdict__" : Str)) = false) : HdsAs X n hds l := by
  induction h with
  | nil => exact .nil
  | kept hc he hN hi hy r hsw ih =>
    refine .cons hc (fun a oe cls d pn hz hf => ?_) ih
    exact pss_one (ps_set (X := X.suite a ((a, oe) :: pn)) hN hi (.inl hy) (pe_var hn (.inl hln) hd hcd) hsw (.inr hy))
  | @place x y z C c0 k pl p np p1 p2 p3 q1 q2 q3 q4 pos' hds ks l hc he h0 hX hno hN hi hy hj hz r hsw hsw2 hb ih =>
    refine .cons hc (fun a oe cls d pn hzc hf => ?_) ih
    have s1 := ps_set (X := X.suite a ((a, oe) :: pn)) hN hi (.inl hy) (pe_var hn (.inl hln) hd hcd) hsw (.inr hy)
    have s2 := ps_set (X := X.suite a ((a, oe) :: pn)) hN hj (.inl hz) (pe_xf (X := X) hX hno hzc hf (pe_var (X := X.suite a ((a, oe) :: pn)) hn (.inl hln) hd hcd) hb) hsw2 (.inr hz)
    exact pss_cons (t := tAsg (tVar e) (gName k)) (u := tAsg (tXf a cls d (Γ.ca c0) "at" (tVar e)) (gName pl)) s1 (pss_one s2)
theorem iAt_some {a : Option D} {i : Option Int} (h : iAt a = some i) : a = i.map D.int := by
  cases a with
  | none => cases h; rfl
  | some d => cases d <;> first | (cases h; rfl) | cases h
/-- an exception that is caught becomes a cell -/
theorem Sit.keepX {F : Hp} {μ : List Addr} {G H : Hp} {S : Sto} (t : Sit Γ F μ G H S) {c : Nat} {i : Option Int} {a : Option D} {d : Option Addr} {p : Addr} (ha : iAt a = some i) (x : XR Γ F μ G H a d) (np : H p = none) :
    ∃ G1, Same G G1 ∧ Sit Γ F (μ ++ [p]) G1 (upd H p (ExV (.ref (Γ.ca c)) d p)) (S ++ [some (.exn c i)]) ∧ (∀ j dd, i = some j → d = some dd → H dd = some (.xd [(("at" : Str), V.int j)])) ∧ (i = none → d = none) ∧ (∀ j, i = some j → ∃ dd, d = some dd) := by
  have e := iAt_some ha
  subst e
  cases i with
  | none =>
    cases d with
    | some dd => exact x.elim
    | none =>
      exact ⟨G, Same.refl _, t.allocC (.exn c none) np (same_upd np) upd_same ⟨none, upd_same, trivial⟩, fun j dd e => by (cases e), fun _ => rfl, fun j e => by cases e⟩
  | some j =>
    cases d with
    | none => exact x.elim
    | some dd =>
      obtain ⟨va, x1, x2, x3, x4, x5⟩ := x
      cases x2
      have t1 := t.adoptG (p := dd) x1 x3 x4 x5
      have sg : Same G (upd G dd (.xd [(("at" : Str), V.int j)])) := same_upd x4
      refine ⟨upd G dd (.xd [(("at" : Str), V.int j)]), sg, ?_, fun j' dd' e1 e2 => ?_, fun e => by (cases e), fun _ _ => ⟨_, rfl⟩⟩
      · have ng : (upd G dd (.xd [(("at" : Str), V.int j)])) dd = some (.xd [(("at" : Str), V.int j)]) := upd_same
        exact t1.allocC (.exn c (some j)) np (same_upd np) upd_same ⟨some dd, upd_same, ng⟩
      · cases e1; cases e2; exact x1
theorem vs_tryK {body : List Stmt} {h₀ : ExceptHandler} {hds : List ExceptHandler} {ks : List Kl} {l : List (Value × (Addr → Value → Option Addr → TS))} {pos : Pos} {f : Sx} {W : WX} (hs : X.stack = X.env :: X.outer) (hf : X.env.frame = some X.env.locals) (hex : X.ex = []) (hN : X.N.Nodup) (hi : X.N[e]? = some n) (hln : X.env.kindOf n = some .local) (hln2 : X.env.scope.names.lookup n = some .local) (tk : Takes X W)
    (hb : ∀ (W : WX) (pn : List (Addr × Obj)) (xe : Value → Shared → Prop), Takes (X.tr pn xe) W → PassesOwn (model X.prog X.w) X.A X.env xe → VSs (X.tr pn xe) Γ W body f)
    (hh : HdsK X Γ n e (h₀ :: hds) ks l) (hd : (n == ("__debug__" : Str)) = false := by decide) (hcd : (n == ("__classdict__" : Str)) = false := by decide) : VS X Γ W (.Try body (h₀ :: hds) [] [] pos) (sTryK e ks f) := by
  refine PS.imp (ps_try_keep (tb := fun W => tsOf Γ W f) hs hf hex hN hi hln tk hb (hh.as hi hln2 hd hcd)) fun D σv H ⟨F, μ, G, σ, S, hσ, hsit, q⟩ => ?_
  refine ⟨F, μ, G, σ, S, hσ, hsit, ?_⟩
  unfold sTryK at q
  cases hr : f σ S with
  | no => rw [hr] at q; exact q
  | nx σ' S' => rw [hr] at q; exact q
  | rt v S' => rw [hr] at q; exact q
  | bk σ' S' => rw [hr] at q; exact q
  | ct σ' S' => rw [hr] at q; exact q
  | ex c a σ' S' =>
    rw [hr] at q
    simp only at q
    intro μ' G' H' l' s' t' σv' d hσ' x
    -- clause by clause
    have go : ∀ {hds' : List ExceptHandler} {ks' : List Kl} {l' : List (Value × (Addr → Value → Option Addr → TS))}, HdsK X Γ n e hds' ks' l' →
        Wps Γ F W μ G (match hitK ks' c with
          | none => .no
          | some none => .ex c a σ' S'
          | some (some x) => (match iAt a with
            | none => .no
            | some i => if e < σ'.length then keptS e x c i σ' S' else .no)) D → wManyAs X.K e W D l' (.ref (Γ.ca c)) d σv' H' := by
      intro hds' ks' l2 hk
      induction hk with
      | nil =>
        intro q
        exact q μ' G' H' l' s' t' σv' d hσ' x
      | @kept x1 y C p k np p1 p2 p3 pos' hds2 ks2 l3 hc he hNd hik hy r hsw ih =>
        intro q
        simp only [hitK] at q
        cases hp : p c with
        | none => rw [hp] at q; exact q.elim
        | some b =>
          rw [hp] at q
          refine ⟨b, he c b hp, fun hbt pa hpa => ?_, fun hbf => ?_⟩
          · subst hbt
            simp only at q
            cases hia : iAt a with
            | none => rw [hia] at q; exact q.elim
            | some i =>
              rw [hia] at q
              simp only at q
              split at q
              · rename_i hlt
                obtain ⟨G1, sg, t1, _, _, _⟩ := t'.keepX (c := c) hia x hpa
                have hl := hσ'.length
                have hμl := t'.len
                refine ⟨.ref pa, List.getElem?_set_self (by omega), ?_⟩
                have hcell : VR Γ.K (μ' ++ [pa]) G1 (.cell S'.length) (.ref pa) := .cell (by rw [← hμl]; simp)
                have h1 : SR Γ.K (μ' ++ [pa]) G1 (((σ'.set e none).set k (some (.cell S'.length))).set e none) (((σv'.set e (some (.ref pa))).set k (some (.ref pa))).set e none) :=
                  (((hσ'.mono (Le.push _ _) sg).unset (x := some (.ref pa)) e).set hcell k).unset e
                exact q (μ' ++ [pa]) G1 _ (l'.trans (Le.push _ _)) (s'.trans sg) t1 _ h1
              · exact q.elim
          · subst hbf
            exact ih q
      | @place x1 y z C c0 k pl p np p1 p2 p3 q1 q2 q3 q4 pos' hds2 ks2 l3 hc he h0 hX hno hNd hik hy hjk hz r hsw hsw2 hbb ih =>
        intro q
        simp only [hitK] at q
        cases hp : p c with
        | none => rw [hp] at q; exact q.elim
        | some b =>
          rw [hp] at q
          refine ⟨b, he c b hp, fun hbt pa hpa => ?_, fun hbf => ?_⟩
          · subst hbt
            have hcc := h0 c hp
            subst hcc
            simp only at q
            cases hia : iAt a with
            | none => rw [hia] at q; exact q.elim
            | some i =>
              rw [hia] at q
              simp only at q
              split at q
              · rename_i hlt
                cases i with
                | none => exact q.elim
                | some j =>
                  obtain ⟨G1, sg, t1, hxd, _, hdd⟩ := t'.keepX (c := c) hia x hpa
                  obtain ⟨dd, hde⟩ := hdd j rfl
                  subst hde
                  have hl := hσ'.length
                  have hμl := t'.len
                  have hcell : VR Γ.K (μ' ++ [pa]) G1 (.cell S'.length) (.ref pa) := .cell (by rw [← hμl]; simp)
                  have hek : (σv'.set e (some (V.ref pa)))[e]? = some (some (.ref pa)) := List.getElem?_set_self (by omega)
                  refine ⟨.ref pa, hek, ?_⟩
                  have hek2 : ((σv'.set e (some (V.ref pa))).set k (some (V.ref pa)))[e]? = some (some (.ref pa)) := by
                    rw [List.getElem?_set]
                    split
                    · rename_i hke
                      subst hke
                      rw [if_pos (by simp; omega)]
                    · exact hek
                  refine ⟨.ref pa, hek2, rfl, rfl, dd, _, .int j, rfl, hxd j dd rfl rfl, by simp [List.lookup], ?_⟩
                  have h1 : SR Γ.K (μ' ++ [pa]) G1 ((((σ'.set e none).set k (some (.cell S'.length))).set pl (some (.int j))).set e none) ((((σv'.set e (some (.ref pa))).set k (some (.ref pa))).set pl (some (.int j))).set e none) :=
                    ((((hσ'.mono (Le.push _ _) sg).unset (x := some (.ref pa)) e).set hcell k).set (.int j) pl).unset e
                  exact q (μ' ++ [pa]) G1 _ (l'.trans (Le.push _ _)) (s'.trans sg) t1 _ h1
              · exact q.elim
          · subst hbf
            exact ih q
    exact go hh q
end
end Ev

/-! Ev, exceptions, part 3: raise; isinstance of one that is kept; its field at. -/
namespace Ev
open PySem PySem.Spec PyProof.Rows L2
/-! ### raise -/
def sRaise0 (c : Nat) : Sx := fun σ S => .ex c none σ S
def sRaiseAt (c : Nat) (f : Ex) : Sx := fun σ S => SO.of (f σ S) σ fun v S1 => match v with
  | .int i => .ex c (some (.int i)) σ S1
  | _ => .no
section
variable {σ : Env} {S : Sto}
@[simp] theorem sRaise0_eq (c : Nat) : sRaise0 c σ S = .ex c none σ S := rfl
@[simp] theorem sRaiseAt_eq (c : Nat) (f : Ex) : sRaiseAt c f σ S = SO.of (f σ S) σ fun v S1 => match v with
  | .int i => .ex c (some (.int i)) σ S1
  | _ => .no := rfl
end
/-- what __init__(self, at): self.at = at does to a new exception of the class at C -/
def spAt (C : Addr) : Sp := fun vs H Q _ => ∃ (a : Addr) (i : Int), vs = [.ref a, .int i] ∧ H a = some (exo a C none) ∧ ∀ dx, H dx = none → dx ≠ a → Q .non (upd (upd H dx (exd dx [(("at" : Str), V.int i)])) a (exo a C (some dx)))
section
variable {X : Cx} {Γ : Gm} {W : WX} {c : Nat} {x : Str} {e : Expr} {f : Ex} {p pos pos' : Pos}
theorem vs_raise0 {m : Str} {j : Nat} {p2 : Pos} {bmB : List Value} {B newId initId : String} (hc : X.calm = true) (tk : Takes X W) (F : ExcBaseFacts B newId initId bmB) (q : PySem.W.excIn X.K (Γ.ca c) bmB newId = true) (gC : X.mg x = some (.ref (Γ.ca c))) (kC : PySem.W.keepIn X.K (.ref (Γ.ca c)) = true)
    (h1 : PySem.W.subIn X.K (.ref (Γ.ca c)) (.type "BaseException") = some true) (h2 : PySem.W.typeIn X.K (.ref (Γ.ca c)) = some (.type "type")) (hg : Gl X x := by rfl) (hdb : (x == ("__debug__" : Str)) = false := by decide) :
    VS X Γ W (.Raise (some (.Call (.Name x p) [.Constant (.str m) j p2] [] pos')) none pos) (sRaise0 c) := by
  refine PS.imp (ps_raise hc tk (pmk_own F q gC kC (raises_own h1 h2) hg hdb)) fun D σv H ⟨F, μ, G, σ, S, hσ, hs, q⟩ => ?_
  exact q μ G H (Le.refl _) (Same.refl _) hs σv none hσ trivial
theorem Sit.other {F : Hp} {μ : List Addr} {G H : Hp} {S : Sto} (t : Sit Γ F μ G H S) {p : Addr} (o : HO) (np : H p = none) : Sit Γ F μ G (upd H p o) S := by
  obtain ⟨nm, ng⟩ := t.fresh np
  refine ⟨t.sub.trans (same_upd np), t.frm.trans (same_upd np), t.fmu, t.fg, t.len, t.nd, fun a ha => ?_, t.off, fun k c h => ?_⟩
  · rw [upd_ne (fun z => nm (by rw [← z]; exact ha))]; exact t.dom a ha
  · obtain ⟨a, h1, h2⟩ := t.at_ k c h
    refine ⟨a, h1, h2.mono (Le.refl _) (Same.refl _) fun o' e => ?_⟩
    rw [upd_ne (ne_of_none e np)]; exact e
theorem vs_raiseAt {fI : Addr} {k : Nat} {fd : FuncData} {ps : List Str} (hc : X.calm = true) (tk : Takes X W) (T : OexC X.K (Γ.ca c)) (iC : PySem.W.findIn X.K (.ref (Γ.ca c)) "__init__" = some (some (.ref fI))) (tI : PySem.W.typeIn X.K (.ref fI) = some (.type "function"))
    (F1 : FnOk X.prog X.w X.K X.mg X.base (L2.CX X.prog X.w) k fI fd ps (spAt (Γ.ca c))) (hr : Room (k + 1) X.A) (hb : Binds X.K fd ps []) (hm : X.mg x = some (.ref (Γ.ca c))) (he : VE X Γ W e f) (hg : Gl X x := by rfl)
    (hdb : (x == ("__debug__" : Str)) = false := by decide) (hs : starEach (e :: []) X.env = (false, eval e X.env) :: starEach [] X.env := by rfl) (hpl : (backTo pos' (starEach [] X.env)).any (·.1) = false := by rfl) :
    VS X Γ W (.Raise (some (.Call (.Name x p) [e] [] pos')) none pos) (sRaiseAt c f) := by
  have hpass : Passes (L2.CX X.prog X.w) X (fun _ _ _ => False) := fun _ _ _ _ e s' _ cx => by
    obtain ⟨_, _, _, _, _, _, _, _, _, _, _, _, z⟩ := cx
    exact z.elim
  refine PS.imp (ps_raise hc tk (pmk_oex (dvs := []) (ds := []) T iC tI F1 hr hb .nil hpass hg hm (pa_cons he pa_nil hs) hdb hs hpl)) fun D σv H ⟨F, μ, G, σ, S, hσ, hsit, q⟩ => ?_
  show tCons (tOf Γ W f) tNil σv H _
  refine tOf.at hσ hsit (Wps.of (H := H) (S := S) q hσ) fun v μ1 G1 H1 S1 vv l s t r q => ?_
  cases r with
  | int i =>
    refine ⟨by simp, fun a na => ?_⟩
    refine ⟨a, i, rfl, upd_same, fun dx ndx hda => ?_⟩
    have ndx1 : H1 dx = none := by rw [upd_ne hda] at ndx; exact ndx
    refine ⟨rfl, dx, _, upd_same, by rw [upd_ne hda]; exact upd_same, ndx1, ?_⟩
    have eH : upd (del (upd (upd (upd H1 a (exo a (Γ.ca c) none)) dx (exd dx [(("at" : Str), V.int i)])) a (exo a (Γ.ca c) (some dx))) a) dx (.xd [(("at" : Str), V.int i)]) = upd H1 dx (.xd [(("at" : Str), V.int i)]) := by
      funext b
      by_cases h1 : b = dx
      · subst h1; rw [upd_same, upd_same]
      · rw [upd_ne h1, upd_ne h1]
        by_cases h2 : b = a
        · subst h2; rw [del_same, na]
        · rw [del_ne h2, upd_ne h2, upd_ne h1, upd_ne h2]
    rw [eH]
    obtain ⟨nm, ng⟩ := t.fresh ndx1
    exact q μ1 G1 _ (Le.refl _) (Same.refl _) (t.other _ ndx1) σv (some dx) (hσ.mono l s) ⟨.int i, upd_same, .int i, nm, ng, t.freshF ndx1⟩
  | _ => exact q.elim
/-- __init__ of such a class -/
theorem init_ok {P : Program} {w : World} {K : PySem.W.Frag} {mg : Str → Option Value} {base : Heap} {nm qual : Str} {st : Stmt} {fI C : Addr} {fd : FuncData} {p1 p2 p3 p4 : Pos} (Fu : FunD K nm qual (defArgs st) (defBody st) (defScope st) [] [] fI fd) (Sc : FnScope ["self", "at"] ["self", "at"] (defScope st)) (T : OexC K C) (hno : PySem.W.findIn K (.ref C) "at" = some none)
    (hbd : defBody st = [.Assign [.Attribute (.Name "self" p1) "at" p2] (.Name "at" p3) p4])
    (v0 : (defScope st).names.lookup ("self" : Str) = some .local) (v1 : (defScope st).names.lookup ("at" : Str) = some .local)
    (hsw : ∀ env : PySem.Env, swapsWith (.Name "at" p3) (some (.Attribute (.Name "self" p1) "at" p2)) p4.line env = pure false) : FnOk P w K mg base (L2.CX P w) 1 fI fd ["self", "at"] (spAt C) := by
  refine Fu.ok (CX := L2.CX P w) Sc (fun vs H Q E ⟨a, i, e, _⟩ => by rw [e]; rfl) fun cdv A outer s H vs Q E hr ⟨a, i, ev, ha, hq⟩ => ?_
  rw [hbd]
  refine ⟨_, pss_one (ps_ost (pe_var (i := 0) rfl (.inl v0)) (pe_var (i := 1) rfl (.inl v1)) (hsw _)), ?_⟩
  subst ev
  exact ⟨.int i, rfl, .ref a, rfl, a, C, rfl, T, hno, .inl ⟨ha, fun dx h1 h2 => hq dx h1 h2⟩⟩
/-! ### isinstance -/
/-- what an exception's class must say -/
structure XcF (K : PySem.W.Frag) (C : Addr) : Prop where
  hcl : (PySem.W.clsIn K C).isSome = true
  hga : PySem.W.findIn K (.ref C) "__getattribute__" = some (some (.builtin "BaseException.__getattribute__"))
  hgt : PySem.W.findIn K (.ref C) "__getattr__" = some none
  hsub : PySem.W.subIn K (.ref C) (.type "BaseException") = some true
  ha : PySem.W.findIn K (.ref C) "__class__" = some (some (.builtin "object.__class__"))
  hn : PySem.W.specialIn K (.builtin "object.__class__") "__get__" = some (some (.builtin "getset_descriptor.__get__"))
  htk : PySem.W.takesIn K (.builtin "object.__class__") = some true
  hm : PySem.W.mroIn K C (.type "object") = some true
  hd : PySem.W.hasDictIn K C = true
def xcB (K : PySem.W.Frag) (C : Addr) : Bool := (PySem.W.clsIn K C).isSome && (decide (PySem.W.findIn K (.ref C) "__getattribute__" = some (some (.builtin "BaseException.__getattribute__"))) && (decide (PySem.W.findIn K (.ref C) "__getattr__" = some none) && (decide (PySem.W.subIn K (.ref C) (.type "BaseException") = some true) &&
  (decide (PySem.W.findIn K (.ref C) "__class__" = some (some (.builtin "object.__class__"))) && (decide (PySem.W.specialIn K (.builtin "object.__class__") "__get__" = some (some (.builtin "getset_descriptor.__get__"))) && (decide (PySem.W.takesIn K (.builtin "object.__class__") = some true) && (decide (PySem.W.mroIn K C (.type "object") = some true) && PySem.W.hasDictIn K C)))))))
theorem xcB_ok {K : PySem.W.Frag} {C : Addr} (h : xcB K C = true) : XcF K C := by
  unfold xcB at h
  simp only [Bool.and_eq_true, decide_eq_true_eq] at h
  obtain ⟨h1, h2, h3, h4, h5, h6, h7, h8, h9⟩ := h
  exact ⟨h1, h2, h3, h4, h5, h6, h7, h8, h9⟩
theorem XcF.xf {K : PySem.W.Frag} {C : Addr} (h : XcF K C) : XfC K C := ⟨h.hga, h.hgt, h.hsub, h.hd⟩
/-- isinstance(x, T): x an exception that is kept -/
def rIsX (K : PySem.W.Frag) : List V → Hp → VK → Prop := fun xs H Q => ∃ (a C : Addr) (d : Option Addr) (cV : V) (cv : Value) (b : Bool), xs = [.ref a, cV] ∧ ClsV cV cv ∧ H a = some (ExV (.ref C) d a) ∧ (∀ dd, d = some dd → ∃ fs, H dd = some (.xd fs)) ∧ XcF K C ∧ PySem.W.kitOne K (.ref C) cv = some b ∧ Q (.bl b) H
theorem exV_at {H : Hp} {h : Heap} {a C : Addr} {d : Option Addr} {P : Program} {w : World} (hok : HOk P w H h) (he : H a = some (ExV (.ref C) d a)) : ∃ (oe : Obj) (vs : Array Value), h.get? a = some oe ∧ Zc (.ref C) d oe ∧ oe.data = .fields vs := by
  have x : ObjOk P w H h a (.ext fun h => ∃ (oe : Obj) (vs : Array Value), h.get? a = some oe ∧ Zc (.ref C) d oe ∧ oe.data = .fields vs) := hok a _ he
  exact x.1
theorem exV_inst {H : Hp} {h : Heap} {a C : Addr} {d : Option Addr} {P : Program} {w : World} (hok : HOk P w H h) (he : H a = some (ExV (.ref C) d a)) (hd : ∀ dd, d = some dd → ∃ fs, H dd = some (.xd fs)) : ∃ (oe : Obj) (od : Option Obj), PySem.W.InstAt h a oe C od := by
  obtain ⟨oe, vs, e1, e2, e3⟩ := exV_at hok he
  have hnc : PySem.W.notCls oe = true := by unfold PySem.W.notCls; rw [e3] <;> rfl
  cases d with
  | none => exact ⟨oe, none, e1, e2.1, hnc, by rw [e2.2]; trivial⟩
  | some dd =>
    obtain ⟨fs, hx⟩ := hd dd rfl
    have x : ObjOk P w H h dd (.xd fs) := hok dd _ hx
    obtain ⟨mA, ⟨o, es, ep, ho, hr⟩, r⟩ := x
    exact ⟨oe, some o, e1, e2.1, hnc, by rw [e2.2]; exact ho⟩
theorem call_isX : CallR X (.builtin "isinstance") (rIsX X.K) := by
  intro pins s σ H xs us Q I r h
  obtain ⟨a, C, d, cV, cv, b, rfl, k, he, hd, xc, e, q⟩ := h
  obtain ⟨u1, u2, rfl, r1, r2⟩ := vals2 r
  cases (show u1 = Value.ref a from r1)
  have e2 := k.eq r2
  subst e2
  obtain ⟨oe, od, J⟩ := exV_inst I.hok he hd
  exact PySem.W.kia_one (PySem.W.kitx_exc xc.hcl xc.hga xc.hgt xc.hsub xc.ha xc.hn xc.htk xc.hm) I.kIn J e (fun z => nomatch z) fun tk => ⟨.bl b, H, I.tok tk, rfl, q⟩
def gIsX (tb : Nat → Option Bool) (x : D) (S : Sto) : R D := match x with
  | .non => .ok (.bl false) S
  | .cell k => (match S[k]? with
    | some (some (.exn c _)) => (match tb c with
      | some b => .ok (.bl b) S
      | none => .no)
    | _ => .no)
  | _ => .no
@[simp] theorem gIsX_non (tb : Nat → Option Bool) (S : Sto) : gIsX tb .non S = .ok (.bl false) S := rfl
@[simp] theorem gIsX_cell (tb : Nat → Option Bool) (k : Nat) (S : Sto) : gIsX tb (.cell k) S = match S[k]? with
    | some (some (.exn c _)) => (match tb c with
      | some b => .ok (.bl b) S
      | none => .no)
    | _ => .no := rfl
theorem AtR.dict {G H : Hp} (sub : Same G H) {i : Option Int} {d : Option Addr} (h : AtR G i d) : ∀ dd, d = some dd → ∃ fs, H dd = some (.xd fs) := fun dd e => by
  subst e
  cases i with
  | none => exact h.elim
  | some j => exact ⟨_, sub _ _ h⟩
abbrev rIsA (K : PySem.W.Frag) : List V → Hp → VK → Prop := fun xs H Q => rIsi K xs H Q ∨ rIsX K xs H Q
theorem call_isA : CallR X (.builtin "isinstance") (rIsA X.K) := by
  intro pins s σ H xs us Q I r h
  rcases h with h | h
  · exact call_isi pins s σ H xs us Q I r h
  · exact call_isX pins s σ H xs us Q I r h
/-- isinstance(x, T), T named by cn: its value cV, cv -/
theorem ve_isX_ {cn : Str} {cV : V} {cv : Value} {tb : Nat → Option Bool} {p2 : Pos} (hc : VE X Γ W e f) (hn : PE X (.Name cn p2) (tC cV)) (hk : ClsV cV cv) (h0 : PySem.W.kitOne X.K (.type "NoneType") cv = some false) (ht : ∀ c b, tb c = some b → XcF X.K (Γ.ca c) ∧ PySem.W.kitOne X.K (.ref (Γ.ca c)) cv = some b)
    (hmi : X.mg "isinstance" = none) (hgi : Gl X "isinstance" := by rfl) (hs : starEach (e :: [.Name cn p2]) X.env = (false, eval e X.env) :: starEach [.Name cn p2] X.env := by rfl) (hs2 : starEach (.Name cn p2 :: []) X.env = (false, eval (.Name cn p2) X.env) :: starEach [] X.env := by rfl) (hpl : (backTo pos (starEach [.Name cn p2] X.env)).any (·.1) = false := by rfl) :
    VE X Γ W (.Call (.Name "isinstance" p) [e, .Name cn p2] [] pos) (op1 (gIsX tb) f) := by
  refine PE.imp (pe_callB (id := "isinstance") call_isA hgi hmi (by decide +kernel) (pa_cons hc (pa_cons hn pa_nil hs2) hs) (by decide) (by decide) hs hpl) fun σv H Q ⟨F, μ, G, σ, S, hσ, hsit, h⟩ => ?_
  refine tOf.at hσ hsit (Wp.bind h) fun v μ1 G1 H1 S1 vv l s t r q => ?_
  unfold gIsX at q
  split at q
  · cases r
    exact .inl ⟨.non, cV, .type "NoneType", cv, false, rfl, hk, .base .non, h0, q.ok t _ (.bl _)⟩
  · split at q
    · rename_i k c i hk2
      split at q
      · rename_i b htb
        obtain ⟨a, ha, d, h1, h2⟩ := t.at_ _ _ hk2
        cases r with
        | cell e =>
          rw [ha] at e; cases e
          obtain ⟨xc, ko⟩ := ht c b htb
          exact .inr ⟨a, Γ.ca c, d, cV, cv, b, rfl, hk, h1, h2.dict t.sub, xc, ko, q.ok t _ (.bl _)⟩
      · exact q.elim
    · exact q.elim
  · exact q.elim
end
end Ev

/-! Ev: the law's start. -/
namespace Ev
open PySem PySem.Spec PyProof.Rows L2
theorem law_start {Γ : Gm} {H : Hp} {a : Addr} {ns : List Int} {fn : Fn} (hS : SqL Γ.K H a (ns.map V.int)) (hf : ∀ S : Sto, fn [.scr ns] S = .ok (.bl true) S) : spOf Γ 1 fn [.ref a] H (fun v _ => v = .bl true) fun _ _ _ => False := by
  refine ⟨fun _ => none, [], H, [.scr ns], [], rfl, .cons (.scr hS) .nil, ⟨Same.refl _, (fun _ _ e => by cases e), fun _ _ => rfl, fun _ _ _ => rfl, rfl, .nil, fun a ha => (by cases ha), (fun k a c h => by simp at h), (fun k c h => by simp at h)⟩, ?_⟩
  rw [hf]
  intro μ' G' H' l s t vv r
  cases r
  rfl
end Ev

/-! Ev, exceptions, part 4: what the row says of the exceptions' classes. -/
namespace Ev
open PySem PySem.Spec PyProof.Rows L2
inductive AllT (P : Nat → Bool → Prop) : List (Nat × Bool) → Prop
  | nil : AllT P []
  | cons {c : Nat} {b : Bool} {r : List (Nat × Bool)} : P c b → AllT P r → AllT P ((c, b) :: r)
theorem AllT.look {P : Nat → Bool → Prop} {t : List (Nat × Bool)} (h : AllT P t) : ∀ (c : Nat) (b : Bool), t.lookup c = some b → P c b := by
  induction h with
  | nil => intro c b h; cases h
  | @cons c' b' r hp _ ih =>
    intro c b h
    rw [List.lookup_cons] at h
    cases hb : (c == c') with
    | true =>
      rw [hb] at h
      cases h
      have : c = c' := by simpa using hb
      rw [this]; exact hp
    | false => rw [hb] at h; exact ih c b h
def oexB (K : PySem.W.Frag) (C : Addr) : Bool := (match K.lookup C with
  | some ⟨.type "type", _, .cls cd, sl⟩ => (match cd.mro, sl.toList with
    | .ref C' :: bm, [_, _, _, _, some (.builtin n), _] => C' == C && (n == "ValueError.__new__" && (!cd.hasDel && (cd.hasDict && PySem.HandSPX.refsVE bm)))
    | _, _ => false)
  | _ => false) && (decide (PySem.W.findIn K (.ref C) "__setattr__" = some (some (.builtin "object.__setattr__"))) && (decide (PySem.W.subIn K (.ref C) (.type "BaseException") = some true) && (decide (PySem.W.typeIn K (.ref C) = some (.type "type")) && PySem.W.keepIn K (.ref C))))
theorem oexB_ok {K : PySem.W.Frag} {C : Addr} (h : oexB K C = true) : OexC K C := by
  unfold oexB at h
  rw [Bool.and_eq_true] at h
  obtain ⟨h0, h⟩ := h
  simp only [Bool.and_eq_true, decide_eq_true_eq] at h
  obtain ⟨h1, h2, h3, h4⟩ := h
  refine ⟨?_, h1, h2, h3, h4⟩
  split at h0
  · rename_i dd cd sl ho
    split at h0
    · rename_i C' bm k0 k1 k2 k3 n k5 hm hs
      simp only [Bool.and_eq_true, beq_iff_eq, Bool.not_eq_true'] at h0
      obtain ⟨rfl, rfl, hdel, hdct, hbm⟩ := h0
      obtain ⟨nm, bs, mro, ns, qn, hd, sn, sub, ab, col, del⟩ := cd
      dsimp only at hm hdel hdct
      subst hm hdel hdct
      have hsl : sl = #[k0, k1, k2, k3, some (.builtin "ValueError.__new__"), k5] := by
        obtain ⟨l⟩ := sl
        simp only at hs
        rw [hs]
      subst hsl
      exact ⟨_, _, _, _, _, _, _, _, _, _, _, _, _, _, _, ho, hbm⟩
    · cases h0
  · cases h0
/-- what is said of the exceptions' classes -/
inductive Xf where
  | xc (x : Str) | oex (x : Str) | oi (x : Str) | kit (x y : Str) (b : Bool) | kitT (x : Str) (T : String) (b : Bool) | kitN (y : Str) | kitNT (T : String)
def Xf.ok (K : PySem.W.Frag) : Xf → Bool
  | .xc x => xcB K (He.ga K x)
  | .oex x => oexB K (He.ga K x)
  | .oi x => decide (PySem.W.findIn K (.ref (He.ga K x)) "__init__" = some (some (.ref (He.fAd K (x, some "__init__"))))) && decide (PySem.W.typeIn K (.ref (He.fAd K (x, some "__init__"))) = some (.type "function"))
  | .kit x y b => decide (PySem.W.kitOne K (.ref (He.ga K x)) (.ref (He.ga K y)) = some b)
  | .kitT x T b => decide (PySem.W.kitOne K (.ref (He.ga K x)) (.type T) = some b)
  | .kitN y => decide (PySem.W.kitOne K (.type "NoneType") (.ref (He.ga K y)) = some false)
  | .kitNT T => decide (PySem.W.kitOne K (.type "NoneType") (.type T) = some false)
section
variable {K : PySem.W.Frag}
theorem xf_xc {x : Str} (h : (Xf.xc x).ok K = true) : XcF K (He.ga K x) := xcB_ok h
theorem xf_oex {x : Str} (h : (Xf.oex x).ok K = true) : OexC K (He.ga K x) := oexB_ok h
theorem xf_oi {x : Str} (h : (Xf.oi x).ok K = true) : PySem.W.findIn K (.ref (He.ga K x)) "__init__" = some (some (.ref (He.fAd K (x, some "__init__")))) ∧ PySem.W.typeIn K (.ref (He.fAd K (x, some "__init__"))) = some (.type "function") := by
  obtain ⟨a, b⟩ := He.ba h
  exact ⟨of_decide_eq_true a, of_decide_eq_true b⟩
theorem xf_kit {x y : Str} {b : Bool} (h : (Xf.kit x y b).ok K = true) : PySem.W.kitOne K (.ref (He.ga K x)) (.ref (He.ga K y)) = some b := of_decide_eq_true h
theorem xf_kitT {x : Str} {T : String} {b : Bool} (h : (Xf.kitT x T b).ok K = true) : PySem.W.kitOne K (.ref (He.ga K x)) (.type T) = some b := of_decide_eq_true h
theorem xf_kitN {y : Str} (h : (Xf.kitN y).ok K = true) : PySem.W.kitOne K (.type "NoneType") (.ref (He.ga K y)) = some false := of_decide_eq_true h
theorem xf_kitNT {T : String} (h : (Xf.kitNT T).ok K = true) : PySem.W.kitOne K (.type "NoneType") (.type T) = some false := of_decide_eq_true h
end
def obsX (fa : List He.Fa) (fn : List He.DefD) (xs : List Xf) (K : PySem.W.Frag) : He.AlD := ((He.obsD fa fn K).1 && xs.all fun f => f.ok K, (He.obsD fa fn K).2)
def SaysX (fa : List He.Fa) (fn : List He.DefD) (xs : List Xf) (K : PySem.W.Frag) : Prop := obsX fa fn xs K = He.valD fn
def obsXG (n : Nat) (fa : List He.Fa) (fn : List He.DefD) (xs : List Xf) (g : Addr → Option Obj) : He.AlD := obsX fa fn xs (He.frG g (He.asD g n))
def hookX (n : Nat) (fa : List He.Fa) (fn : List He.DefD) (xs : List Xf) : PySem.W.Hook where
  α := He.AlD
  obs := fun s => obsXG n fa fn xs s.heap.get?
  val := fun _ => He.valD fn
  says := fun _ h => ∃ K : PySem.W.Frag, K.In h ∧ SaysX fa fn xs K
  of := fun _ _ e => ⟨_, He.frG_in, e⟩
  keeps := fun _ _ _ ⟨K, hK, c⟩ k => ⟨K, PySem.W.Frag.In.keeps hK k, c⟩
theorem obsXG_eq {n : Nat} {fa : List He.Fa} {fn : List He.DefD} {xs : List Xf} {g : Addr → Option Obj} {s : Shared} (h : ∀ a, g a = s.heap.get? a) : obsXG n fa fn xs g = (hookX n fa fn xs).obs s := by
  have e : g = s.heap.get? := funext h
  rw [e] <;> rfl
section
variable {fa : List He.Fa} {fn : List He.DefD} {xs : List Xf} {K : PySem.W.Frag}
theorem SaysX.says (c : SaysX fa fn xs K) : He.SaysD fa fn K ∧ (xs.all fun f => f.ok K) = true := by
  have c1 := He.ba (show ((He.obsD fa fn K).1 && xs.all fun f => f.ok K) = true from congrArg (fun z : He.AlD => z.1) c)
  have c2 : (obsX fa fn xs K).2 = (He.valD fn).2 := congrArg (fun z : He.AlD => z.2) (show obsX fa fn xs K = He.valD fn from c)
  have c3 : (He.obsD fa fn K).2 = (He.valD fn).2 := c2
  refine ⟨?_, c1.2⟩
  unfold He.SaysD
  have e : He.obsD fa fn K = ((He.obsD fa fn K).1, (He.obsD fa fn K).2) := rfl
  rw [e, c1.1, c3]; rfl
theorem SaysX.x (c : SaysX fa fn xs K) (i : Nat) {f : Xf} (h : xs[i]? = some f := by rfl) : f.ok K = true := List.all_eq_true.mp c.says.2 f (List.mem_of_getElem? h)
end
/-! the rules as they are printed -/
section
variable {X : Cx} {Γ : Gm} {W : WX} {c : Nat} {x : Str} {e : Expr} {f : Ex} {p pos pos' : Pos}
/-- an exception's __init__ -/
def HasI (P : Program) (w : World) (K : PySem.W.Frag) (mg : Str → Option Value) (base : Heap) (x : Str) (C : Addr) : Prop := ∃ fd, FnOk P w K mg base (L2.CX P w) 1 (He.fAd K (x, some "__init__")) fd ["self", "at"] (spAt C) ∧ Binds K fd ["self", "at"] []
theorem vs_raiseI {k : Nat} (h : HasI X.prog X.w X.K X.mg X.base x (Γ.ca c)) (T : OexC X.K (Γ.ca c)) (oi : PySem.W.findIn X.K (.ref (Γ.ca c)) "__init__" = some (some (.ref (He.fAd X.K (x, some "__init__")))) ∧ PySem.W.typeIn X.K (.ref (He.fAd X.K (x, some "__init__"))) = some (.type "function"))
    (hm : X.mg x = some (.ref (Γ.ca c))) (hr : Room k X.A) (L : 2 ≤ k) (tk : Takes X W) (he : VE X Γ W e f) (hc : X.calm = true := by rfl) (hg : Gl X x := by rfl)
    (hdb : (x == ("__debug__" : Str)) = false := by decide) (hs : starEach (e :: []) X.env = (false, eval e X.env) :: starEach [] X.env := by rfl) (hpl : (backTo pos' (starEach [] X.env)).any (·.1) = false := by rfl) :
    VS X Γ W (.Raise (some (.Call (.Name x p) [e] [] pos')) none pos) (sRaiseAt c f) := by
  obtain ⟨fd, F, b⟩ := h
  exact vs_raiseAt hc tk T oi.1 oi.2 F (hr.mono L) b hm he hg hdb hs hpl
theorem vs_raiseO {m : Str} {j : Nat} {p2 : Pos} (q : PySem.W.excIn X.K (Γ.ca c) He.veBase "ValueError.__new__" = true ∧ PySem.W.keepIn X.K (.ref (Γ.ca c)) = true ∧ PySem.W.subIn X.K (.ref (Γ.ca c)) (.type "BaseException") = some true ∧ PySem.W.typeIn X.K (.ref (Γ.ca c)) = some (.type "type"))
    (gC : X.mg x = some (.ref (Γ.ca c))) (tk : Takes X W) (hc : X.calm = true := by rfl) (hg : Gl X x := by rfl) (hdb : (x == ("__debug__" : Str)) = false := by decide) :
    VS X Γ W (.Raise (some (.Call (.Name x p) [.Constant (.str m) j p2] [] pos')) none pos) (sRaise0 c) :=
  vs_raise0 hc tk PySem.F.excBase_ValueError q.1 gC q.2.1 q.2.2.1 q.2.2.2 hg hdb
theorem ve_isXo {cn : Str} {C : Addr} {t : List (Nat × Bool)} {p2 : Pos} (hm : X.mg cn = some (.ref C)) (h0 : PySem.W.kitOne X.K (.type "NoneType") (.ref C) = some false) (ht : AllT (fun c b => XcF X.K (Γ.ca c) ∧ PySem.W.kitOne X.K (.ref (Γ.ca c)) (.ref C) = some b) t) (hmi : X.mg "isinstance" = none) (hc : VE X Γ W e f)
    (hg : Gl X cn := by rfl) (hd : (cn == ("__debug__" : Str)) = false := by decide) (hgi : Gl X "isinstance" := by rfl) (hs : starEach (e :: [.Name cn p2]) X.env = (false, eval e X.env) :: starEach [.Name cn p2] X.env := by rfl) (hs2 : starEach (.Name cn p2 :: []) X.env = (false, eval (.Name cn p2) X.env) :: starEach [] X.env := by rfl) (hpl : (backTo pos (starEach [.Name cn p2] X.env)).any (·.1) = false := by rfl) :
    VE X Γ W (.Call (.Name "isinstance" p) [e, .Name cn p2] [] pos) (op1 (gIsX fun c => t.lookup c) f) :=
  ve_isX_ hc (pe_glob (v := .ref C) hg hm rfl hd) (.own C) h0 (fun c b h => ht.look c b h) hmi hgi hs hs2 hpl
theorem ve_isXv {t : List (Nat × Bool)} {p2 : Pos} (hm : X.mg "ValueError" = none) (h0 : PySem.W.kitOne X.K (.type "NoneType") (.type "ValueError") = some false) (ht : AllT (fun c b => XcF X.K (Γ.ca c) ∧ PySem.W.kitOne X.K (.ref (Γ.ca c)) (.type "ValueError") = some b) t) (hmi : X.mg "isinstance" = none) (hc : VE X Γ W e f)
    (hg : Gl X "ValueError" := by rfl) (hgi : Gl X "isinstance" := by rfl) (hs : starEach (e :: [.Name "ValueError" p2]) X.env = (false, eval e X.env) :: starEach [.Name "ValueError" p2] X.env := by rfl) (hs2 : starEach (.Name "ValueError" p2 :: []) X.env = (false, eval (.Name "ValueError" p2) X.env) :: starEach [] X.env := by rfl) (hpl : (backTo pos (starEach [.Name "ValueError" p2] X.env)).any (·.1) = false := by rfl) :
    VE X Γ W (.Call (.Name "isinstance" p) [e, .Name "ValueError" p2] [] pos) (op1 (gIsX fun c => t.lookup c) f) :=
  ve_isX_ hc (pe_bltn (v := .ty "ValueError") hg hm PyProof.Rows.Boot.«ValueError» rfl (by decide) (by decide)) (.ty "ValueError") h0 (fun c b h => ht.look c b h) hmi hgi hs hs2 hpl
end
end Ev

/-! stump, of any row of signs: a paper, or the number of the first sign that cannot come -/
namespace Ev
open PySem PySem.Spec PyProof.Rows L2
noncomputable def b_stumpx (f_can_come : Fn) : Sx :=
      (sSeq (sAsg 1 (eNew aNil))
      (sSeq (sAsg 2 (eNew (aCons (eVar 1) aNil)))
      (sSeq (sFor (iEnum (eVar 0)) (hTup 2 (hCons (hName 3) (hCons (hName 4) hNil))) (sSeq (sIf (tNot (tTst (eFn 3 f_can_come (aCons (eVar 4) (aCons (op2 gGt (eCall gLen (aCons (eVar 1) aNil)) (eC (.int 0))) (aCons (op2 gSub (eCall gLen (aCons (eVar 2) aNil)) (eC (.int 1))) aNil)))))) (sRaiseAt 10 (eVar 3)) sNil)
      (sIf (tTst (op2 gEq (op2 gIdx (eVar 4) (eC (.int 0))) (eC (.str "open")))) (sSeq (sAsg 5 (eNew aNil))
      (sSeq (sExp (eMeth "list" gAppend (op2 gIdx (eVar 2) (op1 gNeg (eC (.int 1)))) (aCons (eTup (aCons (op2 gIdx (eVar 4) (eC (.int 1))) (aCons (eVar 5) aNil))) aNil)))
      (sExp (eMeth "list" gAppend (eVar 2) (aCons (eVar 5) aNil))))) (sIf (tTst (op2 gEq (op2 gIdx (eVar 4) (eC (.int 0))) (eC (.str "text")))) (sExp (eMeth "list" gAppend (op2 gIdx (eVar 2) (op1 gNeg (eC (.int 1)))) (aCons (op2 gIdx (eVar 4) (eC (.int 1))) aNil))) (sExp (eMeth "list" gPop (eVar 2) aNil))))))
      (sRet (op2 gIdx (eVar 1) (eC (.int 0)))))))
/-- the first sign that cannot come -/
def firstW : Zp → Nat → List Sg → Option Nat
  | _, _, [] => none
  | z, k, s :: r => if z.can s = true then firstW (z.step s) (k + 1) r else some k
theorem firstW_ok : ∀ (ss : List Sg) (z : Zp) (k : Nat), okFrom z ss = true → firstW z k ss = none
  | [], _, _, _ => rfl
  | s :: r, z, k, h => by
    obtain ⟨h1, h2⟩ := okFrom_cons h
    simp [firstW, h1, firstW_ok r (z.step s) (k + 1) h2]
theorem firstW_bad : ∀ (ss : List Sg) (z : Zp) (k : Nat), okFrom z ss = false → ∃ i, firstW z k ss = some i ∧ k ≤ i ∧ i < k + ss.length
  | [], _, _, h => by simp [okFrom] at h
  | s :: r, z, k, h => by
    by_cases hc : z.can s = true
    · have h2 : okFrom (z.step s) r = false := by simpa [okFrom, hc] using h
      obtain ⟨i, h1, h3, h4⟩ := firstW_bad r (z.step s) (k + 1) h2
      exact ⟨i, by simp [firstW, hc, h1], by omega, by simp; omega⟩
    · exact ⟨k, by simp [firstW, hc], Nat.le_refl _, by simp⟩
theorem seq_no {t : Tx} {g h : Sx} {σ σ' : Env} {S S' : Sto} (e : sSeq (sIf t sNo sNil) h σ S = .nx σ' S') : sSeq (sIf t g sNil) h σ S = .nx σ' S' := by
  unfold sSeq sIf at e ⊢
  cases ht : t σ S with
  | no => rw [ht] at e; simp at e
  | ex c a S1 => rw [ht] at e; simp at e
  | ok b S1 =>
    rw [ht] at e
    cases b with
    | true => simp [sNo] at e
    | false => simpa using e
/-- the loop's body -/
noncomputable def stumpXB : Sx := (sSeq (sIf (tNot (tTst (eFn 3 fn_can_come (aCons (eVar 4) (aCons (op2 gGt (eCall gLen (aCons (eVar 1) aNil)) (eC (.int 0))) (aCons (op2 gSub (eCall gLen (aCons (eVar 2) aNil)) (eC (.int 1))) aNil)))))) (sRaiseAt 10 (eVar 3)) sNil)
      (sIf (tTst (op2 gEq (op2 gIdx (eVar 4) (eC (.int 0))) (eC (.str "open")))) (sSeq (sAsg 5 (eNew aNil))
      (sSeq (sExp (eMeth "list" gAppend (op2 gIdx (eVar 2) (op1 gNeg (eC (.int 1)))) (aCons (eTup (aCons (op2 gIdx (eVar 4) (eC (.int 1))) (aCons (eVar 5) aNil))) aNil)))
      (sExp (eMeth "list" gAppend (eVar 2) (aCons (eVar 5) aNil))))) (sIf (tTst (op2 gEq (op2 gIdx (eVar 4) (eC (.int 0))) (eC (.str "text")))) (sExp (eMeth "list" gAppend (op2 gIdx (eVar 2) (op1 gNeg (eC (.int 1)))) (aCons (op2 gIdx (eVar 4) (eC (.int 1))) aNil))) (sExp (eMeth "list" gPop (eVar 2) aNil)))))
theorem b_stumpx_eq : b_stumpx fn_can_come = (sSeq (sAsg 1 (eNew aNil)) (sSeq (sAsg 2 (eNew (aCons (eVar 1) aNil))) (sSeq (sFor (iEnum (eVar 0)) (hTup 2 (hCons (hName 3) (hCons (hName 4) hNil))) stumpXB) (sRet (op2 gIdx (eVar 1) (eC (.int 0))))))) := rfl
theorem stumpXB_good {σ σ' : Env} {S S' : Sto} (e : stumpB σ S = .nx σ' S') : stumpXB σ S = .nx σ' S' := seq_no e
theorem stumpXB_bad {S J : Sto} {z : Zp} {t : Nat} {s : Sg} {x e : Option D} {i : Int} (h : StI S.length J z t) (hc : z.can s = false) (ht : t ≤ 1000000) :
    stumpXB [x, some (.cell S.length), some (.cell (S.length + 1)), some (.int i), some s.d, e] (S ++ J) = .ex 10 (some (.int i)) [x, some (.cell S.length), some (.cell (S.length + 1)), some (.int i), some s.d, e] (S ++ J) := by
  obtain ⟨Jc, js, hch, hle, hlen, hp, hpile, hst⟩ := h.ex
  obtain ⟨dsA, hA, hbg⟩ := begun_len hch
  have hjl := hch.len
  obtain ⟨j, jr, ds, rfl, hj, hdt, hjn, hj0, hlink, happ⟩ := hch.top
  simp only [List.reverse_cons, List.map_append, List.map_cons, List.map_nil] at hpile
  simp only [List.length_cons, Nat.add_right_cancel_iff] at hjl
  have hpl : (jr.length : Int) + 1 - 1 = (z.st.length : Int) := by omega
  have hcan : canCome s (decide ((0 : Int) < (dsA.length : Int))) (z.st.length : Int) = false := by rw [← hbg]; exact hc
  have hcc : ∀ S', fn_can_come [s.d, .bl (decide ((0 : Int) < (dsA.length : Int))), .int (z.st.length : Int)] S' = .ok (.bl false) S' := fun S' => by rw [can_come_eq, hcan]
  unfold stumpXB
  simp only [sSeq, sIf]
  generalize (sIf (tTst (op2 gEq (op2 gIdx (eVar 4) (eC (.int 0))) (eC (.str "open")))) _ _) = rest
  simp at hcc
  simp [hcc, hA, hpile, hpl]
theorem stumpX_loop {S : Sto} {x : Option D} : ∀ (ss : List Sg) (J : Sto) (z : Zp) (t k i : Nat) (a b e : Option D), StI S.length J z t → firstW z k ss = some i → t + ss.length ≤ 1000000 →
    ∃ J' σ', forL still (hTup 2 (hCons (hName 3) (hCons (hName 4) hNil))) stumpXB (pairsFrom k (ss.map Sg.d)) [x, some (.cell S.length), some (.cell (S.length + 1)), a, b, e] (S ++ J) = .ex 10 (some (.int i)) σ' (S ++ J')
  | [], J, z, t, k, i, a, b, e, h, hw, _ => by cases hw
  | s :: r, J, z, t, k, i, a, b, e, h, hw, ht => by
    simp only [List.length_cons] at ht
    by_cases hc : z.can s = true
    · rw [firstW, if_pos hc] at hw
      obtain ⟨J1, e1, hs1, he1⟩ := stump_turn (x := x) (a := a) (b := b) (e := e) (i := (k : Int)) h hc (by omega)
      obtain ⟨J', σ', he⟩ := stumpX_loop (x := x) r J1 (z.step s) (t + 1) (k + 1) i (some (.int k)) (some s.d) e1 hs1 hw (by omega)
      exact ⟨J', σ', by simp [pairsFrom, stumpXB_good he1, he]⟩
    · rw [firstW, if_neg hc] at hw
      cases hw
      exact ⟨J, [x, some (.cell S.length), some (.cell (S.length + 1)), some (.int (k : Int)), some s.d, e], by simp [pairsFrom, stumpXB_bad (x := x) (e := e) (i := (k : Int)) h (by simpa using hc) (by omega)]⟩
theorem stumpX_good {S : Sto} {x : Option D} : ∀ (ss : List Sg) (J : Sto) (z : Zp) (t k : Nat) (a b e : Option D), StI S.length J z t → okFrom z ss = true → t + ss.length ≤ 1000000 →
    ∃ J' a' b' e', StI S.length J' (z.run ss) (t + ss.length) ∧ forL still (hTup 2 (hCons (hName 3) (hCons (hName 4) hNil))) stumpXB (pairsFrom k (ss.map Sg.d)) [x, some (.cell S.length), some (.cell (S.length + 1)), a, b, e] (S ++ J) =
      .nx [x, some (.cell S.length), some (.cell (S.length + 1)), a', b', e'] (S ++ J')
  | [], J, z, t, k, a, b, e, h, _, _ => ⟨J, a, b, e, h, by simp [pairsFrom]⟩
  | s :: r, J, z, t, k, a, b, e, h, ho, ht => by
    obtain ⟨h1, h2⟩ := okFrom_cons ho
    simp only [List.length_cons] at ht
    obtain ⟨J1, e1, hs1, he1⟩ := stump_turn (x := x) (a := a) (b := b) (e := e) (i := (k : Int)) h h1 (by omega)
    obtain ⟨J', a', b', e', hs, he⟩ := stumpX_good (x := x) r J1 (z.step s) (t + 1) (k + 1) (some (.int k)) (some s.d) e1 hs1 h2 (by omega)
    refine ⟨J', a', b', e', ?_, ?_⟩
    · have : t + (s :: r).length = t + 1 + r.length := by simp; omega
      rw [this]; exact hs
    · simp [pairsFrom, stumpXB_good he1, he]
noncomputable def fn_stumpx : Fn := fnOf (fun ss : List Sg => [sgs ss]) (fun ss => ss ≠ [] ∧ ss.length ≤ 900000) fun ss S => match firstW z0 0 ss with
  | none => .ok (stumpP ss).d S
  | some i => .ex 10 (some (.int i)) S
theorem stumpx_eq {ss : List Sg} (h : ss ≠ []) (hz : ss.length ≤ 900000) (S : Sto) : fn_stumpx [.lst (ss.map Sg.d)] S = match firstW z0 0 ss with
  | none => .ok (stumpP ss).d S
  | some i => .ex 10 (some (.int i)) S := fnOf_eq (a := ss) sgs_inj ⟨h, hz⟩
theorem ref_stumpx (ds : List D) (S : Sto) : Ref S (fn_stumpx ds S) (runB 6 (b_stumpx fn_can_come) ds S) := by
  refine fnOf_ref (fun ss S ⟨h, hz⟩ => ?_) ds S
  cases ho : okFrom z0 ss with
  | true =>
    rw [firstW_ok ss z0 0 ho]
    obtain ⟨n, k, e1, e2⟩ := stumpP_all h ho
    obtain ⟨J', a', b', e', hs, he⟩ := stumpX_good (S := S) (x := some (sgs ss)) ss _ z0 0 0 none none none (StI.start S.length) ho (by omega)
    obtain ⟨Jc, js, hch, hle, _, _, _, _⟩ := hs.ex
    obtain ⟨ds0, h0, hf⟩ := hch.fin hle .nil .nil
    have e2' : upF .nil (z0.run ss).st (z0.run ss).bot = .el n k .nil := e2
    rw [e2'] at hf
    simp only [Fo.ds] at hf
    cases hf with
    | cons hd hr =>
      cases hr
      rename_i d0
      refine Ref.ok (v2 := d0) (S2 := S ++ J') ?_ (Cl.fz (by rw [e1]; exact hd))
      rw [b_stumpx_eq]
      simp [sgs, z0] at he
      simp [runB, sgs, he, h0]
  | false =>
    obtain ⟨i, hi, _, _⟩ := firstW_bad ss z0 0 ho
    rw [hi]
    obtain ⟨J', σ', he⟩ := stumpX_loop (S := S) (x := some (sgs ss)) ss _ z0 0 0 i none none none (StI.start S.length) hi (by omega)
    refine ⟨J', ?_, rfl, fun k x h => .inl h, rfl⟩
    rw [b_stumpx_eq]
    simp [sgs, z0] at he
    simp [runB, sgs, he]
end Ev

/-! a body as its own promise -/
namespace Ev
open PySem PySem.Spec PyProof.Rows L2
/-- promises whose garbage is dropped -/
noncomputable def selfP (n : Nat) (body : Sx) : Fn := fun ds S => by
  classical exact match runB n body ds S with
    | .ok v S' => if (∃ J, S' = S ++ J) ∧ hb S.length v = true then .ok v S else .no
    | _ => .no
theorem selfP_eq {n : Nat} {body : Sx} {ds : List D} {S J : Sto} {v : D} (h : runB n body ds S = .ok v (S ++ J)) (hv : hb S.length v = true) : selfP n body ds S = .ok v S := by
  unfold selfP
  rw [h]
  exact if_pos ⟨⟨J, rfl⟩, hv⟩
theorem selfP_ref {n : Nat} {body : Sx} (ds : List D) (S : Sto) : Ref S (selfP n body ds S) (runB n body ds S) := by
  unfold selfP
  cases h : runB n body ds S with
  | no => trivial
  | ok v S' =>
    simp only
    split
    · rename_i q
      obtain ⟨⟨J, rfl⟩, hv⟩ := q
      exact Ref.ok rfl (Cl.pure hv)
    · trivial
  | ex _ _ _ => trivial
/-- the new list is told as data -/
noncomputable def selfZ (n : Nat) (body : Sx) : Fn := fun ds S => by
  classical exact match runB n body ds S with
    | .ok (.cell k) S' => (match S'[k]? with
      | some (some (.lst es)) => if (∃ J, S' = S ++ J) ∧ S.length ≤ k ∧ hbs S.length es = true then .ok (.lst es) S else .no
      | _ => .no)
    | _ => .no
theorem selfZ_eq {n : Nat} {body : Sx} {ds es : List D} {S J : Sto} {k : Nat} (h : runB n body ds S = .ok (.cell (S.length + k)) (S ++ J)) (hj : J[k]? = some (some (.lst es))) (hv : hbs S.length es = true) : selfZ n body ds S = .ok (.lst es) S := by
  unfold selfZ
  rw [h]
  have : (S ++ J)[S.length + k]? = some (some (.lst es)) := by rw [get_app]; exact hj
  simp only [this]
  exact if_pos ⟨⟨J, rfl⟩, by omega, hv⟩
theorem selfZ_ref {n : Nat} {body : Sx} (ds : List D) (S : Sto) : Ref S (selfZ n body ds S) (runB n body ds S) := by
  unfold selfZ
  cases h : runB n body ds S with
  | no => trivial
  | ok v S' =>
    cases v with
    | cell k =>
      simp only
      split
      · rename_i es he
        split
        · rename_i q
          obtain ⟨⟨J, rfl⟩, hk, hv⟩ := q
          obtain ⟨j, rfl⟩ : ∃ j, k = S.length + j := ⟨k - S.length, by omega⟩
          rw [get_app] at he
          exact Ref.ok rfl (Cl.frz he (by simp only [Ev.hb]; exact hv))
        · trivial
      · trivial
    | _ => trivial
  | ex _ _ _ => trivial
end Ev

/-! a cell of the script, or 0 -/
namespace Ev
open PySem PySem.Spec PyProof.Rows L2
noncomputable def b_law_cell_at_s1 : Sx :=
      (sIf (tTst (op2 gLt (eVar 1) (eCall gLen (aCons (eVar 0) aNil)))) (sRet (op2 gIdx (eVar 0) (eVar 1))) sNil)
noncomputable def b_law_cell_at_s2 : Sx :=
      (sRet (eC (.int 0)))
noncomputable def b_law_cell_at : Sx :=
      (sSeq (b_law_cell_at_s1)
      (b_law_cell_at_s2))
noncomputable def fn_law_cell_at : Fn := selfP 2 b_law_cell_at
theorem ref_law_cell_at (ds : List D) (S : Sto) : Ref S (fn_law_cell_at ds S) (runB 2 b_law_cell_at ds S) := selfP_ref ds S
theorem cell_at_eq (ns : List Int) (k : Nat) (hn : ns.length ≤ 63) : ∃ c : Int, ∀ S, fn_law_cell_at [.scr ns, .int (k : Int)] S = .ok (.int c) S := by
  have hl : ∀ S, gLen [.scr ns] S = .ok (.int (ns.length : Int)) S := fun S => by simp [gLen, seqOf, lstOf]
  by_cases hk : k < ns.length
  · have hx := List.getElem?_eq_getElem hk
    refine ⟨ns[k], fun S => selfP_eq (J := []) ?_ rfl⟩
    have e : atI (ns.map D.int) (k : Int) = some (.int ns[k]) := by rw [atI_map, atI_nat hx]; rfl
    have e2 : atI ns (k : Int) = some ns[k] := atI_nat hx
    have h3 : gIdx (.scr ns) (.int (k : Int)) S = .ok (.int ns[k]) S := by simp only [gIdx, seqOf, lstOf, e]
    simp [runB, b_law_cell_at, b_law_cell_at_s1, hk, hl, h3]
  · refine ⟨0, fun S => selfP_eq (J := []) ?_ rfl⟩
    simp [runB, b_law_cell_at, b_law_cell_at_s1, b_law_cell_at_s2, hk, hl]
end Ev

/-! the row of nodes that the law makes out of signs -/
namespace Ev
open PySem PySem.Spec PyProof.Rows L2
/-- a node: its name, the texts and nodes in it, the node around it -/
structure Nd where
  nm : Str
  tx : List Str
  kd : List Nat
  pa : Int
def Nd.d (x : Nd) : D := .tup [.str x.nm, .lst (x.tx.map D.str), .lst (x.kd.map fun (k : Nat) => D.int (k : Int)), .int x.pa]
def nent (b : Nat) : Nat → List Nd → List D
  | _, [] => []
  | i, x :: r => .tup [.str x.nm, .cell (b + (1 + 2 * i)), .cell (b + (2 + 2 * i)), .int x.pa] :: nent b (i + 1) r
def ncel : List Nd → Sto
  | [] => []
  | x :: r => some (.lst (x.tx.map D.str)) :: some (.lst (x.kd.map fun (k : Nat) => D.int (k : Int))) :: ncel r
def nJ (b : Nat) (ns : List Nd) : Sto := some (.lst (nent b 0 ns)) :: ncel ns
theorem nent_len (b : Nat) : ∀ (i : Nat) (ns : List Nd), (nent b i ns).length = ns.length
  | _, [] => rfl
  | i, x :: r => by simp [nent, nent_len b (i + 1) r]
theorem ncel_len : ∀ ns : List Nd, (ncel ns).length = 2 * ns.length
  | [] => rfl
  | x :: r => by simp [ncel, ncel_len r]; omega
theorem nent_get (b : Nat) : ∀ (i k : Nat) (ns : List Nd) (x : Nd), ns[k]? = some x → (nent b i ns)[k]? = some (.tup [.str x.nm, .cell (b + (1 + 2 * (i + k))), .cell (b + (2 + 2 * (i + k))), .int x.pa])
  | i, _, [], x, h => by simp at h
  | i, 0, y :: r, x, h => by simp at h; subst h; simp [nent]
  | i, k + 1, y :: r, x, h => by
    simp only [List.getElem?_cons_succ] at h
    have e : i + 1 + k = i + (k + 1) := by omega
    simp only [nent, List.getElem?_cons_succ, nent_get b (i + 1) k r x h, e]
theorem ncel_tx : ∀ (k : Nat) (ns : List Nd) (x : Nd), ns[k]? = some x → (ncel ns)[2 * k]? = some (some (.lst (x.tx.map D.str))) ∧ (ncel ns)[2 * k + 1]? = some (some (.lst (x.kd.map fun (k : Nat) => D.int (k : Int))))
  | _, [], x, h => by simp at h
  | 0, y :: r, x, h => by simp at h; subst h; simp [ncel]
  | k + 1, y :: r, x, h => by
    simp only [List.getElem?_cons_succ] at h
    have e : 2 * (k + 1) = 2 * k + 1 + 1 := by omega
    rw [e]
    simp only [ncel, List.getElem?_cons_succ]
    exact ncel_tx k r x h
theorem nent_set (b : Nat) : ∀ (i k : Nat) (ns : List Nd) (x y : Nd), ns[k]? = some x → y.nm = x.nm → y.pa = x.pa → nent b i (ns.set k y) = nent b i ns
  | i, _, [], x, y, h, _, _ => by simp at h
  | i, 0, z :: r, x, y, h, h1, h2 => by simp at h; subst h; simp [nent, h1, h2]
  | i, k + 1, z :: r, x, y, h, h1, h2 => by
    simp only [List.getElem?_cons_succ] at h
    simp [nent, nent_set b (i + 1) k r x y h h1 h2]
theorem ncel_set1 : ∀ (k : Nat) (ns : List Nd) (x y : Nd), ns[k]? = some x → y.kd = x.kd → ncel (ns.set k y) = (ncel ns).set (2 * k) (some (.lst (y.tx.map D.str)))
  | _, [], x, y, h, _ => by simp at h
  | 0, z :: r, x, y, h, h1 => by simp at h; subst h; simp [ncel, h1]
  | k + 1, z :: r, x, y, h, h1 => by
    simp only [List.getElem?_cons_succ] at h
    have e : 2 * (k + 1) = 2 * k + 1 + 1 := by omega
    rw [e]
    simp [ncel, ncel_set1 k r x y h h1]
theorem ncel_set2 : ∀ (k : Nat) (ns : List Nd) (x y : Nd), ns[k]? = some x → y.tx = x.tx → ncel (ns.set k y) = (ncel ns).set (2 * k + 1) (some (.lst (y.kd.map fun (k : Nat) => D.int (k : Int))))
  | _, [], x, y, h, _ => by simp at h
  | 0, z :: r, x, y, h, h1 => by simp at h; subst h; simp [ncel, h1]
  | k + 1, z :: r, x, y, h, h1 => by
    simp only [List.getElem?_cons_succ] at h
    have e : 2 * (k + 1) = 2 * k + 1 + 1 := by omega
    rw [e]
    simp [ncel, ncel_set2 k r x y h h1]
theorem nent_app (b : Nat) : ∀ (i : Nat) (ns ms : List Nd), nent b i (ns ++ ms) = nent b i ns ++ nent b (i + ns.length) ms
  | i, [], ms => by simp [nent]
  | i, x :: r, ms => by
    have e : i + 1 + r.length = i + (r.length + 1) := by omega
    simp [nent, nent_app b (i + 1) r ms, e]
theorem ncel_app : ∀ ns ms : List Nd, ncel (ns ++ ms) = ncel ns ++ ncel ms
  | [], ms => rfl
  | x :: r, ms => by simp [ncel, ncel_app r ms]
/-- the nodes so far, and the one that is open innermost -/
structure Nz where
  ns : List Nd
  at_ : Int
def Nd.kid (x : Nd) (k : Nat) : Nd := { x with kd := x.kd ++ [k] }
def Nd.txt (x : Nd) (s : Str) : Nd := { x with tx := x.tx ++ [s] }
def Nz.step (z : Nz) : Sg → Nz
  | .op n => ⟨(match z.at_ with
    | .ofNat k => (z.ns ++ [(⟨n, [], [], z.at_⟩ : Nd)]).modify k fun x => x.kid z.ns.length
    | _ => z.ns ++ [⟨n, [], [], z.at_⟩]), z.ns.length⟩
  | .tx s => ⟨z.ns.modify z.at_.toNat fun x => x.txt s, z.at_⟩
  | .cl => ⟨z.ns, ((z.ns[z.at_.toNat]?).map Nd.pa).getD (-1)⟩
def nz0 : Nz := ⟨[], -1⟩
def Nz.run (z : Nz) (ss : List Sg) : Nz := ss.foldl Nz.step z
def nodesL (ss : List Sg) : List Nd := (nz0.run ss).ns
/-- so many nodes are open -/
inductive Dep (ns : List Nd) : Int → Nat → Prop
  | base : Dep ns (-1) 0
  | cons {k : Nat} {x : Nd} {d : Nat} : ns[k]? = some x → Dep ns x.pa d → Dep ns (k : Int) (d + 1)
theorem Dep.mono {ns ms : List Nd} (h : ∀ (k : Nat) (x : Nd), ns[k]? = some x → ∃ y : Nd, ms[k]? = some y ∧ y.pa = x.pa) {i : Int} {d : Nat} (q : Dep ns i d) : Dep ms i d := by
  induction q with
  | base => exact .base
  | cons h1 h2 ih =>
    obtain ⟨y, e1, e2⟩ := h _ _ h1
    exact .cons e1 (by rw [e2]; exact ih)
theorem modify_set {ns : List Nd} {k : Nat} {x : Nd} (h : ns[k]? = some x) (f : Nd → Nd) : ns.modify k f = ns.set k (f x) := by
  apply List.ext_getElem?
  intro i
  rw [List.getElem?_modify, List.getElem?_set]
  by_cases e : k = i
  · subst e; have hl := (List.getElem?_eq_some_iff.mp h).1; rw [h]; simp [hl]
  · simp [e]
theorem modify_pa {ns : List Nd} (k : Nat) (f : Nd → Nd) (hf : ∀ x, (f x).pa = x.pa) (i : Nat) (x : Nd) (h : ns[i]? = some x) : ∃ y : Nd, (ns.modify k f)[i]? = some y ∧ y.pa = x.pa := by
  rw [List.getElem?_modify, h]
  by_cases e : k = i
  · simp [e, hf]
  · simp [e]
/-- so deep are some signs -/
def dStep (d : Nat) : Sg → Nat
  | .op _ => d + 1
  | .tx _ => d
  | .cl => d - 1
def dCan (d : Nat) : Sg → Bool
  | .op _ => true
  | _ => decide (0 < d)
def dOk : Nat → List Sg → Bool
  | _, [] => true
  | d, s :: r => dCan d s && dOk (dStep d s) r
theorem Dep.step {z : Nz} {d : Nat} (h : Dep z.ns z.at_ d) {s : Sg} (hc : dCan d s = true) : Dep (z.step s).ns (z.step s).at_ (dStep d s) := by
  obtain ⟨ns, at_⟩ := z
  cases s with
  | op n =>
    have hm : Dep (ns ++ [⟨n, [], [], at_⟩]) (ns.length : Int) (d + 1) := .cons (x := ⟨n, [], [], at_⟩) (by simp) (h.mono fun k x hk => ⟨x, by rw [List.getElem?_append_left (List.getElem?_eq_some_iff.mp hk).1]; exact hk, rfl⟩)
    cases at_ with
    | ofNat k => exact hm.mono (modify_pa k (fun x => x.kid ns.length) fun _ => rfl)
    | negSucc k => exact hm
  | tx s => exact h.mono (modify_pa at_.toNat (fun x => x.txt s) fun _ => rfl)
  | cl =>
    cases h with
    | base => simp [dCan] at hc
    | cons h1 h2 => simpa [Nz.step, h1, dStep] using h2
noncomputable def b_law_nodes_s1 : Sx :=
      (sAsg 1 (eNew aNil))
noncomputable def b_law_nodes_s2 : Sx :=
      (sAsg 2 (op1 gNeg (eC (.int 1))))
noncomputable def b_law_nodes_s4 : Sx :=
      (sExp (eMeth "list" gAppend (eVar 1) (aCons (eTup (aCons (op2 gIdx (eVar 3) (eC (.int 1))) (aCons (eNew aNil) (aCons (eNew aNil) (aCons (eVar 2) aNil))))) aNil)))
noncomputable def b_law_nodes_s5 : Sx :=
      (sIf (tTst (op2 gGt (eVar 2) (op1 gNeg (eC (.int 1))))) (sExp (eMeth "list" gAppend (op2 gIdx (op2 gIdx (eVar 1) (eVar 2)) (eC (.int 2))) (aCons (op2 gSub (eCall gLen (aCons (eVar 1) aNil)) (eC (.int 1))) aNil))) sNil)
noncomputable def b_law_nodes_s6 : Sx :=
      (sAsg 2 (op2 gSub (eCall gLen (aCons (eVar 1) aNil)) (eC (.int 1))))
noncomputable def b_law_nodes_i1 : Sx :=
      (sSeq (b_law_nodes_s4)
      (sSeq (b_law_nodes_s5)
      (b_law_nodes_s6)))
noncomputable def b_law_nodes_l1 : Sx :=
      (sIf (tTst (op2 gEq (op2 gIdx (eVar 3) (eC (.int 0))) (eC (.str "open")))) (b_law_nodes_i1) (sIf (tTst (op2 gEq (op2 gIdx (eVar 3) (eC (.int 0))) (eC (.str "text")))) (sExp (eMeth "list" gAppend (op2 gIdx (op2 gIdx (eVar 1) (eVar 2)) (eC (.int 1))) (aCons (op2 gIdx (eVar 3) (eC (.int 1))) aNil))) (sAsg 2 (op2 gIdx (op2 gIdx (eVar 1) (eVar 2)) (eC (.int 3))))))
noncomputable def b_law_nodes_s3 : Sx :=
      (sFor (iL (eVar 0)) (hName 3) (b_law_nodes_l1))
noncomputable def b_law_nodes_s7 : Sx :=
      (sRet (eVar 1))
noncomputable def b_law_nodes : Sx :=
      (sSeq (b_law_nodes_s1)
      (sSeq (b_law_nodes_s2)
      (sSeq (b_law_nodes_s3)
      (b_law_nodes_s7))))
theorem nodes_turn {S : Sto} {z : Nz} {d : Nat} {s : Sg} {x : Option D} (h : Dep z.ns z.at_ d) (hc : dCan d s = true) (hz : z.ns.length ≤ 900000) (htz : ∀ y ∈ z.ns, y.tx.length ≤ 900000 ∧ y.kd.length ≤ 900000) :
    b_law_nodes_l1 [x, some (.cell S.length), some (.int z.at_), some s.d] (S ++ nJ S.length z.ns) = .nx [x, some (.cell S.length), some (.int (z.step s).at_), some s.d] (S ++ nJ S.length (z.step s).ns) := by
  obtain ⟨ns, at_⟩ := z
  simp only at h hz htz
  have h0 : (nJ S.length ns)[0]? = some (some (.lst (nent S.length 0 ns))) := rfl
  have hnl := nent_len S.length 0 ns
  have hel := ncel_len ns
  have hJl : (nJ S.length ns).length = 2 * ns.length + 1 := by simp [nJ, hel]
  have hn1 : ns.length < sizeLine := by rw [sizeLine_val]; omega
  have hcell : ∀ (k : Nat) (y : Nd), ns[k]? = some y → atI (nent S.length 0 ns) (k : Int) = some (.tup [.str y.nm, .cell (S.length + (1 + 2 * k)), .cell (S.length + (2 + 2 * k)), .int y.pa]) ∧ (nJ S.length ns)[1 + 2 * k]? = some (some (.lst (y.tx.map D.str))) ∧ (nJ S.length ns)[2 + 2 * k]? = some (some (.lst (y.kd.map fun (k : Nat) => D.int (k : Int)))) ∧
      y.tx.length < sizeLine ∧ y.kd.length < sizeLine := fun k y hk => by
    obtain ⟨e1, e2⟩ := ncel_tx k ns y hk
    have hm := htz y (List.mem_of_getElem? hk)
    refine ⟨atI_nat (by have := nent_get S.length 0 k ns y hk; simpa using this), ?_, ?_, ?_, ?_⟩
    · rw [Nat.add_comm]; exact e1
    · rw [show 2 + 2 * k = (2 * k + 1) + 1 by omega]; exact e2
    · rw [sizeLine_val]; omega
    · rw [sizeLine_val]; omega
  cases s with
  | tx m =>
    cases h with
    | base => simp [dCan] at hc
    | cons h1 h2 =>
      rename_i k y d
      obtain ⟨q1, q2, q3, q4, q5⟩ := hcell k y h1
      have e : nJ S.length (ns.modify k fun y => y.txt m) = (nJ S.length ns).set (1 + 2 * k) (some (.lst (y.tx.map D.str ++ [.str m]))) := by
        rw [modify_set h1, nJ, nent_set S.length 0 k ns y (y.txt m) h1 rfl rfl, ncel_set1 k ns y (y.txt m) h1 rfl, nJ, Nat.add_comm 1, List.set_cons_succ]
        simp [Nd.txt]
      simp [b_law_nodes_l1, Sg.d, h0, q1, q2, q4, Nz.step, e]
  | cl =>
    cases h with
    | base => simp [dCan] at hc
    | cons h1 h2 =>
      rename_i k y d
      obtain ⟨q1, q2, q3, q4, q5⟩ := hcell k y h1
      simp [b_law_nodes_l1, Sg.d, h0, q1, Nz.step, h1]
  | op m =>
    have g4 : b_law_nodes_s4 [x, some (.cell S.length), some (.int at_), some (Sg.op m).d] (S ++ nJ S.length ns) = .nx [x, some (.cell S.length), some (.int at_), some (Sg.op m).d] (S ++ nJ S.length (ns ++ [⟨m, [], [], at_⟩])) := by
      have e : nJ S.length (ns ++ [⟨m, [], [], at_⟩]) = ((nJ S.length ns ++ [some (C.lst [])]) ++ [some (C.lst [])]).set 0 (some (C.lst (nent S.length 0 ns ++ [D.tup [.str m, .cell (S.length + (2 * ns.length + 1)), .cell (S.length + (2 * ns.length + 1 + 1)), .int at_]]))) := by
        simp [nJ, nent_app, ncel_app, nent, ncel, Nat.add_comm]
        omega
      rw [e]
      simp [b_law_nodes_s4, Sg.d, nJ, hel, hnl, hn1, Nat.add_assoc]
    have hat : (at_ = -1 ∨ ∃ (k : Nat) (y : Nd), at_ = (k : Int) ∧ ns[k]? = some y) := by
      cases h with
      | base => exact .inl rfl
      | cons h1 h2 => exact .inr ⟨_, _, rfl, h1⟩
    have hnl1 := nent_len S.length 0 (ns ++ [⟨m, [], [], at_⟩])
    have hel1 := ncel_len (ns ++ [⟨m, [], [], at_⟩])
    rw [List.length_append] at hnl1 hel1
    simp only [List.length_cons, List.length_nil] at hnl1 hel1
    have g5 : b_law_nodes_s5 [x, some (.cell S.length), some (.int at_), some (Sg.op m).d] (S ++ nJ S.length (ns ++ [⟨m, [], [], at_⟩])) = .nx [x, some (.cell S.length), some (.int at_), some (Sg.op m).d] (S ++ nJ S.length ((Nz.mk ns at_).step (.op m)).ns) := by
      rcases hat with rfl | ⟨k, y, rfl, hy⟩
      · have e : ((Nz.mk ns (-1)).step (.op m)).ns = ns ++ [⟨m, [], [], -1⟩] := rfl
        simp [b_law_nodes_s5, e]
      · have hy1 : (ns ++ [(⟨m, [], [], (k : Int)⟩ : Nd)])[k]? = some y := by rw [List.getElem?_append_left (List.getElem?_eq_some_iff.mp hy).1]; exact hy
        have e : nJ S.length ((Nz.mk ns (k : Int)).step (.op m)).ns = (nJ S.length (ns ++ [⟨m, [], [], (k : Int)⟩])).set (2 + 2 * k) (some (.lst ((y.kd.map fun (k : Nat) => D.int (k : Int)) ++ [.int (ns.length : Int)]))) := by
          show nJ S.length ((ns ++ [(⟨m, [], [], (k : Int)⟩ : Nd)]).modify k fun y => y.kid ns.length) = _
          rw [modify_set hy1, nJ, nent_set S.length 0 k _ y (y.kid ns.length) hy1 rfl rfl, ncel_set2 k _ y (y.kid ns.length) hy1 rfl, nJ, show 2 + 2 * k = (2 * k + 1) + 1 by omega, List.set_cons_succ]
          simp [Nd.kid]
        obtain ⟨q1, q2, q3, q4, q5⟩ := hcell k y hy
        have q1' : atI (nent S.length 0 (ns ++ [⟨m, [], [], (k : Int)⟩])) (k : Int) = some (.tup [.str y.nm, .cell (S.length + (1 + 2 * k)), .cell (S.length + (2 + 2 * k)), .int y.pa]) := atI_nat (by have := nent_get S.length 0 k _ y hy1; simpa using this)
        have q3' : (nJ S.length (ns ++ [⟨m, [], [], (k : Int)⟩]))[2 + 2 * k]? = some (some (.lst (y.kd.map fun (k : Nat) => D.int (k : Int)))) := by
          rw [show 2 + 2 * k = (2 * k + 1) + 1 by omega]; exact (ncel_tx k _ y hy1).2
        have h0' : (nJ S.length (ns ++ [⟨m, [], [], (k : Int)⟩]))[0]? = some (some (.lst (nent S.length 0 (ns ++ [⟨m, [], [], (k : Int)⟩])))) := rfl
        have hn1' : ns.length + 1 ≤ sizeLine := hn1
        have hk1 : (-1 : Int) < (k : Int) := by omega
        rw [e]
        simp [b_law_nodes_s5, h0', q1', q3', q5, hnl1, hn1', hk1]
    have g6 : b_law_nodes_s6 [x, some (.cell S.length), some (.int at_), some (Sg.op m).d] (S ++ nJ S.length ((Nz.mk ns at_).step (.op m)).ns) = .nx [x, some (.cell S.length), some (.int (ns.length : Int)), some (Sg.op m).d] (S ++ nJ S.length ((Nz.mk ns at_).step (.op m)).ns) := by
      have hl : ((Nz.mk ns at_).step (.op m)).ns.length = ns.length + 1 := by
        simp only [Nz.step]
        cases at_ <;> simp
      have hl1 := nent_len S.length 0 ((Nz.mk ns at_).step (.op m)).ns
      rw [hl] at hl1
      have h0' : (nJ S.length ((Nz.mk ns at_).step (.op m)).ns)[0]? = some (some (.lst (nent S.length 0 ((Nz.mk ns at_).step (.op m)).ns))) := rfl
      have hn1' : ns.length + 1 ≤ sizeLine := hn1
      simp [b_law_nodes_s6, h0', hl1, hn1']
    have ec : b_law_nodes_l1 [x, some (.cell S.length), some (.int at_), some (Sg.op m).d] (S ++ nJ S.length ns) = b_law_nodes_i1 [x, some (.cell S.length), some (.int at_), some (Sg.op m).d] (S ++ nJ S.length ns) := by
      simp [b_law_nodes_l1, Sg.d]
    rw [ec]
    simp [b_law_nodes_i1, g4, g5, g6]
    rfl
theorem Nz.step_len {z : Nz} {s : Sg} {t : Nat} (h1 : z.ns.length ≤ t) (h2 : ∀ y ∈ z.ns, y.tx.length ≤ t ∧ y.kd.length ≤ t) : (z.step s).ns.length ≤ t + 1 ∧ ∀ y ∈ (z.step s).ns, y.tx.length ≤ t + 1 ∧ y.kd.length ≤ t + 1 := by
  obtain ⟨ns, at_⟩ := z
  simp only at h1 h2
  have hmod : ∀ (ms : List Nd) (k : Nat) (f : Nd → Nd), (∀ y ∈ ms, y.tx.length ≤ t ∧ y.kd.length ≤ t) → (∀ y, (f y).tx.length ≤ y.tx.length + 1 ∧ (f y).kd.length ≤ y.kd.length + 1) → ∀ y ∈ ms.modify k f, y.tx.length ≤ t + 1 ∧ y.kd.length ≤ t + 1 := fun ms k f hm hf y hy => by
    obtain ⟨i, hi⟩ := List.getElem?_of_mem hy
    rw [List.getElem?_modify] at hi
    cases e : ms[i]? with
    | none => rw [e] at hi; simp at hi
    | some w =>
      rw [e] at hi
      have hw := hm w (List.mem_of_getElem? e)
      have hfw := hf w
      by_cases ek : k = i
      · simp [ek] at hi; subst hi; omega
      · simp [ek] at hi; subst hi; omega
  cases s with
  | op n =>
    have ha : ∀ y ∈ ns ++ [(⟨n, [], [], at_⟩ : Nd)], y.tx.length ≤ t ∧ y.kd.length ≤ t := fun y hy => by
      rcases List.mem_append.mp hy with hy | hy
      · exact h2 y hy
      · simp at hy; subst hy; simp
    cases at_ with
    | ofNat k => exact ⟨by simp [Nz.step]; omega, hmod _ k _ ha fun y => by simp [Nd.kid]⟩
    | negSucc k => exact ⟨by simp [Nz.step]; omega, fun y hy => by have := ha y hy; omega⟩
  | tx m => exact ⟨by simp [Nz.step]; omega, hmod ns at_.toNat _ h2 fun y => by simp [Nd.txt]⟩
  | cl => exact ⟨by simp [Nz.step]; omega, fun y hy => by have := h2 y hy; omega⟩
theorem nodes_loop {S : Sto} {x : Option D} : ∀ (ss : List Sg) (z : Nz) (d t : Nat) (b : Option D), Dep z.ns z.at_ d → dOk d ss = true → z.ns.length ≤ t → (∀ y ∈ z.ns, y.tx.length ≤ t ∧ y.kd.length ≤ t) → t + ss.length ≤ 900000 →
    ∃ b', forL still (hName 3) b_law_nodes_l1 (ss.map Sg.d) [x, some (.cell S.length), some (.int z.at_), b] (S ++ nJ S.length z.ns) = .nx [x, some (.cell S.length), some (.int (z.run ss).at_), b'] (S ++ nJ S.length (z.run ss).ns)
  | [], z, d, t, b, _, _, _, _, _ => ⟨b, by simp [Nz.run]⟩
  | s :: r, z, d, t, b, h, ho, h1, h2, ht => by
    simp only [List.length_cons] at ht
    simp only [dOk, Bool.and_eq_true] at ho
    have e := nodes_turn (S := S) (x := x) h ho.1 (by omega) fun y hy => by have := h2 y hy; omega
    obtain ⟨q1, q2⟩ := Nz.step_len (s := s) h1 h2
    obtain ⟨b', he⟩ := nodes_loop (S := S) (x := x) r (z.step s) (dStep d s) (t + 1) (some s.d) (h.step ho.1) ho.2 q1 q2 (by omega)
    refine ⟨b', ?_⟩
    simp only [List.map_cons, forL_still_cons, hName_eq]
    simp [e, he, Nz.run]
theorem nent_fz (n : Nat) (J : Sto) (i : Nat) (ns : List Nd) (h : ∀ (k : Nat) (y : Nd), ns[k]? = some y → J[1 + 2 * (i + k)]? = some (some (.lst (y.tx.map D.str))) ∧ J[2 + 2 * (i + k)]? = some (some (.lst (y.kd.map fun (k : Nat) => D.int (k : Int))))) : FzAll n J (nent n i ns) (ns.map Nd.d) := by
  induction ns generalizing i with
  | nil => exact .nil
  | cons y r ih =>
    obtain ⟨q1, q2⟩ := h 0 y rfl
    have a1 : FzAll n J (y.tx.map D.str) (y.tx.map D.str) := FzAll.same _ (hbs_all.mpr fun d hd => by obtain ⟨x, _, rfl⟩ := List.mem_map.mp hd; rfl)
    have a2 : FzAll n J (y.kd.map fun (k : Nat) => D.int (k : Int)) (y.kd.map fun (k : Nat) => D.int (k : Int)) := FzAll.same _ (hbs_all.mpr fun d hd => by obtain ⟨x, _, rfl⟩ := List.mem_map.mp hd; rfl)
    refine .cons (.tup (.cons (.str _) (.cons (.cell q1 a1) (.cons (.cell q2 a2) (.cons (.int _) .nil))))) (ih (i + 1) fun k y hk => ?_)
    have := h (k + 1) y hk
    rw [show i + 1 + k = i + (k + 1) by omega]
    exact this
theorem okFrom_dOk : ∀ (ss : List Sg) (z : Zp), okFrom z ss = true → dOk z.st.length ss = true
  | [], _, _ => rfl
  | s :: r, z, h => by
    obtain ⟨h1, h2⟩ := okFrom_cons h
    have ih := okFrom_dOk r (z.step s) h2
    obtain ⟨bot, st⟩ := z
    cases s with
    | op n => simpa [dOk, dCan, dStep, Zp.step] using ih
    | tx m =>
      cases st with
      | nil => simp [Zp.can, canCome] at h1
      | cons p r => obtain ⟨p1, p2⟩ := p; simpa [dOk, dCan, dStep, Zp.step, addSt] using ih
    | cl =>
      cases st with
      | nil => simp [Zp.can, canCome] at h1
      | cons p r =>
        obtain ⟨p1, p2⟩ := p
        have e : (addSt (Fo.el p1 p2 .nil) r).length = r.length := by cases r <;> simp [addSt]
        simpa [dOk, dCan, dStep, Zp.step, e] using ih
def nodesD (ss : List Sg) : D := .lst ((nodesL ss).map Nd.d)
noncomputable def fn_law_nodes : Fn := fnOf (fun ss : List Sg => [sgs ss]) (fun ss => dOk 0 ss = true ∧ ss.length ≤ 900000) fun ss S => .ok (nodesD ss) S
theorem nodes_eq {ss : List Sg} (ho : dOk 0 ss = true) (hz : ss.length ≤ 900000) (S : Sto) : fn_law_nodes [.lst (ss.map Sg.d)] S = .ok (nodesD ss) S := fnOf_eq (a := ss) sgs_inj ⟨ho, hz⟩
theorem ref_law_nodes (ds : List D) (S : Sto) : Ref S (fn_law_nodes ds S) (runB 4 b_law_nodes ds S) := by
  refine fnOf_ref (fun ss S ⟨ho, hz⟩ => ?_) ds S
  obtain ⟨b', he⟩ := nodes_loop (S := S) (x := some (sgs ss)) ss nz0 0 0 none .base ho (by simp [nz0]) (by simp [nz0]) (by omega)
  refine Ref.ok (v2 := .cell (S.length + 0)) (S2 := S ++ nJ S.length (nodesL ss)) ?_ (Cl.fz (e := nodesD ss) (.cell (ds := nent S.length 0 (nodesL ss)) rfl ?_))
  · have g3 : b_law_nodes_s3 [some (sgs ss), some (.cell S.length), some (.int (-1)), none] (S ++ [some (.lst [])]) = .nx [some (sgs ss), some (.cell S.length), some (.int (nz0.run ss).at_), b'] (S ++ nJ S.length (nodesL ss)) := by
      simp [nJ, nz0, nent, ncel, sgs] at he
      simp [b_law_nodes_s3, sgs, he, nodesL, nJ, nz0]
    simp [runB, b_law_nodes, b_law_nodes_s1, b_law_nodes_s2, g3, b_law_nodes_s7]
  · refine nent_fz _ _ 0 _ fun k y hk => ?_
    obtain ⟨q1, q2⟩ := ncel_tx k _ y hk
    rw [Nat.zero_add]
    exact ⟨by rw [Nat.add_comm 1]; exact q1, by rw [show 2 + 2 * k = (2 * k + 1) + 1 by omega]; exact q2⟩
/-- so many nodes as parts have been opened -/
theorem run_ns_len : ∀ (ss : List Sg) (z : Nz), (z.run ss).ns.length = z.ns.length + opens ss
  | [], z => by simp [Nz.run, opens]
  | s :: r, z => by
    have ih := run_ns_len r (z.step s)
    have e : (z.run (s :: r)) = (z.step s).run r := rfl
    rw [e, ih]
    cases s with
    | op n =>
      have : (z.step (.op n)).ns.length = z.ns.length + 1 := by
        simp only [Nz.step]
        cases z.at_ <;> simp
      rw [this]
      simp [opens]
      omega
    | tx m => simp [Nz.step, opens]
    | cl => simp [Nz.step, opens]
end Ev

/-! comparing signs and papers -/
namespace Ev
open PySem PySem.Spec PyProof.Rows L2
mutual
/-- data of texts, whole numbers, rows -/
def plD : PyData → Bool
  | .none => true
  | .int _ => true
  | .str _ => true
  | .tuple ps => plDs ps
  | .list ps => plDs ps
  | _ => false
def plDs : List PyData → Bool
  | [] => true
  | p :: r => plD p && plDs r
end
mutual
theorem eqv_pl : ∀ (p q : PyData), plD p = true → plD q = true → (PyData.eqv p q = true ↔ p = q)
  | p, q, hp, hq => by
    cases p <;> cases q <;> simp only [plD, Bool.false_eq_true] at hp hq <;> simp [PyData.eqv]
    · exact eqv_pls _ _ hp hq
    · exact eqv_pls _ _ hp hq
theorem eqv_pls : ∀ (ps qs : List PyData), plDs ps = true → plDs qs = true → (PyData.eqvAll ps qs = true ↔ ps = qs)
  | [], [], _, _ => by simp [PyData.eqvAll]
  | [], _ :: _, _, _ => by simp [PyData.eqvAll]
  | _ :: _, [], _, _ => by simp [PyData.eqvAll]
  | p :: r, q :: s, hp, hq => by
    simp only [plDs, Bool.and_eq_true] at hp hq
    simp only [PyData.eqvAll, Bool.and_eq_true, List.cons.injEq]
    rw [eqv_pl p q hp.1 hq.1, eqv_pls r s hp.2 hq.2]
end
theorem gEq_of {S : Sto} {x y : D} {p q : PyData} (hx : py S 200 x = some p) (hy : py S 200 y = some q) (lp : plD p = true) (lq : plD q = true) : ∃ b, gEq x y S = .ok (.bl b) S ∧ (b = true ↔ p = q) := ⟨PyData.eqv p q, by simp [gEq, hx, hy], eqv_pl p q lp lq⟩
theorem gEq_same {S : Sto} {x y : D} {p : PyData} (hx : py S 200 x = some p) (hy : py S 200 y = some p) (lp : plD p = true) : gEq x y S = .ok (.bl true) S ∧ gNe x y S = .ok (.bl false) S := by
  have := (eqv_pl p p lp lp).mpr rfl
  constructor
  · simp [gEq, hx, hy, this]
  · simp [gNe, hx, hy, this]
theorem Sg.pl (s : Sg) : plD s.pyd = true := by cases s <;> simp [Sg.pyd, plD, plDs]
theorem plDs_map {α : Type} {f : α → PyData} {xs : List α} (h : ∀ x ∈ xs, plD (f x) = true) : plDs (xs.map f) = true := by
  induction xs with
  | nil => rfl
  | cons x r ih =>
    simp only [List.map_cons, plDs, Bool.and_eq_true]
    exact ⟨h x (by simp), ih fun y hy => h y (by simp [hy])⟩
theorem sgs_pl (ss : List Sg) : plD (.list (ss.map Sg.pyd)) = true := by simp only [plD]; exact plDs_map fun s _ => s.pl
theorem sgs_py200 {ss : List Sg} (h : ∀ s ∈ ss, s.ok) (S : Sto) : py S 200 (sgs ss) = some (.list (ss.map Sg.pyd)) := by
  simp only [sgs, py, sgs_py h S 198, Option.map_some]
theorem sgs_py_cell {ss : List Sg} (h : ∀ s ∈ ss, s.ok) {S : Sto} {k : Nat} (hk : S[k]? = some (some (.lst (ss.map Sg.d)))) : py S 200 (.cell k) = some (.list (ss.map Sg.pyd)) := by
  simp only [py, hk, sgs_py h S 198, Option.map_some]
/-! papers -/
def Fo.ps : Fo → List PyData
  | .nil => []
  | .tx s r => .str s :: r.ps
  | .el n k r => .tuple [.str n, .list k.ps] :: r.ps
def Pt.pyd : Pt → PyData
  | .tx s => .str s
  | .el n k => .tuple [.str n, .list k.ps]
theorem Fo.pl : ∀ f : Fo, plDs f.ps = true
  | .nil => rfl
  | .tx s r => by simp [Fo.ps, plDs, plD, Fo.pl r]
  | .el n k r => by simp [Fo.ps, plDs, plD, Fo.pl r, Fo.pl k]
theorem Pt.pl (p : Pt) : plD p.pyd = true := by cases p <;> simp [Pt.pyd, plD, plDs, Fo.pl]
theorem Fo.py_ps : ∀ (f : Fo) (S : Sto) (n : Nat), (∀ s ∈ f.sg, s.ok) → 2 * f.dp ≤ n → omap (py S n) f.ds = some f.ps
  | .nil, S, n, _, _ => rfl
  | .tx s r, S, n, h, hd => by
    simp only [Fo.dp] at hd
    have h1 : PyData.strOk s = true := h (.tx s) (by simp [Fo.sg])
    have ih := Fo.py_ps r S n (fun x hx => h x (by simp [Fo.sg, hx])) (by omega)
    cases n <;> simp [Fo.ds, omap, py, h1, ih, Fo.ps]
  | .el m k r, S, n, h, hd => by
    simp only [Fo.dp] at hd
    have h1 : PyData.strOk m = true := h (.op m) (by simp [Fo.sg])
    have ih := Fo.py_ps r S n (fun x hx => h x (by simp [Fo.sg, hx])) (by omega)
    obtain ⟨n2, rfl⟩ : ∃ n2, n = n2 + 2 := ⟨n - 2, by omega⟩
    have ih2 := Fo.py_ps k S n2 (fun x hx => h x (by simp [Fo.sg, hx])) (by omega)
    simp [Fo.ds, omap, py, h1, ih, ih2, Fo.ps]
theorem Pt.py_pd (p : Pt) (S : Sto) (h : ∀ s ∈ p.sg, s.ok) (hd : p.dp ≤ 90) : py S 200 p.d = some p.pyd := by
  cases p with
  | tx s =>
    have h1 : PyData.strOk s = true := h (.tx s) (by simp [Pt.sg])
    simp [Pt.d, py, h1, Pt.pyd]
  | el n k =>
    simp only [Pt.dp] at hd
    have h1 : PyData.strOk n = true := h (.op n) (by simp [Pt.sg])
    have ih2 := Fo.py_ps k S 198 (fun x hx => h x (by simp [Pt.sg, hx])) (by omega)
    simp [Pt.d, py, omap, h1, ih2, Pt.pyd]
theorem sg_append_opens (a b : List Sg) : opens (a ++ b) = opens a + opens b := by simp [opens]
theorem Fo.dp_opens : ∀ f : Fo, f.dp ≤ opens f.sg + 1
  | .nil => by simp [Fo.dp]
  | .tx s r => by have := Fo.dp_opens r; simp [Fo.dp, Fo.sg, opens] at this ⊢; omega
  | .el n k r => by
    have h1 := Fo.dp_opens k
    have h2 := Fo.dp_opens r
    have e : opens (Fo.el n k r).sg = 1 + opens k.sg + opens r.sg := by simp [Fo.sg, opens]; omega
    rw [e]; simp only [Fo.dp]; omega
theorem Pt.dp_opens (p : Pt) : p.dp ≤ opens p.sg + 1 := by
  cases p with
  | tx s => simp [Pt.dp]
  | el n k =>
    have h1 := Fo.dp_opens k
    have e : opens (Pt.el n k).sg = 1 + opens k.sg := by simp [Pt.sg, opens]; omega
    rw [e]; simp only [Pt.dp]; omega
theorem Fo.many_opens : ∀ f : Fo, f.many = opens f.sg
  | .nil => rfl
  | .tx s r => by have := Fo.many_opens r; simp [Fo.many, Fo.sg, opens] at this ⊢; omega
  | .el n k r => by
    have h1 := Fo.many_opens k
    have h2 := Fo.many_opens r
    have e : opens (Fo.el n k r).sg = 1 + opens k.sg + opens r.sg := by simp [Fo.sg, opens]; omega
    rw [e]; simp only [Fo.many]; omega
theorem Pt.many_opens (p : Pt) : p.many = opens p.sg := by
  cases p with
  | tx s => rfl
  | el n k =>
    have h1 := Fo.many_opens k
    have e : opens (Pt.el n k).sg = 1 + opens k.sg := by simp [Pt.sg, opens]; omega
    rw [e]; simp only [Pt.many]; omega
/-! the signs that have made a paper -/
def stSg : List (Str × Fo) → List Sg
  | [] => []
  | (n, f) :: r => stSg r ++ .op n :: f.sg
def Zp.sg (z : Zp) : List Sg := z.bot.sg ++ stSg z.st
theorem Zp.step_sg {z : Zp} {s : Sg} (h : z.one) (hc : z.can s = true) : (z.step s).sg = z.sg ++ [s] := by
  obtain ⟨bot, st⟩ := z
  cases s with
  | op n => simp [Zp.step, Zp.sg, stSg, Fo.sg]
  | tx m =>
    cases st with
    | nil => simp [Zp.can, canCome] at hc
    | cons p r =>
      obtain ⟨n, f⟩ := p
      simp [Zp.step, Zp.sg, stSg, addSt, Fo.app_sg, Fo.sg]
  | cl =>
    cases st with
    | nil => simp [Zp.can, canCome] at hc
    | cons p r =>
      obtain ⟨n, f⟩ := p
      cases r with
      | nil => simp [Zp.step, Zp.sg, stSg, addSt, addBot, Fo.app_sg, Fo.sg]
      | cons q r =>
        obtain ⟨n2, f2⟩ := q
        simp [Zp.step, Zp.sg, stSg, addSt, addBot, Fo.app_sg, Fo.sg]
theorem Zp.run_sg : ∀ (ss : List Sg) (z : Zp), z.one → okFrom z ss = true → (z.run ss).sg = z.sg ++ ss
  | [], z, _, _ => by simp [Zp.run]
  | s :: r, z, h, ho => by
    obtain ⟨h1, h2⟩ := okFrom_cons ho
    have e : z.run (s :: r) = (z.step s).run r := rfl
    rw [e, Zp.run_sg r _ (Zp.one_step h h1).1 h2, Zp.step_sg h h1]
    simp
theorem run_dep : ∀ (ss : List Sg) (z : Zp), okFrom z ss = true → (z.run ss).st.length + closes ss = z.st.length + opens ss
  | [], z, _ => by simp [Zp.run, closes, opens]
  | s :: r, z, ho => by
    obtain ⟨h1, h2⟩ := okFrom_cons ho
    have ih := run_dep r (z.step s) h2
    have e : z.run (s :: r) = (z.step s).run r := rfl
    rw [e]
    obtain ⟨bot, st⟩ := z
    cases s with
    | op n => simp [Zp.step, closes, opens] at ih ⊢; omega
    | tx m =>
      cases st with
      | nil => simp [Zp.can, canCome] at h1
      | cons p r => obtain ⟨p1, p2⟩ := p; simp [Zp.step, addSt, closes, opens] at ih ⊢; omega
    | cl =>
      cases st with
      | nil => simp [Zp.can, canCome] at h1
      | cons p r =>
        obtain ⟨p1, p2⟩ := p
        have e : (addSt (Fo.el p1 p2 .nil) r).length = r.length := by cases r <;> simp [addSt]
        simp [Zp.step, e, closes, opens] at ih ⊢; omega
/-- closing all that is open -/
theorem run_close : ∀ (d : Nat) (z : Zp), z.st.length = d → okFrom z (List.replicate d .cl) = true ∧ (z.run (List.replicate d .cl)).st = []
  | 0, z, h => ⟨rfl, List.length_eq_zero_iff.mp h⟩
  | d + 1, z, h => by
    obtain ⟨bot, st⟩ := z
    cases st with
    | nil => simp at h
    | cons p r =>
      obtain ⟨n, f⟩ := p
      have e : (addSt (Fo.el n f .nil) r).length = r.length := by cases r <;> simp [addSt]
      have ih := run_close d (Zp.step ⟨bot, (n, f) :: r⟩ .cl) (by simp [Zp.step, e] at h ⊢; exact h)
      rw [List.replicate_succ]
      refine ⟨?_, ih.2⟩
      simp only [okFrom, ih.1, Bool.and_true]
      simp [Zp.can, canCome]
/-- a whole row of signs is the signs of its paper -/
theorem stump_whole {ss : List Sg} (hn : ss ≠ []) (ho : okFrom z0 ss = true) (hst : (z0.run ss).st = []) : (stumpP ss).sg = ss := by
  have hsg := Zp.run_sg ss z0 (.inl rfl) ho
  have hsg0 : z0.sg = [] := rfl
  rw [hsg0, List.nil_append] at hsg
  obtain ⟨n, k, e1, e2⟩ := stumpP_all hn ho
  rw [e1]
  have hb : (z0.run ss).bot = .el n k .nil := by
    have : (z0.run ss).all = (z0.run ss).bot := by
      simp only [Zp.all, hst, upF, Fo.app_nil]
    rw [← this, e2]
  rw [← hsg]
  simp [Zp.sg, hst, stSg, hb, Pt.sg, Fo.sg]
/-- the drawn signs, all closed -/
noncomputable def closed (ss : List Sg) : List Sg := ss ++ List.replicate (z0.run ss).st.length .cl
theorem closed_ok {ss : List Sg} (hn : ss ≠ []) (ho : okFrom z0 ss = true) : closed ss ≠ [] ∧ okFrom z0 (closed ss) = true ∧ (stumpP (closed ss)).sg = closed ss := by
  obtain ⟨h1, h2⟩ := run_close _ (z0.run ss) rfl
  have ho' : okFrom z0 (closed ss) = true := by unfold closed; rw [okFrom_app, ho, h1]; rfl
  have hn' : closed ss ≠ [] := by unfold closed; simp [hn]
  exact ⟨hn', ho', stump_whole hn' ho' (by unfold closed; rw [run_app]; exact h2)⟩
theorem Zp.step_all {z : Zp} (h : z.st ≠ []) : (z.step .cl).all = z.all := by
  obtain ⟨bot, st⟩ := z
  cases st with
  | nil => exact absurd rfl h
  | cons p r =>
    obtain ⟨n, f⟩ := p
    cases r with
    | nil => simp [Zp.step, Zp.all, upF, addSt, addBot, Fo.app_nil]
    | cons q r =>
      obtain ⟨m, g⟩ := q
      simp [Zp.step, Zp.all, upF, addSt, addBot, Fo.app_nil]
theorem Zp.close_all : ∀ (d : Nat) (z : Zp), z.st.length = d → (z.run (List.replicate d .cl)).all = z.all
  | 0, z, h => rfl
  | d + 1, z, h => by
    have hne : z.st ≠ [] := fun e => by rw [e] at h; cases h
    have hl : (z.step .cl).st.length = d := by
      obtain ⟨bot, st⟩ := z
      cases st with
      | nil => exact absurd rfl hne
      | cons p r =>
        obtain ⟨n, f⟩ := p
        have e : (addSt (Fo.el n f .nil) r).length = r.length := by cases r <;> simp [addSt]
        simp [Zp.step, e] at h ⊢; exact h
    rw [List.replicate_succ]
    have e : z.run (.cl :: List.replicate d .cl) = (z.step .cl).run (List.replicate d .cl) := rfl
    rw [e, Zp.close_all d _ hl, Zp.step_all hne]
/-- closing what is open makes the same paper -/
theorem stump_closed {ss : List Sg} (hn : ss ≠ []) (ho : okFrom z0 ss = true) : stumpP (closed ss) = stumpP ss ∧ (stumpP ss).sg = closed ss := by
  have e : stumpP (closed ss) = stumpP ss := by
    unfold stumpP closed
    rw [run_app, Zp.close_all _ _ rfl]
  exact ⟨e, by rw [← e]; exact (closed_ok hn ho).2.2⟩
end Ev

/-! the law's own word on the first sign that cannot come -/
namespace Ev
open PySem PySem.Spec PyProof.Rows L2
noncomputable def b_law_first_wrong_s1 : Sx :=
      (sAsg 1 (eC (.int 0)))
noncomputable def b_law_first_wrong_l1 : Sx :=
      (sSeq (sIf (tAnd (tTst (op2 gEq (eVar 1) (eC (.int 0)))) (tOr (tTst (op2 gGt (eVar 2) (eC (.int 0)))) (tTst (op2 gNe (op2 gIdx (eVar 3) (eC (.int 0))) (eC (.str "open")))))) (sRet (eVar 2)) sNil)
      (sAsg 1 (op2 gSub (op2 gSub (op2 gAdd (eVar 1) (eC (.int 1))) (op2 gMul (eC (.int 2)) (eCall gInt (aCons (op2 gEq (op2 gIdx (eVar 3) (eC (.int 0))) (eC (.str "close"))) aNil)))) (eCall gInt (aCons (op2 gEq (op2 gIdx (eVar 3) (eC (.int 0))) (eC (.str "text"))) aNil)))))
noncomputable def b_law_first_wrong_s2 : Sx :=
      (sFor (iEnum (eVar 0)) (hTup 2 (hCons (hName 2) (hCons (hName 3) hNil))) (b_law_first_wrong_l1))
noncomputable def b_law_first_wrong_s3 : Sx :=
      (sRet (eC .non))
noncomputable def b_law_first_wrong : Sx :=
      (sSeq (b_law_first_wrong_s1)
      (sSeq (b_law_first_wrong_s2)
      (b_law_first_wrong_s3)))
theorem Zp.can_eq (z : Zp) (s : Sg) : z.can s = !(decide ((z.st.length : Int) = 0) && (z.begun || match s with | .op _ => false | _ => true)) := by
  have h : decide ((0 : Int) < (z.st.length : Int)) = !decide ((z.st.length : Int) = 0) := by
    by_cases e : z.st.length = 0 <;> simp [e] <;> omega
  cases s with
  | op n => simp only [Zp.can, canCome, h]; cases decide ((z.st.length : Int) = 0) <;> cases z.begun <;> rfl
  | tx n => simp only [Zp.can, canCome, h]; cases decide ((z.st.length : Int) = 0) <;> cases z.begun <;> rfl
  | cl => simp only [Zp.can, canCome, h]; cases decide ((z.st.length : Int) = 0) <;> cases z.begun <;> rfl
theorem Zp.begun_step {z : Zp} {s : Sg} (hc : z.can s = true) (h : z.begun = true ∨ z = z0) : (z.step s).begun = true := by
  obtain ⟨bot, st⟩ := z
  cases s with
  | op n => cases bot <;> rfl
  | tx n =>
    cases st with
    | nil => simp [Zp.can, canCome] at hc
    | cons p r => cases bot <;> rfl
  | cl =>
    cases st with
    | nil => simp [Zp.can, canCome] at hc
    | cons p r =>
      obtain ⟨n, f⟩ := p
      cases r with
      | nil => cases bot <;> rfl
      | cons q r => obtain ⟨q1, q2⟩ := q; cases bot <;> rfl
def Sg.dz : Sg → Int
  | .op _ => 1
  | .tx _ => 0
  | .cl => -1
theorem Zp.dep_step {z : Zp} {s : Sg} (hc : z.can s = true) : ((z.step s).st.length : Int) = (z.st.length : Int) + s.dz := by
  have := run_dep [s] z (by simp [okFrom, hc])
  cases s <;> simp [Zp.run, closes, opens, Sg.dz] at this ⊢ <;> omega
theorem nOO (S : Sto) : gNe (.str "open") (.str "open") S = .ok (.bl false) S := by simp [gNe_str (show PyData.strOk "open" = true by decide +kernel) (show PyData.strOk "open" = true by decide +kernel)]
theorem nTO (S : Sto) : gNe (.str "text") (.str "open") S = .ok (.bl true) S := by simp [gNe_str (show PyData.strOk "text" = true by decide +kernel) (show PyData.strOk "open" = true by decide +kernel)]
theorem nCO (S : Sto) : gNe (.str "close") (.str "open") S = .ok (.bl true) S := by simp [gNe_str (show PyData.strOk "close" = true by decide +kernel) (show PyData.strOk "open" = true by decide +kernel)]
theorem first_loop {S : Sto} {x : Option D} : ∀ (ss : List Sg) (z : Zp) (k : Nat) (a b : Option D), (z.begun = decide (0 < k)) → (z.begun = true ∨ z = z0) → k + ss.length ≤ 1000000 → z.st.length ≤ k →
    match firstW z k ss with
    | some i => forL still (hTup 2 (hCons (hName 2) (hCons (hName 3) hNil))) b_law_first_wrong_l1 (pairsFrom k (ss.map Sg.d)) [x, some (.int (z.st.length : Int)), a, b] S = .rt (.int (i : Int)) S
    | none => ∃ d' a' b', forL still (hTup 2 (hCons (hName 2) (hCons (hName 3) hNil))) b_law_first_wrong_l1 (pairsFrom k (ss.map Sg.d)) [x, some (.int (z.st.length : Int)), a, b] S = .nx [x, d', a', b'] S
  | [], z, k, a, b, _, _, _, _ => ⟨some (.int (z.st.length : Int)), a, b, by simp [pairsFrom]⟩
  | s :: r, z, k, a, b, hb, hz, hl, hd => by
    simp only [List.length_cons] at hl
    have hk : decide ((0 : Int) < (k : Int)) = z.begun := by rw [hb]; simp
    by_cases hc : z.can s = true
    · have hbs := Zp.begun_step hc hz
      have hds := Zp.dep_step hc
      have hle : (z.step s).st.length ≤ k + 1 := by
        cases s <;> simp only [Sg.dz] at hds <;> omega
      have ih := first_loop (x := x) (S := S) r (z.step s) (k + 1) (some (.int (k : Int))) (some s.d) (by rw [hbs]; simp) (.inl hbs) (by omega) hle
      have hf : firstW z k (s :: r) = firstW (z.step s) (k + 1) r := by rw [firstW, if_pos hc]
      rw [hf]
      have hcc := z.can_eq s
      rw [hc] at hcc
      have e : b_law_first_wrong_l1 [x, some (.int (z.st.length : Int)), some (.int (k : Int)), some s.d] S = .nx [x, some (.int ((z.step s).st.length : Int)), some (.int (k : Int)), some s.d] S := by
        rw [hds]
        cases s with
        | op n =>
          cases h0 : decide ((z.st.length : Int) = 0) <;> rw [h0] at hcc <;> cases hbb : z.begun <;> rw [hbb] at hcc hk <;> simp at hcc h0 hk <;> simp [b_law_first_wrong_l1, Sg.d, Sg.dz, nOO, nTO, nCO, h0, hk]
        | tx n =>
          cases h0 : decide ((z.st.length : Int) = 0) <;> rw [h0] at hcc <;> cases hbb : z.begun <;> rw [hbb] at hcc hk <;> simp at hcc h0 hk <;> simp [b_law_first_wrong_l1, Sg.d, Sg.dz, nOO, nTO, nCO, h0, hk]
        | cl =>
          cases h0 : decide ((z.st.length : Int) = 0) <;> rw [h0] at hcc <;> cases hbb : z.begun <;> rw [hbb] at hcc hk <;> simp at hcc h0 hk <;> simp [b_law_first_wrong_l1, Sg.d, Sg.dz, nOO, nTO, nCO, h0, hk] <;> omega
      cases hw : firstW (z.step s) (k + 1) r with
      | none =>
        rw [hw] at ih
        obtain ⟨d', a', b', ih⟩ := ih
        exact ⟨d', a', b', by simp [pairsFrom, e, ih]⟩
      | some i =>
        rw [hw] at ih
        simp only at ih ⊢
        simp [pairsFrom, e, ih]
    · have hf : firstW z k (s :: r) = some k := by rw [firstW, if_neg hc]
      rw [hf]
      simp only
      have hcc := z.can_eq s
      have hc : z.can s = false := by simpa using hc
      rw [hc] at hcc
      have e : b_law_first_wrong_l1 [x, some (.int (z.st.length : Int)), some (.int (k : Int)), some s.d] S = .rt (.int (k : Int)) S := by
        cases s with
        | op n =>
          cases h0 : decide ((z.st.length : Int) = 0) <;> rw [h0] at hcc <;> cases hbb : z.begun <;> rw [hbb] at hcc hk <;> simp at hcc h0 hk <;> simp [b_law_first_wrong_l1, Sg.d, Sg.dz, nOO, nTO, nCO, h0, hk]
        | tx n =>
          cases h0 : decide ((z.st.length : Int) = 0) <;> rw [h0] at hcc <;> cases hbb : z.begun <;> rw [hbb] at hcc hk <;> simp at hcc h0 hk <;> simp [b_law_first_wrong_l1, Sg.d, Sg.dz, nOO, nTO, nCO, h0, hk]
        | cl =>
          cases h0 : decide ((z.st.length : Int) = 0) <;> rw [h0] at hcc <;> cases hbb : z.begun <;> rw [hbb] at hcc hk <;> simp at hcc h0 hk <;> simp [b_law_first_wrong_l1, Sg.d, Sg.dz, nOO, nTO, nCO, h0, hk]
      simp [pairsFrom, e]
noncomputable def fn_law_first_wrong : Fn := fnOf (fun ss : List Sg => [sgs ss]) (fun ss => ss.length ≤ 900000) fun ss S => .ok (match firstW z0 0 ss with | some i => .int (i : Int) | none => .non) S
theorem first_wrong_eq {ss : List Sg} (hz : ss.length ≤ 900000) (S : Sto) : fn_law_first_wrong [.lst (ss.map Sg.d)] S = .ok (match firstW z0 0 ss with | some i => .int (i : Int) | none => .non) S := fnOf_eq (a := ss) sgs_inj hz
theorem ref_law_first_wrong (ds : List D) (S : Sto) : Ref S (fn_law_first_wrong ds S) (runB 4 b_law_first_wrong ds S) := by
  refine fnOf_ref (fun ss S hz => ?_) ds S
  have h := first_loop (S := S) (x := some (sgs ss)) ss z0 0 none none rfl (.inr rfl) (by omega) (Nat.le_refl _)
  cases hw : firstW z0 0 ss with
  | none =>
    rw [hw] at h
    obtain ⟨d', a', b', h⟩ := h
    simp [sgs, z0] at h
    refine Ref.self ?_
    simp [runB, b_law_first_wrong, b_law_first_wrong_s1, b_law_first_wrong_s2, b_law_first_wrong_s3, sgs, h]
  | some i =>
    rw [hw] at h
    simp [sgs, z0] at h
    refine Ref.self ?_
    simp [runB, b_law_first_wrong, b_law_first_wrong_s1, b_law_first_wrong_s2, b_law_first_wrong_s3, sgs, h]
end Ev

/-! Ev, the rules, part 8: own classes: fields, methods, new instances. -/
namespace Ev
open PySem PySem.Spec PyProof.Rows L2
/-- a field's new value -/
def putD (f : Str) (d : D) : List (Str × D) → List (Str × D)
  | [] => [(f, d)]
  | (g, x) :: r => if g = f then (g, d) :: r else (g, x) :: putD f d r
section
variable {K : PySem.W.Frag} {μ : List Addr} {G : Hp}
theorem FR.look {fs : List (Str × D)} {fv : List (Str × V)} (h : FR K μ G fs fv) {f : Str} {d : D} (e : fs.lookup f = some d) : ∃ v, fv.lookup f = some v ∧ VR K μ G d v := by
  induction h with
  | nil => cases e
  | cons a b ih =>
    rename_i x d0 v0 fs fv
    rw [List.lookup_cons] at e ⊢
    cases hb : (f == x) with
    | true => rw [hb] at e; simp only at e; cases e; exact ⟨v0, rfl, a⟩
    | false => rw [hb] at e; simp only at e; exact ih e
theorem FR.look0 {fs : List (Str × D)} {fv : List (Str × V)} (h : FR K μ G fs fv) {f : Str} (e : fs.lookup f = none) : fv.lookup f = none := by
  induction h with
  | nil => rfl
  | cons a b ih =>
    rename_i x d0 v0 fs fv
    rw [List.lookup_cons] at e ⊢
    cases hb : (f == x) with
    | true => rw [hb] at e; cases e
    | false => rw [hb] at e; simp only at e; exact ih e
theorem FR.put {fs : List (Str × D)} {fv : List (Str × V)} (h : FR K μ G fs fv) {f : Str} {d : D} {v : V} (r : VR K μ G d v) : FR K μ G (putD f d fs) (putF f v fv) := by
  induction h with
  | nil => exact .cons r .nil
  | cons a b ih =>
    rename_i x d0 v0 fs fv
    unfold putD putF
    split
    · exact .cons r b
    · exact .cons a ih
theorem FR.len {fs : List (Str × D)} {fv : List (Str × V)} (h : FR K μ G fs fv) : fs.length = fv.length := by
  induction h with
  | nil => rfl
  | cons _ _ ih => simp [ih]
end
/-- the fields of the instance that d stands for -/
def insOf (c : Nat) (d : D) (S : Sto) : Option (Nat × List (Str × D)) := match d with
  | .cell k => (match S[k]? with
    | some (some (.ins c' fs)) => if c' = c then some (k, fs) else none
    | _ => none)
  | _ => none
def gFld (c : Nat) (f : Str) (d : D) (S : Sto) : R D := match insOf c d S with
  | some (_, fs) => (match fs.lookup f with
    | some v => .ok v S
    | none => .no)
  | none => .no
def eFld (c : Nat) (f : Str) (o : Ex) : Ex := fun σ S => (o σ S).bind fun d S1 => gFld c f d S1
def sFld (c : Nat) (f : Str) (o e : Ex) : Sx := fun σ S => SO.of (e σ S) σ fun v S1 => SO.of (o σ S1) σ fun d S2 => match insOf c d S2 with
  | some (k, fs) => if fs.length < 1000 then .nx σ (S2.set k (some (.ins c (putD f v fs)))) else .no
  | none => .no
/-- o.f += e, of whole numbers -/
def sFldAug (c : Nat) (f : Str) (o e : Ex) : Sx := fun σ S => SO.of (o σ S) σ fun d S1 => match insOf c d S1 with
  | some (_, fs) => (match fs.lookup f with
    | some (.int i) => SO.of (e σ S1) σ fun y S2 => (match y, insOf c d S2 with
      | .int j, some (k, fs2) => if fs2.length < 1000 then .nx σ (S2.set k (some (.ins c (putD f (.int (i + j)) fs2)))) else .no
      | _, _ => .no)
    | _ => .no)
  | none => .no
def eMet (c : Nat) (m : Str) (n : Nat) (fn : Fn) (o : Ex) (a : Ax) : Ex := fun σ S => (o σ S).bind fun d S1 => match insOf c d S1 with
  | some (_, fs) => if fs.lookup m = none then (a σ S1).bind fun ds S2 => (if ds.length + 1 = n then fn (d :: ds) S2 else .no) else .no
  | none => .no
def eMake (c n : Nat) (fn : Fn) (a : Ax) : Ex := fun σ S => (a σ S).bind fun ds S1 => if ds.length + 1 = n then ((fn (.cell S1.length :: ds) (S1 ++ [some (.ins c [])])).bind fun v S2 => match v with
  | .non => .ok (.cell S1.length) S2
  | _ => .no) else .no
section
variable {Γ : Gm} {F : Hp} {μ : List Addr} {G H : Hp} {S : Sto}
theorem ins_ok (t : Sit Γ F μ G H S) {c k : Nat} {d : D} {v : V} {fs : List (Str × D)} (r : VR Γ.K μ G d v) (h : insOf c d S = some (k, fs)) : ∃ a dx fv, d = .cell k ∧ S[k]? = some (some (.ins c fs)) ∧ v = .ref a ∧ μ[k]? = some a ∧ H a = some (.ins (Γ.ca c) dx fv) ∧ FR Γ.K μ G fs fv := by
  unfold insOf at h
  split at h
  · split at h
    · split at h
      · rename_i k0 c0 fs0 hk hc
        cases h
        subst hc
        obtain ⟨a, ha, dx, fv, h1, h2⟩ := t.at_ _ _ hk
        cases r with
        | cell e => rw [ha] at e; cases e; exact ⟨a, dx, fv, rfl, hk, rfl, ha, h1, h2⟩
      · cases h
    · cases h
  · cases h
/-- a field is written -/
theorem Sit.putF (t : Sit Γ F μ G H S) {c k : Nat} {fs : List (Str × D)} {a dx : Addr} {fv : List (Str × V)} {f : Str} {d : D} {v : V} (hk : S[k]? = some (some (.ins c fs))) (ha : μ[k]? = some a) (hf : FR Γ.K μ G fs fv) (r : VR Γ.K μ G d v) :
    Sit Γ F μ G (upd H a (.ins (Γ.ca c) dx (L2.putF f v fv))) (S.set k (some (.ins c (putD f d fs)))) :=
  t.write (.ins c (putD f d fs)) hk ha (fun b hb => upd_ne hb) ⟨dx, _, upd_same, hf.put r⟩
end
section
variable {X : Cx} {Γ : Gm} {W : WX} {e o : Expr} {es : List Expr} {f fo fv : Ex} {fs : Ax} {p pos pos' apos cpos tpos : Pos} {x m g : Str} {c n k j : Nat} {fn : Fn} {ps : List Str}
theorem ve_fld (hc : Cls X.K (Γ.ca c)) (hn : NoAttr X.K (Γ.ca c) g) (ho : VE X Γ W o fo) (hb : attributeBase o g X.env (eval o X.env) = eval o X.env := by rfl) : VE X Γ W (.Attribute o g pos) (eFld c g fo) := by
  refine PE.imp (pe_fld ho hb) fun σv H Q ⟨F, μ, G, σ, S, hσ, hs, h⟩ => ?_
  refine tOf.at hσ hs (Wp.bind h) fun v μ1 G1 H1 S1 vv l s t r q => ?_
  unfold gFld at q
  split at q
  · rename_i k fs hi
    split at q
    · rename_i d hd
      obtain ⟨a, dx, fv, _, _, rfl, ha, h1, h2⟩ := ins_ok t r hi
      obtain ⟨u, e1, r1⟩ := h2.look hd
      exact ⟨a, _, dx, fv, u, rfl, h1, hc, hn, e1, q _ _ _ (Le.refl _) (Same.refl _) t _ r1⟩
    · exact q.elim
  · exact q.elim
theorem vs_fld (hc : Cls X.K (Γ.ca c)) (hn : NoAttr X.K (Γ.ca c) g) (ho : VE X Γ W o fo) (hv : VE X Γ W e f) (hs : swapsWith e (some (.Attribute o g pos')) pos.line X.env = pure false := by rfl) : VS X Γ W (.Assign [.Attribute o g pos'] e pos) (sFld c g fo f) := by
  refine PS.imp (ps_fld ho hv hs) fun D σv H ⟨F, μ, G, σ, S, hσ, hs, h⟩ => ?_
  refine tOf.at hσ hs (Wps.of (H := H) (S := S) h hσ) fun v μ1 G1 H1 S1 vv l s t r q => ?_
  refine tOf.at (hσ.mono l s) t (Wps.of (H := H1) (S := S1) q (hσ.mono l s)) fun w μ2 G2 H2 S2 ww l2 s2 t2 r2 q2 => ?_
  split at q2
  · rename_i k fs hi
    split at q2
    · rename_i hz
      obtain ⟨a, dx, fv, _, hk, rfl, ha, h1, h2⟩ := ins_ok t2 r2 hi
      exact ⟨a, _, dx, fv, rfl, h1, hc, hn, by rw [← h2.len]; exact hz, q2 _ _ _ (Le.refl _) (Same.refl _) (t2.putF hk ha h2 (r.mono l2 s2)) _ ((hσ.mono l s).mono l2 s2)⟩
    · exact q2.elim
  · exact q2.elim
theorem vs_fldaug (hc : Cls X.K (Γ.ca c)) (hn : NoAttr X.K (Γ.ca c) g) (ho : VE X Γ W o fo) (hv : VE X Γ W e f) : VS X Γ W (.AugAssign (.Attribute o g tpos) .Add e pos) (sFldAug c g fo f) := by
  refine PS.imp (ps_fldaug ho hv in_add) fun D σv H ⟨F, μ, G, σ, S, hσ, hs, h⟩ => ?_
  refine tOf.at hσ hs (Wps.of (H := H) (S := S) h hσ) fun v μ1 G1 H1 S1 vv l s t r q => ?_
  split at q
  · rename_i k fs hi
    split at q
    · rename_i i hd
      obtain ⟨a, dx, fv, hvk, _, rfl, ha, h1, h2⟩ := ins_ok t r hi
      obtain ⟨u, e1, r1⟩ := h2.look hd
      cases r1
      refine ⟨a, _, dx, fv, _, rfl, h1, hc, hn, e1, ?_⟩
      refine tOf.at (hσ.mono l s) t (Wps.of (H := H1) (S := S1) q (hσ.mono l s)) fun w μ2 G2 H2 S2 ww l2 s2 t2 r2 q2 => ?_
      split at q2
      · rename_i j k2 fs2 hi2
        split at q2
        · rename_i hz
          obtain ⟨a2, dx2, fv2, hvk2, hk2, e2, ha2, h12, h22⟩ := ins_ok t2 (r.mono l2 s2) hi2
          cases e2
          cases r2
          exact ⟨_, _, rfl, rfl, dx2, fv2, h12, by rw [← h22.len]; exact hz, q2 _ _ _ (Le.refl _) (Same.refl _) (t2.putF hk2 ha2 h22 (.int _)) _ ((hσ.mono l s).mono l2 s2)⟩
        · exact q2.elim
      · exact q2.elim
    · exact q.elim
  · exact q.elim
end
end Ev

/-! Ev, the rules, part 9: methods called, instances made. -/
namespace Ev
open PySem PySem.Spec PyProof.Rows L2
/-- o.m(..), what it lets out seen at the slots -/
def tMethW (C : Addr) (m : Str) (sp : Sp) (E : L2.St → XK) (ta : TE) (t : TA) : TE := fun σ H Q => ta σ H fun x H1 =>
  ∃ a dx fs, x = .ref a ∧ H1 a = some (.ins C dx fs) ∧ fs.lookup m = none ∧ t σ H1 fun vs H2 => sp (x :: vs) H2 Q (E σ)
def tMakeW (C : Addr) (sp : Sp) (E : L2.St → XK) (t : TA) : TE := fun σ H Q => t σ H fun vs H1 =>
  ∀ x dx, H1 x = none → H1 dx = none → dx ≠ x → sp (.ref x :: vs) (upd (upd H1 dx (.own x)) x (.ins C dx [])) (fun v H2 => v = .non ∧ Q (.ref x) H2) (E σ)
section
variable {X : Cx} {CX : CXT} {k : Nat} {f C : Addr} {fd : FuncData} {ps : List Str} {sp : Sp} {E : L2.St → XK} {x m : Str} {p pos apos : Pos} {e o : Expr} {es : List Expr} {ta : TE} {t : TA}
theorem pe_methW {pl : Sem Bool} (ho : PE X o ta) (hc : Cls X.K C) (hM : Meth X.K C m f) (Fo : FnOk X.prog X.w X.K X.mg X.base CX k f fd ps sp) (hR : Room k X.A) (hB : Binds X.K fd ps []) (hP : ∀ σ, PassesAt CX X σ (E σ)) (hA : PA X (e :: es) t)
    (hst : starEach (e :: es) X.env = (false, eval e X.env) :: starEach es X.env := by rfl) (hpl : (backTo pos (starEach es X.env)).any (·.1) = false := by rfl)
    (ht : eval (.Call (.Attribute o m apos) (e :: es) [] pos) X.env = (do
      let u ← eval o X.env
      standAt apos.atName
      let (f, first) ← holding [u] (getMethod u m pl)
      callWith pos f first (backTo pos (starEach (e :: es) X.env)) (backToKw pos (keywordEach [] X.env))) := by rfl) :
    PE X (.Call (.Attribute o m apos) (e :: es) [] pos) (tMethW C m sp E ta t) := by
  refine ⟨fun qs s0 σ H Q I h => PySem.W.methodCall_KW (pl := pl) (thn (ho.run qs s0 σ H _ I h) fun u s1 ⟨y, H1, I1, ry, a, dx, fs, ex, ea, l, q⟩ => ?_) ht⟩
  subst ex
  obtain rfl : u = Value.ref a := ry
  refine getmeth_ok I1 ea hc hM l (PySem.W.callWith_K (first := [.ref a]) (h₀ := X.base) I.ok.mod.kin hM.kp (thn (hA.run pos qs s1 σ H1 _ I1 q) fun us s2 ⟨vs, H2, I2, r, q2⟩ => ⟨I2.kIn, ?_⟩) hst hpl)
  exact run_fnS (us := .ref a :: us) (vs := .ref a :: vs) Fo hR hB (hP σ) I2 (.cons rfl r) q2
theorem pe_methW0 {pl : Sem Bool} (ho : PE X o ta) (hc : Cls X.K C) (hM : Meth X.K C m f) (Fo : FnOk X.prog X.w X.K X.mg X.base CX k f fd ps sp) (hR : Room k X.A) (hB : Binds X.K fd ps []) (hP : ∀ σ, PassesAt CX X σ (E σ))
    (ht : eval (.Call (.Attribute o m apos) [] [] pos) X.env = (do
      let u ← eval o X.env
      standAt apos.atName
      let (f, first) ← holding [u] (getMethod u m pl)
      callWith pos f first (backTo pos (starEach [] X.env)) (backToKw pos (keywordEach [] X.env))) := by rfl) :
    PE X (.Call (.Attribute o m apos) [] [] pos) (tMethW C m sp E ta tNil) := by
  refine ⟨fun qs s0 σ H Q I h => PySem.W.methodCall_KW (pl := pl) (thn (ho.run qs s0 σ H _ I h) fun u s1 ⟨y, H1, I1, ry, a, dx, fs, ex, ea, l, q⟩ => ?_) ht⟩
  subst ex
  obtain rfl : u = Value.ref a := ry
  exact getmeth_ok I1 ea hc hM l (PySem.W.callWith_K0 (first := [.ref a]) I1.kIn hM.kp (run_fnS (us := [.ref a]) (vs := [.ref a]) Fo hR hB (hP σ) I1 (.cons rfl .nil) q))
theorem run_makeW {qs : List (Addr × Obj)} {σ : L2.St} {H : Hp} {s0 : Shared} {Q : VK} {us : List Value} {vs : List V} (M : Mk X.K C f) (Fo : FnOk X.prog X.w X.K X.mg X.base CX k f fd ps sp) (hR : Room (k + 1) X.A) (hB : Binds X.K fd ps [])
    (hP : PassesAt CX X σ (E σ)) (I : Inv X qs σ H s0) (r : Vals vs us)
    (h : ∀ x dx, H x = none → H dx = none → dx ≠ x → sp (.ref x :: vs) (upd (upd H dx (.own x)) x (.ins C dx [])) (fun v H2 => v = .non ∧ Q (.ref x) H2) (E σ)) :
    wpAny (model X.prog X.w) X.A (call (.ref C) us) (EP X qs σ Q) X.xe s0 := by
  have q0 := h (s0.heap.objs.size + 1) s0.heap.objs.size (I.hok.fresh (Nat.le_succ _)) (I.hok.fresh (Nat.le_refl _)) (Nat.ne_of_lt (Nat.lt_succ_self _))
  have I2 := Inv.made (C := C) I
  have rr : Vals (V.ref (s0.heap.objs.size + 1) :: vs) (Value.ref (s0.heap.objs.size + 1) :: us) := .cons rfl r
  have hl : (Value.ref (s0.heap.objs.size + 1) :: us).length = ps.length := by
    rw [← rr.length]; exact Fo.len _ _ _ _ q0
  have b := hB _ (Value.ref (s0.heap.objs.size + 1) :: us) I2.kIn (by rw [List.append_nil]; exact hl)
  rw [List.append_nil] at b
  refine wpAny_call (make_map (f := f) I.kIn M.makes M.init (beq_iff_eq.mp M.fn) (codeAny_mono (Fo.run _ X.stack _ _ ⟨Value.ref (s0.heap.objs.size + 1) :: us, []⟩ _ _ _ (E σ) (hR.make C us []) (I2.env0.make C us []) b rr q0) fun rs s' hq => ?_))
  cases rs with
  | error e => exact hP qs _ _ e s' I2 hq
  | ok fl =>
    cases fl with
    | ret u =>
      obtain ⟨v, H', I3, rv, ev, q3⟩ := I2.after hq
      subst ev
      exact ⟨rv, V.ref (s0.heap.objs.size + 1), H', I3, rfl, q3⟩
    | next => exact hq.elim
    | brk => exact hq.elim
    | cont => exact hq.elim
theorem pe_makeW (M : Mk X.K C f) (Fo : FnOk X.prog X.w X.K X.mg X.base CX k f fd ps sp) (hR : Room (k + 1) X.A) (hg : Gl X x) (hm : X.mg x = some (.ref C)) (hB : Binds X.K fd ps []) (hP : ∀ σ, PassesAt CX X σ (E σ)) (hA : PA X (e :: es) t)
    (hdb : (x == ("__debug__" : Str)) = false := by decide) (he : starEach (e :: es) X.env = (false, eval e X.env) :: starEach es X.env := by rfl) (hpl : (backTo pos (starEach es X.env)).any (·.1) = false := by rfl) :
    PE X (.Call (.Name x p) (e :: es) [] pos) (tMakeW C sp E t) :=
  ⟨fun qs s0 σ H Q I h => wpAny_Call_Name_kw (ld_glob I hg hm (PySem.W.callWith_K (h₀ := X.base) I.ok.mod.kin M.kp (thn (hA.run pos qs s0 σ H _ I h) fun us s1 ⟨vs, H1, I1, r, q⟩ => ⟨I1.kIn, run_makeW M Fo hR hB (hP σ) I1 r q⟩) he hpl) hdb)⟩
theorem pe_makeW0 (M : Mk X.K C f) (Fo : FnOk X.prog X.w X.K X.mg X.base CX k f fd ps sp) (hR : Room (k + 1) X.A) (hg : Gl X x) (hm : X.mg x = some (.ref C)) (hB : Binds X.K fd ps []) (hP : ∀ σ, PassesAt CX X σ (E σ))
    (hdb : (x == ("__debug__" : Str)) = false := by decide) : PE X (.Call (.Name x p) [] [] pos) (tMakeW C sp E tNil) :=
  ⟨fun qs s0 σ H Q I h => wpAny_Call_Name_kw (ld_glob I hg hm (PySem.W.callWith_K0 I.kIn M.kp (run_makeW (us := []) M Fo hR hB (hP σ) I .nil h)) hdb)⟩
end
section
variable {X : Cx} {Γ : Gm} {W : WX} {k j n c : Nat} {ps : List Str} {fn : Fn} {x m : Str} {p pos apos : Pos} {e o : Expr} {es : List Expr} {a : Ax} {fo : Ex}
theorem fn_of1 {F : Hp} {μ : List Addr} {G H1 : Hp} {S1 : Sto} {d : D} {v : V} {ds : List D} {vs : List V} {Q : VK} {E : XK} (t : Sit Γ F μ G H1 S1) (r0 : VR Γ.K μ G d v) (r : VRs Γ.K μ G ds vs)
    (q : Wp Γ F E μ G (if ds.length + 1 = n then fn (d :: ds) S1 else .no) fun v μ' G' H' _ => ∀ vv, VR Γ.K μ' G' v vv → Q vv H') : spOf Γ n fn (v :: vs) H1 Q E := by
  split at q
  · rename_i hl; exact ⟨F, μ, G, d :: ds, S1, hl, .cons r0 r, t, q⟩
  · exact q.elim
theorem Has.meth (h : Has X.prog X.w X.K X.mg X.base Γ k x (some m) ps n fn) (hc : Cls X.K (Γ.ca c)) (hM : Meth X.K (Γ.ca c) m (He.fAd X.K (x, some m))) (hR : Room k X.A) (tk : Takes X W) (ho : VE X Γ W o fo) (hA : VA X Γ W (e :: es) a) {pl : Sem Bool}
    (hst : starEach (e :: es) X.env = (false, eval e X.env) :: starEach es X.env := by rfl) (hpl : (backTo pos (starEach es X.env)).any (·.1) = false := by rfl)
    (ht : eval (.Call (.Attribute o m apos) (e :: es) [] pos) X.env = (do
      let u ← eval o X.env
      standAt apos.atName
      let (f, first) ← holding [u] (getMethod u m pl)
      callWith pos f first (backTo pos (starEach (e :: es) X.env)) (backToKw pos (keywordEach [] X.env))) := by rfl) :
    VE X Γ W (.Call (.Attribute o m apos) (e :: es) [] pos) (eMet c m n fn fo a) := by
  obtain ⟨⟨fd, Fo, b⟩, kp⟩ := h
  refine PE.imp (pe_methW ho hc hM Fo hR b (passAt tk) hA hst hpl ht) fun σv H Q ⟨F, μ, G, σ, S, hσ, hs, h⟩ => ?_
  refine tOf.at hσ hs (Wp.bind h) fun v μ1 G1 H1 S1 vv l s t r q => ?_
  split at q
  · rename_i k fs hi
    split at q
    · rename_i hl
      obtain ⟨b, dx, fv, _, _, rfl, hb, h1, h2⟩ := ins_ok t r hi
      refine ⟨b, dx, fv, rfl, h1, h2.look0 hl, ?_⟩
      exact taOf.at (hσ.mono l s) t (Wp.bind q) fun ds μ2 G2 H2 S2 vs l2 s2 t2 r2 q2 => fn_of1 t2 (r.mono l2 s2) r2 q2
    · exact q.elim
  · exact q.elim
theorem Has.meth0 (h : Has X.prog X.w X.K X.mg X.base Γ k x (some m) ps n fn) (hc : Cls X.K (Γ.ca c)) (hM : Meth X.K (Γ.ca c) m (He.fAd X.K (x, some m))) (hR : Room k X.A) (tk : Takes X W) (ho : VE X Γ W o fo) {pl : Sem Bool}
    (ht : eval (.Call (.Attribute o m apos) [] [] pos) X.env = (do
      let u ← eval o X.env
      standAt apos.atName
      let (f, first) ← holding [u] (getMethod u m pl)
      callWith pos f first (backTo pos (starEach [] X.env)) (backToKw pos (keywordEach [] X.env))) := by rfl) :
    VE X Γ W (.Call (.Attribute o m apos) [] [] pos) (eMet c m n fn fo aNil) := by
  obtain ⟨⟨fd, Fo, b⟩, kp⟩ := h
  refine PE.imp (pe_methW0 ho hc hM Fo hR b (passAt tk) ht) fun σv H Q ⟨F, μ, G, σ, S, hσ, hs, h⟩ => ?_
  refine tOf.at hσ hs (Wp.bind h) fun v μ1 G1 H1 S1 vv l s t r q => ?_
  split at q
  · rename_i k fs hi
    split at q
    · rename_i hl
      obtain ⟨b, dx, fv, _, _, rfl, hb, h1, h2⟩ := ins_ok t r hi
      refine ⟨b, dx, fv, rfl, h1, h2.look0 hl, ?_⟩
      exact fn_of1 t r .nil q
    · exact q.elim
  · exact q.elim
/-- a new instance, as a cell -/
theorem made_of {F : Hp} {μ : List Addr} {G H1 : Hp} {S1 : Sto} {ds : List D} {vs : List V} {Q : VK} {E : XK} (t : Sit Γ F μ G H1 S1) (r : VRs Γ.K μ G ds vs)
    (q : Wp Γ F E μ G (if ds.length + 1 = n then ((fn (.cell S1.length :: ds) (S1 ++ [some (.ins c [])])).bind fun v S2 => match v with
      | .non => .ok (.cell S1.length) S2
      | _ => .no) else .no) fun v μ' G' H' _ => ∀ vv, VR Γ.K μ' G' v vv → Q vv H') :
    ∀ x dx, H1 x = none → H1 dx = none → dx ≠ x → spOf Γ n fn (.ref x :: vs) (upd (upd H1 dx (.own x)) x (.ins (Γ.ca c) dx [])) (fun v H2 => v = .non ∧ Q (.ref x) H2) E := by
  intro x dx hx hdx hne
  split at q
  · rename_i hl
    have s1 : Same H1 (upd (upd H1 dx (.own x)) x (.ins (Γ.ca c) dx [])) := (same_upd hdx).trans (same_upd (by rw [upd_ne (Ne.symm hne)]; exact hx))
    have t1 := t.allocC (.ins c []) hx s1 upd_same ⟨dx, [], upd_same, .nil⟩
    have q1 := (Wp.bind q).mono (Le.push μ x) (Same.refl G) (k' := fun v μ' G' H' _ => ∀ vv, VR Γ.K μ' G' v vv → vv = .non ∧ Q (.ref x) H') fun v μ' G' H' S2 l s t2 q2 vv rv => by
      split at q2
      · cases rv
        refine ⟨rfl, q2 _ _ _ (Le.refl _) (Same.refl _) t2 _ (.cell (l _ _ ?_))⟩
        rw [← t.len]; simp
      · exact q2.elim
    exact ⟨F, μ ++ [x], G, .cell S1.length :: ds, S1 ++ [some (.ins c [])], hl, .cons (.cell (by rw [← t.len]; simp)) (r.mono (Le.push _ _) (Same.refl _)), t1, q1⟩
  · exact q.elim
theorem Has.make {mI : Str} (h : Has X.prog X.w X.K X.mg X.base Γ j x (some mI) ps n fn) (M : Mk X.K (Γ.ca c) (He.fAd X.K (x, some mI))) (hm : X.mg x = some (.ref (Γ.ca c))) (hjk : j + 1 ≤ k) (hR : Room k X.A) (tk : Takes X W) (hA : VA X Γ W (e :: es) a) (hg : Gl X x := by rfl)
    (hdb : (x == ("__debug__" : Str)) = false := by decide) (he : starEach (e :: es) X.env = (false, eval e X.env) :: starEach es X.env := by rfl) (hpl : (backTo pos (starEach es X.env)).any (·.1) = false := by rfl) :
    VE X Γ W (.Call (.Name x p) (e :: es) [] pos) (eMake c n fn a) := by
  obtain ⟨⟨fd, Fo, b⟩, kp⟩ := h
  refine PE.imp (pe_makeW M Fo (hR.mono hjk) hg hm b (passAt tk) hA hdb he hpl) fun σv H Q ⟨F, μ, G, σ, S, hσ, hs, h⟩ => ?_
  exact taOf.at hσ hs (Wp.bind h) fun ds μ1 G1 H1 S1 vs l s t r q => made_of t r q
theorem Has.make0 {mI : Str} (h : Has X.prog X.w X.K X.mg X.base Γ j x (some mI) ps n fn) (M : Mk X.K (Γ.ca c) (He.fAd X.K (x, some mI))) (hm : X.mg x = some (.ref (Γ.ca c))) (hjk : j + 1 ≤ k) (hR : Room k X.A) (tk : Takes X W) (hg : Gl X x := by rfl)
    (hdb : (x == ("__debug__" : Str)) = false := by decide) : VE X Γ W (.Call (.Name x p) [] [] pos) (eMake c n fn aNil) := by
  obtain ⟨⟨fd, Fo, b⟩, kp⟩ := h
  refine PE.imp (pe_makeW0 M Fo (hR.mono hjk) hg hm b (passAt tk) hdb) fun σv H Q ⟨F, μ, G, σ, S, hσ, hs, h⟩ => ?_
  exact made_of hs .nil h
end
end Ev

/-! Ev, the rules, part 10: all, any, join, a list many times, range of three; what the new rules compute. -/
namespace Ev
open PySem PySem.Spec PyProof.Rows L2
def blsOf : List D → Option (List Bool)
  | [] => some []
  | .bl b :: r => (blsOf r).map (b :: ·)
  | _ => none
def strsOf : List D → Option (List Str)
  | [] => some []
  | .str b :: r => (strsOf r).map (b :: ·)
  | _ => none
@[simp] theorem blsOf_map (bs : List Bool) : blsOf (bs.map D.bl) = some bs := by
  induction bs with
  | nil => rfl
  | cons b r ih => simp [blsOf, ih]
@[simp] theorem strsOf_map (bs : List Str) : strsOf (bs.map D.str) = some bs := by
  induction bs with
  | nil => rfl
  | cons b r ih => simp [strsOf, ih]
theorem blsOf_some : ∀ {ds : List D} {bs : List Bool}, blsOf ds = some bs → ds = bs.map D.bl
  | [], bs, h => by cases h; rfl
  | .bl b :: r, bs, h => by
    unfold blsOf at h
    cases e : blsOf r with
    | none => rw [e] at h; cases h
    | some x => rw [e] at h; cases h; rw [blsOf_some e]; rfl
theorem strsOf_some : ∀ {ds : List D} {bs : List Str}, strsOf ds = some bs → ds = bs.map D.str
  | [], bs, h => by cases h; rfl
  | .str b :: r, bs, h => by
    unfold strsOf at h
    cases e : strsOf r with
    | none => rw [e] at h; cases h
    | some x => rw [e] at h; cases h; rw [strsOf_some e]; rfl
def gAll (xs : List D) (S : Sto) : R D := match xs with
  | [x] => match (lstOf S x).bind blsOf with
    | some bs => .ok (.bl (bs.all id)) S
    | none => .no
  | _ => .no
def gAny (xs : List D) (S : Sto) : R D := match xs with
  | [x] => match (lstOf S x).bind blsOf with
    | some bs => .ok (.bl (bs.any id)) S
    | none => .no
  | _ => .no
/-- sep.join(a list of texts) -/
def gJoin (x : D) (ys : List D) (S : Sto) : R D := match x, ys with
  | .str a, [y] => (match (lstOf S y).bind strsOf with
    | some zs => if (zs.map (·.length)).sum + zs.length * a.length ≤ 16777216 then .ok (.str (Txt.join a zs)) S else .no
    | none => .no)
  | _, _ => .no
/-- a list many times: one that never changes; one that may -/
noncomputable def gRep (x y : D) (S : Sto) : R D := match x, y with
  | .scr _, _ => .no
  | d, .int k => (match lstOf S d with
    | some ds => cif (-9223372036854775808 ≤ k ∧ k < 9223372036854775808 ∧ ds.length * k.toNat ≤ sizeLine) (.ok (.lst (List.replicate k.toNat ds).flatten) S) .no
    | none => .no)
  | _, _ => .no
noncomputable def gRepN (x y : D) (S : Sto) : R D := match x, y with
  | .scr _, _ => .no
  | d, .int k => (match lstOf S d with
    | some ds => cif (-9223372036854775808 ≤ k ∧ k < 9223372036854775808 ∧ ds.length * k.toNat ≤ sizeLine) (.ok (.cell S.length) (S ++ [some (.lst (List.replicate k.toNat ds).flatten)])) .no
    | none => .no)
  | _, _ => .no
section
variable {K : PySem.W.Frag} {μ : List Addr} {G : Hp}
theorem VRs.bls {bs : List Bool} {vs : List V} (h : VRs K μ G (bs.map D.bl) vs) : vs = bs.map V.bl := by
  induction bs generalizing vs with
  | nil => cases h; rfl
  | cons b r ih => cases h with
    | cons a t => cases a; rw [ih t]; rfl
theorem VRs.strs {bs : List Str} {vs : List V} (h : VRs K μ G (bs.map D.str) vs) : vs = bs.map V.str := by
  induction bs generalizing vs with
  | nil => cases h; rfl
  | cons b r ih => cases h with
    | cons a t => cases a; rw [ih t]; rfl
theorem VRs.app {ds es : List D} {vs ws : List V} (h : VRs K μ G ds vs) (h' : VRs K μ G es ws) : VRs K μ G (ds ++ es) (vs ++ ws) := h.append h'
theorem VRs.rep {ds : List D} {vs : List V} (h : VRs K μ G ds vs) : ∀ k : Nat, VRs K μ G (List.replicate k ds).flatten (List.replicate k vs).flatten
  | 0 => .nil
  | k + 1 => by
    rw [List.replicate_succ, List.replicate_succ, List.flatten_cons, List.flatten_cons]
    exact h.append (VRs.rep h k)
end
section
variable {X : Cx} {Γ : Gm} {W : WX} {e o a b c : Expr} {f fa fb fc fo : Ex} {fs : Ax} {p pos apos : Pos} {tg : Expr}
theorem cs_all : CaS Γ gAll (rAll Γ.K) := by
  intro W F μ G H S xs vs Q t rs q
  unfold gAll at q
  split at q
  · cases rs with
    | cons r1 r2 =>
      cases r2
      split at q
      · rename_i bs hd
        obtain ⟨ds, e1, e2⟩ := Option.bind_eq_some_iff.mp hd
        obtain ⟨a, vs, rfl, h1, h2⟩ := t.lst r1 e1
        rw [blsOf_some e2] at h2
        rw [h2.bls] at h1
        exact ⟨a, bs, rfl, h1, q.ok t _ (.bl _)⟩
      · exact q.elim
  · exact q.elim
theorem cs_any : CaS Γ gAny (rAny Γ.K) := by
  intro W F μ G H S xs vs Q t rs q
  unfold gAny at q
  split at q
  · cases rs with
    | cons r1 r2 =>
      cases r2
      split at q
      · rename_i bs hd
        obtain ⟨ds, e1, e2⟩ := Option.bind_eq_some_iff.mp hd
        obtain ⟨a, vs, rfl, h1, h2⟩ := t.lst r1 e1
        rw [blsOf_some e2] at h2
        rw [h2.bls] at h1
        exact ⟨a, bs, rfl, h1, q.ok t _ (.bl _)⟩
      · exact q.elim
  · exact q.elim
theorem ve_ball (hm : X.mg "all" = none) (ha : VA X Γ W [e] fs) (hg : Gl X "all" := by rfl) (hc : X.calm = true := by rfl) (hK : X.K = Γ.K := by rfl) (hs : starEach (e :: []) X.env = (false, eval e X.env) :: starEach [] X.env := by rfl) (hpl : (backTo pos (starEach [] X.env)).any (·.1) = false := by rfl) :
    VE X Γ W (.Call (.Name "all" p) [e] [] pos) (eCall gAll fs) := ve_cb (id := "all") (cr_all hc) (hK ▸ cs_all) hg hm (by decide +kernel) ha (by decide) (by decide) hs hpl
theorem ve_bany (hm : X.mg "any" = none) (ha : VA X Γ W [e] fs) (hg : Gl X "any" := by rfl) (hc : X.calm = true := by rfl) (hK : X.K = Γ.K := by rfl) (hs : starEach (e :: []) X.env = (false, eval e X.env) :: starEach [] X.env := by rfl) (hpl : (backTo pos (starEach [] X.env)).any (·.1) = false := by rfl) :
    VE X Γ W (.Call (.Name "any" p) [e] [] pos) (eCall gAny fs) := ve_cb (id := "any") (cr_any hc) (hK ▸ cs_any) hg hm (by decide +kernel) ha (by decide) (by decide) hs hpl
theorem ve_join (ho : VE X Γ W o fo) (ha : VA X Γ W [e] fs) (hK : X.K = Γ.K := by rfl) (hbase : attributeBase o "join" X.env (eval o X.env) = eval o X.env := by rfl)
    (hfew : ((backTo pos (starEach (e :: []) X.env)).all (fun x => !x.1) && (backToKw pos (keywordEach [] X.env)).all (fun x => x.1.isSome)
      && decide ((e :: ([] : List Expr)).length + ([] : List Keyword).length + (if ([] : List Keyword).isEmpty then 0 else 1) < 30)) = true := by rfl)
    (hline : (apos.endLine == pos.line) = true := by rfl) (hs : starEach (e :: []) X.env = (false, eval e X.env) :: starEach [] X.env := by rfl) (hplain : (backTo pos (starEach [] X.env)).any (·.1) = false := by rfl) :
    VE X Γ W (.Call (.Attribute o "join" apos) [e] [] pos) (eMeth "str" gJoin fo fs) := by
  refine ve_bm F.plainAttrs_str F.slot_str_join F.type_str_join mt_join ?_ ho ha hK hbase hfew hline hs hplain
  intro W F μ G H S x xs v vs Q t rx rs q
  unfold gJoin at q
  split at q
  · cases rs with
    | cons r1 r2 =>
      cases r2
      cases rx
      split at q
      · rename_i zs hd
        split at q
        · rename_i hz
          obtain ⟨ds, e1, e2⟩ := Option.bind_eq_some_iff.mp hd
          obtain ⟨a, vs, rfl, h1, h2⟩ := t.lst r1 e1
          rw [strsOf_some e2] at h2
          rw [h2.strs] at h1
          exact ⟨_, a, zs, rfl, rfl, .inl (hK ▸ h1), hz, q.ok t _ (.str _)⟩
        · exact q.elim
      · exact q.elim
  · exact q.elim
theorem lst_own {F : Hp} {μ : List Addr} {G H : Hp} {S : Sto} {d : D} {v : V} {ds : List D} (t : Sit Γ F μ G H S) (r : VR Γ.K μ G d v) (hd : ∀ ns, d ≠ .scr ns) (h : lstOf S d = some ds) : ∃ a vs, v = .ref a ∧ H a = some (.lst vs) ∧ VRs Γ.K μ G ds vs := by
  cases r with
  | lst h1 h2 => simp only [lstOf] at h; cases h; exact ⟨_, _, rfl, t.sub _ _ h1, h2⟩
  | cell hk =>
    simp only [lstOf] at h
    split at h
    · rename_i hs
      cases h
      obtain ⟨a, ha, vs, h1, h2⟩ := t.at_ _ _ hs
      rw [hk] at ha; cases ha
      exact ⟨_, vs, rfl, h1, h2⟩
    · cases h
  | scr h1 => exact absurd rfl (hd _)
  | _ => simp [lstOf] at h
end
section
variable {X : Cx} {Γ : Gm} {W : WX} {a b c : Expr} {fa fb fc : Ex} {p pos : Pos} {tg : Expr}
theorem os_rep : OpS Γ gRep rRep := by
  intro W F μ G H S x y vx vy Q t rx ry q
  unfold gRep at q
  split at q
  · exact q.elim
  · rename_i k hns
    split at q
    · rename_i ds hd
      by_cases hc : -9223372036854775808 ≤ k ∧ k < 9223372036854775808 ∧ ds.length * k.toNat ≤ sizeLine
      · rw [cif_pos hc] at q
        obtain ⟨a, vs, rfl, h1, h2⟩ := lst_own t rx (fun ns e => hns ns e) hd
        cases ry
        exact ⟨a, k, vs, rfl, rfl, h1, by omega, by omega, by rw [← h2.length]; exact hc.2.2, t.newL (h2.rep _) q⟩
      · rw [cif_neg hc] at q; exact q.elim
    · exact q.elim
  · exact q.elim
theorem os_repN : OpS Γ gRepN rRep := by
  intro W F μ G H S x y vx vy Q t rx ry q
  unfold gRepN at q
  split at q
  · exact q.elim
  · rename_i k hns
    split at q
    · rename_i ds hd
      by_cases hc : -9223372036854775808 ≤ k ∧ k < 9223372036854775808 ∧ ds.length * k.toNat ≤ sizeLine
      · rw [cif_pos hc] at q
        obtain ⟨a, vs, rfl, h1, h2⟩ := lst_own t rx (fun ns e => hns ns e) hd
        cases ry
        exact ⟨a, k, vs, rfl, rfl, h1, by omega, by omega, by rw [← h2.length]; exact hc.2.2, fun p np => new_cell t (h2.rep _) q np⟩
      · rw [cif_neg hc] at q; exact q.elim
    · exact q.elim
  · exact q.elim
theorem ve_rep (ha : VE X Γ W a fa) (hb : VE X Γ W b fb) : VE X Γ W (.BinOp a .Mult b pos) (op2 gRep fa fb) := ve_op op_rep os_rep ha hb
theorem ve_repN (ha : VE X Γ W a fa) (hb : VE X Γ W b fb) : VE X Γ W (.BinOp a .Mult b pos) (op2 gRepN fa fb) := ve_op op_rep os_repN ha hb
/-- i, i - 1, .. : n of them -/
def downD (lo : Int) (n : Nat) : List D := (List.range n).map fun i => .int (lo + (i : Nat) * (-1 : Int))
/-- range(i, j, -1) -/
noncomputable def iR3 (f g h : Ex) : Ix := fun σ S => (f σ S).bind fun d S1 => (g σ S1).bind fun e S2 => (h σ S2).bind fun c S3 => match d, e, c with
  | .int i, .int j, .int (-1) => cif (-4611686018427387904 ≤ i ∧ i < 4611686018427387904 ∧ -4611686018427387904 ≤ j ∧ j < 4611686018427387904) (.ok (still, downD i (i - j).toNat) S3) .no
  | _, _, _ => .no
theorem j_down {F : Hp} {μ : List Addr} {G : Hp} (lo : Int) (n : Nat) : JOk Γ F μ G (Itc lo (-1) n) still (downD lo n) := fun F' μ' G' H' S' l' s' t' hc i => by
  refine ⟨fun hi => by show n ≤ i; simpa [downD] using hi, fun d hd => ?_⟩
  unfold downD at hd
  rw [List.getElem?_map, Option.map_eq_some_iff] at hd
  obtain ⟨j, hj, rfl⟩ := hd
  have hi : i < n := by have := (List.getElem?_eq_some_iff.mp hj).1; simpa using this
  have ej : j = i := by rw [List.getElem?_range hi] at hj; cases hj; rfl
  subst ej
  refine ⟨hi, fun x H2 ⟨hH, hx⟩ => ?_⟩
  subst hH hx
  exact ⟨G', Same.refl _, t', .int _⟩
theorem vi_r3 (hm : X.mg "range" = none) (ha : VE X Γ W a fa) (hb : VE X Γ W b fb) (hcc : VE X Γ W c fc) (hg : Gl X "range" := by rfl) (hs : starEach [a, b, c] X.env = (false, eval a X.env) :: starEach [b, c] X.env := by rfl) (hs2 : starEach [b, c] X.env = (false, eval b X.env) :: starEach [c] X.env := by rfl)
    (hs3 : starEach [c] X.env = (false, eval c X.env) :: starEach [] X.env := by rfl) (hpl : (backTo pos (starEach [b, c] X.env)).any (·.1) = false := by rfl) :
    VI X Γ W tg (.Call (.Name "range" p) [a, b, c] [] pos) (iR3 fa fb fc) := by
  refine PI.imp (pi_range3 hg hm (pa_cons ha (pa_cons hb (pa_cons hcc pa_nil hs3) hs2) hs) hs hpl) fun σv H Q ⟨F, μ, G, σ, S, hσ, hs, h⟩ => ?_
  refine tOf.at hσ hs (Wp.bind h) fun v μ1 G1 H1 S1 vv l s t r q => ?_
  refine tOf.at (hσ.mono l s) t (Wp.bind q) fun w μ2 G2 H2 S2 ww l2 s2 t2 r2 q2 => ?_
  refine tOf.at ((hσ.mono l s).mono l2 s2) t2 (Wp.bind q2) fun u μ3 G3 H3 S3 uu l3 s3 t3 r3 q3 => ?_
  have r' := (r.mono l2 s2).mono l3 s3
  have r2' := r2.mono l3 s3
  split at q3
  · rename_i i j
    by_cases hj : -4611686018427387904 ≤ i ∧ i < 4611686018427387904 ∧ -4611686018427387904 ≤ j ∧ j < 4611686018427387904
    · rw [cif_pos hj] at q3
      cases r'; cases r2'; cases r3
      exact ⟨_, _, _, _, rfl, RgC.neg (by omega) (by omega) (by omega) (by omega), q3.ok t3 _ (j_down _ _)⟩
    · rw [cif_neg hj] at q3; exact q3.elim
  · exact q3.elim
end
section
variable {S : Sto} {σ : Env}
@[simp] theorem insOf_cell (c k : Nat) : insOf c (.cell k) S = match S[k]? with
    | some (some (.ins c' fs)) => if c' = c then some (k, fs) else none
    | _ => none := rfl
@[simp] theorem eFld_eq (c : Nat) (f : Str) (o : Ex) : eFld c f o σ S = (o σ S).bind fun d S1 => gFld c f d S1 := rfl
@[simp] theorem gFld_eq (c : Nat) (f : Str) (d : D) : gFld c f d S = match insOf c d S with
  | some (_, fs) => (match fs.lookup f with
    | some v => .ok v S
    | none => .no)
  | none => .no := rfl
@[simp] theorem sFld_eq (c : Nat) (f : Str) (o e : Ex) : sFld c f o e σ S = SO.of (e σ S) σ fun v S1 => SO.of (o σ S1) σ fun d S2 => match insOf c d S2 with
  | some (k, fs) => if fs.length < 1000 then .nx σ (S2.set k (some (.ins c (putD f v fs)))) else .no
  | none => .no := rfl
@[simp] theorem sFldAug_eq (c : Nat) (f : Str) (o e : Ex) : sFldAug c f o e σ S = SO.of (o σ S) σ fun d S1 => match insOf c d S1 with
  | some (_, fs) => (match fs.lookup f with
    | some (.int i) => SO.of (e σ S1) σ fun y S2 => (match y, insOf c d S2 with
      | .int j, some (k, fs2) => if fs2.length < 1000 then .nx σ (S2.set k (some (.ins c (putD f (.int (i + j)) fs2)))) else .no
      | _, _ => .no)
    | _ => .no)
  | none => .no := rfl
@[simp] theorem eMet_eq (c : Nat) (m : Str) (n : Nat) (fn : Fn) (o : Ex) (a : Ax) : eMet c m n fn o a σ S = (o σ S).bind fun d S1 => match insOf c d S1 with
  | some (_, fs) => if fs.lookup m = none then (a σ S1).bind fun ds S2 => (if ds.length + 1 = n then fn (d :: ds) S2 else .no) else .no
  | none => .no := rfl
@[simp] theorem eMake_eq (c n : Nat) (fn : Fn) (a : Ax) : eMake c n fn a σ S = (a σ S).bind fun ds S1 => if ds.length + 1 = n then ((fn (.cell S1.length :: ds) (S1 ++ [some (.ins c [])])).bind fun v S2 => match v with
  | .non => .ok (.cell S1.length) S2
  | _ => .no) else .no := rfl
@[simp] theorem putD_nil (f : Str) (d : D) : putD f d [] = [(f, d)] := rfl
@[simp] theorem putD_cons (f g : Str) (d x : D) (r : List (Str × D)) : putD f d ((g, x) :: r) = if g = f then (g, d) :: r else (g, x) :: putD f d r := rfl
@[simp] theorem gAll_map (bs : List Bool) : gAll [.lst (bs.map D.bl)] S = .ok (.bl (bs.all id)) S := by simp [gAll, lstOf]
@[simp] theorem gAny_map (bs : List Bool) : gAny [.lst (bs.map D.bl)] S = .ok (.bl (bs.any id)) S := by simp [gAny, lstOf]
theorem gJoin_map (a : Str) (zs : List Str) (h : (zs.map (·.length)).sum + zs.length * a.length ≤ 16777216) : gJoin (.str a) [.lst (zs.map D.str)] S = .ok (.str (Txt.join a zs)) S := by
  simp only [gJoin, lstOf, Option.bind_some, strsOf_map, h, if_true]
theorem gRep_one (d : D) (n : Nat) (h : n ≤ sizeLine) : gRep (.lst [d]) (.int (n : Int)) S = .ok (.lst (List.replicate n d)) S := by
  have hz : n ≤ 16777216 := by rw [← sizeLine_val]; exact h
  have e : (List.replicate n [d]).flatten = List.replicate n d := by
    induction n with
    | zero => rfl
    | succ n ih => simp [List.replicate_succ, ih (by omega) (by omega)]
  simp only [gRep, lstOf]
  rw [cif_pos ⟨by omega, by omega, by simpa using h⟩]
  simp [e]
theorem gRepN_one (d : D) (n : Nat) (h : n ≤ sizeLine) : gRepN (.lst [d]) (.int (n : Int)) S = .ok (.cell S.length) (S ++ [some (.lst (List.replicate n d))]) := by
  have hz : n ≤ 16777216 := by rw [← sizeLine_val]; exact h
  have e : (List.replicate n [d]).flatten = List.replicate n d := by
    induction n with
    | zero => rfl
    | succ n ih => simp [List.replicate_succ, ih (by omega) (by omega)]
  simp only [gRepN, lstOf]
  rw [cif_pos ⟨by omega, by omega, by simpa using h⟩]
  simp [e]
@[simp] theorem iR3_eq (f g h : Ex) : iR3 f g h σ S = (f σ S).bind fun d S1 => (g σ S1).bind fun e S2 => (h σ S2).bind fun c S3 => match d, e, c with
  | .int i, .int j, .int (-1) => cif (-4611686018427387904 ≤ i ∧ i < 4611686018427387904 ∧ -4611686018427387904 ≤ j ∧ j < 4611686018427387904) (.ok (still, downD i (i - j).toNat) S3) .no
  | _, _, _ => .no := rfl
end
end Ev

/-! k03 -/
namespace Ev
open PySem PySem.Spec PyProof.Rows L2
noncomputable def b_law_whole_s1 : Sx :=
      (sRet (eAnd (op1 (gIsT "int") (eVar 0)) (op1 gNot (op1 (gIsT "bool") (eVar 0)))))
noncomputable def b_law_whole : Sx :=
      (b_law_whole_s1)
noncomputable def fn_law_whole : Fn := fnOf (fun i : Int => [.int i]) (fun _ => True) fun _ S => .ok (.bl true) S
theorem whole_eq (i : Int) (S : Sto) : fn_law_whole [.int i] S = .ok (.bl true) S := fnOf_eq (e := fun i : Int => [.int i]) (a := i) (fun a b h => by simpa using h) trivial
theorem ref_law_whole (ds : List D) (S : Sto) : Ref S (fn_law_whole ds S) (runB 1 b_law_whole ds S) := fnOf_ref (fun i S _ => Ref.self (by simp [runB, b_law_whole, b_law_whole_s1])) ds S
noncomputable def b_law_only_s1 : Sx :=
      (sAsg 2 (eLst (aCons (op1 (gIsX fun c => List.lookup c [(10, true)]) (eVar 0)) (aCons (op1 (gIsX fun c => List.lookup c [(10, false)]) (eVar 0)) (aCons (op1 (gIsX fun c => List.lookup c [(10, false)]) (eVar 0)) aNil)))))
noncomputable def b_law_only_s2 : Sx :=
      (sAsg 2 (op2 gAdd (eVar 2) (eLst (aCons (op1 (gIsX fun c => List.lookup c [(10, false)]) (eVar 0)) (aCons (op1 (gIsX fun c => List.lookup c [(10, false)]) (eVar 0)) aNil)))))
noncomputable def b_law_only_s3 : Sx :=
      (sAsg 3 (eComp (iR1 (eC (.int 5))) (hName 4) tYes (op2 gEq (eVar 4) (eVar 1)) [4]))
noncomputable def b_law_only_s4 : Sx :=
      (sRet (eAnd (op2 gEq (eVar 2) (eVar 3)) (eAnd (op1 (gIsX fun c => List.lookup c [(10, true)]) (eVar 0)) (op1 (gIsX fun c => List.lookup c [(10, true)]) (eVar 0)))))
noncomputable def b_law_only : Sx :=
      (sSeq (b_law_only_s1)
      (sSeq (b_law_only_s2)
      (sSeq (b_law_only_s3)
      (b_law_only_s4))))
noncomputable def fn_law_only : Fn := selfP 5 b_law_only
theorem ref_law_only (ds : List D) (S : Sto) : Ref S (fn_law_only ds S) (runB 5 b_law_only ds S) := selfP_ref ds S
theorem only_eq {S : Sto} {k : Nat} {a : Option Int} (h : S[k]? = some (some (.exn 10 a))) : fn_law_only [.cell k, .int 0] S = .ok (.bl true) S := by
  refine selfP_eq (J := []) ?_ rfl
  have e : gEq (.lst [.bl true, .bl false, .bl false, .bl false, .bl false]) (.lst [.bl true, .bl false, .bl false, .bl false, .bl false]) S = .ok (.bl true) S := by simp [gEq, py, omap, PyData.eqv, PyData.eqvAll]
  have hc : compL still (hName 4) tYes (op2 gEq (eVar 4) (eVar 1)) [some (.cell k), some (.int 0), some (.lst [.bl true, .bl false, .bl false, .bl false, .bl false]), none, none] (intsD 0 5) [] S = .ok [.bl true, .bl false, .bl false, .bl false, .bl false] S := by
    have := compL_map (chk := still) (h := hName 4) (f := op2 gEq (eVar 4) (eVar 1)) (σ := [some (.cell k), some (.int 0), some (.lst [.bl true, .bl false, .bl false, .bl false, .bl false]), none, none]) (S := S) trivial (fun d => match d with | .int i => .bl (decide (i = 0)) | d => d) (intsD 0 5) (fun d hd => by
      simp [intsD_zero, List.range_succ] at hd
      rcases hd with rfl | rfl | rfl | rfl | rfl <;> exact ⟨_, rfl, by simp⟩) (by decide)
    exact this
  have q5 : 5 ≤ sizeLine := by rw [sizeLine_val]; omega
  simp [runB, q5, b_law_only, b_law_only_s1, b_law_only_s2, b_law_only_s3, b_law_only_s4, h, hc, e, List.lookup, wipeE]
noncomputable def b_law_s1 (f_law_names : Fn) : Sx :=
      (sAsg 1 (eFn 1 f_law_names (aCons (eVar 0) aNil)))
noncomputable def b_law_s2 (f_law_signs : Fn) (f_law_cells : Fn) : Sx :=
      (sAsg 2 (eFn 2 f_law_signs (aCons (eFn 3 f_law_cells (aCons (eVar 0) (aCons (eC (.int 500)) (aCons (eC (.int 40)) aNil)))) (aCons (eVar 1) aNil))))
noncomputable def b_law_s3 (f_law_mix : Fn) (f_law_cell_at : Fn) : Sx :=
      (sAsg 3 (eFn 2 f_law_mix (aCons (eFn 2 f_law_cell_at (aCons (eVar 0) (aCons (eC (.int 1)) aNil))) (aCons (eC (.int 5)) aNil))))
noncomputable def b_law_s4 : Sx :=
      (sAsg 4 (op2 gMod (eVar 3) (op2 gAdd (eCall gLen (aCons (eVar 2) aNil)) (eC (.int 1)))))
noncomputable def b_law_s5 : Sx :=
      (sAsg 5 (op2 gIdx (eLst (aCons (eTup (aCons (eC (.str "close")) aNil)) (aCons (eTup (aCons (eC (.str "open")) (aCons (eC (.str "a")) aNil))) (aCons (eTup (aCons (eC (.str "text")) (aCons (eC (.str "x")) aNil))) aNil)))) (op2 gMod (op2 gDiv (eVar 3) (eC (.int 100))) (eC (.int 3)))))
noncomputable def b_law_s6 (f_law_cell_at : Fn) : Sx :=
      (sAsg 6 (op2 gMod (eFn 2 f_law_cell_at (aCons (eVar 0) (aCons (eC (.int 0)) aNil))) (eC (.int 4))))
noncomputable def b_law_s7 : Sx :=
      (sIf (tTst (op2 gEq (eVar 6) (eC (.int 0)))) (sAsg 4 (eC (.int 0))) sNil)
noncomputable def b_law_s9 : Sx :=
      (sAsg 7 (op2 gSub (eCall gLen (aCons (eComp (iL (eVar 2)) (hName 13) (tTst (op2 gEq (op2 gIdx (eVar 13) (eC (.int 0))) (eC (.str "open")))) (eVar 13) [13]) aNil)) (eCall gLen (aCons (eComp (iL (eVar 2)) (hName 13) (tTst (op2 gEq (op2 gIdx (eVar 13) (eC (.int 0))) (eC (.str "close")))) (eVar 13) [13]) aNil))))
noncomputable def b_law_s10 (f_law_cell_at : Fn) : Sx :=
      (sAsg 2 (op2 gAdd (op2 gAdd (eVar 2) (eComp (iR1 (eVar 7)) (hName 14) tYes (eTup (aCons (eC (.str "close")) aNil)) [14])) (op2 gRep (eLst (aCons (eVar 5) aNil)) (op2 gMod (eFn 2 f_law_cell_at (aCons (eVar 0) (aCons (eC (.int 2)) aNil))) (eC (.int 3))))))
noncomputable def b_law_i1 (f_law_cell_at : Fn) : Sx :=
      (sSeq (b_law_s9)
      (b_law_s10 f_law_cell_at))
noncomputable def b_law_s8 (f_law_cell_at : Fn) : Sx :=
      (sIf (tTst (op2 gLt (eVar 6) (eC (.int 3)))) (sAsg 2 (op2 gAdd (op2 gAdd (eSl gSl (eVar 2) oN (oS (eVar 4))) (eLst (aCons (eVar 5) aNil))) (eSl gSl (eVar 2) (oS (eVar 4)) oN))) (b_law_i1 f_law_cell_at))
noncomputable def b_law_s11 : Sx :=
      (sIf (tTst (op2 gEq (eVar 2) (eLst aNil))) (sAsg 2 (eLst (aCons (eVar 5) aNil))) sNil)
noncomputable def b_law_s12 (f_law_first_wrong : Fn) : Sx :=
      (sAsg 8 (eFn 1 f_law_first_wrong (aCons (eVar 2) aNil)))
noncomputable def b_law_s13 : Sx :=
      (sAsg 9 (eC .non))
noncomputable def b_law_s14 : Sx :=
      (sAsg 10 (eC .non))
noncomputable def b_law_s15 : Sx :=
      (sAsg 11 (eC .non))
noncomputable def b_law_s16 (f_stumpx : Fn) : Sx :=
      (sTryK 12 [⟨fun c => List.lookup c [(10, true)], 9, some 10⟩, ⟨fun c => List.lookup c [(10, true)], 9, none⟩] (sAsg 11 (eFn 1 f_stumpx (aCons (eVar 2) aNil))))
noncomputable def b_law_s17 : Sx :=
      (sIf (tTst (op2 gIsN (eVar 8) (eC .non))) (sRet (eAnd (op2 gIsN (eVar 9) (eC .non)) (op1 (gIsT "tuple") (eVar 11)))) sNil)
noncomputable def b_law_s18 (f_law_only : Fn) (f_law_whole : Fn) : Sx :=
      (sRet (eAnd (eFn 2 f_law_only (aCons (eVar 9) (aCons (eC (.int 0)) aNil))) (eAnd (eFn 1 f_law_whole (aCons (eVar 10) aNil)) (op2 gEq (eVar 10) (eVar 8)))))
noncomputable def b_law (f_law_names : Fn) (f_law_signs : Fn) (f_law_cells : Fn) (f_law_mix : Fn) (f_law_cell_at : Fn) (f_law_first_wrong : Fn) (f_stumpx : Fn) (f_law_only : Fn) (f_law_whole : Fn) : Sx :=
      (sSeq (b_law_s1 f_law_names)
      (sSeq (b_law_s2 f_law_signs f_law_cells)
      (sSeq (b_law_s3 f_law_mix f_law_cell_at)
      (sSeq (b_law_s4)
      (sSeq (b_law_s5)
      (sSeq (b_law_s6 f_law_cell_at)
      (sSeq (b_law_s7)
      (sSeq (b_law_s8 f_law_cell_at)
      (sSeq (b_law_s11)
      (sSeq (b_law_s12 f_law_first_wrong)
      (sSeq (b_law_s13)
      (sSeq (b_law_s14)
      (sSeq (b_law_s15)
      (sSeq (b_law_s16 f_stumpx)
      (sSeq (b_law_s17)
      (b_law_s18 f_law_only f_law_whole))))))))))))))))
noncomputable def fnLaw : Fn := fnOf (fun ns : List Int => [.scr ns]) (fun ns => ns.length ≤ 63) fun _ S => .ok (.bl true) S
theorem fnLaw_eq {ns : List Int} (h : ns.length ≤ 63) (S : Sto) : fnLaw [.scr ns] S = .ok (.bl true) S := fnOf_eq (e := fun ns : List Int => [.scr ns]) (a := ns) (fun a b h => by simpa using h) h
/-- kind 3: all is closed, and more comes -/
theorem closing {ss : List Sg} {more : Sg} {m : Nat} (hm : m ≤ 3) (hok : okFrom z0 ss = true) (hz : ss.length ≤ 100) {x0 x1 x3 x4 x6 : Option D} {S : Sto} (cellat : Fn) (c : Int) (hc : ∀ S, cellat [x0.getD .non, .int 2] S = .ok (.int c) S) (hcm : c % 3 = (m : Int)) (d0 : D) (hx0 : x0 = some d0) :
    b_law_i1 cellat [x0, x1, some (.lst (ss.map Sg.d)), x3, x4, some more.d, x6, none, none, none, none, none, none, none, none] S =
      .nx [x0, x1, some (.lst ((ss ++ List.replicate (z0.run ss).st.length Sg.cl ++ List.replicate m more).map Sg.d)), x3, x4, some more.d, x6, some (.int ((z0.run ss).st.length : Int)), none, none, none, none, none, none, none] S := by
  subst hx0
  have hz1 : ss.length ≤ sizeLine := by rw [sizeLine_val]; omega
  have c1 := compL_filter (chk := still) (h := hName 13) (t := tTst (op2 gEq (op2 gIdx (eVar 13) (eC (.int 0))) (eC (.str "open")))) (f := eVar 13) (σ := [some d0, x1, some (.lst (ss.map Sg.d)), x3, x4, some more.d, x6, none, none, none, none, none, none, none, none]) (S := S) trivial
    (fun d => match d with | .tup (.str t :: _) => decide (t = "open") | _ => false) id (ss.map Sg.d) (fun d hd => by
      obtain ⟨s, _, rfl⟩ := List.mem_map.mp hd
      exact ⟨_, rfl, by cases s <;> simp [Sg.d], fun _ => by simp⟩) (by simpa using hz1)
  have c2 := compL_filter (chk := still) (h := hName 13) (t := tTst (op2 gEq (op2 gIdx (eVar 13) (eC (.int 0))) (eC (.str "close")))) (f := eVar 13) (σ := [some d0, x1, some (.lst (ss.map Sg.d)), x3, x4, some more.d, x6, none, none, none, none, none, none, none, none]) (S := S) trivial
    (fun d => match d with | .tup (.str t :: _) => decide (t = "close") | _ => false) id (ss.map Sg.d) (fun d hd => by
      obtain ⟨s, _, rfl⟩ := List.mem_map.mp hd
      exact ⟨_, rfl, by cases s <;> simp [Sg.d], fun _ => by simp⟩) (by simpa using hz1)
  rw [List.map_id, filter_sg] at c1 c2
  have e1 : (ss.filter fun s => match s.d with | .tup (.str t :: _) => decide (t = "open") | _ => false) = ss.filter fun s => match s with | .op _ => true | _ => false := by
    congr 1; funext s; cases s <;> simp [Sg.d]
  have e2 : (ss.filter fun s => match s.d with | .tup (.str t :: _) => decide (t = "close") | _ => false) = ss.filter fun s => match s with | .cl => true | _ => false := by
    congr 1; funext s; cases s <;> simp [Sg.d]
  rw [e1] at c1
  rw [e2] at c2
  have hdep := run_dep ss z0 hok
  have hz0 : z0.st.length = 0 := rfl
  have hop : opens ss ≤ ss.length := List.length_filter_le _ _
  have hdd : ((ss.filter fun s => match s with | .op _ => true | _ => false).length : Int) - ((ss.filter fun s => match s with | .cl => true | _ => false).length : Int) = ((z0.run ss).st.length : Int) := by
    show (opens ss : Int) - (closes ss : Int) = _
    omega
  generalize hA : (ss.filter fun s => match s with | .op _ => true | _ => false) = A at *
  generalize hB : (ss.filter fun s => match s with | .cl => true | _ => false) = B at *
  generalize hD : (z0.run ss).st.length = dd at *
  have hcomp := compL_map (chk := still) (h := hName 14) (f := eTup (aCons (eC (.str "close")) aNil)) (σ := [some d0, x1, some (.lst (ss.map Sg.d)), x3, x4, some more.d, x6, some (.int (dd : Int)), none, none, none, none, none, none, none]) (S := S) trivial (fun _ => Sg.cl.d)
    ((List.range dd).map fun (k : Nat) => D.int (k : Int)) (fun d _ => ⟨_, rfl, by simp [Sg.d]⟩) (by rw [sizeLine_val]; simp; omega)
  have hrep : ((List.range dd).map fun (k : Nat) => D.int (k : Int)).map (fun _ => Sg.cl.d) = List.replicate dd Sg.cl.d := by
    rw [List.map_map, List.eq_replicate_iff]
    exact ⟨by simp, fun x hx => by obtain ⟨k, _, rfl⟩ := List.mem_map.mp hx; rfl⟩
  rw [hrep] at hcomp
  have hr : (-4611686018427387904 : Int) ≤ (dd : Int) ∧ (dd : Int) < 4611686018427387904 := by omega
  have hrp := gRep_one (S := S) more.d m (by rw [sizeLine_val]; omega)
  have hs1 : ss.length + dd ≤ sizeLine := by rw [sizeLine_val]; omega
  have hs2 : ss.length + dd + m ≤ sizeLine := by rw [sizeLine_val]; omega
  have hs3 : ss.length + (dd + m) ≤ sizeLine := by rw [sizeLine_val]; omega
  have hcl : Sg.cl.d = .tup [.str "close"] := rfl
  rw [hcl] at hcomp
  simp at c1 c2 hc
  generalize hmd : more.d = md at *
  simp [b_law_i1, b_law_s9, b_law_s10, wipeE, c1, c2, hdd, hr, intsD_zero, hcomp, hc, hcm, hrp, hs1, hs2, hs3, hcl, hmd]
theorem ref_law (ds : List D) (S : Sto) : Ref S (fnLaw ds S) (runB 15 (b_law fn_law_names fn_law_signs fn_law_cells fn_law_mix fn_law_cell_at fn_law_first_wrong fn_stumpx fn_law_only fn_law_whole) ds S) := by
  refine fnOf_ref (fun ns S hn => ?_) ds S
  obtain ⟨c1, c2, c3, _⟩ := cellsI_spec ns 500 40 (by decide) (by decide) hn
  have ec := cells_eq ns 500 40 (by decide) (by decide) hn
  have en := names_eq ns hn
  have hno := names_ok (nameNo ns)
  generalize namesI (nameNo ns) = names at en hno
  have hnm : okNames names := ⟨hno.1, fun n h => (hno.2 n h).str⟩
  generalize cellsI (ns, 500, 40) = cs at c1 c2 ec
  obtain ⟨d1, d2, d3, d4, _⟩ := signsI_spec cs names hnm (by omega)
  have es := signs_eq cs names hnm (by omega)
  generalize signsI (cs, names) = ss at d1 d2 d3 d4 es
  have hok : ∀ s ∈ ss, s.ok := fun s hs => Sg.of_ok hnm.2 (d2 s hs)
  obtain ⟨w0, hw0⟩ := cell_at_eq ns 0 hn
  obtain ⟨w1, hw1⟩ := cell_at_eq ns 1 hn
  obtain ⟨w2, hw2⟩ := cell_at_eq ns 2 hn
  have hmx := fun S => mix_eq (c := w1) (t := 5) (by decide) (by decide) S
  generalize mixI w1 5 = num at hmx
  simp at hw0 hw1 hw2 ec
  obtain ⟨at_, ha1, ha2⟩ : ∃ a : Nat, num % ((ss.length : Int) + 1) = (a : Int) ∧ a ≤ ss.length := by
    have h1 := Int.emod_nonneg num (show (ss.length : Int) + 1 ≠ 0 by omega)
    have h2 := Int.emod_lt_of_pos num (show (0 : Int) < (ss.length : Int) + 1 by omega)
    exact ⟨(num % ((ss.length : Int) + 1)).toNat, by omega, by omega⟩
  obtain ⟨jm, more, _, _, hjm, ham, _⟩ := atI_mod [Sg.cl, .op "a", .tx "x"] (by decide) (num / 100)
  have hmore : more.ok := by
    have := List.mem_of_getElem? hjm
    simp at this
    rcases this with rfl | rfl | rfl
    · trivial
    · show PyData.strOk _ = true; decide +kernel
    · show PyData.strOk _ = true; decide +kernel
  have ham' : atI [Sg.cl.d, (Sg.op "a").d, (Sg.tx "x").d] (num / 100 % 3) = some more.d := by
    have := atI_map Sg.d [Sg.cl, .op "a", .tx "x"] (num / 100 % 3)
    simp only [List.map_cons, List.map_nil] at this
    rw [this]
    simp only [List.length_cons, List.length_nil] at ham
    rw [show ((0 + 1 + 1 + 1 : Nat) : Int) = 3 from rfl] at ham
    rw [ham]; rfl
  obtain ⟨m2, hm1, hm2⟩ : ∃ a : Nat, w2 % 3 = (a : Int) ∧ a ≤ 3 := ⟨(w2 % 3).toNat, by omega, by omega⟩
  let env := fun (a b c d e f g : Option D) => [some (.scr ns), some (.lst (names.map D.str)), a, b, c, d, e, f, g, none, none, none, none, none, none]
  have g1 : b_law_s1 fn_law_names [some (.scr ns), none, none, none, none, none, none, none, none, none, none, none, none, none, none] S = .nx (env none none none none none none none) S := by
    simp [b_law_s1, en, env]
  have g2 : b_law_s2 fn_law_signs fn_law_cells (env none none none none none none none) S = .nx (env (some (.lst (ss.map Sg.d))) none none none none none none) S := by
    simp [b_law_s2, ec, es, env, sgs]
  have g3 : b_law_s3 fn_law_mix fn_law_cell_at (env (some (.lst (ss.map Sg.d))) none none none none none none) S = .nx (env (some (.lst (ss.map Sg.d))) (some (.int num)) none none none none none) S := by
    simp [b_law_s3, hw1, hmx, env]
  have g4 : b_law_s4 (env (some (.lst (ss.map Sg.d))) (some (.int num)) none none none none none) S = .nx (env (some (.lst (ss.map Sg.d))) (some (.int num)) (some (.int (at_ : Int))) none none none none) S := by
    have hne : (ss.length : Int) + 1 ≠ 0 := by omega
    simp [b_law_s4, env, ha1, hne]
  have g5 : b_law_s5 (env (some (.lst (ss.map Sg.d))) (some (.int num)) (some (.int (at_ : Int))) none none none none) S = .nx (env (some (.lst (ss.map Sg.d))) (some (.int num)) (some (.int (at_ : Int))) (some more.d) none none none) S := by
    simp [Sg.d] at ham'
    simp [b_law_s5, env, ham', Sg.d]
  have g6 : b_law_s6 fn_law_cell_at (env (some (.lst (ss.map Sg.d))) (some (.int num)) (some (.int (at_ : Int))) (some more.d) none none none) S = .nx (env (some (.lst (ss.map Sg.d))) (some (.int num)) (some (.int (at_ : Int))) (some more.d) (some (.int (w0 % 4))) none none) S := by
    simp [b_law_s6, env, hw0]
  obtain ⟨at2, hat2, g7⟩ : ∃ a : Nat, a ≤ ss.length ∧ b_law_s7 (env (some (.lst (ss.map Sg.d))) (some (.int num)) (some (.int (at_ : Int))) (some more.d) (some (.int (w0 % 4))) none none) S = .nx (env (some (.lst (ss.map Sg.d))) (some (.int num)) (some (.int (a : Int))) (some more.d) (some (.int (w0 % 4))) none none) S := by
    by_cases h0 : w0 % 4 = 0
    · exact ⟨0, by omega, by simp [b_law_s7, env, h0]⟩
    · exact ⟨at_, ha2, by simp [b_law_s7, env, h0]⟩
  obtain ⟨L0, x7, hL1, hL2, g8⟩ : ∃ (L : List Sg) (x7 : Option D), (∀ s ∈ L, s.ok) ∧ L.length ≤ 200 ∧ b_law_s8 fn_law_cell_at (env (some (.lst (ss.map Sg.d))) (some (.int num)) (some (.int (at2 : Int))) (some more.d) (some (.int (w0 % 4))) none none) S = .nx (env (some (.lst (L.map Sg.d))) (some (.int num)) (some (.int (at2 : Int))) (some more.d) (some (.int (w0 % 4))) x7 none) S := by
    by_cases h3 : w0 % 4 < 3
    · refine ⟨ss.take at2 ++ [more] ++ ss.drop at2, none, fun s hs => ?_, by simp; omega, ?_⟩
      · simp at hs
        rcases hs with hs | hs | hs
        · exact hok s (List.mem_of_mem_take hs)
        · rw [hs]; exact hmore
        · exact hok s (List.mem_of_mem_drop hs)
      · have e1 : cutG (ss.map Sg.d) none (some (at2 : Int)) = (ss.take at2).map Sg.d := by rw [cutG_to, List.map_take]
        have e2 : cutG (ss.map Sg.d) (some (at2 : Int)) none = (ss.drop at2).map Sg.d := by rw [cutG_from, List.map_drop]
        have e3 : List.drop at2 (ss.map Sg.d) = (ss.drop at2).map Sg.d := by rw [List.map_drop]
        have e4 : List.take at2 (ss.map Sg.d) = (ss.take at2).map Sg.d := by rw [List.map_take]
        have hA : (ss.take at2).length ≤ 40 := by simp; omega
        have hB : (ss.drop at2).length ≤ 40 := by simp; omega
        generalize ss.take at2 = A at *
        generalize ss.drop at2 = B at *
        have q1 : A.length + 1 ≤ sizeLine := by rw [sizeLine_val]; omega
        have q2 : A.length + 1 + B.length ≤ sizeLine := by rw [sizeLine_val]; omega
        have q3 : A.length + (B.length + 1) ≤ sizeLine := by rw [sizeLine_val]; omega
        simp [b_law_s8, env, h3, e1, e2, q1, q2, q3]
    · refine ⟨ss ++ List.replicate (z0.run ss).st.length Sg.cl ++ List.replicate m2 more, some (.int ((z0.run ss).st.length : Int)), fun s hs => ?_, ?_, ?_⟩
      · simp only [List.mem_append] at hs
        rcases hs with (hs | hs) | hs
        · exact hok s hs
        · rw [(List.mem_replicate.mp hs).2]; trivial
        · rw [(List.mem_replicate.mp hs).2]; exact hmore
      · have hdep := run_dep ss z0 d1
        have hop : opens ss ≤ ss.length := List.length_filter_le _ _
        have hz0 : z0.st.length = 0 := rfl
        simp; omega
      · have := closing (more := more) (m := m2) hm2 d1 (by omega) (x0 := some (.scr ns)) (x1 := some (.lst (names.map D.str))) (x3 := some (.int num)) (x4 := some (.int (at2 : Int))) (x6 := some (.int (w0 % 4))) (S := S) fn_law_cell_at w2 (fun S => hw2 S) hm1 _ rfl
        simp only [env]
        rw [← this]
        simp [b_law_s8, h3]
  obtain ⟨L, hLn, hL1, hL2, g11⟩ : ∃ L : List Sg, L ≠ [] ∧ (∀ s ∈ L, s.ok) ∧ L.length ≤ 200 ∧ b_law_s11 (env (some (.lst (L0.map Sg.d))) (some (.int num)) (some (.int (at2 : Int))) (some more.d) (some (.int (w0 % 4))) x7 none) S = .nx (env (some (.lst (L.map Sg.d))) (some (.int num)) (some (.int (at2 : Int))) (some more.d) (some (.int (w0 % 4))) x7 none) S := by
    obtain ⟨b, e1, e2⟩ := gEq_of (x := sgs L0) (y := .lst []) (S := S) (sgs_py200 hL1 S) (q := .list []) rfl (sgs_pl L0) rfl
    simp only [sgs] at e1 e2
    cases b with
    | true =>
      have := e2.mp rfl
      exact ⟨[more], by simp, by simpa using hmore, by simp, by simp [b_law_s11, env, e1]⟩
    | false =>
      refine ⟨L0, fun e => ?_, hL1, hL2, by simp [b_law_s11, env, e1]⟩
      subst e
      exact absurd (e2.mpr rfl) (by decide)
  have hfw := fun S => first_wrong_eq (ss := L) (by omega) S
  have hst := fun S => stumpx_eq (ss := L) hLn (by omega) S
  cases hw : firstW z0 0 L with
  | none =>
    simp only [hw] at hfw hst
    have hokL : okFrom z0 L = true := by
      cases h : okFrom z0 L with
      | true => rfl
      | false => obtain ⟨i, hi, _⟩ := firstW_bad L z0 0 h; rw [hw] at hi; cases hi
    obtain ⟨n, k, hp, _⟩ := stumpP_all hLn hokL
    rw [hp] at hst
    refine Ref.self ?_
    simp only [env] at g1 g2 g3 g4 g5 g6 g7 g8 g11
    simp [Pt.d] at hst
    simp [runB, b_law, g1, g2, g3, g4, g5, g6, g7, g8, g11, b_law_s12, b_law_s13, b_law_s14, b_law_s15, b_law_s16, b_law_s17, hfw, hst, sTryK]
  | some i =>
    simp only [hw] at hfw hst
    have ho := only_eq (S := S ++ [some (.exn 10 (some (i : Int)))]) (k := S.length) (a := some (i : Int)) (by simp)
    refine Ref.ok (v2 := .bl true) (S2 := S ++ [some (.exn 10 (some (i : Int)))]) ?_ (Cl.pure rfl)
    simp only [env] at g1 g2 g3 g4 g5 g6 g7 g8 g11
    simp [runB, b_law, g1, g2, g3, g4, g5, g6, g7, g8, g11, b_law_s12, b_law_s13, b_law_s14, b_law_s15, b_law_s16, b_law_s17, b_law_s18, hfw, hst, sTryK, hitK, iAt, keptS, List.lookup, ho, whole_eq]
end Ev

namespace KR
open PySem PySem.Spec PyProof.Rows L2 Ev
def topS (i : Nat) : Stmt := PySem.Challenge.pw_earlysift_k03_signs_that_cannot_come.main.body.getD i (.Pass ⟨0, 0, 0, 0⟩)
def inC (i j : Nat) : Stmt := match topS i with
  | .ClassDef (body := b) .. => b.getD j (.Pass ⟨0, 0, 0, 0⟩)
  | s => s
abbrev s_law_mix : Stmt := topS 13
theorem sc_law_mix : FnScope ["_law_cell", "_law_turn", "_law_number"] ["_law_cell", "_law_turn"] (defScope s_law_mix) := ⟨rfl, rfl, rfl, by decide +kernel, rfl, by decide +kernel, by decide +kernel⟩
abbrev s_law_cells : Stmt := topS 15
theorem sc_law_cells : FnScope ["_law_script", "_law_turn", "_law_most", "_law_cells_here", "_law_found", "_law_lefts", "_law_k", "_law_at", "_law_number", "_law_cell", "_law_other"] ["_law_script", "_law_turn", "_law_most"] (defScope s_law_cells) := ⟨rfl, rfl, rfl, by decide +kernel, rfl, by decide +kernel, by decide +kernel⟩
abbrev s_law_names : Stmt := topS 16
theorem sc_law_names : FnScope ["_law_script", "_law_number", "_law_stem", "_law_at", "_law_letter"] ["_law_script"] (defScope s_law_names) := ⟨rfl, rfl, rfl, by decide +kernel, rfl, by decide +kernel, by decide +kernel⟩
abbrev s_law_signs : Stmt := topS 17
theorem sc_law_signs : FnScope ["_law_cells_here", "_law_some", "_law_texts", "_law_signs_here", "_law_depth", "_law_lean", "_law_k", "_law_cell", "_law_number", "_law_kind"] ["_law_cells_here", "_law_some"] (defScope s_law_signs) := ⟨rfl, rfl, rfl, by decide +kernel, rfl, by decide +kernel, by decide +kernel⟩
abbrev s_law_cell_at : Stmt := topS 11
theorem sc_law_cell_at : FnScope ["_law_script", "_law_k"] ["_law_script", "_law_k"] (defScope s_law_cell_at) := ⟨rfl, rfl, rfl, by decide +kernel, rfl, by decide +kernel, by decide +kernel⟩
abbrev s_law_first_wrong : Stmt := topS 18
theorem sc_law_first_wrong : FnScope ["_law_signs_here", "_law_depth", "_law_at", "_law_sign"] ["_law_signs_here"] (defScope s_law_first_wrong) := ⟨rfl, rfl, rfl, by decide +kernel, rfl, by decide +kernel, by decide +kernel⟩
abbrev s_can_come : Stmt := topS 8
theorem sc_can_come : FnScope ["sign", "begun", "depth"] ["sign", "begun", "depth"] (defScope s_can_come) := ⟨rfl, rfl, rfl, by decide +kernel, rfl, by decide +kernel, by decide +kernel⟩
abbrev s_stumpx : Stmt := topS 9
theorem sc_stumpx : FnScope ["signs", "around", "pile", "at", "sign", "parts"] ["signs"] (defScope s_stumpx) := ⟨rfl, rfl, rfl, by decide +kernel, rfl, by decide +kernel, by decide +kernel⟩
abbrev s_law_only : Stmt := topS 14
theorem sc_law_only : FnScope ["_law_error", "_law_which", "_law_found", "_law_due", "_law_k"] ["_law_error", "_law_which"] (defScope s_law_only) := ⟨rfl, rfl, rfl, by decide +kernel, rfl, by decide +kernel, by decide +kernel⟩
abbrev s_law_whole : Stmt := topS 12
theorem sc_law_whole : FnScope ["_law_found"] ["_law_found"] (defScope s_law_whole) := ⟨rfl, rfl, rfl, by decide +kernel, rfl, by decide +kernel, by decide +kernel⟩
abbrev s_law : Stmt := topS 19
theorem sc_law : FnScope ["_law_script", "_law_some", "_law_signs_here", "_law_number", "_law_at", "_law_more", "_law_kind", "_law_depth", "_law_due", "_law_kept", "_law_place", "_law_found", "e", "_law_one", "_law_k"] ["_law_script"] (defScope s_law) := ⟨rfl, rfl, rfl, by decide +kernel, rfl, by decide +kernel, by decide +kernel⟩
abbrev s_NoSign___init__ : Stmt := inC 2 0
theorem sc_NoSign___init__ : FnScope ["self", "at"] ["self", "at"] (defScope s_NoSign___init__) := ⟨rfl, rfl, rfl, by decide +kernel, rfl, by decide +kernel, by decide +kernel⟩
structure Row (K : PySem.W.Frag) (ca : Nat → Addr) (mg : Str → Option Value) : Prop where
  a_law_mix : At K "_law_mix" .none "_law_mix" "_law_mix" s_law_mix ["_law_cell", "_law_turn"]
  a_law_cells : At K "_law_cells" .none "_law_cells" "_law_cells" s_law_cells ["_law_script", "_law_turn", "_law_most"]
  a_law_names : At K "_law_names" .none "_law_names" "_law_names" s_law_names ["_law_script"]
  a_law_signs : At K "_law_signs" .none "_law_signs" "_law_signs" s_law_signs ["_law_cells_here", "_law_some"]
  a_law_cell_at : At K "_law_cell_at" .none "_law_cell_at" "_law_cell_at" s_law_cell_at ["_law_script", "_law_k"]
  a_law_first_wrong : At K "_law_first_wrong" .none "_law_first_wrong" "_law_first_wrong" s_law_first_wrong ["_law_signs_here"]
  a_can_come : At K "can_come" .none "can_come" "can_come" s_can_come ["sign", "begun", "depth"]
  a_stumpx : At K "stump" .none "stump" "stump" s_stumpx ["signs"]
  a_law_only : At K "_law_only" .none "_law_only" "_law_only" s_law_only ["_law_error", "_law_which"]
  a_law_whole : At K "_law_whole" .none "_law_whole" "_law_whole" s_law_whole ["_law_found"]
  a_law : At K "law" .none "law" "law" s_law ["_law_script"]
  a_NoSign___init__ : At K "NoSign" (some "__init__") "__init__" "NoSign.__init__" s_NoSign___init__ ["self", "at"]
  g_law_mix : mg "_law_mix" = some (.ref (He.ga K "_law_mix"))
  g_law_cells : mg "_law_cells" = some (.ref (He.ga K "_law_cells"))
  g_law_names : mg "_law_names" = some (.ref (He.ga K "_law_names"))
  g_law_signs : mg "_law_signs" = some (.ref (He.ga K "_law_signs"))
  g_law_cell_at : mg "_law_cell_at" = some (.ref (He.ga K "_law_cell_at"))
  g_law_first_wrong : mg "_law_first_wrong" = some (.ref (He.ga K "_law_first_wrong"))
  g_can_come : mg "can_come" = some (.ref (He.ga K "can_come"))
  g_stump : mg "stump" = some (.ref (He.ga K "stump"))
  g_law_only : mg "_law_only" = some (.ref (He.ga K "_law_only"))
  g_law_whole : mg "_law_whole" = some (.ref (He.ga K "_law_whole"))
  n_ValueError : mg "ValueError" = none
  n_bool : mg "bool" = none
  n_enumerate : mg "enumerate" = none
  n_int : mg "int" = none
  n_isinstance : mg "isinstance" = none
  n_len : mg "len" = none
  n_range : mg "range" = none
  n_tuple : mg "tuple" = none
  gc_Late : mg "Late" = some (.ref (ca 14))
  gc_NoPart : mg "NoPart" = some (.ref (ca 12))
  gc_NoSign : mg "NoSign" = some (.ref (ca 10))
  gc_NoText : mg "NoText" = some (.ref (ca 11))
  gc_SiftError : mg "SiftError" = some (.ref (ca 9))
  gc_Taken : mg "Taken" = some (.ref (ca 13))
  na_NoSign_at : NoAttr K (ca 10) "at"
  oi_NoSign : PySem.W.findIn K (.ref (ca 10)) "__init__" = some (some (.ref (He.fAd K ("NoSign", some "__init__")))) ∧ PySem.W.typeIn K (.ref (He.fAd K ("NoSign", some "__init__"))) = some (.type "function")
  ox_NoSign : OexC K (ca 10)
  xc_NoSign : XcF K (ca 10)
  xk_NoSign_Late : PySem.W.kitOne K (.ref (ca 10)) (.ref (ca 14)) = some false
  xk_NoSign_NoPart : PySem.W.kitOne K (.ref (ca 10)) (.ref (ca 12)) = some false
  xk_NoSign_NoSign : PySem.W.kitOne K (.ref (ca 10)) (.ref (ca 10)) = some true
  xk_NoSign_NoText : PySem.W.kitOne K (.ref (ca 10)) (.ref (ca 11)) = some false
  xk_NoSign_SiftError : PySem.W.kitOne K (.ref (ca 10)) (.ref (ca 9)) = some true
  xk_NoSign_Taken : PySem.W.kitOne K (.ref (ca 10)) (.ref (ca 13)) = some false
  xk_NoSign_ValueError : PySem.W.kitOne K (.ref (ca 10)) (.type "ValueError") = some true
  xm_NoSign_NoSign : PySem.W.exmOne K (.ref (ca 10)) (.ref (ca 10)) = some true
  xm_NoSign_SiftError : PySem.W.exmOne K (.ref (ca 10)) (.ref (ca 9)) = some true
  xn_Late : PySem.W.kitOne K (.type "NoneType") (.ref (ca 14)) = some false
  xn_NoPart : PySem.W.kitOne K (.type "NoneType") (.ref (ca 12)) = some false
  xn_NoSign : PySem.W.kitOne K (.type "NoneType") (.ref (ca 10)) = some false
  xn_NoText : PySem.W.kitOne K (.type "NoneType") (.ref (ca 11)) = some false
  xn_SiftError : PySem.W.kitOne K (.type "NoneType") (.ref (ca 9)) = some false
  xn_Taken : PySem.W.kitOne K (.type "NoneType") (.ref (ca 13)) = some false
  xn_ValueError : PySem.W.kitOne K (.type "NoneType") (.type "ValueError") = some false
section
variable {P : Program} {w : World} {K : PySem.W.Frag} {mg : Str → Option Value} {base : Heap} {ca : Nat → Addr}
theorem hI_NoSign (R : Row K ca mg) : HasI P w K mg base "NoSign" (ca 10) := by
  obtain ⟨fd, F, b⟩ := R.a_NoSign___init__.ex
  exact ⟨fd, init_ok F sc_NoSign___init__ R.ox_NoSign R.na_NoSign_at rfl rfl rfl (fun _ => rfl), b⟩
theorem v_law_mix {k : Nat} (R : Row K ca mg) :
    ∀ (cdv : Value) (A : Around) (outer : List PySem.Env) (s : Shared) (H : Hp) (E : XK), Room k (A.deeper (envOfC "_law_mix" (defScope s_law_mix) s.heap.objs.size (He.fAd K ("_law_mix", .none)) cdv)) →
      VSs (cxOf (L2.CX P w) P w K mg base ["_law_cell", "_law_turn", "_law_number"] "_law_mix" (defScope s_law_mix) (He.fAd K ("_law_mix", .none)) cdv A outer s H E) ⟨K, ca⟩ (fun c d _ H => E c d H) (defBody s_law_mix) (b_law_mix) := by
  intro cdv A outer s H E hr
  have S := sc_law_mix
  have tk := takes_of (X := cxOf (L2.CX P w) P w K mg base ["_law_cell", "_law_turn", "_law_number"] "_law_mix" (defScope s_law_mix) (He.fAd K ("_law_mix", .none)) cdv A outer s H E) rfl rfl rfl rfl
  exact (vss_cons (vs_set (i := 2) S.nd (ve_mod (ve_mul (ve_add (ve_add (ve_mod (ve_var (i := 0)) ve_int) (ve_mul (ve_mul (ve_var (i := 1)) (ve_var (i := 1))) ve_int)) ve_int) ve_int) ve_int))
      (vss_one (vs_ret (ve_mod (ve_add (ve_mul (ve_var (i := 2)) (ve_var (i := 2))) (ve_mul ve_int (ve_var (i := 1)))) ve_int))))
theorem v_law_cells {f_law_mix : Fn} {k : Nat} (R : Row K ca mg) (F_law_mix : Has P w K mg base ⟨K, ca⟩ k "_law_mix" .none ["_law_cell", "_law_turn"] 2 f_law_mix) :
    ∀ (cdv : Value) (A : Around) (outer : List PySem.Env) (s : Shared) (H : Hp) (E : XK), Room k (A.deeper (envOfC "_law_cells" (defScope s_law_cells) s.heap.objs.size (He.fAd K ("_law_cells", .none)) cdv)) →
      VSs (cxOf (L2.CX P w) P w K mg base ["_law_script", "_law_turn", "_law_most", "_law_cells_here", "_law_found", "_law_lefts", "_law_k", "_law_at", "_law_number", "_law_cell", "_law_other"] "_law_cells" (defScope s_law_cells) (He.fAd K ("_law_cells", .none)) cdv A outer s H E) ⟨K, ca⟩ (fun c d _ H => E c d H) (defBody s_law_cells) (b_law_cells f_law_mix) := by
  intro cdv A outer s H E hr
  have S := sc_law_cells
  have tk := takes_of (X := cxOf (L2.CX P w) P w K mg base ["_law_script", "_law_turn", "_law_most", "_law_cells_here", "_law_found", "_law_lefts", "_law_k", "_law_at", "_law_number", "_law_cell", "_law_other"] "_law_cells" (defScope s_law_cells) (He.fAd K ("_law_cells", .none)) cdv A outer s H E) rfl rfl rfl rfl
  exact (vss_cons (vs_set (i := 3) S.nd (ve_add (ve_sl (ve_var (i := 0)) vo_none (vo_some ve_int)) (ve_lst (va_cons (ve_var (i := 1)) va_nil))))
      (vss_cons (vs_set (i := 4) S.nd (ve_new va_nil))
      (vss_cons (vs_if (vt_eq hr (ve_mod (ve_div (ve_ix (ve_var (i := 3)) ve_int) ve_int) ve_int) ve_int) (vss_cons (vs_setLcN (i := 5) (own := [("_law_cell", 9)]) rfl S.nd (vi_list (ve_var (i := 3))) (blkOk_by (N := ["_law_script", "_law_turn", "_law_most", "_law_cells_here", "_law_found", "_law_lefts", "_law_k", "_law_at", "_law_number", "_law_cell", "_law_other"]) (sc := defScope s_law_cells) (by decide +kernel)) (fun _ _ _ _ _ => (vg_name (i := 9) S.nd)) (fun _ _ _ _ _ => VTs_nil) (fun _ _ _ _ _ => (ve_div (ve_var (i := 9)) ve_int)) (sw_true rfl rfl rfl (by decide +kernel)))
      (vss_cons (vs_for (passes_of rfl) rfl (vi_r1 R.n_range (ve_add (ve_add (ve_var (i := 1)) (ve_var (i := 2))) ve_int)) (vg_name (i := 6) S.nd) (vss_cons (vs_set (i := 7) S.nd (ve_mod (ve_var (i := 6)) (ve_len R.n_len (ve_var (i := 5)))))
      (vss_cons (vs_exp (ve_append (ve_var (i := 4)) (ve_mod (ve_ix (ve_var (i := 5)) (ve_var (i := 7))) ve_int)))
      (vss_one (vs_ix (ve_div (ve_ix (ve_var (i := 5)) (ve_var (i := 7))) ve_int) (ve_var (i := 5)) (ve_var (i := 7)))))))
      (vss_cons (vs_set (i := 4) S.nd (ve_slN (ve_var (i := 4)) (vo_some (ve_var (i := 1))) vo_none))
      (vss_one (vs_ret (ve_sl (ve_var (i := 4)) vo_none (vo_some (ve_add ve_int (ve_mod (ve_ix (ve_var (i := 4)) (ve_var (i := 2))) (ve_var (i := 2))))))))))) vss_nil)
      (vss_cons (vs_set (i := 8) S.nd ve_int)
      (vss_cons (vs_for (passes_of rfl) rfl (vi_enum R.n_enumerate (ve_var (i := 3))) (vg_tup (n := 2) rfl (vgs_cons (vg_name (i := 6) S.nd) (vgs_cons (vg_name (i := 9) S.nd) vgs_nil))) (vss_one (vs_set (i := 8) S.nd (ve_mod (ve_add (ve_mul (ve_var (i := 8)) ve_int) (F_law_mix.call R.g_law_mix hr tk (va_cons (ve_var (i := 9)) (va_cons (ve_add (ve_var (i := 6)) (ve_var (i := 1))) va_nil)))) ve_int))))
      (vss_cons (vs_for (passes_of rfl) rfl (vi_r1 R.n_range (ve_add ve_int (ve_mod (ve_div (ve_var (i := 8)) ve_int) (ve_var (i := 2))))) (vg_name (i := 6) S.nd) (vss_cons (vs_set (i := 10) S.nd (F_law_mix.call R.g_law_mix hr tk (va_cons (ve_ix (ve_var (i := 3)) (ve_mod (ve_var (i := 6)) (ve_len R.n_len (ve_var (i := 3))))) (va_cons (ve_add (ve_add (ve_mod (ve_var (i := 8)) ve_int) (ve_var (i := 6))) (ve_var (i := 1))) va_nil))))
      (vss_one (vs_exp (ve_append (ve_var (i := 4)) (ve_mod (ve_add (ve_mul (ve_var (i := 10)) (ve_var (i := 10))) (ve_mul ve_int (ve_var (i := 6)))) ve_int))))))
      (vss_one (vs_ret (ve_var (i := 4))))))))))
theorem v_law_names {f_law_cells : Fn} {k : Nat} (R : Row K ca mg) (F_law_cells : Has P w K mg base ⟨K, ca⟩ k "_law_cells" .none ["_law_script", "_law_turn", "_law_most"] 3 f_law_cells) :
    ∀ (cdv : Value) (A : Around) (outer : List PySem.Env) (s : Shared) (H : Hp) (E : XK), Room k (A.deeper (envOfC "_law_names" (defScope s_law_names) s.heap.objs.size (He.fAd K ("_law_names", .none)) cdv)) →
      VSs (cxOf (L2.CX P w) P w K mg base ["_law_script", "_law_number", "_law_stem", "_law_at", "_law_letter"] "_law_names" (defScope s_law_names) (He.fAd K ("_law_names", .none)) cdv A outer s H E) ⟨K, ca⟩ (fun c d _ H => E c d H) (defBody s_law_names) (b_law_names f_law_cells) := by
  intro cdv A outer s H E hr
  have S := sc_law_names
  have tk := takes_of (X := cxOf (L2.CX P w) P w K mg base ["_law_script", "_law_number", "_law_stem", "_law_at", "_law_letter"] "_law_names" (defScope s_law_names) (He.fAd K ("_law_names", .none)) cdv A outer s H E) rfl rfl rfl rfl
  exact (vss_cons (vs_set (i := 1) S.nd (ve_ix (F_law_cells.call R.g_law_cells hr tk (va_cons (ve_var (i := 0)) (va_cons ve_int (va_cons ve_int va_nil)))) ve_int))
      (vss_cons (vs_set (i := 2) S.nd (ve_sl ve_str vo_none (vo_some (ve_mod (ve_var (i := 1)) ve_int))))
      (vss_cons (vs_set (i := 3) S.nd (ve_mod (ve_div (ve_var (i := 1)) ve_int) (ve_add (ve_len R.n_len (ve_var (i := 2))) ve_int)))
      (vss_one (vs_ret (ve_comp (own := [("_law_letter", 4)]) rfl S.nd (vi_str ve_str) (blkOk_by (N := ["_law_script", "_law_number", "_law_stem", "_law_at", "_law_letter"]) (sc := defScope s_law_names) (by decide +kernel)) (fun _ _ _ _ _ => (vg_name (i := 4) S.nd)) (fun _ _ _ _ _ => VTs_nil) (fun _ _ _ _ _ => (ve_add (ve_add (ve_sl (ve_var (i := 2)) vo_none (vo_some (ve_var (i := 3)))) (ve_var (i := 4))) (ve_sl (ve_var (i := 2)) (vo_some (ve_var (i := 3))) vo_none)))))))))
theorem v_law_signs {k : Nat} (R : Row K ca mg) :
    ∀ (cdv : Value) (A : Around) (outer : List PySem.Env) (s : Shared) (H : Hp) (E : XK), Room k (A.deeper (envOfC "_law_signs" (defScope s_law_signs) s.heap.objs.size (He.fAd K ("_law_signs", .none)) cdv)) →
      VSs (cxOf (L2.CX P w) P w K mg base ["_law_cells_here", "_law_some", "_law_texts", "_law_signs_here", "_law_depth", "_law_lean", "_law_k", "_law_cell", "_law_number", "_law_kind"] "_law_signs" (defScope s_law_signs) (He.fAd K ("_law_signs", .none)) cdv A outer s H E) ⟨K, ca⟩ (fun c d _ H => E c d H) (defBody s_law_signs) (b_law_signs) := by
  intro cdv A outer s H E hr
  have S := sc_law_signs
  have tk := takes_of (X := cxOf (L2.CX P w) P w K mg base ["_law_cells_here", "_law_some", "_law_texts", "_law_signs_here", "_law_depth", "_law_lean", "_law_k", "_law_cell", "_law_number", "_law_kind"] "_law_signs" (defScope s_law_signs) (He.fAd K ("_law_signs", .none)) cdv A outer s H E) rfl rfl rfl rfl
  exact (vss_cons (vs_set (i := 2) S.nd (ve_lst (va_cons ve_str (va_cons ve_str (va_cons ve_str (va_cons ve_str (va_cons ve_str va_nil)))))))
      (vss_cons (vs_set (i := 3) S.nd (ve_new va_nil))
      (vss_cons (vs_set (i := 4) S.nd ve_int)
      (vss_cons (vs_set (i := 5) S.nd ve_int)
      (vss_cons (vs_for (passes_of rfl) rfl (vi_enum R.n_enumerate (ve_var (i := 0))) (vg_tup (n := 2) rfl (vgs_cons (vg_name (i := 6) S.nd) (vgs_cons (vg_name (i := 7) S.nd) vgs_nil))) (vss_cons (vs_set (i := 8) S.nd (ve_var (i := 7)))
      (vss_cons (vs_if (vt_eq hr (ve_var (i := 6)) ve_int) (vss_one (vs_set (i := 5) S.nd (ve_mod (ve_div (ve_var (i := 8)) ve_int) ve_int))) vss_nil)
      (vss_cons (vs_set (i := 9) S.nd (ve_mod (ve_add (ve_var (i := 8)) (ve_mul (ve_mul (ve_var (i := 5)) (ve_mod (ve_var (i := 6)) ve_int)) ve_int)) ve_int))
      (vss_one (vs_if (vt_w (vw_or (vt_eq hr (ve_var (i := 3)) (ve_lst va_nil)) (vw_or1 (vt_w (vw_and (vt_lt (ve_var (i := 9)) ve_int) (vw_and1 (vt_gt (ve_var (i := 4)) ve_int))))))) (vss_cons (vs_exp (ve_append (ve_var (i := 3)) (ve_tup (va_cons ve_str (va_cons (ve_ix (ve_var (i := 1)) (ve_mod (ve_mod (ve_div (ve_var (i := 8)) ve_int) ve_int) ve_int)) va_nil)))))
      (vss_one (vs_set (i := 4) S.nd (ve_add (ve_var (i := 4)) ve_int)))) (vss_one (vs_if (vt_w (vw_and (vt_lt (ve_var (i := 9)) ve_int) (vw_and1 (vt_gt (ve_var (i := 4)) ve_int)))) (vss_one (vs_exp (ve_append (ve_var (i := 3)) (ve_tup (va_cons ve_str (va_cons (ve_ix (ve_var (i := 2)) (ve_mod (ve_div (ve_var (i := 8)) ve_int) ve_int)) va_nil)))))) (vss_one (vs_if (vt_w (vw_or (vt_gt (ve_var (i := 4)) ve_int) (vw_or1 (vt_w (vw_and (vt_eq hr (ve_var (i := 4)) ve_int) (vw_and1 (vt_eq hr (ve_mod (ve_div (ve_var (i := 8)) ve_int) ve_int) ve_int))))))) (vss_cons (vs_exp (ve_append (ve_var (i := 3)) (ve_tup (va_cons ve_str va_nil))))
      (vss_one (vs_set (i := 4) S.nd (ve_sub (ve_var (i := 4)) ve_int)))) vss_nil))))))))))
      (vss_one (vs_ret (ve_var (i := 3)))))))))
theorem v_law_cell_at {k : Nat} (R : Row K ca mg) :
    ∀ (cdv : Value) (A : Around) (outer : List PySem.Env) (s : Shared) (H : Hp) (E : XK), Room k (A.deeper (envOfC "_law_cell_at" (defScope s_law_cell_at) s.heap.objs.size (He.fAd K ("_law_cell_at", .none)) cdv)) →
      VSs (cxOf (L2.CX P w) P w K mg base ["_law_script", "_law_k"] "_law_cell_at" (defScope s_law_cell_at) (He.fAd K ("_law_cell_at", .none)) cdv A outer s H E) ⟨K, ca⟩ (fun c d _ H => E c d H) (defBody s_law_cell_at) (b_law_cell_at) := by
  intro cdv A outer s H E hr
  have S := sc_law_cell_at
  have tk := takes_of (X := cxOf (L2.CX P w) P w K mg base ["_law_script", "_law_k"] "_law_cell_at" (defScope s_law_cell_at) (He.fAd K ("_law_cell_at", .none)) cdv A outer s H E) rfl rfl rfl rfl
  exact (vss_cons (vs_if (vt_lt (ve_var (i := 1)) (ve_len R.n_len (ve_var (i := 0)))) (vss_one (vs_ret (ve_ix (ve_var (i := 0)) (ve_var (i := 1))))) vss_nil)
      (vss_one (vs_ret ve_int)))
theorem v_law_first_wrong {k : Nat} (R : Row K ca mg) :
    ∀ (cdv : Value) (A : Around) (outer : List PySem.Env) (s : Shared) (H : Hp) (E : XK), Room k (A.deeper (envOfC "_law_first_wrong" (defScope s_law_first_wrong) s.heap.objs.size (He.fAd K ("_law_first_wrong", .none)) cdv)) →
      VSs (cxOf (L2.CX P w) P w K mg base ["_law_signs_here", "_law_depth", "_law_at", "_law_sign"] "_law_first_wrong" (defScope s_law_first_wrong) (He.fAd K ("_law_first_wrong", .none)) cdv A outer s H E) ⟨K, ca⟩ (fun c d _ H => E c d H) (defBody s_law_first_wrong) (b_law_first_wrong) := by
  intro cdv A outer s H E hr
  have S := sc_law_first_wrong
  have tk := takes_of (X := cxOf (L2.CX P w) P w K mg base ["_law_signs_here", "_law_depth", "_law_at", "_law_sign"] "_law_first_wrong" (defScope s_law_first_wrong) (He.fAd K ("_law_first_wrong", .none)) cdv A outer s H E) rfl rfl rfl rfl
  exact (vss_cons (vs_set (i := 1) S.nd ve_int)
      (vss_cons (vs_for (passes_of rfl) rfl (vi_enum R.n_enumerate (ve_var (i := 0))) (vg_tup (n := 2) rfl (vgs_cons (vg_name (i := 2) S.nd) (vgs_cons (vg_name (i := 3) S.nd) vgs_nil))) (vss_cons (vs_if (vt_w (vw_and (vt_eq hr (ve_var (i := 1)) ve_int) (vw_and1 (vt_w (vw_or (vt_gt (ve_var (i := 2)) ve_int) (vw_or1 (vt_ne hr (ve_ix (ve_var (i := 3)) ve_int) ve_str))))))) (vss_one (vs_ret (ve_var (i := 2)))) vss_nil)
      (vss_one (vs_set (i := 1) S.nd (ve_sub (ve_sub (ve_add (ve_var (i := 1)) ve_int) (ve_mul ve_int (ve_bint R.n_int (va_cons (ve_eq hr (ve_ix (ve_var (i := 3)) ve_int) ve_str) va_nil)))) (ve_bint R.n_int (va_cons (ve_eq hr (ve_ix (ve_var (i := 3)) ve_int) ve_str) va_nil)))))))
      (vss_one (vs_ret ve_non))))
theorem v_can_come {k : Nat} (R : Row K ca mg) :
    ∀ (cdv : Value) (A : Around) (outer : List PySem.Env) (s : Shared) (H : Hp) (E : XK), Room k (A.deeper (envOfC "can_come" (defScope s_can_come) s.heap.objs.size (He.fAd K ("can_come", .none)) cdv)) →
      VSs (cxOf (L2.CX P w) P w K mg base ["sign", "begun", "depth"] "can_come" (defScope s_can_come) (He.fAd K ("can_come", .none)) cdv A outer s H E) ⟨K, ca⟩ (fun c d _ H => E c d H) (defBody s_can_come) (b_can_come) := by
  intro cdv A outer s H E hr
  have S := sc_can_come
  have tk := takes_of (X := cxOf (L2.CX P w) P w K mg base ["sign", "begun", "depth"] "can_come" (defScope s_can_come) (He.fAd K ("can_come", .none)) cdv A outer s H E) rfl rfl rfl rfl
  exact (vss_cons (vs_if (vt_eq hr (ve_ix (ve_var (i := 0)) ve_int) ve_str) (vss_one (vs_ret (ve_or (ve_gt (ve_var (i := 2)) ve_int) (ve_one (ve_not (ve_var (i := 1))))))) vss_nil)
      (vss_one (vs_ret (ve_gt (ve_var (i := 2)) ve_int))))
theorem v_stumpx {f_can_come : Fn} {k : Nat} (R : Row K ca mg) (I_NoSign : HasI P w K mg base "NoSign" (ca 10)) (LX : 2 ≤ k) (F_can_come : Has P w K mg base ⟨K, ca⟩ k "can_come" .none ["sign", "begun", "depth"] 3 f_can_come) :
    ∀ (cdv : Value) (A : Around) (outer : List PySem.Env) (s : Shared) (H : Hp) (E : XK), Room k (A.deeper (envOfC "stump" (defScope s_stumpx) s.heap.objs.size (He.fAd K ("stump", .none)) cdv)) →
      VSs (cxOf (L2.CX P w) P w K mg base ["signs", "around", "pile", "at", "sign", "parts"] "stump" (defScope s_stumpx) (He.fAd K ("stump", .none)) cdv A outer s H E) ⟨K, ca⟩ (fun c d _ H => E c d H) (defBody s_stumpx) (b_stumpx f_can_come) := by
  intro cdv A outer s H E hr
  have S := sc_stumpx
  have tk := takes_of (X := cxOf (L2.CX P w) P w K mg base ["signs", "around", "pile", "at", "sign", "parts"] "stump" (defScope s_stumpx) (He.fAd K ("stump", .none)) cdv A outer s H E) rfl rfl rfl rfl
  exact (vss_cons (vs_set (i := 1) S.nd (ve_new va_nil))
      (vss_cons (vs_set (i := 2) S.nd (ve_new (va_cons (ve_var (i := 1)) va_nil)))
      (vss_cons (vs_for (passes_of rfl) rfl (vi_enum R.n_enumerate (ve_var (i := 0))) (vg_tup (n := 2) rfl (vgs_cons (vg_name (i := 3) S.nd) (vgs_cons (vg_name (i := 4) S.nd) vgs_nil))) (vss_cons (vs_if (vt_not (vt_val (F_can_come.call R.g_can_come hr tk (va_cons (ve_var (i := 4)) (va_cons (ve_gt (ve_len R.n_len (ve_var (i := 1))) ve_int) (va_cons (ve_sub (ve_len R.n_len (ve_var (i := 2))) ve_int) va_nil)))))) (vss_one (vs_raiseI I_NoSign R.ox_NoSign R.oi_NoSign R.gc_NoSign hr LX tk (ve_var (i := 3)))) vss_nil)
      (vss_one (vs_if (vt_eq hr (ve_ix (ve_var (i := 4)) ve_int) ve_str) (vss_cons (vs_set (i := 5) S.nd (ve_new va_nil))
      (vss_cons (vs_exp (ve_append (ve_ix (ve_var (i := 2)) (ve_neg ve_int)) (ve_tup (va_cons (ve_ix (ve_var (i := 4)) ve_int) (va_cons (ve_var (i := 5)) va_nil)))))
      (vss_one (vs_exp (ve_append (ve_var (i := 2)) (ve_var (i := 5))))))) (vss_one (vs_if (vt_eq hr (ve_ix (ve_var (i := 4)) ve_int) ve_str) (vss_one (vs_exp (ve_append (ve_ix (ve_var (i := 2)) (ve_neg ve_int)) (ve_ix (ve_var (i := 4)) ve_int)))) (vss_one (vs_exp (ve_pop (ve_var (i := 2)))))))))))
      (vss_one (vs_ret (ve_ix (ve_var (i := 1)) ve_int))))))
theorem v_law_only {k : Nat} (R : Row K ca mg) :
    ∀ (cdv : Value) (A : Around) (outer : List PySem.Env) (s : Shared) (H : Hp) (E : XK), Room k (A.deeper (envOfC "_law_only" (defScope s_law_only) s.heap.objs.size (He.fAd K ("_law_only", .none)) cdv)) →
      VSs (cxOf (L2.CX P w) P w K mg base ["_law_error", "_law_which", "_law_found", "_law_due", "_law_k"] "_law_only" (defScope s_law_only) (He.fAd K ("_law_only", .none)) cdv A outer s H E) ⟨K, ca⟩ (fun c d _ H => E c d H) (defBody s_law_only) (b_law_only) := by
  intro cdv A outer s H E hr
  have S := sc_law_only
  have tk := takes_of (X := cxOf (L2.CX P w) P w K mg base ["_law_error", "_law_which", "_law_found", "_law_due", "_law_k"] "_law_only" (defScope s_law_only) (He.fAd K ("_law_only", .none)) cdv A outer s H E) rfl rfl rfl rfl
  exact (vss_cons (vs_set (i := 2) S.nd (ve_lst (va_cons (ve_isXo (t := [(10, true)]) R.gc_NoSign R.xn_NoSign (.cons ⟨R.xc_NoSign, R.xk_NoSign_NoSign⟩ .nil) R.n_isinstance (ve_var (i := 0))) (va_cons (ve_isXo (t := [(10, false)]) R.gc_NoText R.xn_NoText (.cons ⟨R.xc_NoSign, R.xk_NoSign_NoText⟩ .nil) R.n_isinstance (ve_var (i := 0))) (va_cons (ve_isXo (t := [(10, false)]) R.gc_NoPart R.xn_NoPart (.cons ⟨R.xc_NoSign, R.xk_NoSign_NoPart⟩ .nil) R.n_isinstance (ve_var (i := 0))) va_nil)))))
      (vss_cons (vs_set (i := 2) S.nd (ve_add (ve_var (i := 2)) (ve_lst (va_cons (ve_isXo (t := [(10, false)]) R.gc_Taken R.xn_Taken (.cons ⟨R.xc_NoSign, R.xk_NoSign_Taken⟩ .nil) R.n_isinstance (ve_var (i := 0))) (va_cons (ve_isXo (t := [(10, false)]) R.gc_Late R.xn_Late (.cons ⟨R.xc_NoSign, R.xk_NoSign_Late⟩ .nil) R.n_isinstance (ve_var (i := 0))) va_nil)))))
      (vss_cons (vs_setLc (i := 3) (own := [("_law_k", 4)]) rfl S.nd (vi_r1 R.n_range ve_int) (blkOk_by (N := ["_law_error", "_law_which", "_law_found", "_law_due", "_law_k"]) (sc := defScope s_law_only) (by decide +kernel)) (fun _ _ _ _ _ => (vg_name (i := 4) S.nd)) (fun _ _ _ _ _ => VTs_nil) (fun _ _ _ _ _ => (ve_eq hr (ve_var (i := 4)) (ve_var (i := 1)))) (sw_true rfl rfl rfl (by decide +kernel)))
      (vss_one (vs_ret (ve_and (ve_eq hr (ve_var (i := 2)) (ve_var (i := 3))) (ve_and (ve_isXv (t := [(10, true)]) R.n_ValueError R.xn_ValueError (.cons ⟨R.xc_NoSign, R.xk_NoSign_ValueError⟩ .nil) R.n_isinstance (ve_var (i := 0))) (ve_one (ve_isXo (t := [(10, true)]) R.gc_SiftError R.xn_SiftError (.cons ⟨R.xc_NoSign, R.xk_NoSign_SiftError⟩ .nil) R.n_isinstance (ve_var (i := 0)))))))))))
theorem v_law_whole {k : Nat} (R : Row K ca mg) :
    ∀ (cdv : Value) (A : Around) (outer : List PySem.Env) (s : Shared) (H : Hp) (E : XK), Room k (A.deeper (envOfC "_law_whole" (defScope s_law_whole) s.heap.objs.size (He.fAd K ("_law_whole", .none)) cdv)) →
      VSs (cxOf (L2.CX P w) P w K mg base ["_law_found"] "_law_whole" (defScope s_law_whole) (He.fAd K ("_law_whole", .none)) cdv A outer s H E) ⟨K, ca⟩ (fun c d _ H => E c d H) (defBody s_law_whole) (b_law_whole) := by
  intro cdv A outer s H E hr
  have S := sc_law_whole
  have tk := takes_of (X := cxOf (L2.CX P w) P w K mg base ["_law_found"] "_law_whole" (defScope s_law_whole) (He.fAd K ("_law_whole", .none)) cdv A outer s H E) rfl rfl rfl rfl
  exact (vss_one (vs_ret (ve_and (ve_isT_int R.n_int R.n_isinstance (ve_var (i := 0))) (ve_one (ve_not (ve_isT_bool R.n_bool R.n_isinstance (ve_var (i := 0))))))))
theorem v_law {f_law_names f_law_signs f_law_cells f_law_mix f_law_cell_at f_law_first_wrong f_stumpx f_law_only f_law_whole : Fn} {k : Nat} (R : Row K ca mg) (F_law_names : Has P w K mg base ⟨K, ca⟩ k "_law_names" .none ["_law_script"] 1 f_law_names) (F_law_signs : Has P w K mg base ⟨K, ca⟩ k "_law_signs" .none ["_law_cells_here", "_law_some"] 2 f_law_signs) (F_law_cells : Has P w K mg base ⟨K, ca⟩ k "_law_cells" .none ["_law_script", "_law_turn", "_law_most"] 3 f_law_cells) (F_law_mix : Has P w K mg base ⟨K, ca⟩ k "_law_mix" .none ["_law_cell", "_law_turn"] 2 f_law_mix) (F_law_cell_at : Has P w K mg base ⟨K, ca⟩ k "_law_cell_at" .none ["_law_script", "_law_k"] 2 f_law_cell_at) (F_law_first_wrong : Has P w K mg base ⟨K, ca⟩ k "_law_first_wrong" .none ["_law_signs_here"] 1 f_law_first_wrong) (F_stumpx : Has P w K mg base ⟨K, ca⟩ k "stump" .none ["signs"] 1 f_stumpx) (F_law_only : Has P w K mg base ⟨K, ca⟩ k "_law_only" .none ["_law_error", "_law_which"] 2 f_law_only) (F_law_whole : Has P w K mg base ⟨K, ca⟩ k "_law_whole" .none ["_law_found"] 1 f_law_whole) :
    ∀ (cdv : Value) (A : Around) (outer : List PySem.Env) (s : Shared) (H : Hp) (E : XK), Room k (A.deeper (envOfC "law" (defScope s_law) s.heap.objs.size (He.fAd K ("law", .none)) cdv)) →
      VSs (cxOf (L2.CX P w) P w K mg base ["_law_script", "_law_some", "_law_signs_here", "_law_number", "_law_at", "_law_more", "_law_kind", "_law_depth", "_law_due", "_law_kept", "_law_place", "_law_found", "e", "_law_one", "_law_k"] "law" (defScope s_law) (He.fAd K ("law", .none)) cdv A outer s H E) ⟨K, ca⟩ (fun c d _ H => E c d H) (defBody s_law) (b_law f_law_names f_law_signs f_law_cells f_law_mix f_law_cell_at f_law_first_wrong f_stumpx f_law_only f_law_whole) := by
  intro cdv A outer s H E hr
  have S := sc_law
  have tk := takes_of (X := cxOf (L2.CX P w) P w K mg base ["_law_script", "_law_some", "_law_signs_here", "_law_number", "_law_at", "_law_more", "_law_kind", "_law_depth", "_law_due", "_law_kept", "_law_place", "_law_found", "e", "_law_one", "_law_k"] "law" (defScope s_law) (He.fAd K ("law", .none)) cdv A outer s H E) rfl rfl rfl rfl
  exact (vss_cons (vs_set (i := 1) S.nd (F_law_names.call R.g_law_names hr tk (va_cons (ve_var (i := 0)) va_nil)))
      (vss_cons (vs_set (i := 2) S.nd (F_law_signs.call R.g_law_signs hr tk (va_cons (F_law_cells.call R.g_law_cells hr tk (va_cons (ve_var (i := 0)) (va_cons ve_int (va_cons ve_int va_nil)))) (va_cons (ve_var (i := 1)) va_nil))))
      (vss_cons (vs_set (i := 3) S.nd (F_law_mix.call R.g_law_mix hr tk (va_cons (F_law_cell_at.call R.g_law_cell_at hr tk (va_cons (ve_var (i := 0)) (va_cons ve_int va_nil))) (va_cons ve_int va_nil))))
      (vss_cons (vs_set (i := 4) S.nd (ve_mod (ve_var (i := 3)) (ve_add (ve_len R.n_len (ve_var (i := 2))) ve_int)))
      (vss_cons (vs_set (i := 5) S.nd (ve_ix (ve_lst (va_cons (ve_tup (va_cons ve_str va_nil)) (va_cons (ve_tup (va_cons ve_str (va_cons ve_str va_nil))) (va_cons (ve_tup (va_cons ve_str (va_cons ve_str va_nil))) va_nil)))) (ve_mod (ve_div (ve_var (i := 3)) ve_int) ve_int)))
      (vss_cons (vs_set (i := 6) S.nd (ve_mod (F_law_cell_at.call R.g_law_cell_at hr tk (va_cons (ve_var (i := 0)) (va_cons ve_int va_nil))) ve_int))
      (vss_cons (vs_if (vt_eq hr (ve_var (i := 6)) ve_int) (vss_one (vs_set (i := 4) S.nd ve_int)) vss_nil)
      (vss_cons (vs_if (vt_lt (ve_var (i := 6)) ve_int) (vss_one (vs_set (i := 2) S.nd (ve_add (ve_add (ve_sl (ve_var (i := 2)) vo_none (vo_some (ve_var (i := 4)))) (ve_lst (va_cons (ve_var (i := 5)) va_nil))) (ve_sl (ve_var (i := 2)) (vo_some (ve_var (i := 4))) vo_none)))) (vss_cons (vs_set (i := 7) S.nd (ve_sub (ve_len R.n_len (ve_comp (own := [("_law_one", 13)]) rfl S.nd (vi_list (ve_var (i := 2))) (blkOk_by (N := ["_law_script", "_law_some", "_law_signs_here", "_law_number", "_law_at", "_law_more", "_law_kind", "_law_depth", "_law_due", "_law_kept", "_law_place", "_law_found", "e", "_law_one", "_law_k"]) (sc := defScope s_law) (by decide +kernel)) (fun _ _ _ _ _ => (vg_name (i := 13) S.nd)) (fun _ _ _ _ _ => (VTs_one (vt_eq hr (ve_ix (ve_var (i := 13)) ve_int) ve_str))) (fun _ _ _ _ _ => (ve_var (i := 13))))) (ve_len R.n_len (ve_comp (own := [("_law_one", 13)]) rfl S.nd (vi_list (ve_var (i := 2))) (blkOk_by (N := ["_law_script", "_law_some", "_law_signs_here", "_law_number", "_law_at", "_law_more", "_law_kind", "_law_depth", "_law_due", "_law_kept", "_law_place", "_law_found", "e", "_law_one", "_law_k"]) (sc := defScope s_law) (by decide +kernel)) (fun _ _ _ _ _ => (vg_name (i := 13) S.nd)) (fun _ _ _ _ _ => (VTs_one (vt_eq hr (ve_ix (ve_var (i := 13)) ve_int) ve_str))) (fun _ _ _ _ _ => (ve_var (i := 13)))))))
      (vss_one (vs_set (i := 2) S.nd (ve_add (ve_add (ve_var (i := 2)) (ve_comp (own := [("_law_k", 14)]) rfl S.nd (vi_r1 R.n_range (ve_var (i := 7))) (blkOk_by (N := ["_law_script", "_law_some", "_law_signs_here", "_law_number", "_law_at", "_law_more", "_law_kind", "_law_depth", "_law_due", "_law_kept", "_law_place", "_law_found", "e", "_law_one", "_law_k"]) (sc := defScope s_law) (by decide +kernel)) (fun _ _ _ _ _ => (vg_name (i := 14) S.nd)) (fun _ _ _ _ _ => VTs_nil) (fun _ _ _ _ _ => (ve_tup (va_cons ve_str va_nil))))) (ve_rep (ve_lst (va_cons (ve_var (i := 5)) va_nil)) (ve_mod (F_law_cell_at.call R.g_law_cell_at hr tk (va_cons (ve_var (i := 0)) (va_cons ve_int va_nil))) ve_int)))))))
      (vss_cons (vs_if (vt_eq hr (ve_var (i := 2)) (ve_lst va_nil)) (vss_one (vs_set (i := 2) S.nd (ve_lst (va_cons (ve_var (i := 5)) va_nil)))) vss_nil)
      (vss_cons (vs_set (i := 8) S.nd (F_law_first_wrong.call R.g_law_first_wrong hr tk (va_cons (ve_var (i := 2)) va_nil)))
      (vss_cons (vs_set (i := 9) S.nd ve_non)
      (vss_cons (vs_set (i := 10) S.nd ve_non)
      (vss_cons (vs_set (i := 11) S.nd ve_non)
      (vss_cons (vs_tryK (e := 12) rfl rfl rfl S.nd rfl rfl rfl tk (fun W2 pn2 xe2 tk2 hp2 => (vss_one (vs_set (i := 11) S.nd (F_stumpx.call R.g_stump hr tk2 (va_cons (ve_var (i := 2)) va_nil))))) (HdsK.place ⟨rfl, by decide, .inl R.gc_NoSign⟩ (AllT.look (.cons R.xm_NoSign_NoSign (.nil))) (fun c h => AllT.look (P := fun c b => b = true → c = 10) (.cons (fun _ => rfl) (.nil)) c true h rfl) R.xc_NoSign.xf R.na_NoSign_at S.nd rfl rfl rfl rfl (HdsK.kept ⟨rfl, by decide, .inl R.gc_SiftError⟩ (AllT.look (.cons R.xm_NoSign_SiftError (.nil))) S.nd rfl rfl HdsK.nil)))
      (vss_cons (vs_if (vt_isN (ve_var (i := 8)) ve_non) (vss_one (vs_ret (ve_and (ve_isN (ve_var (i := 9)) ve_non) (ve_one (ve_isT_tuple R.n_tuple R.n_isinstance (ve_var (i := 11))))))) vss_nil)
      (vss_one (vs_ret (ve_and (F_law_only.call R.g_law_only hr tk (va_cons (ve_var (i := 9)) (va_cons ve_int va_nil))) (ve_and (F_law_whole.call R.g_law_whole hr tk (va_cons (ve_var (i := 10)) va_nil)) (ve_one (ve_eq hr (ve_var (i := 10)) (ve_var (i := 8)))))))))))))))))))))))
theorem h_law_mix (R : Row K ca mg) : Has P w K mg base ⟨K, ca⟩ 1 "_law_mix" .none ["_law_cell", "_law_turn"] 2 fn_law_mix := Has.of R.a_law_mix sc_law_mix rfl rfl (v_law_mix R) fun ds S _ => ref_law_mix ds S
theorem h_law_cells (R : Row K ca mg) : Has P w K mg base ⟨K, ca⟩ 2 "_law_cells" .none ["_law_script", "_law_turn", "_law_most"] 3 fn_law_cells := Has.of R.a_law_cells sc_law_cells rfl rfl (v_law_cells R ((h_law_mix R).mono (by decide))) fun ds S _ => ref_law_cells ds S
theorem h_law_names (R : Row K ca mg) : Has P w K mg base ⟨K, ca⟩ 3 "_law_names" .none ["_law_script"] 1 fn_law_names := Has.of R.a_law_names sc_law_names rfl rfl (v_law_names R ((h_law_cells R).mono (by decide))) fun ds S _ => ref_law_names ds S
theorem h_law_signs (R : Row K ca mg) : Has P w K mg base ⟨K, ca⟩ 1 "_law_signs" .none ["_law_cells_here", "_law_some"] 2 fn_law_signs := Has.of R.a_law_signs sc_law_signs rfl rfl (v_law_signs R) fun ds S _ => ref_law_signs ds S
theorem h_law_cell_at (R : Row K ca mg) : Has P w K mg base ⟨K, ca⟩ 1 "_law_cell_at" .none ["_law_script", "_law_k"] 2 fn_law_cell_at := Has.of R.a_law_cell_at sc_law_cell_at rfl rfl (v_law_cell_at R) fun ds S _ => ref_law_cell_at ds S
theorem h_law_first_wrong (R : Row K ca mg) : Has P w K mg base ⟨K, ca⟩ 1 "_law_first_wrong" .none ["_law_signs_here"] 1 fn_law_first_wrong := Has.of R.a_law_first_wrong sc_law_first_wrong rfl rfl (v_law_first_wrong R) fun ds S _ => ref_law_first_wrong ds S
theorem h_can_come (R : Row K ca mg) : Has P w K mg base ⟨K, ca⟩ 1 "can_come" .none ["sign", "begun", "depth"] 3 fn_can_come := Has.of R.a_can_come sc_can_come rfl rfl (v_can_come R) fun ds S _ => ref_can_come ds S
theorem h_stumpx (R : Row K ca mg) : Has P w K mg base ⟨K, ca⟩ 3 "stump" .none ["signs"] 1 fn_stumpx := Has.of R.a_stumpx sc_stumpx rfl rfl (v_stumpx R (hI_NoSign R) (by decide) ((h_can_come R).mono (by decide))) fun ds S _ => ref_stumpx ds S
theorem h_law_only (R : Row K ca mg) : Has P w K mg base ⟨K, ca⟩ 1 "_law_only" .none ["_law_error", "_law_which"] 2 fn_law_only := Has.of R.a_law_only sc_law_only rfl rfl (v_law_only R) fun ds S _ => ref_law_only ds S
theorem h_law_whole (R : Row K ca mg) : Has P w K mg base ⟨K, ca⟩ 1 "_law_whole" .none ["_law_found"] 1 fn_law_whole := Has.of R.a_law_whole sc_law_whole rfl rfl (v_law_whole R) fun ds S _ => ref_law_whole ds S
theorem h_law (R : Row K ca mg) {fd : FuncData} (F0 : FunD K "law" "law" (defArgs s_law) (defBody s_law) (defScope s_law) [] [] (He.fAd K ("law", .none)) fd) : FnOk P w K mg base (L2.CX P w) 4 (He.fAd K ("law", .none)) fd ["_law_script"] (spOf ⟨K, ca⟩ 1 fnLaw) := fn_ok F0 sc_law rfl rfl (v_law R ((h_law_names R).mono (by decide)) ((h_law_signs R).mono (by decide)) ((h_law_cells R).mono (by decide)) ((h_law_mix R).mono (by decide)) ((h_law_cell_at R).mono (by decide)) ((h_law_first_wrong R).mono (by decide)) ((h_stumpx R).mono (by decide)) ((h_law_only R).mono (by decide)) ((h_law_whole R).mono (by decide))) fun ds S _ => ref_law ds S
end
def d_law_mix : He.DefD := ⟨("_law_mix", none), "_law_mix", "_law_mix", defArgs s_law_mix, defBody s_law_mix, defScope s_law_mix, [], []⟩
def d_law_cells : He.DefD := ⟨("_law_cells", none), "_law_cells", "_law_cells", defArgs s_law_cells, defBody s_law_cells, defScope s_law_cells, [], []⟩
def d_law_names : He.DefD := ⟨("_law_names", none), "_law_names", "_law_names", defArgs s_law_names, defBody s_law_names, defScope s_law_names, [], []⟩
def d_law_signs : He.DefD := ⟨("_law_signs", none), "_law_signs", "_law_signs", defArgs s_law_signs, defBody s_law_signs, defScope s_law_signs, [], []⟩
def d_law_cell_at : He.DefD := ⟨("_law_cell_at", none), "_law_cell_at", "_law_cell_at", defArgs s_law_cell_at, defBody s_law_cell_at, defScope s_law_cell_at, [], []⟩
def d_law_first_wrong : He.DefD := ⟨("_law_first_wrong", none), "_law_first_wrong", "_law_first_wrong", defArgs s_law_first_wrong, defBody s_law_first_wrong, defScope s_law_first_wrong, [], []⟩
def d_can_come : He.DefD := ⟨("can_come", none), "can_come", "can_come", defArgs s_can_come, defBody s_can_come, defScope s_can_come, [], []⟩
def d_stumpx : He.DefD := ⟨("stump", none), "stump", "stump", defArgs s_stumpx, defBody s_stumpx, defScope s_stumpx, [], []⟩
def d_law_only : He.DefD := ⟨("_law_only", none), "_law_only", "_law_only", defArgs s_law_only, defBody s_law_only, defScope s_law_only, [], []⟩
def d_law_whole : He.DefD := ⟨("_law_whole", none), "_law_whole", "_law_whole", defArgs s_law_whole, defBody s_law_whole, defScope s_law_whole, [], []⟩
def d_law : He.DefD := ⟨("law", none), "law", "law", defArgs s_law, defBody s_law, defScope s_law, [], []⟩
def d_NoSign___init__ : He.DefD := ⟨("NoSign", (some "__init__")), "__init__", "NoSign.__init__", defArgs s_NoSign___init__, defBody s_NoSign___init__, defScope s_NoSign___init__, [], []⟩
def dfs : List He.DefD := [d_law_mix, d_law_cells, d_law_names, d_law_signs, d_law_cell_at, d_law_first_wrong, d_can_come, d_stumpx, d_law_only, d_law_whole, d_law, d_NoSign___init__]
def fas : List He.Fa := [.glo "_law_mix", .glo "_law_cells", .glo "_law_names", .glo "_law_signs", .glo "_law_cell_at", .glo "_law_first_wrong", .glo "can_come", .glo "stump", .glo "_law_only", .glo "_law_whole", .free "ValueError", .free "bool", .free "enumerate", .free "int", .free "isinstance", .free "len", .free "range", .free "tuple", .glo "Late", .glo "NoPart", .glo "NoSign", .glo "NoText", .glo "SiftError", .glo "Taken", .noat "NoSign" "at", .exm "NoSign" "NoSign" true, .exm "NoSign" "SiftError" true, .glo "law"]
def cnames : List Str := ["", "", "", "", "", "", "", "", "", "SiftError", "NoSign", "NoText", "NoPart", "Taken", "Late"]
def caOf (K : PySem.W.Frag) (i : Nat) : Addr := He.ga K (cnames.getD i "")
abbrev R0 : PySem.W.OpenRow := PySem.W.OpenLaw.row PySem.Challenge.rw_earlysift_k03_signs_that_cannot_come
def xfs : List Xf := [.oi "NoSign", .oex "NoSign", .xc "NoSign", .kit "NoSign" "Late" false, .kit "NoSign" "NoPart" false, .kit "NoSign" "NoSign" true, .kit "NoSign" "NoText" false, .kit "NoSign" "SiftError" true, .kit "NoSign" "Taken" false, .kitT "NoSign" "ValueError" true, .kitN "Late", .kitN "NoPart", .kitN "NoSign", .kitN "NoText", .kitN "SiftError", .kitN "Taken", .kitNT "ValueError"]
abbrev hk : PySem.W.Hook := hookX 4 fas dfs xfs
def ob (s : PySem.W.SharedT) : He.AlD := obsXG 4 fas dfs xfs (HandSHeadRun.getT s)
theorem ob_eq (s : PySem.W.SharedT) : ob s = hk.obs s.abs := obsXG_eq (HandSHeadRun.getT_eq s)
def loose0 : List Str := ["SiftError", "NoSign", "NoText", "NoPart", "Taken", "Late", "can_come", "stump", "_law_cell_at", "_law_whole", "_law_mix", "_law_only", "_law_cells", "_law_names", "_law_signs", "_law_first_wrong"]
abbrev loose : List Str := loose0
theorem run (w : World) : HandSHeadRun.RunEq R0 (PySem.W.view R0.prog [19]) hk ob 3000 loose w := by
  intro os
  kernel_rfl
theorem facts {P : Program} {w : World} {K : PySem.W.Frag} {h : Heap} {mg : Str → Option Value} {f : Addr} (X : K.In h) (G : h.Ns mainGlobals mg) (hfa : mg ("law" : Str) = some (.ref f)) (c0 : SaysX fas dfs xfs K) :
    ∃ fd : FuncData, (∀ (s : Shared) (v : Value), BindsTo s fd ⟨[v], []⟩ [("_law_script", v)]) ∧ ∀ base : Heap, K.In base → base.Ns mainGlobals mg → FnOk P w K mg base (L2.CX P w) 4 f fd ["_law_script"] (spOf ⟨K, caOf K⟩ 1 fnLaw) := by
  have c := c0.says.1
  have R : Row K (caOf K) mg := by
    refine ⟨?_, ?_, ?_, ?_, ?_, ?_, ?_, ?_, ?_, ?_, ?_, ?_, ?_, ?_, ?_, ?_, ?_, ?_, ?_, ?_, ?_, ?_, ?_, ?_, ?_, ?_, ?_, ?_, ?_, ?_, ?_, ?_, ?_, ?_, ?_, ?_, ?_, ?_, ?_, ?_, ?_, ?_, ?_, ?_, ?_, ?_, ?_, ?_, ?_, ?_, ?_, ?_, ?_, ?_, ?_, ?_⟩
    · obtain ⟨fd, F⟩ := c.def_ 0 (d := d_law_mix) rfl
      exact ⟨fd, F, F.bindsN fun _ _ _ _ _ _ us hl => match us, hl with | [_, _], _ => rfl⟩
    · obtain ⟨fd, F⟩ := c.def_ 1 (d := d_law_cells) rfl
      exact ⟨fd, F, F.bindsN fun _ _ _ _ _ _ us hl => match us, hl with | [_, _, _], _ => rfl⟩
    · obtain ⟨fd, F⟩ := c.def_ 2 (d := d_law_names) rfl
      exact ⟨fd, F, F.bindsN fun _ _ _ _ _ _ us hl => match us, hl with | [_], _ => rfl⟩
    · obtain ⟨fd, F⟩ := c.def_ 3 (d := d_law_signs) rfl
      exact ⟨fd, F, F.bindsN fun _ _ _ _ _ _ us hl => match us, hl with | [_, _], _ => rfl⟩
    · obtain ⟨fd, F⟩ := c.def_ 4 (d := d_law_cell_at) rfl
      exact ⟨fd, F, F.bindsN fun _ _ _ _ _ _ us hl => match us, hl with | [_, _], _ => rfl⟩
    · obtain ⟨fd, F⟩ := c.def_ 5 (d := d_law_first_wrong) rfl
      exact ⟨fd, F, F.bindsN fun _ _ _ _ _ _ us hl => match us, hl with | [_], _ => rfl⟩
    · obtain ⟨fd, F⟩ := c.def_ 6 (d := d_can_come) rfl
      exact ⟨fd, F, F.bindsN fun _ _ _ _ _ _ us hl => match us, hl with | [_, _, _], _ => rfl⟩
    · obtain ⟨fd, F⟩ := c.def_ 7 (d := d_stumpx) rfl
      exact ⟨fd, F, F.bindsN fun _ _ _ _ _ _ us hl => match us, hl with | [_], _ => rfl⟩
    · obtain ⟨fd, F⟩ := c.def_ 8 (d := d_law_only) rfl
      exact ⟨fd, F, F.bindsN fun _ _ _ _ _ _ us hl => match us, hl with | [_, _], _ => rfl⟩
    · obtain ⟨fd, F⟩ := c.def_ 9 (d := d_law_whole) rfl
      exact ⟨fd, F, F.bindsN fun _ _ _ _ _ _ us hl => match us, hl with | [_], _ => rfl⟩
    · obtain ⟨fd, F⟩ := c.def_ 10 (d := d_law) rfl
      exact ⟨fd, F, F.bindsN fun _ _ _ _ _ _ us hl => match us, hl with | [_], _ => rfl⟩
    · obtain ⟨fd, F⟩ := c.def_ 11 (d := d_NoSign___init__) rfl
      exact ⟨fd, F, F.bindsN fun _ _ _ _ _ _ us hl => match us, hl with | [_, _], _ => rfl⟩
    · exact He.glo_ok X G (c.fact 0 (f := .glo "_law_mix") rfl)
    · exact He.glo_ok X G (c.fact 1 (f := .glo "_law_cells") rfl)
    · exact He.glo_ok X G (c.fact 2 (f := .glo "_law_names") rfl)
    · exact He.glo_ok X G (c.fact 3 (f := .glo "_law_signs") rfl)
    · exact He.glo_ok X G (c.fact 4 (f := .glo "_law_cell_at") rfl)
    · exact He.glo_ok X G (c.fact 5 (f := .glo "_law_first_wrong") rfl)
    · exact He.glo_ok X G (c.fact 6 (f := .glo "can_come") rfl)
    · exact He.glo_ok X G (c.fact 7 (f := .glo "stump") rfl)
    · exact He.glo_ok X G (c.fact 8 (f := .glo "_law_only") rfl)
    · exact He.glo_ok X G (c.fact 9 (f := .glo "_law_whole") rfl)
    · exact He.free_ok X G (c.fact 10 (f := .free "ValueError") rfl)
    · exact He.free_ok X G (c.fact 11 (f := .free "bool") rfl)
    · exact He.free_ok X G (c.fact 12 (f := .free "enumerate") rfl)
    · exact He.free_ok X G (c.fact 13 (f := .free "int") rfl)
    · exact He.free_ok X G (c.fact 14 (f := .free "isinstance") rfl)
    · exact He.free_ok X G (c.fact 15 (f := .free "len") rfl)
    · exact He.free_ok X G (c.fact 16 (f := .free "range") rfl)
    · exact He.free_ok X G (c.fact 17 (f := .free "tuple") rfl)
    · exact He.glo_ok X G (c.fact 18 (f := .glo "Late") rfl)
    · exact He.glo_ok X G (c.fact 19 (f := .glo "NoPart") rfl)
    · exact He.glo_ok X G (c.fact 20 (f := .glo "NoSign") rfl)
    · exact He.glo_ok X G (c.fact 21 (f := .glo "NoText") rfl)
    · exact He.glo_ok X G (c.fact 22 (f := .glo "SiftError") rfl)
    · exact He.glo_ok X G (c.fact 23 (f := .glo "Taken") rfl)
    · exact He.noat_ok (c.fact 24 (f := .noat "NoSign" "at") rfl)
    · exact xf_oi (c0.x 0 (f := .oi "NoSign") rfl)
    · exact xf_oex (c0.x 1 (f := .oex "NoSign") rfl)
    · exact xf_xc (c0.x 2 (f := .xc "NoSign") rfl)
    · exact xf_kit (c0.x 3 (f := .kit "NoSign" "Late" false) rfl)
    · exact xf_kit (c0.x 4 (f := .kit "NoSign" "NoPart" false) rfl)
    · exact xf_kit (c0.x 5 (f := .kit "NoSign" "NoSign" true) rfl)
    · exact xf_kit (c0.x 6 (f := .kit "NoSign" "NoText" false) rfl)
    · exact xf_kit (c0.x 7 (f := .kit "NoSign" "SiftError" true) rfl)
    · exact xf_kit (c0.x 8 (f := .kit "NoSign" "Taken" false) rfl)
    · exact xf_kitT (c0.x 9 (f := .kitT "NoSign" "ValueError" true) rfl)
    · exact He.exm_ok (c.fact 25 (f := .exm "NoSign" "NoSign" true) rfl)
    · exact He.exm_ok (c.fact 26 (f := .exm "NoSign" "SiftError" true) rfl)
    · exact xf_kitN (c0.x 10 (f := .kitN "Late") rfl)
    · exact xf_kitN (c0.x 11 (f := .kitN "NoPart") rfl)
    · exact xf_kitN (c0.x 12 (f := .kitN "NoSign") rfl)
    · exact xf_kitN (c0.x 13 (f := .kitN "NoText") rfl)
    · exact xf_kitN (c0.x 14 (f := .kitN "SiftError") rfl)
    · exact xf_kitN (c0.x 15 (f := .kitN "Taken") rfl)
    · exact xf_kitNT (c0.x 16 (f := .kitNT "ValueError") rfl)
  have e := hfa.symm.trans (He.glo_ok X G (c.fact 27 (f := .glo "law") rfl))
  cases e
  obtain ⟨fd0, F0⟩ := c.def_ 10 (d := d_law) rfl
  exact ⟨fd0, fun s v => FunD.bindsA (ps := ["_law_script"]) F0 (fun _ _ _ _ _ _ us hl => match us, hl with | [_], _ => rfl) s [v] rfl, fun base _ _ => h_law R F0⟩
end KR
open PySem PySem.W PySem.Calls PyProof.Rows
theorem PySem.Challenge.cw_earlysift_k03_signs_that_cannot_come_holds : PySem.Challenge.rw_earlysift_k03_signs_that_cannot_come.Holds := by
  w_on; o_law
  refine HandSHeadRun.head_any (r := OpenLaw.row PySem.Challenge.rw_earlysift_k03_signs_that_cannot_come) (q := view (OpenLaw.row PySem.Challenge.rw_earlysift_k03_signs_that_cannot_come).prog [19]) (H := KR.hk) (ob := KR.ob) (M := 3000) (loose := KR.loose) (d := HandSHeadRun.topDef (OpenLaw.row PySem.Challenge.rw_earlysift_k03_signs_that_cannot_come).prog 19) (kwd := []) KR.ob_eq
    (by kernel_rfl) (fun s => by kernel_rfl) KR.run (by kernel_rfl) (by kernel_rfl) (by kernel_rfl) (by rfl) (by first | assumption | decide +kernel) (by decide +kernel) ⟨rfl, rfl, rfl, rfl, rfl, by decide +kernel⟩ ?hw ?hc
  case hw => w_witness2
  case hc =>
    refine LamX.walk_ofTsE (l := PySem.Challenge.rw_earlysift_k03_signs_that_cannot_come) (n := 63) (k := 4) (x := "_law_script") (CX := fun w => L2.CX (PySem.Challenge.rw_earlysift_k03_signs_that_cannot_come).prog w) rfl (by decide) (by kernel_rfl) ⟨rfl, by decide, by decide⟩ ?F (fun w H s e s' ⟨_, _, _, _, _, _, _, _, _, _, _, _, z⟩ => z)
    intro w mg fa h Y G hmg0
    obtain ⟨K, KX, c⟩ := Y
    have hmg : mg ("law" : PySem.Str) = some (.ref fa) := by
      have e : (HandSHeadRun.topDef (OpenLaw.row PySem.Challenge.rw_earlysift_k03_signs_that_cannot_come).prog 19).name = ("law" : PySem.Str) := by kernel_rfl
      rw [← e]
      exact hmg0
    obtain ⟨fd, hb, hF⟩ := KR.facts (P := (PySem.Challenge.rw_earlysift_k03_signs_that_cannot_come).prog) (w := w) KX G hmg c
    exact ⟨K, KX, fd, [], Ev.spOf ⟨K, KR.caOf K⟩ 1 Ev.fnLaw, (fun p hp => by cases hp), (fun p hp => by cases hp), (fun p hp => by cases hp), hb, fun H a ns hl _ _ hS => Ev.law_start hS (fun S => Ev.fnLaw_eq hl S), fun base hK hN _ => hF base hK hN⟩
