import PyProof.Rows.All
import Wide.All
import OpenK.AllK
import Wide.FinOn
import HandS.ForMost
import HandS.ForExc
import HandS.Wide
import HandS.IsInst
import HandS.CallSlots
import HandS.Deep
import HandS.Defaults
import HandS.HeadEnd
import HandS.HeadHook1
import HandS.HeadHook2
import HandS.Head2
import HandS.Text
import HandS.HeadWalk
import Lean
import PySem.Challenge.RW_earlysift_k06_answers_grow
set_option Elab.async false
set_option linter.all false
set_option maxRecDepth 100000
set_option maxHeartbeats 4000000
/-! Ev, the core: data trees with handles, a store of cells, results; the tie to the abstract heap of the hand layer; what it is to evaluate an expression, a test, a statement. -/
namespace Ev
open PySem PySem.Spec PyProof.Rows L2

/-! ### data, cells, results -/
inductive D where
  | non | bl (b : Bool) | int (i : Int) | str (x : Str) | tup (ds : List D) | lst (ds : List D) | cell (k : Nat) | scr (ns : List Int)
inductive C where
  | lst (ds : List D) | ins (c : Nat) (fs : List (Str × D)) | dct (kvs : List (Key × D))
abbrev Sto := List (Option C)
abbrev Env := List (Option D)
inductive R (α : Type) where
  | no | ok (a : α) (S : Sto) | ex (c : Nat) (a : Option D) (S : Sto)
def R.bind {α β : Type} (r : R α) (g : α → Sto → R β) : R β := match r with
  | .no => .no
  | .ok a S => g a S
  | .ex c a S => .ex c a S
@[simp] theorem R.no_bind {α β : Type} (g : α → Sto → R β) : R.bind (.no : R α) g = .no := rfl
@[simp] theorem R.ok_bind {α β : Type} (a : α) (S : Sto) (g : α → Sto → R β) : R.bind (.ok a S) g = g a S := rfl
@[simp] theorem R.ex_bind {α β : Type} (c : Nat) (a : Option D) (S : Sto) (g : α → Sto → R β) : R.bind (.ex c a S : R α) g = .ex c a S := rfl
/-- if, its test never reckoned -/
noncomputable def cif {α : Type} (c : Prop) (a b : α) : α := @ite α c (Classical.propDecidable c) a b
theorem cif_pos {α : Type} {c : Prop} {a b : α} (h : c) : cif c a b = a := by unfold cif; exact if_pos h
theorem cif_neg {α : Type} {c : Prop} {a b : α} (h : ¬ c) : cif c a b = b := by unfold cif; exact if_neg h
@[simp] theorem cif_true {α : Type} {a b : α} : cif True a b = a := cif_pos trivial
@[simp] theorem cif_false {α : Type} {a b : α} : cif False a b = b := cif_neg id
abbrev Ex := Env → Sto → R D
abbrev Tx := Env → Sto → R Bool
abbrev Ax := Env → Sto → R (List D)
/-- a statement's end -/
inductive SO where
  | no | nx (σ : Env) (S : Sto) | rt (v : D) (S : Sto) | bk (σ : Env) (S : Sto) | ct (σ : Env) (S : Sto) | ex (c : Nat) (a : Option D) (σ : Env) (S : Sto)
abbrev Sx := Env → Sto → SO
/-- a def -/
abbrev Fn := List D → Sto → R D
/-- the row: what is written, the classes' places -/
structure Gm where
  K : PySem.W.Frag
  ca : Nat → Addr

/-! ### the tie to the abstract heap -/
section
variable (K : PySem.W.Frag) (μ : List Addr) (G : Hp)
mutual
inductive VR : D → V → Prop
  | non : VR .non .non
  | bl (b : Bool) : VR (.bl b) (.bl b)
  | int (i : Int) : VR (.int i) (.int i)
  | str (x : Str) : VR (.str x) (.str x)
  | tup {a : Addr} {vs : List V} {ds : List D} : G a = some (.tup vs) → VRs ds vs → VR (.tup ds) (.ref a)
  | lst {a : Addr} {vs : List V} {ds : List D} : G a = some (.lst vs) → VRs ds vs → VR (.lst ds) (.ref a)
  | scr {a : Addr} {ns : List Int} : SqL K G a (ns.map V.int) → VR (.scr ns) (.ref a)
  | cell {a : Addr} {k : Nat} : μ[k]? = some a → VR (.cell k) (.ref a)
inductive VRs : List D → List V → Prop
  | nil : VRs [] []
  | cons {d : D} {v : V} {ds : List D} {vs : List V} : VR d v → VRs ds vs → VRs (d :: ds) (v :: vs)
end
/-- fields, entries -/
inductive FR {κ : Type} : List (κ × D) → List (κ × V) → Prop
  | nil : FR [] []
  | cons {x : κ} {d : D} {v : V} {fs : List (κ × D)} {fv : List (κ × V)} : VR K μ G d v → FR fs fv → FR ((x, d) :: fs) ((x, v) :: fv)
/-- slots -/
inductive SR : Env → List (Option V) → Prop
  | nil : SR [] []
  | un {x : Option V} {σ : Env} {σv : List (Option V)} : SR σ σv → SR (none :: σ) (x :: σv)
  | sm {d : D} {v : V} {σ : Env} {σv : List (Option V)} : VR K μ G d v → SR σ σv → SR (Option.some d :: σ) (Option.some v :: σv)
end
def Le (μ μ' : List Addr) : Prop := ∀ (k : Nat) (a : Addr), μ[k]? = some a → μ'[k]? = some a
theorem Le.refl (μ : List Addr) : Le μ μ := fun _ _ h => h
theorem Le.trans {a b c : List Addr} (h : Le a b) (h' : Le b c) : Le a c := fun k x q => h' k x (h k x q)
theorem Le.push (μ : List Addr) (a : Addr) : Le μ (μ ++ [a]) := fun k x h => by
  have hk := (List.getElem?_eq_some_iff.mp h).1
  rw [List.getElem?_append_left hk]
  exact h
section
variable {K : PySem.W.Frag} {μ μ' : List Addr} {G G' : Hp}
mutual
theorem VR.mono (l : Le μ μ') (s : Same G G') : ∀ {d : D} {v : V}, VR K μ G d v → VR K μ' G' d v
  | _, _, .non => .non
  | _, _, .bl b => .bl b
  | _, _, .int i => .int i
  | _, _, .str x => .str x
  | _, _, .tup h r => .tup (s _ _ h) (VRs.mono l s r)
  | _, _, .lst h r => .lst (s _ _ h) (VRs.mono l s r)
  | _, _, .scr h => .scr (s.seq h)
  | _, _, .cell h => .cell (l _ _ h)
theorem VRs.mono (l : Le μ μ') (s : Same G G') : ∀ {ds : List D} {vs : List V}, VRs K μ G ds vs → VRs K μ' G' ds vs
  | _, _, .nil => .nil
  | _, _, .cons h r => .cons (VR.mono l s h) (VRs.mono l s r)
end
theorem FR.mono {κ : Type} (l : Le μ μ') (s : Same G G') {fs : List (κ × D)} {fv : List (κ × V)} (h : FR K μ G fs fv) : FR K μ' G' fs fv := by
  induction h with
  | nil => exact .nil
  | cons r _ ih => exact .cons (r.mono l s) ih
theorem SR.mono (l : Le μ μ') (s : Same G G') {σ : Env} {σv : List (Option V)} (h : SR K μ G σ σv) : SR K μ' G' σ σv := by
  induction h with
  | nil => exact .nil
  | un _ ih => exact .un ih
  | sm r _ ih => exact .sm (r.mono l s) ih
theorem VRs.length {ds : List D} {vs : List V} (h : VRs K μ G ds vs) : ds.length = vs.length := by
  induction ds generalizing vs with
  | nil => cases h; rfl
  | cons d r ih =>
    cases h with
    | cons _ t => simp [ih t]
theorem VRs.get {ds : List D} {vs : List V} (h : VRs K μ G ds vs) {i : Nat} {d : D} (e : ds[i]? = some d) : ∃ v, vs[i]? = some v ∧ VR K μ G d v := by
  induction ds generalizing vs i with
  | nil => simp at e
  | cons d' r ih =>
    cases h with
    | cons h t =>
      cases i with
      | zero => simp at e; subst e; exact ⟨_, rfl, h⟩
      | succ i => exact ih t (by simpa using e)
theorem VRs.append {ds es : List D} {vs ws : List V} (h : VRs K μ G ds vs) (h' : VRs K μ G es ws) : VRs K μ G (ds ++ es) (vs ++ ws) := by
  induction ds generalizing vs with
  | nil => cases h; exact h'
  | cons d r ih =>
    cases h with
    | cons h t => exact .cons h (ih t)
theorem VRs.take {ds : List D} {vs : List V} (h : VRs K μ G ds vs) : ∀ n : Nat, VRs K μ G (ds.take n) (vs.take n) := by
  induction ds generalizing vs with
  | nil => cases h; intro n; simp; exact .nil
  | cons d r ih =>
    cases h with
    | cons h t =>
      intro n
      cases n with
      | zero => exact .nil
      | succ n => exact .cons h (ih t n)
theorem VRs.drop {ds : List D} {vs : List V} (h : VRs K μ G ds vs) : ∀ n : Nat, VRs K μ G (ds.drop n) (vs.drop n) := by
  induction ds generalizing vs with
  | nil => cases h; intro n; simp; exact .nil
  | cons d r ih =>
    cases h with
    | cons h t =>
      intro n
      cases n with
      | zero => exact .cons h t
      | succ n => exact ih t n
theorem VRs.set {ds : List D} {vs : List V} {d : D} {v : V} (h : VRs K μ G ds vs) (hd : VR K μ G d v) : ∀ i : Nat, VRs K μ G (ds.set i d) (vs.set i v) := by
  induction ds generalizing vs with
  | nil => cases h; intro n; exact .nil
  | cons d r ih =>
    cases h with
    | cons h t =>
      intro n
      cases n with
      | zero => exact .cons hd t
      | succ n => exact .cons h (ih t n)
theorem VRs.split {ds es : List D} {vs : List V} (h : VRs K μ G (ds ++ es) vs) : ∃ v1 v2, vs = v1 ++ v2 ∧ VRs K μ G ds v1 ∧ VRs K μ G es v2 := by
  induction ds generalizing vs with
  | nil => exact ⟨[], vs, rfl, .nil, h⟩
  | cons d r ih =>
    cases h with
    | cons h t =>
      obtain ⟨v1, v2, rfl, h1, h2⟩ := ih t
      exact ⟨_ :: v1, v2, rfl, .cons h h1, h2⟩
theorem VRs.reverse {ds : List D} {vs : List V} (h : VRs K μ G ds vs) : VRs K μ G ds.reverse vs.reverse := by
  induction ds generalizing vs with
  | nil => cases h; exact .nil
  | cons d r ih =>
    cases h with
    | cons h t =>
      rw [List.reverse_cons, List.reverse_cons]
      exact (ih t).append (.cons h .nil)
theorem SR.length {σ : Env} {σv : List (Option V)} (h : SR K μ G σ σv) : σ.length = σv.length := by
  induction h with
  | nil => rfl
  | un _ ih => simp [ih]
  | sm _ _ ih => simp [ih]
theorem SR.get {σ : Env} {σv : List (Option V)} (h : SR K μ G σ σv) : ∀ {i : Nat} {d : D}, σ[i]? = some (some d) → ∃ v, σv[i]? = some (some v) ∧ VR K μ G d v := by
  induction h with
  | nil => intro i d e; simp at e
  | un _ ih =>
    intro i d e
    cases i with
    | zero => simp at e
    | succ i => exact ih (by simpa using e)
  | sm r _ ih =>
    intro i d e
    cases i with
    | zero => simp at e; subst e; exact ⟨_, rfl, r⟩
    | succ i => exact ih (by simpa using e)
theorem SR.set {σ : Env} {σv : List (Option V)} {d : D} {v : V} (h : SR K μ G σ σv) (r : VR K μ G d v) : ∀ i : Nat, SR K μ G (σ.set i (some d)) (σv.set i (some v)) := by
  induction h with
  | nil => intro i; exact .nil
  | un t ih =>
    intro i
    cases i with
    | zero => exact .sm r t
    | succ i => exact .un (ih i)
  | sm q t ih =>
    intro i
    cases i with
    | zero => exact .sm r t
    | succ i => exact .sm q (ih i)
theorem SR.unset {σ : Env} {σv : List (Option V)} {x : Option V} (h : SR K μ G σ σv) : ∀ i : Nat, SR K μ G (σ.set i none) (σv.set i x) := by
  induction h with
  | nil => intro i; exact .nil
  | un t ih =>
    intro i
    cases i with
    | zero => exact .un t
    | succ i => exact .un (ih i)
  | sm q t ih =>
    intro i
    cases i with
    | zero => exact .un t
    | succ i => exact .sm q (ih i)
theorem SR.fresh : ∀ n : Nat, SR K μ G (List.replicate n none) (List.replicate n none)
  | 0 => .nil
  | n + 1 => .un (SR.fresh n)
theorem SR.args {ds : List D} {vs : List V} (h : VRs K μ G ds vs) (m : Nat) : SR K μ G (ds.map some ++ List.replicate m none) (vs.map some ++ List.replicate m none) := by
  induction ds generalizing vs with
  | nil => cases h; exact SR.fresh m
  | cons d r ih =>
    cases h with
    | cons h t => exact .sm h (ih t)
/-- a smaller environment -/
theorem SR.forget {σ σ' : Env} {σv : List (Option V)} (h : SR K μ G σ σv) (hl : σ'.length = σ.length) (hs : ∀ (i : Nat) (d : D), σ'[i]? = some (some d) → σ[i]? = some (some d)) : SR K μ G σ' σv := by
  induction h generalizing σ' with
  | nil =>
    cases σ' with
    | nil => exact .nil
    | cons _ _ => simp at hl
  | un t ih =>
    cases σ' with
    | nil => simp at hl
    | cons x r =>
      cases x with
      | none => exact .un (ih (by simpa using hl) fun i d e => by simpa using hs (i + 1) d (by simpa using e))
      | some d => have := hs 0 d rfl; simp at this
  | sm q t ih =>
    cases σ' with
    | nil => simp at hl
    | cons x r =>
      have z := ih (σ' := r) (by simpa using hl) fun i d e => by simpa using hs (i + 1) d (by simpa using e)
      cases x with
      | none => exact .un z
      | some d => have := hs 0 d rfl; simp at this; subst this; exact .sm q z
end

/-- a cell's content at an address -/
def CR (Γ : Gm) (μ : List Addr) (G H : Hp) : C → Addr → Prop
  | .lst ds, a => ∃ vs, H a = some (.lst vs) ∧ VRs Γ.K μ G ds vs
  | .ins c fs, a => ∃ dx fv, H a = some (.ins (Γ.ca c) dx fv) ∧ FR Γ.K μ G fs fv
  | .dct kvs, a => ∃ kv, H a = some (.dK kv) ∧ FR Γ.K μ G kvs kv
theorem CR.mono {Γ : Gm} {μ μ' : List Addr} {G G' H H' : Hp} {c : C} {a : Addr} (h : CR Γ μ G H c a) (l : Le μ μ') (s : Same G G') (e : ∀ o, H a = some o → H' a = some o) : CR Γ μ' G' H' c a := by
  cases c with
  | lst ds => obtain ⟨vs, h1, h2⟩ := h; exact ⟨vs, e _ h1, h2.mono l s⟩
  | ins c fs => obtain ⟨dx, fv, h1, h2⟩ := h; exact ⟨dx, fv, e _ h1, h2.mono l s⟩
  | dct kvs => obtain ⟨kv, h1, h2⟩ := h; exact ⟨kv, e _ h1, h2.mono l s⟩
theorem CR.there {Γ : Gm} {μ : List Addr} {G H : Hp} {c : C} {a : Addr} (h : CR Γ μ G H c a) : ∃ o, H a = some o := by
  cases c with
  | lst ds => obtain ⟨vs, h1, h2⟩ := h; exact ⟨_, h1⟩
  | ins c fs => obtain ⟨dx, fv, h1, h2⟩ := h; exact ⟨_, h1⟩
  | dct kvs => obtain ⟨kv, h1, h2⟩ := h; exact ⟨_, h1⟩

/-- the abstract heap holds the store: G is what never changes, the live cells stand beside it -/
structure Sit (Γ : Gm) (F : Hp) (μ : List Addr) (G H : Hp) (S : Sto) : Prop where
  sub : Same G H
  frm : Same F H
  fmu : ∀ a ∈ μ, F a = none
  fg : ∀ (a : Addr) (o : HO), G a = some o → F a = none
  len : μ.length = S.length
  nd : μ.Nodup
  dom : ∀ a ∈ μ, H a ≠ none
  off : ∀ (k : Nat) (a : Addr) (c : C), S[k]? = some (some c) → μ[k]? = some a → G a = none
  at_ : ∀ (k : Nat) (c : C), S[k]? = some (some c) → ∃ a, μ[k]? = some a ∧ CR Γ μ G H c a
theorem upd_get {H : Hp} {p q : Addr} {o : HO} : upd H p o q = if q = p then some o else H q := rfl
theorem same_upd {H : Hp} {p : Addr} {o : HO} (h : H p = none) : Same H (upd H p o) := fun b x e => by
  rw [upd_ne (ne_of_none e h)]
  exact e
section
variable {Γ : Gm} {F : Hp} {μ : List Addr} {G H : Hp} {S : Sto}
theorem Sit.fresh (s : Sit Γ F μ G H S) {p : Addr} (np : H p = none) : p ∉ μ ∧ G p = none := ⟨fun h => s.dom p h np, s.sub.free np⟩
theorem Sit.freshF (s : Sit Γ F μ G H S) {p : Addr} (np : H p = none) : F p = none := s.frm.free np
/-- a new thing that never changes -/
theorem Sit.allocG (s : Sit Γ F μ G H S) {p : Addr} (o : HO) (np : H p = none) : Sit Γ F μ (upd G p o) (upd H p o) S := by
  obtain ⟨nm, ng⟩ := s.fresh np
  refine ⟨fun b x e => ?_, s.frm.trans (same_upd np), s.fmu, fun a u e => ?_, s.len, s.nd, fun a ha => ?_, fun k a c h1 h2 => ?_, fun k c h => ?_⟩
  · rw [upd_get] at e ⊢
    split
    · rename_i h; rw [if_pos h] at e; exact e
    · rename_i h; rw [if_neg h] at e; exact s.sub b x e
  · rw [upd_get] at e
    split at e
    · rename_i h; rw [h]; exact s.freshF np
    · exact s.fg a u e
  · rw [upd_get]
    split
    · simp
    · exact s.dom a ha
  · rw [upd_ne (fun z => nm (by rw [← z]; exact List.mem_of_getElem? h2))]
    exact s.off k a c h1 h2
  · obtain ⟨a, h1, h2⟩ := s.at_ k c h
    refine ⟨a, h1, h2.mono (Le.refl μ) (same_upd ng) fun o e => ?_⟩
    rw [upd_ne (ne_of_none e np)]
    exact e
/-- a new cell -/
theorem Sit.allocC (s : Sit Γ F μ G H S) {p : Addr} {o : HO} {H' : Hp} (c : C) (np : H p = none) (hs : Same H H') (hp : H' p = some o) (hc : CR Γ (μ ++ [p]) G H' c p) : Sit Γ F (μ ++ [p]) G H' (S ++ [some c]) := by
  obtain ⟨nm, ng⟩ := s.fresh np
  refine ⟨s.sub.trans hs, s.frm.trans hs, fun a ha => ?_, s.fg, by simp [s.len], ?_, fun a ha => ?_, fun k a c' h1 h2 => ?_, fun k c' h => ?_⟩
  · rcases List.mem_append.mp ha with h | h
    · exact s.fmu a h
    · simp at h; subst h; exact s.freshF np
  · rw [List.nodup_append]
    refine ⟨s.nd, by simp, fun a ha b hb => ?_⟩
    simp at hb
    subst hb
    exact fun e => nm (e ▸ ha)
  · rcases List.mem_append.mp ha with h | h
    · cases e : H a with
      | none => exact absurd e (s.dom a h)
      | some x => rw [hs a x e]; simp
    · simp at h; subst h; rw [hp]; simp
  · by_cases hk : k < S.length
    · rw [List.getElem?_append_left hk] at h1
      rw [List.getElem?_append_left (by rw [s.len]; exact hk)] at h2
      exact s.off k a c' h1 h2
    · have e : k = S.length := by
        have := (List.getElem?_eq_some_iff.mp h1).1
        simp at this
        omega
      subst e
      rw [← s.len] at h2
      simp at h2
      subst h2
      exact ng
  · by_cases hk : k < S.length
    · rw [List.getElem?_append_left hk] at h
      obtain ⟨a, h1, h2⟩ := s.at_ k c' h
      exact ⟨a, Le.push _ _ _ _ h1, h2.mono (Le.push _ _) (Same.refl G) fun o e => hs _ _ e⟩
    · have e : k = S.length := by
        have := (List.getElem?_eq_some_iff.mp h).1
        simp at this
        omega
      subst e
      simp at h
      subst h
      exact ⟨p, by rw [← s.len]; simp, hc⟩
/-- a cell is written -/
theorem Sit.write (s : Sit Γ F μ G H S) {k : Nat} {a : Addr} {c : C} (c' : C) {H' : Hp} (hk : S[k]? = some (some c)) (ha : μ[k]? = some a) (hs : ∀ b, b ≠ a → H' b = H b) (hc : CR Γ μ G H' c' a) : Sit Γ F μ G H' (S.set k (some c')) := by
  have hg := s.off k a c hk ha
  have hkl : k < S.length := (List.getElem?_eq_some_iff.mp hk).1
  refine ⟨fun b x e => ?_, fun b x e => ?_, s.fmu, s.fg, by simp [s.len], s.nd, fun b hb => ?_, fun j b d h1 h2 => ?_, fun j d h => ?_⟩
  · have hb : b ≠ a := fun z => by rw [z, hg] at e; cases e
    rw [hs b hb]
    exact s.sub b x e
  · have hb : b ≠ a := fun z => by rw [z, s.fmu a (List.mem_of_getElem? ha)] at e; cases e
    rw [hs b hb]
    exact s.frm b x e
  · by_cases h : b = a
    · subst h
      obtain ⟨o, e⟩ := hc.there
      rw [e]; simp
    · rw [hs b h]; exact s.dom b hb
  · by_cases hj : j = k
    · subst hj
      rw [ha] at h2; cases h2; exact hg
    · rw [List.getElem?_set_ne (Ne.symm hj)] at h1
      exact s.off j b d h1 h2
  · by_cases hj : j = k
    · subst hj
      rw [List.getElem?_set_self hkl] at h
      cases h
      exact ⟨a, ha, hc⟩
    · rw [List.getElem?_set_ne (Ne.symm hj)] at h
      obtain ⟨b, h1, h2⟩ := s.at_ j d h
      refine ⟨b, h1, h2.mono (Le.refl μ) (Same.refl G) fun o e => ?_⟩
      have hb : b ≠ a := fun z => by
        subst z
        obtain ⟨p1, q1⟩ := List.getElem?_eq_some_iff.mp h1
        obtain ⟨p2, q2⟩ := List.getElem?_eq_some_iff.mp ha
        exact hj ((List.getElem_inj s.nd).mp (q1.trans q2.symm))
      rw [hs b hb]
      exact e
/-- a cell that holds a list is frozen -/
theorem Sit.freeze (s : Sit Γ F μ G H S) {k : Nat} {ds : List D} (hk : S[k]? = some (some (.lst ds))) : ∃ a G', μ[k]? = some a ∧ Same G G' ∧ Sit Γ F μ G' H (S.set k none) ∧ VR Γ.K μ G' (.lst ds) (.ref a) := by
  obtain ⟨a, ha, vs, h1, h2⟩ := s.at_ k _ hk
  have hg := s.off k a _ hk ha
  have sg : Same G (upd G a (.lst vs)) := same_upd hg
  refine ⟨a, upd G a (.lst vs), ha, sg, ⟨fun b x e => ?_, s.frm, s.fmu, fun b u e => ?_, by simp [s.len], s.nd, s.dom, fun j b c q1 q2 => ?_, fun j c q => ?_⟩, .lst upd_same (h2.mono (Le.refl μ) sg)⟩
  · rw [upd_get] at e
    split at e
    · rename_i z; subst z; cases e; exact h1
    · exact s.sub b x e
  · rw [upd_get] at e
    split at e
    · rename_i z; subst z; exact s.fmu b (List.mem_of_getElem? ha)
    · exact s.fg b u e
  · have hj : j ≠ k := fun z => by
      subst z
      rw [List.getElem?_set_self (List.getElem?_eq_some_iff.mp hk).1] at q1
      cases q1
    rw [List.getElem?_set_ne (Ne.symm hj)] at q1
    have hb : b ≠ a := fun z => by
      subst z
      obtain ⟨p1, r1⟩ := List.getElem?_eq_some_iff.mp q2
      obtain ⟨p2, r2⟩ := List.getElem?_eq_some_iff.mp ha
      exact hj ((List.getElem_inj s.nd).mp (r1.trans r2.symm))
    rw [upd_ne hb]
    exact s.off j b c q1 q2
  · have hj : j ≠ k := fun z => by
      subst z
      rw [List.getElem?_set_self (List.getElem?_eq_some_iff.mp hk).1] at q
      cases q
    rw [List.getElem?_set_ne (Ne.symm hj)] at q
    obtain ⟨b, q1, q2⟩ := s.at_ j c q
    exact ⟨b, q1, q2.mono (Le.refl μ) sg fun o e => e⟩
end

/-! ### what is wanted behind a result -/
/-- an exception's argument: its own dict holds the field at -/
def XR (Γ : Gm) (μ : List Addr) (G H : Hp) : Option D → Option Addr → Prop
  | none, none => True
  | some a, some d => ∃ va, H d = some (.xd [(("at" : Str), va)]) ∧ VR Γ.K μ G a va ∧ d ∉ μ ∧ G d = none
  | _, _ => False
def Post (Γ : Gm) (F : Hp) (μ : List Addr) (G : Hp) (S' : Sto) (P : List Addr → Hp → Hp → Prop) : Prop :=
  ∀ μ' G' H', Le μ μ' → Same G G' → Sit Γ F μ' G' H' S' → P μ' G' H'
def Wp {α : Type} (Γ : Gm) (F : Hp) (W : XK) (μ : List Addr) (G : Hp) (r : R α) (k : α → List Addr → Hp → Hp → Sto → Prop) : Prop :=
  match r with
  | .no => False
  | .ok v S' => Post Γ F μ G S' fun μ' G' H' => k v μ' G' H' S'
  | .ex c a S' => Post Γ F μ G S' fun μ' G' H' => ∀ d, XR Γ μ' G' H' a d → W (.ref (Γ.ca c)) d H'
theorem Wp.mono {α : Type} {Γ : Gm} {W : XK} {F : Hp} {μ μ1 : List Addr} {G G1 : Hp} {r : R α} {k k' : α → List Addr → Hp → Hp → Sto → Prop} (h : Wp Γ F W μ G r k) (l : Le μ μ1) (s : Same G G1)
    (hk : ∀ v μ' G' H' S', Le μ1 μ' → Same G1 G' → Sit Γ F μ' G' H' S' → k v μ' G' H' S' → k' v μ' G' H' S') : Wp Γ F W μ1 G1 r k' := by
  cases r with
  | no => exact h
  | ok v S' => exact fun μ' G' H' l' s' t => hk v μ' G' H' S' l' s' t (h μ' G' H' (l.trans l') (s.trans s') t)
  | ex c a S' => exact fun μ' G' H' l' s' t => h μ' G' H' (l.trans l') (s.trans s') t
theorem Wp.imp {α : Type} {Γ : Gm} {W : XK} {F : Hp} {μ : List Addr} {G : Hp} {r : R α} {k k' : α → List Addr → Hp → Hp → Sto → Prop} (h : Wp Γ F W μ G r k)
    (hk : ∀ v μ' G' H' S', Le μ μ' → Same G G' → Sit Γ F μ' G' H' S' → k v μ' G' H' S' → k' v μ' G' H' S') : Wp Γ F W μ G r k' := h.mono (Le.refl μ) (Same.refl G) hk
theorem Wp.bind {α β : Type} {Γ : Gm} {W : XK} {F : Hp} {μ : List Addr} {G : Hp} {r : R α} {g : α → Sto → R β} {k : β → List Addr → Hp → Hp → Sto → Prop} (h : Wp Γ F W μ G (r.bind g) k) :
    Wp Γ F W μ G r fun v μ' G' _ S' => Wp Γ F W μ' G' (g v S') k := by
  cases r with
  | no => exact h
  | ok v S' => exact fun μ' G' H' l s t => h.mono l s fun _ _ _ _ _ _ _ _ q => q
  | ex c a S' => exact h
/-- the value at hand -/
theorem Wp.ok {α : Type} {Γ : Gm} {W : XK} {F : Hp} {μ : List Addr} {G H : Hp} {v : α} {S : Sto} {k : α → List Addr → Hp → Hp → Sto → Prop} (h : Wp Γ F W μ G (.ok v S) k) (t : Sit Γ F μ G H S) : k v μ G H S := h μ G H (Le.refl μ) (Same.refl G) t

/-! ### expressions, tests, argument lists -/
def tOf (Γ : Gm) (W : WX) (f : Ex) : TE := fun σv H Q => ∃ F μ G σ S, SR Γ.K μ G σ σv ∧ Sit Γ F μ G H S ∧ Wp Γ F (fun c d H' => W c d σv H') μ G (f σ S) fun v μ' G' H' _ => ∀ vv, VR Γ.K μ' G' v vv → Q vv H'
def ttOf (Γ : Gm) (W : WX) (f : Tx) : TT := fun σv H Q => ∃ F μ G σ S, SR Γ.K μ G σ σv ∧ Sit Γ F μ G H S ∧ Wp Γ F (fun c d H' => W c d σv H') μ G (f σ S) fun b _ _ H' _ => Q b H'
def taOf (Γ : Gm) (W : WX) (f : Ax) : TA := fun σv H Q => ∃ F μ G σ S, SR Γ.K μ G σ σv ∧ Sit Γ F μ G H S ∧ Wp Γ F (fun c d H' => W c d σv H') μ G (f σ S) fun vs μ' G' H' _ => ∀ vv, VRs Γ.K μ' G' vs vv → Q vv H'
/-- a statement's end -/
def Wps (Γ : Gm) (F : Hp) (W : WX) (μ : List Addr) (G : Hp) (r : SO) (E : Ends) : Prop :=
  match r with
  | .no => False
  | .nx σ' S' => Post Γ F μ G S' fun μ' G' H' => ∀ σv', SR Γ.K μ' G' σ' σv' → E.nx σv' H'
  | .rt v S' => Post Γ F μ G S' fun μ' G' H' => ∀ vv, VR Γ.K μ' G' v vv → E.rt vv H'
  | .bk σ' S' => Post Γ F μ G S' fun μ' G' H' => ∀ σv', SR Γ.K μ' G' σ' σv' → E.bk σv' H'
  | .ct σ' S' => Post Γ F μ G S' fun μ' G' H' => ∀ σv', SR Γ.K μ' G' σ' σv' → E.ct σv' H'
  | .ex c a σ' S' => Post Γ F μ G S' fun μ' G' H' => ∀ σv' d, SR Γ.K μ' G' σ' σv' → XR Γ μ' G' H' a d → W (.ref (Γ.ca c)) d σv' H'
def tsOf (Γ : Gm) (W : WX) (f : Sx) : TS := fun E σv H => ∃ F μ G σ S, SR Γ.K μ G σ σv ∧ Sit Γ F μ G H S ∧ Wps Γ F W μ G (f σ S) E
theorem Wps.mono {Γ : Gm} {W : WX} {F : Hp} {μ μ1 : List Addr} {G G1 : Hp} {r : SO} {E : Ends} (h : Wps Γ F W μ G r E) (l : Le μ μ1) (s : Same G G1) : Wps Γ F W μ1 G1 r E := by
  cases r with
  | no => exact h
  | nx _ _ => exact fun μ' G' H' l' s' t => h μ' G' H' (l.trans l') (s.trans s') t
  | rt _ _ => exact fun μ' G' H' l' s' t => h μ' G' H' (l.trans l') (s.trans s') t
  | bk _ _ => exact fun μ' G' H' l' s' t => h μ' G' H' (l.trans l') (s.trans s') t
  | ct _ _ => exact fun μ' G' H' l' s' t => h μ' G' H' (l.trans l') (s.trans s') t
  | ex _ _ _ _ => exact fun μ' G' H' l' s' t => h μ' G' H' (l.trans l') (s.trans s') t
abbrev VE (X : Cx) (Γ : Gm) (W : WX) (e : Expr) (f : Ex) : Prop := PE X e (tOf Γ W f)
abbrev VT (X : Cx) (Γ : Gm) (W : WX) (e : Expr) (f : Tx) : Prop := PT X e (ttOf Γ W f)
abbrev VA (X : Cx) (Γ : Gm) (W : WX) (es : List Expr) (f : Ax) : Prop := PA X es (taOf Γ W f)
abbrev VS (X : Cx) (Γ : Gm) (W : WX) (st : Stmt) (f : Sx) : Prop := PS X st (tsOf Γ W f)
abbrev VSs (X : Cx) (Γ : Gm) (W : WX) (st : List Stmt) (f : Sx) : Prop := PSs X st (tsOf Γ W f)
theorem PE.imp {X : Cx} {e : Expr} {t t' : TE} (h : PE X e t) (i : ∀ σ H Q, t' σ H Q → t σ H Q) : PE X e t' := ⟨fun pins s σ H Q I q => h.run pins s σ H Q I (i σ H Q q)⟩
theorem PT.imp {X : Cx} {e : Expr} {t t' : TT} (h : PT X e t) (i : ∀ σ H Q, t' σ H Q → t σ H Q) : PT X e t' := ⟨fun pins s σ H Q I q => h.run pins s σ H Q I (i σ H Q q)⟩
theorem PW.imp {X : Cx} {e : Expr} {t t' : TT} (h : PW X e t) (i : ∀ σ H Q, t' σ H Q → t σ H Q) : PW X e t' := ⟨fun wh pins s σ H Q I q => h.run wh pins s σ H Q I (i σ H Q q)⟩
theorem PA.imp {X : Cx} {es : List Expr} {t t' : TA} (h : PA X es t) (i : ∀ σ H Q, t' σ H Q → t σ H Q) : PA X es t' := ⟨fun pos pins s σ H Q I q => h.run pos pins s σ H Q I (i σ H Q q)⟩
theorem PS.imp {X : Cx} {st : Stmt} {t t' : TS} (h : PS X st t) (i : ∀ D σ H, t' D σ H → t D σ H) : PS X st t' := ⟨fun pins s σ H D I q => h.run pins s σ H D I (i D σ H q)⟩
theorem PSs.imp {X : Cx} {st : List Stmt} {t t' : TS} (h : PSs X st t) (i : ∀ D σ H, t' D σ H → t D σ H) : PSs X st t' := ⟨fun pins s σ H D I q => h.run pins s σ H D I (i D σ H q)⟩
/-- from within: an evaluator at a state that is tied -/
theorem tOf.at {Γ : Gm} {W : WX} {f : Ex} {F : Hp} {μ : List Addr} {G H : Hp} {σ : Env} {σv : L2.St} {S : Sto} {k : D → List Addr → Hp → Hp → Sto → Prop} {Q : VK} (hσ : SR Γ.K μ G σ σv) (hs : Sit Γ F μ G H S)
    (h : Wp Γ F (fun c d H' => W c d σv H') μ G (f σ S) k) (hk : ∀ v μ' G' H' S' vv, Le μ μ' → Same G G' → Sit Γ F μ' G' H' S' → VR Γ.K μ' G' v vv → k v μ' G' H' S' → Q vv H') : tOf Γ W f σv H Q :=
  ⟨F, μ, G, σ, S, hσ, hs, h.imp fun v μ' G' H' S' l s t q vv r => hk v μ' G' H' S' vv l s t r q⟩
theorem ttOf.at {Γ : Gm} {W : WX} {f : Tx} {F : Hp} {μ : List Addr} {G H : Hp} {σ : Env} {σv : L2.St} {S : Sto} {k : Bool → List Addr → Hp → Hp → Sto → Prop} {Q : Bool → Hp → Prop} (hσ : SR Γ.K μ G σ σv) (hs : Sit Γ F μ G H S)
    (h : Wp Γ F (fun c d H' => W c d σv H') μ G (f σ S) k) (hk : ∀ v μ' G' H' S', Le μ μ' → Same G G' → Sit Γ F μ' G' H' S' → k v μ' G' H' S' → Q v H') : ttOf Γ W f σv H Q :=
  ⟨F, μ, G, σ, S, hσ, hs, h.imp fun v μ' G' H' S' l s t q => hk v μ' G' H' S' l s t q⟩
theorem taOf.at {Γ : Gm} {W : WX} {f : Ax} {F : Hp} {μ : List Addr} {G H : Hp} {σ : Env} {σv : L2.St} {S : Sto} {k : List D → List Addr → Hp → Hp → Sto → Prop} {Q : List V → Hp → Prop} (hσ : SR Γ.K μ G σ σv) (hs : Sit Γ F μ G H S)
    (h : Wp Γ F (fun c d H' => W c d σv H') μ G (f σ S) k) (hk : ∀ v μ' G' H' S' vv, Le μ μ' → Same G G' → Sit Γ F μ' G' H' S' → VRs Γ.K μ' G' v vv → k v μ' G' H' S' → Q vv H') : taOf Γ W f σv H Q :=
  ⟨F, μ, G, σ, S, hσ, hs, h.imp fun v μ' G' H' S' l s t q vv r => hk v μ' G' H' S' vv l s t r q⟩
end Ev

/-! Ev, the rules, part 1: names, constants, displays, operators, tests, statements. -/
namespace Ev
open PySem PySem.Spec PyProof.Rows L2

/-! ### names, constants -/
def eVar (i : Nat) : Ex := fun σ S => match σ[i]? with
  | some (some d) => .ok d S
  | _ => .no
def eC (d : D) : Ex := fun _ S => .ok d S
def aNil : Ax := fun _ S => .ok [] S
def aCons (f : Ex) (g : Ax) : Ax := fun σ S => (f σ S).bind fun d S1 => (g σ S1).bind fun ds S2 => .ok (d :: ds) S2
def eTup (a : Ax) : Ex := fun σ S => (a σ S).bind fun ds S1 => if ds.length ≤ 1000 then .ok (.tup ds) S1 else .no
/-- a list that never changes; one that may -/
def eLst (a : Ax) : Ex := fun σ S => (a σ S).bind fun ds S1 => if ds.length ≤ 1000 then .ok (.lst ds) S1 else .no
def eNew (a : Ax) : Ex := fun σ S => (a σ S).bind fun ds S1 => if ds.length ≤ 1000 then .ok (.cell S1.length) (S1 ++ [some (.lst ds)]) else .no
def frzD (d : D) (S : Sto) : R D := match d with
  | .cell k => match S[k]? with
    | some (some (.lst ds)) => .ok (.lst ds) (S.set k none)
    | _ => .no
  | d => .ok d S
def eFrz (f : Ex) : Ex := fun σ S => (f σ S).bind frzD
def op1 (g : D → Sto → R D) (f : Ex) : Ex := fun σ S => (f σ S).bind g
def op2 (g : D → D → Sto → R D) (f1 f2 : Ex) : Ex := fun σ S => (f1 σ S).bind fun x S1 => (f2 σ S1).bind fun y S2 => g x y S2
theorem small1k {n : Nat} (h : n ≤ 1000) : n ≤ sizeLine := Nat.le_of_lt (small1000 h)
section
variable {X : Cx} {Γ : Gm} {W : WX} {e a b : Expr} {es : List Expr} {f fa fb : Ex} {g : Ax} {pos : Pos}
theorem ve_var {i : Nat} {x : Str} (hN : X.N[i]? = some x := by rfl) (hv : Vis X.env.scope x := by first | exact Or.inl rfl | exact Or.inr (Or.inl rfl) | exact Or.inr (Or.inr rfl)) (hd : (x == ("__debug__" : Str)) = false := by decide)
    (hcd : (x == ("__classdict__" : Str)) = false := by decide) : VE X Γ W (.Name x pos) (eVar i) := by
  refine PE.imp (pe_var hN hv hd hcd) fun σv H Q ⟨F, μ, G, σ, S, hσ, hs, h⟩ => ?_
  unfold eVar at h
  split at h
  · rename_i d hd
    obtain ⟨v, e1, r⟩ := hσ.get hd
    exact ⟨v, e1, h.ok hs v r⟩
  · exact h.elim
theorem ve_con {d : D} {v : V} (h : PE X e (tC v)) (hd : ∀ μ G, VR Γ.K μ G d v) : VE X Γ W e (eC d) :=
  PE.imp h fun σv H Q ⟨F, μ, G, σ, S, hσ, hs, h⟩ => h.ok hs v (hd μ G)
theorem ve_int {i : Int} {j} : VE X Γ W (.Constant (.int i) j pos) (eC (.int i)) := ve_con pe_int fun _ _ => .int i
theorem ve_bl {i : Bool} {j} : VE X Γ W (.Constant (.bool i) j pos) (eC (.bl i)) := ve_con pe_bl fun _ _ => .bl i
theorem ve_non {j} : VE X Γ W (.Constant .none j pos) (eC .non) := ve_con pe_non fun _ _ => .non
theorem ve_str {x : Str} {j} : VE X Γ W (.Constant (.str x) j pos) (eC (.str x)) := ve_con pe_str fun _ _ => .str x
theorem va_nil : VA X Γ W [] aNil := PA.imp pa_nil fun σv H Q ⟨F, μ, G, σ, S, hσ, hs, h⟩ => h.ok hs [] .nil
theorem va_cons (ha : VE X Γ W e f) (hr : VA X Γ W es g) (hs : starEach (e :: es) X.env = (false, eval e X.env) :: starEach es X.env := by rfl) : VA X Γ W (e :: es) (aCons f g) := by
  refine PA.imp (pa_cons ha hr hs) fun σv H Q ⟨F, μ, G, σ, S, hσ, hs, h⟩ => ?_
  refine tOf.at hσ hs (Wp.bind h) fun v μ1 G1 H1 S1 vv l s t r q => ?_
  refine taOf.at (hσ.mono l s) t (Wp.bind q) fun vs μ2 G2 H2 S2 ws l2 s2 t2 r2 q2 => ?_
  exact q2.ok t2 _ (.cons (r.mono l2 s2) r2)
theorem ve_tup {x1} (h : VA X Γ W es g) : VE X Γ W (.Tuple es x1 pos) (eTup g) := by
  refine PE.imp (pe_tup h) fun σv H Q ⟨F, μ, G, σ, S, hσ, hs, h⟩ => ?_
  refine taOf.at hσ hs (Wp.bind h) fun vs μ1 G1 H1 S1 vv l s t r q => ?_
  split at q
  · rename_i hz
    refine ⟨by rw [← r.length]; exact small1k hz, fun p np => ?_⟩
    have ng := (t.fresh np).2
    exact q _ _ _ (Le.refl _) (same_upd ng) (t.allocG _ np) _ (.tup upd_same (r.mono (Le.refl _) (same_upd ng)))
  · exact q.elim
theorem ve_lst (h : VA X Γ W es g) : VE X Γ W (.List es pos) (eLst g) := by
  refine PE.imp (pe_lst h) fun σv H Q ⟨F, μ, G, σ, S, hσ, hs, h⟩ => ?_
  refine taOf.at hσ hs (Wp.bind h) fun vs μ1 G1 H1 S1 vv l s t r q => ?_
  split at q
  · rename_i hz
    refine ⟨by rw [← r.length]; exact small1k hz, fun p np => ?_⟩
    have ng := (t.fresh np).2
    exact q _ _ _ (Le.refl _) (same_upd ng) (t.allocG _ np) _ (.lst upd_same (r.mono (Le.refl _) (same_upd ng)))
  · exact q.elim
/-- a new list, as a cell -/
theorem new_cell {F : Hp} {μ : List Addr} {G H : Hp} {S : Sto} {ds : List D} {vv : List V} {Q : VK} {W : XK} (t : Sit Γ F μ G H S) (r : VRs Γ.K μ G ds vv) (q : Wp Γ F W μ G (.ok (.cell S.length) (S ++ [some (.lst ds)])) fun v μ' G' H' _ => ∀ vv, VR Γ.K μ' G' v vv → Q vv H')
    {p : Addr} (np : H p = none) : Q (.ref p) (upd H p (.lst vv)) :=
  q _ _ _ (Le.push _ _) (Same.refl _) (t.allocC (.lst ds) np (same_upd np) upd_same ⟨vv, upd_same, r.mono (Le.push _ _) (Same.refl _)⟩) _ (.cell (by rw [← t.len]; simp))
theorem ve_new (h : VA X Γ W es g) : VE X Γ W (.List es pos) (eNew g) := by
  refine PE.imp (pe_lst h) fun σv H Q ⟨F, μ, G, σ, S, hσ, hs, h⟩ => ?_
  refine taOf.at hσ hs (Wp.bind h) fun vs μ1 G1 H1 S1 vv l s t r q => ?_
  split at q
  · rename_i hz
    exact ⟨by rw [← r.length]; exact small1k hz, fun p np => new_cell t r q np⟩
  · exact q.elim
theorem ve_frz (h : VE X Γ W e f) : VE X Γ W e (eFrz f) := by
  refine PE.imp h fun σv H Q ⟨F, μ, G, σ, S, hσ, hs, h⟩ => ?_
  refine tOf.at hσ hs (Wp.bind h) fun v μ1 G1 H1 S1 vv l s t r q => ?_
  unfold frzD at q
  split at q
  · rename_i k
    split at q
    · rename_i ds hk
      cases r with
      | cell ha =>
        obtain ⟨a', G', ha', sg, t', r'⟩ := t.freeze hk
        rw [ha] at ha'; cases ha'
        exact q _ _ _ (Le.refl _) sg t' _ r'
    · exact q.elim
  · exact q.ok t vv r

/-! ### operators -/
def OpS (Γ : Gm) (g : D → D → Sto → R D) (r : R2) : Prop :=
  ∀ (W : XK) (F : Hp) (μ : List Addr) (G H : Hp) (S : Sto) (x y : D) (vx vy : V) (Q : VK), Sit Γ F μ G H S → VR Γ.K μ G x vx → VR Γ.K μ G y vy → Wp Γ F W μ G (g x y S) (fun v μ' G' H' _ => ∀ vv, VR Γ.K μ' G' v vv → Q vv H') → r vx vy H Q
def OpS1 (Γ : Gm) (g : D → Sto → R D) (r : V → Hp → VK → Prop) : Prop :=
  ∀ (W : XK) (F : Hp) (μ : List Addr) (G H : Hp) (S : Sto) (x : D) (vx : V) (Q : VK), Sit Γ F μ G H S → VR Γ.K μ G x vx → Wp Γ F W μ G (g x S) (fun v μ' G' H' _ => ∀ vv, VR Γ.K μ' G' v vv → Q vv H') → r vx H Q
theorem tOp_of {g : D → D → Sto → R D} {r : R2} (hg : OpS Γ g r) {σv : L2.St} {H : Hp} {Q : VK} (h : tOf Γ W (op2 g fa fb) σv H Q) : tOp r (tOf Γ W fa) (tOf Γ W fb) σv H Q := by
  obtain ⟨F, μ, G, σ, S, hσ, hs, h⟩ := h
  refine tOf.at hσ hs (Wp.bind h) fun v μ1 G1 H1 S1 vv l s t r q => ?_
  refine tOf.at (hσ.mono l s) t (Wp.bind q) fun w μ2 G2 H2 S2 ww l2 s2 t2 r2 q2 => ?_
  exact hg _ _ _ _ _ _ _ _ _ _ _ t2 (r.mono l2 s2) r2 q2
theorem ve_op {op : Operator} {g : D → D → Sto → R D} {r : R2} (ho : OpR X (binaryOp op) r) (hg : OpS Γ g r) (ha : VE X Γ W a fa) (hb : VE X Γ W b fb) : VE X Γ W (.BinOp a op b pos) (op2 g fa fb) :=
  PE.imp (pe_op ho ha hb) fun _ _ _ h => tOp_of hg h
theorem ve_un {op : UnaryOp} {g : D → Sto → R D} {r : V → Hp → VK → Prop} (ho : UnR X (unaryOp op) r) (hg : OpS1 Γ g r) (ha : VE X Γ W a fa) : VE X Γ W (.UnaryOp op a pos) (op1 g fa) := by
  refine PE.imp (pe_un ho ha) fun σv H Q ⟨F, μ, G, σ, S, hσ, hs, h⟩ => ?_
  refine tOf.at hσ hs (Wp.bind h) fun v μ1 G1 H1 S1 vv l s t r q => ?_
  exact hg _ _ _ _ _ _ _ _ _ t r q
theorem ve_cmp {op : CmpOp} {g : D → D → Sto → R D} {r : R2} (ho : OpR X (compareOp op) r) (hg : OpS Γ g r) (ha : VE X Γ W a fa) (hb : VE X Γ W b fb) (hm : behindInMarks op b = false) : VE X Γ W (.Compare a [op] [b] pos) (op2 g fa fb) :=
  PE.imp (pe_cmpR ho ha hb hm) fun _ _ _ h => tOp_of hg h
/-- a bool's value as a test -/
def tTst (f : Ex) : Tx := fun σ S => (f σ S).bind fun v S1 => match v with
  | .bl b => .ok b S1
  | _ => .no
theorem tst_of {σv : L2.St} {H : Hp} {Q : Bool → Hp → Prop} (h : ttOf Γ W (tTst f) σv H Q) : tOf Γ W f σv H fun x H' => ∃ k, x = .bl k ∧ Q k H' := by
  obtain ⟨F, μ, G, σ, S, hσ, hs, h⟩ := h
  refine tOf.at hσ hs (Wp.bind h) fun v μ1 G1 H1 S1 vv l s t r q => ?_
  split at q
  · cases r; exact ⟨_, rfl, q.ok t⟩
  · exact q.elim
theorem vt_cmp {op : CmpOp} {g : D → D → Sto → R D} {r : R2} (ho : OpR X (compareOp op) r) (hg : OpS Γ g r) (ha : VE X Γ W a fa) (hb : VE X Γ W b fb) (hm : behindInMarks op b = false) : VT X Γ W (.Compare a [op] [b] pos) (tTst (op2 g fa fb)) := by
  refine PT.imp (pt_cmpR ho ha hb hm) fun σv H Q h => ?_
  obtain ⟨F, μ, G, σ, S, hσ, hs, h⟩ := tst_of h
  exact tOp_of hg ⟨F, μ, G, σ, S, hσ, hs, h⟩
theorem vt_val (h : VE X Γ W e f) (he : ∀ whole, isTrue e X.env whole = (do let v ← whole; standAt e.pos; holding [v] (truthy v)) := by intro _; rfl) : VT X Γ W e (tTst f) :=
  PT.imp (pt_val h he) fun σv H Q h => tst_of h
end

/-! ### what an operation of ours tells -/
section
variable {Γ : Gm} {W : XK} {F : Hp} {μ : List Addr} {G H : Hp} {S : Sto} {d : D} {v : V}
def lstOf (S : Sto) : D → Option (List D)
  | .lst ds => some ds
  | .cell k => match S[k]? with
    | some (some (.lst ds)) => some ds
    | _ => none
  | .scr ns => some (ns.map D.int)
  | _ => none
/-- lists that are no script -/
def lstOf' (S : Sto) : D → Option (List D)
  | .lst ds => some ds
  | .cell k => match S[k]? with
    | some (some (.lst ds)) => some ds
    | _ => none
  | _ => none
theorem vrs_ints (ns : List Int) : VRs Γ.K μ G (ns.map D.int) (ns.map V.int) := by
  induction ns with
  | nil => exact .nil
  | cons n r ih => exact .cons (.int n) ih
theorem Sit.lst' (t : Sit Γ F μ G H S) (r : VR Γ.K μ G d v) {ds : List D} (h : lstOf' S d = some ds) : ∃ a vs, v = .ref a ∧ H a = some (.lst vs) ∧ VRs Γ.K μ G ds vs := by
  unfold lstOf' at h
  split at h
  · cases h
    cases r with
    | lst h1 h2 => exact ⟨_, _, rfl, t.sub _ _ h1, h2⟩
  · rename_i k
    split at h
    · rename_i es hk
      cases h
      cases r with
      | cell ha =>
        obtain ⟨a, ha', vs, h1, h2⟩ := t.at_ k _ hk
        rw [ha] at ha'; cases ha'
        exact ⟨_, vs, rfl, h1, h2⟩
    · cases h
  · cases h
theorem Sit.lst (t : Sit Γ F μ G H S) (r : VR Γ.K μ G d v) {ds : List D} (h : lstOf S d = some ds) : ∃ a vs, v = .ref a ∧ SqL Γ.K H a vs ∧ VRs Γ.K μ G ds vs := by
  unfold lstOf at h
  split at h
  · cases h
    cases r with
    | lst h1 h2 => exact ⟨_, _, rfl, .inl (.inl (t.sub _ _ h1)), h2⟩
  · rename_i k
    split at h
    · rename_i es hk
      cases h
      cases r with
      | cell ha =>
        obtain ⟨a, ha', vs, h1, h2⟩ := t.at_ k _ hk
        rw [ha] at ha'; cases ha'
        exact ⟨_, vs, rfl, .inl (.inl h1), h2⟩
    · cases h
  · cases h
    cases r with
    | scr h1 => exact ⟨_, _, rfl, t.sub.seq h1, vrs_ints _⟩
  · cases h
theorem Sit.tup (t : Sit Γ F μ G H S) {ds : List D} (r : VR Γ.K μ G (.tup ds) v) : ∃ a vs, v = .ref a ∧ SqT Γ.K H a vs ∧ H a = some (.tup vs) ∧ VRs Γ.K μ G ds vs := by
  cases r with
  | tup h1 h2 => exact ⟨_, _, rfl, .inl (.inl (t.sub _ _ h1)), t.sub _ _ h1, h2⟩
/-- a new list that never changes -/
theorem Sit.newL (t : Sit Γ F μ G H S) {ds : List D} {vs : List V} {Q : VK} (r : VRs Γ.K μ G ds vs) (q : Wp Γ F W μ G (.ok (.lst ds) S) fun v μ' G' H' _ => ∀ vv, VR Γ.K μ' G' v vv → Q vv H') : ∀ p, H p = none → Q (.ref p) (upd H p (.lst vs)) := fun p np => by
  have ng := (t.fresh np).2
  exact q _ _ _ (Le.refl _) (same_upd ng) (t.allocG _ np) _ (.lst upd_same (r.mono (Le.refl _) (same_upd ng)))
theorem Sit.newT (t : Sit Γ F μ G H S) {ds : List D} {vs : List V} {Q : VK} (r : VRs Γ.K μ G ds vs) (q : Wp Γ F W μ G (.ok (.tup ds) S) fun v μ' G' H' _ => ∀ vv, VR Γ.K μ' G' v vv → Q vv H') : ∀ p, H p = none → Q (.ref p) (upd H p (.tup vs)) := fun p np => by
  have ng := (t.fresh np).2
  exact q _ _ _ (Le.refl _) (same_upd ng) (t.allocG _ np) _ (.tup upd_same (r.mono (Le.refl _) (same_upd ng)))
end

/-! ### arithmetic -/
def gAdd (x y : D) (S : Sto) : R D := match x, y with
  | .int i, .int j => .ok (.int (i + j)) S
  | .str i, .str j => if i.length + j.length ≤ sizeLine then .ok (.str (i ++ j)) S else .no
  | x, y => match lstOf' S x, lstOf' S y with
    | some a, some b => if a.length + b.length ≤ sizeLine then .ok (.lst (a ++ b)) S else .no
    | _, _ => .no
def gSub (x y : D) (S : Sto) : R D := match x, y with
  | .int i, .int j => .ok (.int (i - j)) S
  | _, _ => .no
noncomputable def gMul (x y : D) (S : Sto) : R D := match x, y with
  | .int i, .int j => cif ((-18446744073709551616 < i ∧ i < 18446744073709551616) ∨ (-18446744073709551616 < j ∧ j < 18446744073709551616)) (.ok (.int (i * j)) S) .no
  | _, _ => .no
noncomputable def gDiv (x y : D) (S : Sto) : R D := match x, y with
  | .int i, .int j => cif (0 < j ∧ j < 18446744073709551616) (.ok (.int (i / j)) S) .no
  | _, _ => .no
def gMod (x y : D) (S : Sto) : R D := match x, y with
  | .int i, .int j => if 0 < j then .ok (.int (i % j)) S else .no
  | _, _ => .no
def gNeg (x : D) (S : Sto) : R D := match x with
  | .int i => .ok (.int (-i)) S
  | _ => .no
def gCmp (p : Int → Int → Bool) (x y : D) (S : Sto) : R D := match x, y with
  | .int i, .int j => .ok (.bl (p i j)) S
  | _, _ => .no
def gIsN (x y : D) (S : Sto) : R D := match y with
  | .non => .ok (.bl (match x with | .non => true | _ => false)) S
  | _ => .no
def gNotN (x y : D) (S : Sto) : R D := match y with
  | .non => .ok (.bl (match x with | .non => false | _ => true)) S
  | _ => .no
section
variable {X : Cx} {Γ : Gm} {W : WX} {e a b : Expr} {f fa fb : Ex} {pos : Pos}
def rAddD : R2 := fun x y H Q => (rI0 (fun i j => .int (i + j)) x y H Q ∨ ∃ i j, x = .str i ∧ y = .str j ∧ i.length + j.length ≤ sizeLine ∧ Q (.str (i ++ j)) H) ∨ rCat x y H Q
theorem OpR.orD {f : Value → Value → Sem Value} {r r' : R2} (h : OpR X f r) (h' : OpR X f r') : OpR X f (fun x y H Q => r x y H Q ∨ r' x y H Q) := fun pins s σ H x y v u Q I rx ry q =>
  q.elim (fun q => h pins s σ H x y v u Q I rx ry q) fun q => h' pins s σ H x y v u Q I rx ry q
theorem op_addD : OpR X (binaryOp .Add) rAddD := OpR.orD (OpR.orD op_add op_add_str) op_cat
theorem os_add : OpS Γ gAdd rAddD := by
  intro W F μ G H S x y vx vy Q t rx ry q
  unfold gAdd at q
  split at q
  · cases rx; cases ry; exact .inl (.inl ⟨_, _, rfl, rfl, q.ok t _ (.int _)⟩)
  · cases rx; cases ry
    split at q
    · exact .inl (.inr ⟨_, _, rfl, rfl, by assumption, q.ok t _ (.str _)⟩)
    · exact q.elim
  · split at q
    · rename_i as bs ha hb
      obtain ⟨p, vs, rfl, h1, h2⟩ := t.lst' rx ha
      obtain ⟨p', vs', rfl, h1', h2'⟩ := t.lst' ry hb
      split at q
      · exact .inr ⟨p, p', vs, vs', rfl, rfl, h1, h1', by rw [← h2.length, ← h2'.length]; assumption, t.newL (h2.append h2') q⟩
      · exact q.elim
    · exact q.elim
theorem ve_add (ha : VE X Γ W a fa) (hb : VE X Γ W b fb) : VE X Γ W (.BinOp a .Add b pos) (op2 gAdd fa fb) := ve_op op_addD os_add ha hb
theorem os_int {C : Int → Int → Prop} [∀ i j, Decidable (C i j)] {h : Int → Int → Int} {C' : Int → Int → Prop} {g : D → D → Sto → R D} (hc : ∀ i j, C i j → C' i j)
    (hg : ∀ x y S, g x y S = match x, y with | .int i, .int j => if C i j then .ok (.int (h i j)) S else .no | _, _ => .no) : OpS Γ g (rI C' fun i j => .int (h i j)) := by
  intro W F μ G H S x y vx vy Q t rx ry q
  rw [hg] at q
  split at q
  · cases rx; cases ry
    split at q
    · exact ⟨_, _, rfl, rfl, hc _ _ (by assumption), q.ok t _ (.int _)⟩
    · exact q.elim
  · exact q.elim
theorem ve_sub (ha : VE X Γ W a fa) (hb : VE X Γ W b fb) : VE X Γ W (.BinOp a .Sub b pos) (op2 gSub fa fb) := ve_op op_sub (by
  intro W F μ G H S x y vx vy Q t rx ry q
  unfold gSub at q
  split at q
  · cases rx; cases ry; exact ⟨_, _, rfl, rfl, q.ok t _ (.int _)⟩
  · exact q.elim) ha hb
theorem os_intc {C : Int → Int → Prop} {h : Int → Int → Int} {C' : Int → Int → Prop} {g : D → D → Sto → R D} (hc : ∀ i j, C i j → C' i j)
    (hg : ∀ x y S, g x y S = match x, y with | .int i, .int j => cif (C i j) (.ok (.int (h i j)) S) .no | _, _ => .no) : OpS Γ g (rI C' fun i j => .int (h i j)) := by
  intro W F μ G H S x y vx vy Q t rx ry q
  rw [hg] at q
  split at q
  · rename_i i j
    cases rx; cases ry
    by_cases hh : C i j
    · rw [cif_pos hh] at q; exact ⟨_, _, rfl, rfl, hc _ _ hh, q.ok t _ (.int _)⟩
    · rw [cif_neg hh] at q; exact q.elim
  · exact q.elim
theorem ve_mul (ha : VE X Γ W a fa) (hb : VE X Γ W b fb) : VE X Γ W (.BinOp a .Mult b pos) (op2 gMul fa fb) :=
  ve_op op_mul (os_intc (C := fun i j => (-18446744073709551616 < i ∧ i < 18446744073709551616) ∨ (-18446744073709551616 < j ∧ j < 18446744073709551616)) (fun i j h => show (-(2 ^ 64) < i ∧ i < 2 ^ 64) ∨ (-(2 ^ 64) < j ∧ j < 2 ^ 64) by omega) fun x y S => rfl) ha hb
theorem div_ok {i j : Int} (h : 0 < j ∧ j < 18446744073709551616) : CDivW i j := wide_div (b := 64) h.1 (by have := h.2; omega) (by decide) (by decide)
theorem ve_div (ha : VE X Γ W a fa) (hb : VE X Γ W b fb) : VE X Γ W (.BinOp a .FloorDiv b pos) (op2 gDiv fa fb) :=
  ve_op op_fdivW (os_intc (C := fun _ j => 0 < j ∧ j < 18446744073709551616) (fun _ _ h => div_ok h) fun x y S => rfl) ha hb
theorem ve_mod (ha : VE X Γ W a fa) (hb : VE X Γ W b fb) : VE X Γ W (.BinOp a .Mod b pos) (op2 gMod fa fb) :=
  ve_op op_mod (os_int (C := fun _ j => 0 < j) (fun _ _ h => h) fun x y S => rfl) ha hb
theorem ve_neg (ha : VE X Γ W a fa) : VE X Γ W (.UnaryOp .USub a pos) (op1 gNeg fa) := ve_un un_neg (by
  intro W F μ G H S x vx Q t rx q
  unfold gNeg at q
  split at q
  · cases rx; exact ⟨_, rfl, q.ok t _ (.int _)⟩
  · exact q.elim) ha
theorem os_cmp {p : Int → Int → Bool} : OpS Γ (gCmp p) (rI0 fun i j => .bl (p i j)) := by
  intro W F μ G H S x y vx vy Q t rx ry q
  unfold gCmp at q
  split at q
  · cases rx; cases ry; exact ⟨_, _, rfl, rfl, q.ok t _ (.bl _)⟩
  · exact q.elim
theorem os_isN : OpS Γ gIsN (fun x y H Q => y = .non ∧ Q (.bl (decide (x = .non))) H) := by
  intro W F μ G H S x y vx vy Q t rx ry q
  unfold gIsN at q
  split at q
  · cases ry
    refine ⟨rfl, ?_⟩
    have h := q.ok t _ (.bl _)
    cases rx <;> exact h
  · exact q.elim
theorem os_notN : OpS Γ gNotN (fun x y H Q => y = .non ∧ Q (.bl (!decide (x = .non))) H) := by
  intro W F μ G H S x y vx vy Q t rx ry q
  unfold gNotN at q
  split at q
  · cases ry
    refine ⟨rfl, ?_⟩
    have h := q.ok t _ (.bl _)
    cases rx <;> exact h
  · exact q.elim
end
end Ev

/-! Ev, the rules, part 2: comparisons of data, in, and/or/not, subscripts, slices, len, isinstance; statements; a def. -/
namespace Ev
open PySem PySem.Spec PyProof.Rows L2

/-! ### data as the model compares it -/
def omap {α β : Type} (f : α → Option β) : List α → Option (List β)
  | [] => some []
  | a :: r => match f a, omap f r with
    | some b, some s => some (b :: s)
    | _, _ => none
def py (S : Sto) : Nat → D → Option PyData
  | _, .non => some .none
  | _, .bl b => some (.bool b)
  | _, .int i => some (.int i)
  | _, .str x => if PyData.strOk x = true then some (.str x) else none
  | n + 1, .tup ds => (omap (py S n) ds).map .tuple
  | n + 1, .lst ds => (omap (py S n) ds).map .list
  | n + 1, .cell k => match S[k]? with
    | some (some (.lst ds)) => (omap (py S n) ds).map .list
    | _ => none
  | _, _ => none
section
variable {Γ : Gm} {W : XK} {F : Hp} {μ : List Addr} {G H : Hp} {S : Sto}
theorem depthAll_le : ∀ {ps : List PyData} {n : Nat}, (∀ p ∈ ps, p.depth ≤ n) → PyData.depthAll ps ≤ n
  | [], n, _ => by simp [PyData.depthAll]
  | p :: r, n, h => by
    have h1 := h p List.mem_cons_self
    have h2 := depthAll_le (ps := r) fun q hq => h q (List.mem_cons_of_mem _ hq)
    simp only [PyData.depthAll]
    omega
theorem layAll_of : ∀ {ps : List PyData}, (∀ p ∈ ps, p.canLay0 = true) → PyData.canLayAll0 ps = true
  | [], _ => by simp [PyData.canLayAll0]
  | p :: r, h => by
    simp only [PyData.canLayAll0, Bool.and_eq_true]
    exact ⟨h p List.mem_cons_self, layAll_of fun q hq => h q (List.mem_cons_of_mem _ hq)⟩
theorem py_all {n : Nat} (ih : ∀ (d : D) (v : V) (p : PyData), VR Γ.K μ G d v → py S n d = some p → Dp Γ.K H v p ∧ p.depth ≤ n ∧ p.canLay0 = true) :
    ∀ (ds : List D) (vs : List V) (ps : List PyData), VRs Γ.K μ G ds vs → omap (py S n) ds = some ps → DpAll Γ.K H vs ps ∧ (∀ p ∈ ps, p.depth ≤ n) ∧ ∀ p ∈ ps, p.canLay0 = true
  | [], vs, ps, r, h => by
    cases r
    simp [omap] at h
    subst h
    exact ⟨.nil, by simp, by simp⟩
  | d :: ds, vs, ps, r, h => by
    cases r with
    | cons r1 r2 =>
      simp only [omap] at h
      split at h
      · rename_i p qs e1 e2
        cases h
        obtain ⟨a1, a2, a3⟩ := ih d _ p r1 e1
        obtain ⟨b1, b2, b3⟩ := py_all ih ds _ qs r2 e2
        refine ⟨.cons a1 b1, fun q hq => ?_, fun q hq => ?_⟩
        · rcases List.mem_cons.mp hq with rfl | hq
          · exact a2
          · exact b2 q hq
        · rcases List.mem_cons.mp hq with rfl | hq
          · exact a3
          · exact b3 q hq
      · cases h
theorem py_ok (t : Sit Γ F μ G H S) : ∀ (n : Nat) (d : D) (v : V) (p : PyData), VR Γ.K μ G d v → py S n d = some p → Dp Γ.K H v p ∧ p.depth ≤ n ∧ p.canLay0 = true := by
  intro n
  induction n with
  | zero =>
    intro d v p r h
    cases r with
    | non => simp [py] at h; subst h; exact ⟨.non, by simp [PyData.depth], rfl⟩
    | bl b => simp [py] at h; subst h; exact ⟨.bl b, by simp [PyData.depth], rfl⟩
    | int i => simp [py] at h; subst h; exact ⟨.int i, by simp [PyData.depth], rfl⟩
    | str x => simp [py] at h; obtain ⟨h1, h⟩ := h; subst h; exact ⟨.str x, by simp [PyData.depth], by simpa [PyData.canLay0] using h1⟩
    | tup _ _ => simp [py] at h
    | lst _ _ => simp [py] at h
    | cell _ => simp [py] at h
    | scr _ => simp [py] at h
  | succ n ih =>
    intro d v p r h
    cases r with
    | non => simp [py] at h; subst h; exact ⟨.non, by simp [PyData.depth], rfl⟩
    | bl b => simp [py] at h; subst h; exact ⟨.bl b, by simp [PyData.depth], rfl⟩
    | int i => simp [py] at h; subst h; exact ⟨.int i, by simp [PyData.depth], rfl⟩
    | str x => simp [py] at h; obtain ⟨h1, h⟩ := h; subst h; exact ⟨.str x, by simp [PyData.depth], by simpa [PyData.canLay0] using h1⟩
    | tup h1 h2 =>
      simp only [py, Option.map_eq_some_iff] at h
      obtain ⟨ps, h, rfl⟩ := h
      obtain ⟨a1, a2, a3⟩ := py_all ih _ _ _ h2 h
      exact ⟨.tup (.inl (.inl (t.sub _ _ h1))) a1, by simp only [PyData.depth]; have := depthAll_le a2; omega, by simp only [PyData.canLay0]; exact layAll_of a3⟩
    | lst h1 h2 =>
      simp only [py, Option.map_eq_some_iff] at h
      obtain ⟨ps, h, rfl⟩ := h
      obtain ⟨a1, a2, a3⟩ := py_all ih _ _ _ h2 h
      exact ⟨.lst (.inl (.inl (t.sub _ _ h1))) a1, by simp only [PyData.depth]; have := depthAll_le a2; omega, by simp only [PyData.canLay0]; exact layAll_of a3⟩
    | scr _ => simp [py] at h
    | cell hk =>
      simp only [py] at h
      split at h
      · rename_i ds hs
        obtain ⟨a, ha, vs, h1, h2⟩ := t.at_ _ _ hs
        rw [hk] at ha; cases ha
        rw [Option.map_eq_some_iff] at h
        obtain ⟨ps, h, rfl⟩ := h
        obtain ⟨a1, a2, a3⟩ := py_all ih _ _ _ h2 h
        exact ⟨.lst (.inl (.inl h1)) a1, by simp only [PyData.depth]; have := depthAll_le a2; omega, by simp only [PyData.canLay0]; exact layAll_of a3⟩
      · cases h
end
def rEqP (K : PySem.W.Frag) : R2 := fun x y H Q => ∃ d e, Dp K H x d ∧ Dp K H y e ∧ d.canLay0 = true ∧ e.canLay0 = true ∧ d.depth ≤ 200 ∧ Q (.bl (PyData.eqv d e)) H
def rNeP (K : PySem.W.Frag) : R2 := fun x y H Q => ∃ d e, Dp K H x d ∧ Dp K H y e ∧ d.canLay0 = true ∧ e.canLay0 = true ∧ d.depth ≤ 200 ∧ Q (.bl (!PyData.eqv d e)) H
section
variable {X : Cx}
theorem op_eqP (hu : X.A.units + 200 < cLine) : OpR X (compareOp .Eq) (rEqP X.K) := by
  intro pins s σ H x y v u Q I rx ry h
  obtain ⟨d, e, hd, he, sd, se, z, q⟩ := h
  obtain ⟨as, r1⟩ := Dp.reads I d x v hd rx
  obtain ⟨bs, r2⟩ := Dp.reads I e y u he ry
  exact SeqAt.compareEq_reads r1 r2 sd se (by have := Nat.min_le_left d.depth e.depth; omega) ⟨.bl _, H, I, rfl, q⟩
theorem op_neP (hu : X.A.units + 200 < cLine) : OpR X (compareOp .NotEq) (rNeP X.K) := by
  intro pins s σ H x y v u Q I rx ry h
  obtain ⟨d, e, hd, he, sd, se, z, q⟩ := h
  obtain ⟨as, r1⟩ := Dp.reads I d x v hd rx
  obtain ⟨bs, r2⟩ := Dp.reads I e y u he ry
  exact SeqAt.compareNe_reads r1 r2 sd se (by have := Nat.min_le_left d.depth e.depth; omega) ⟨.bl _, H, I, rfl, q⟩
end
def gEq (x y : D) (S : Sto) : R D := match py S 200 x, py S 200 y with
  | some p, some q => .ok (.bl (PyData.eqv p q)) S
  | _, _ => .no
def gNe (x y : D) (S : Sto) : R D := match py S 200 x, py S 200 y with
  | some p, some q => .ok (.bl (!PyData.eqv p q)) S
  | _, _ => .no
/-- x in y: y a list, data of any depth; y a tuple of texts and ints -/
def flatD : D → Bool
  | .str _ => true
  | .int _ => true
  | _ => false
def gIn (neg : Bool) (x y : D) (S : Sto) : R D := match y with
  | .tup ds => if flatD x && ds.all flatD then (match py S 0 x, omap (py S 0) ds with
    | some p, some qs => .ok (.bl (if neg then !(qs.any fun z => PyData.eqv z p) else qs.any fun z => PyData.eqv z p)) S
    | _, _ => .no) else .no
  | y => match lstOf' S y, py S 60 x with
    | some ds, some p => (match omap (py S 60) ds with
      | some qs => .ok (.bl (if neg then !(qs.any fun z => PyData.eqv z p) else qs.any fun z => PyData.eqv z p)) S
      | none => .no)
    | _, _ => .no
section
variable {X : Cx} {Γ : Gm} {W : WX} {e a b : Expr} {f fa fb : Ex} {pos : Pos}
theorem os_eq : OpS Γ gEq (rEqP Γ.K) := by
  intro W F μ G H S x y vx vy Q t rx ry q
  unfold gEq at q
  split at q
  · rename_i p p' e1 e2
    obtain ⟨a1, a2, a3⟩ := py_ok t _ _ _ _ rx e1
    obtain ⟨b1, b2, b3⟩ := py_ok t _ _ _ _ ry e2
    exact ⟨p, p', a1, b1, a3, b3, a2, q.ok t _ (.bl _)⟩
  · exact q.elim
theorem os_ne : OpS Γ gNe (rNeP Γ.K) := by
  intro W F μ G H S x y vx vy Q t rx ry q
  unfold gNe at q
  split at q
  · rename_i p p' e1 e2
    obtain ⟨a1, a2, a3⟩ := py_ok t _ _ _ _ rx e1
    obtain ⟨b1, b2, b3⟩ := py_ok t _ _ _ _ ry e2
    exact ⟨p, p', a1, b1, a3, b3, a2, q.ok t _ (.bl _)⟩
  · exact q.elim
theorem flat_eqv {d e : D} {v w : V} {p q : PyData} {K : PySem.W.Frag} {μ : List Addr} {G : Hp} {S : Sto} (fd : flatD d = true) (fe : flatD e = true) (rd : VR K μ G d v) (re : VR K μ G e w) (hp : py S 0 d = some p) (hq : py S 0 e = some q) : eqV v w = PyData.eqv p q ∧ flatV v = true ∧ flatV w = true := by
  cases d <;> simp [flatD] at fd <;> cases e <;> simp [flatD] at fe <;> cases rd <;> cases re <;> simp [py] at hp hq
  · subst hp; subst hq; simp [eqV, flatV, PyData.eqv]
  · obtain ⟨_, hq⟩ := hq; subst hp; subst hq; simp [eqV, flatV, PyData.eqv]
  · obtain ⟨_, hp⟩ := hp; subst hp; subst hq; simp [eqV, flatV, PyData.eqv]
  · obtain ⟨_, hp⟩ := hp; obtain ⟨_, hq⟩ := hq; subst hp; subst hq; simp [eqV, flatV, PyData.eqv]
theorem flat_any {x : D} {vx : V} {p : PyData} {K : PySem.W.Frag} {μ : List Addr} {G : Hp} {S : Sto} (fx : flatD x = true) (rx : VR K μ G x vx) (hp : py S 0 x = some p) :
    ∀ (ds : List D) (vs : List V) (qs : List PyData), ds.all flatD = true → VRs K μ G ds vs → omap (py S 0) ds = some qs → (vs.any fun y => eqV y vx) = (qs.any fun z => PyData.eqv z p) ∧ vs.all flatV = true
  | [], vs, qs, _, r, h => by cases r; simp [omap] at h; subst h; simp
  | d :: ds, vs, qs, fd, r, h => by
    cases r with
    | cons r1 r2 =>
      simp only [List.all_cons, Bool.and_eq_true] at fd
      simp only [omap] at h
      split at h
      · rename_i p' qs' e1 e2
        cases h
        obtain ⟨c1, c2, _⟩ := flat_eqv fd.1 fx r1 rx e1 hp
        obtain ⟨d1, d2⟩ := flat_any fx rx hp ds _ _ fd.2 r2 e2
        simp [c1, c2, d1, d2]
      · cases h
theorem flatV_of {x : D} {vx : V} {K : PySem.W.Frag} {μ : List Addr} {G : Hp} (fx : flatD x = true) (rx : VR K μ G x vx) : flatV vx = true := by
  cases x <;> simp [flatD] at fx <;> cases rx <;> rfl
def rInT (K : PySem.W.Frag) (neg : Bool) : R2 := fun x y H Q => rIn K neg x y H Q ∨ if neg = true then rNotInD K x y H Q else rInD K x y H Q
theorem os_in (neg : Bool) : OpS Γ (gIn neg) (rInT Γ.K neg) := by
  intro W F μ G H S x y vx vy Q t rx ry q
  unfold gIn at q
  split at q
  · rename_i ds
    split at q
    · rename_i hf
      rw [Bool.and_eq_true] at hf
      split at q
      · rename_i p qs e1 e2
        obtain ⟨a, vs, rfl, h1, _, h2⟩ := t.tup ry
        obtain ⟨c1, c2⟩ := flat_any hf.1 rx e1 ds vs qs hf.2 h2 e2
        refine .inl ⟨a, vs, rfl, .inr h1, flatV_of hf.1 rx, c2, ?_⟩
        have z := q.ok t _ (.bl _)
        unfold inV
        rw [c1]
        cases neg <;> simpa using z
      · exact q.elim
    · exact q.elim
  · split at q
    · rename_i ds p e1 e2
      split at q
      · rename_i qs e3
        obtain ⟨a1, a2, a3⟩ := py_ok t _ _ _ _ rx e2
        obtain ⟨a, vs, rfl, h1, h2⟩ := t.lst' ry e1
        obtain ⟨b1, b2, b3⟩ := py_all (py_ok t 60) _ _ _ h2 e3
        have sx : SeqAt.shaped p = true := by
          unfold SeqAt.shaped
          rw [a3, Bool.true_and]
          exact decide_eq_true (by omega)
        have sl : SeqAt.shaped (.list qs) = true := by
          have h1 := depthAll_le b2
          have h2 : (PyData.list qs).depth ≤ 64 := by simp only [PyData.depth]; omega
          have h3 : (PyData.list qs).canLay0 = true := by simp only [PyData.canLay0]; exact layAll_of b3
          unfold SeqAt.shaped
          rw [h3, decide_eq_true h2]
          rfl
        have hd : Dp Γ.K H (.ref a) (.list qs) := .lst (.inl (.inl h1)) b1
        have z := q.ok t _ (.bl _)
        refine .inr ?_
        cases neg with
        | true => exact ⟨p, qs, a1, hd, sx, sl, by simpa using z⟩
        | false => exact ⟨p, qs, a1, hd, sx, sl, by simpa using z⟩
      · exact q.elim
    · exact q.elim
theorem op_inT (hu : X.A.units + 65 < cLine) : OpR X (compareOp .In) (rInT X.K false) := by
  intro pins s σ H x y v u Q I rx ry h
  rcases h with h | h
  · exact op_in_seq pins s σ H x y v u Q I rx ry h
  · exact op_inD hu pins s σ H x y v u Q I rx ry (by simpa using h)
theorem op_notInT (hu : X.A.units + 65 < cLine) : OpR X (compareOp .NotIn) (rInT X.K true) := by
  intro pins s σ H x y v u Q I rx ry h
  rcases h with h | h
  · exact op_notIn_seq pins s σ H x y v u Q I rx ry h
  · exact op_notInD hu pins s σ H x y v u Q I rx ry (by simpa using h)
theorem u200 {k : Nat} {A : Around} (r : Room k A) : A.units + 200 < cLine := by have := r.un; omega
theorem u65 {k : Nat} {A : Around} (r : Room k A) : A.units + 65 < cLine := by have := r.un; omega
theorem ve_eq {k : Nat} (hr : Room k X.A) (ha : VE X Γ W a fa) (hb : VE X Γ W b fb) (hK : X.K = Γ.K := by rfl) : VE X Γ W (.Compare a [.Eq] [b] pos) (op2 gEq fa fb) := ve_cmp (op_eqP (u200 hr)) (hK ▸ os_eq) ha hb (nomark _)
theorem ve_ne {k : Nat} (hr : Room k X.A) (ha : VE X Γ W a fa) (hb : VE X Γ W b fb) (hK : X.K = Γ.K := by rfl) : VE X Γ W (.Compare a [.NotEq] [b] pos) (op2 gNe fa fb) := ve_cmp (op_neP (u200 hr)) (hK ▸ os_ne) ha hb (nomark _)
theorem ve_in {k : Nat} (hr : Room k X.A) (ha : VE X Γ W a fa) (hb : VE X Γ W b fb) (hK : X.K = Γ.K := by rfl) (hm : behindInMarks .In b = false := by rfl) : VE X Γ W (.Compare a [.In] [b] pos) (op2 (gIn false) fa fb) := ve_cmp (op_inT (u65 hr)) (hK ▸ os_in false) ha hb hm
theorem ve_notIn {k : Nat} (hr : Room k X.A) (ha : VE X Γ W a fa) (hb : VE X Γ W b fb) (hK : X.K = Γ.K := by rfl) (hm : behindInMarks .NotIn b = false := by rfl) : VE X Γ W (.Compare a [.NotIn] [b] pos) (op2 (gIn true) fa fb) := ve_cmp (op_notInT (u65 hr)) (hK ▸ os_in true) ha hb hm
def gLt := gCmp fun i j => decide (i < j)
def gLe := gCmp fun i j => decide (i ≤ j)
def gGt := gCmp fun i j => decide (j < i)
def gGe := gCmp fun i j => decide (j ≤ i)
theorem ve_lt (ha : VE X Γ W a fa) (hb : VE X Γ W b fb) : VE X Γ W (.Compare a [.Lt] [b] pos) (op2 gLt fa fb) := ve_cmp op_lt os_cmp ha hb (nomark _)
theorem ve_le (ha : VE X Γ W a fa) (hb : VE X Γ W b fb) : VE X Γ W (.Compare a [.LtE] [b] pos) (op2 gLe fa fb) := ve_cmp op_le os_cmp ha hb (nomark _)
theorem ve_gt (ha : VE X Γ W a fa) (hb : VE X Γ W b fb) : VE X Γ W (.Compare a [.Gt] [b] pos) (op2 gGt fa fb) := ve_cmp op_gt os_cmp ha hb (nomark _)
theorem ve_ge (ha : VE X Γ W a fa) (hb : VE X Γ W b fb) : VE X Γ W (.Compare a [.GtE] [b] pos) (op2 gGe fa fb) := ve_cmp op_ge os_cmp ha hb (nomark _)
theorem ve_isN (ha : VE X Γ W a fa) (hb : VE X Γ W b fb) : VE X Γ W (.Compare a [.Is] [b] pos) (op2 gIsN fa fb) := ve_cmp op_isN os_isN ha hb (nomark _)
theorem ve_notN (ha : VE X Γ W a fa) (hb : VE X Γ W b fb) : VE X Γ W (.Compare a [.IsNot] [b] pos) (op2 gNotN fa fb) := ve_cmp op_notN os_notN ha hb (nomark _)
theorem vt_eq {k : Nat} (hr : Room k X.A) (ha : VE X Γ W a fa) (hb : VE X Γ W b fb) (hK : X.K = Γ.K := by rfl) : VT X Γ W (.Compare a [.Eq] [b] pos) (tTst (op2 gEq fa fb)) := vt_cmp (op_eqP (u200 hr)) (hK ▸ os_eq) ha hb (nomark _)
theorem vt_ne {k : Nat} (hr : Room k X.A) (ha : VE X Γ W a fa) (hb : VE X Γ W b fb) (hK : X.K = Γ.K := by rfl) : VT X Γ W (.Compare a [.NotEq] [b] pos) (tTst (op2 gNe fa fb)) := vt_cmp (op_neP (u200 hr)) (hK ▸ os_ne) ha hb (nomark _)
theorem vt_in {k : Nat} (hr : Room k X.A) (ha : VE X Γ W a fa) (hb : VE X Γ W b fb) (hK : X.K = Γ.K := by rfl) (hm : behindInMarks .In b = false := by rfl) : VT X Γ W (.Compare a [.In] [b] pos) (tTst (op2 (gIn false) fa fb)) := vt_cmp (op_inT (u65 hr)) (hK ▸ os_in false) ha hb hm
theorem vt_notIn {k : Nat} (hr : Room k X.A) (ha : VE X Γ W a fa) (hb : VE X Γ W b fb) (hK : X.K = Γ.K := by rfl) (hm : behindInMarks .NotIn b = false := by rfl) : VT X Γ W (.Compare a [.NotIn] [b] pos) (tTst (op2 (gIn true) fa fb)) := vt_cmp (op_notInT (u65 hr)) (hK ▸ os_in true) ha hb hm
theorem vt_lt (ha : VE X Γ W a fa) (hb : VE X Γ W b fb) : VT X Γ W (.Compare a [.Lt] [b] pos) (tTst (op2 gLt fa fb)) := vt_cmp op_lt os_cmp ha hb (nomark _)
theorem vt_le (ha : VE X Γ W a fa) (hb : VE X Γ W b fb) : VT X Γ W (.Compare a [.LtE] [b] pos) (tTst (op2 gLe fa fb)) := vt_cmp op_le os_cmp ha hb (nomark _)
theorem vt_gt (ha : VE X Γ W a fa) (hb : VE X Γ W b fb) : VT X Γ W (.Compare a [.Gt] [b] pos) (tTst (op2 gGt fa fb)) := vt_cmp op_gt os_cmp ha hb (nomark _)
theorem vt_ge (ha : VE X Γ W a fa) (hb : VE X Γ W b fb) : VT X Γ W (.Compare a [.GtE] [b] pos) (tTst (op2 gGe fa fb)) := vt_cmp op_ge os_cmp ha hb (nomark _)
theorem vt_isN (ha : VE X Γ W a fa) (hb : VE X Γ W b fb) : VT X Γ W (.Compare a [.Is] [b] pos) (tTst (op2 gIsN fa fb)) := vt_cmp op_isN os_isN ha hb (nomark _)
theorem vt_notN (ha : VE X Γ W a fa) (hb : VE X Γ W b fb) : VT X Γ W (.Compare a [.IsNot] [b] pos) (tTst (op2 gNotN fa fb)) := vt_cmp op_notN os_notN ha hb (nomark _)
end

/-! ### and, or, not, x if t else y -/
def tAnd (f g : Tx) : Tx := fun σ S => (f σ S).bind fun b S1 => if b = true then g σ S1 else .ok false S1
def tOr (f g : Tx) : Tx := fun σ S => (f σ S).bind fun b S1 => if b = true then .ok true S1 else g σ S1
def tNot (f : Tx) : Tx := fun σ S => (f σ S).bind fun b S1 => .ok (!b) S1
def eAnd (f g : Ex) : Ex := fun σ S => (f σ S).bind fun v S1 => match v with
  | .bl b => if b = true then g σ S1 else .ok (.bl false) S1
  | _ => .no
def eOr (f g : Ex) : Ex := fun σ S => (f σ S).bind fun v S1 => match v with
  | .bl b => if b = true then .ok (.bl true) S1 else g σ S1
  | _ => .no
def gNot (x : D) (S : Sto) : R D := match x with
  | .bl b => .ok (.bl (!b)) S
  | _ => .no
def eIf (t : Tx) (f g : Ex) : Ex := fun σ S => (t σ S).bind fun b S1 => if b = true then f σ S1 else g σ S1
section
variable {X : Cx} {Γ : Gm} {W : WX} {e a b c : Expr} {rest : List Expr} {f g fa fb : Ex} {t u : Tx} {pos : Pos}
abbrev VW (X : Cx) (Γ : Gm) (W : WX) (e : Expr) (f : Tx) : Prop := PW X e (ttOf Γ W f)
theorem vw_and1 (ha : VT X Γ W a t) : VW X Γ W (.BoolOp .And [a] pos) t := pw_and1 ha
theorem vw_or1 (ha : VT X Γ W a t) : VW X Γ W (.BoolOp .Or [a] pos) t := pw_or1 ha
theorem vw_and (ha : VT X Γ W a t) (hb : VW X Γ W (.BoolOp .And (b :: rest) pos) u) : VW X Γ W (.BoolOp .And (a :: b :: rest) pos) (tAnd t u) := by
  refine PW.imp (pw_and ha hb) fun σv H Q ⟨F, μ, G, σ, S, hσ, hs, h⟩ => ?_
  refine ttOf.at hσ hs (Wp.bind h) fun v μ1 G1 H1 S1 l s t q => ?_
  split
  · rename_i hv; rw [if_pos hv] at q; exact ⟨F, μ1, G1, σ, S1, hσ.mono l s, t, q⟩
  · rename_i hv; rw [if_neg hv] at q; exact q.ok t
theorem vw_or (ha : VT X Γ W a t) (hb : VW X Γ W (.BoolOp .Or (b :: rest) pos) u) : VW X Γ W (.BoolOp .Or (a :: b :: rest) pos) (tOr t u) := by
  refine PW.imp (pw_or ha hb) fun σv H Q ⟨F, μ, G, σ, S, hσ, hs, h⟩ => ?_
  refine ttOf.at hσ hs (Wp.bind h) fun v μ1 G1 H1 S1 l s t q => ?_
  split
  · rename_i hv; rw [if_pos hv] at q; exact q.ok t
  · rename_i hv; rw [if_neg hv] at q; exact ⟨F, μ1, G1, σ, S1, hσ.mono l s, t, q⟩
theorem vt_w (h : VW X Γ W e t) : VT X Γ W e t := h.pt
theorem vt_not (ha : VT X Γ W a t) : VT X Γ W (.UnaryOp .Not a pos) (tNot t) := by
  refine PT.imp (pt_not ha) fun σv H Q ⟨F, μ, G, σ, S, hσ, hs, h⟩ => ?_
  exact ttOf.at hσ hs (Wp.bind h) fun v μ1 G1 H1 S1 l s t q => q.ok t
theorem ve_one {op} (h : VE X Γ W a f) : VE X Γ W (.BoolOp op [a] pos) f := pe_one h
theorem ve_and (ha : VE X Γ W a f) (hb : VE X Γ W (.BoolOp .And (b :: rest) pos) g) : VE X Γ W (.BoolOp .And (a :: b :: rest) pos) (eAnd f g) := by
  refine PE.imp (pe_and ha hb) fun σv H Q ⟨F, μ, G, σ, S, hσ, hs, h⟩ => ?_
  refine tOf.at hσ hs (Wp.bind h) fun v μ1 G1 H1 S1 vv l s t r q => ?_
  split at q
  · rename_i k
    cases r
    refine ⟨k, rfl, ?_⟩
    split
    · rename_i hk; rw [if_pos hk] at q; exact ⟨F, μ1, G1, σ, S1, hσ.mono l s, t, q⟩
    · rename_i hk; rw [if_neg hk] at q; exact q.ok t _ (.bl _)
  · exact q.elim
theorem ve_or (ha : VE X Γ W a f) (hb : VE X Γ W (.BoolOp .Or (b :: rest) pos) g) : VE X Γ W (.BoolOp .Or (a :: b :: rest) pos) (eOr f g) := by
  refine PE.imp (pe_or ha hb) fun σv H Q ⟨F, μ, G, σ, S, hσ, hs, h⟩ => ?_
  refine tOf.at hσ hs (Wp.bind h) fun v μ1 G1 H1 S1 vv l s t r q => ?_
  split at q
  · rename_i k
    cases r
    refine ⟨k, rfl, ?_⟩
    split
    · rename_i hk; rw [if_pos hk] at q; exact q.ok t _ (.bl _)
    · rename_i hk; rw [if_neg hk] at q; exact ⟨F, μ1, G1, σ, S1, hσ.mono l s, t, q⟩
  · exact q.elim
theorem ve_not (ha : VE X Γ W a f) : VE X Γ W (.UnaryOp .Not a pos) (op1 gNot f) := by
  refine PE.imp (pe_not ha) fun σv H Q ⟨F, μ, G, σ, S, hσ, hs, h⟩ => ?_
  refine tOf.at hσ hs (Wp.bind h) fun v μ1 G1 H1 S1 vv l s t r q => ?_
  unfold gNot at q
  split at q
  · cases r; exact ⟨_, rfl, q.ok t _ (.bl _)⟩
  · exact q.elim
theorem ve_ife (hc : VT X Γ W c t) (ha : VE X Γ W a f) (hb : VE X Γ W b g) : VE X Γ W (.IfExp c a b pos) (eIf t f g) := by
  refine PE.imp (pe_ifExp hc ha hb) fun σv H Q ⟨F, μ, G, σ, S, hσ, hs, h⟩ => ?_
  refine ttOf.at hσ hs (Wp.bind h) fun v μ1 G1 H1 S1 l s t q => ?_
  split
  · rename_i hv; rw [if_pos hv] at q; exact ⟨F, μ1, G1, σ, S1, hσ.mono l s, t, q⟩
  · rename_i hv; rw [if_neg hv] at q; exact ⟨F, μ1, G1, σ, S1, hσ.mono l s, t, q⟩
end
end Ev

/-! Ev, the rules, part 3: subscripts, slices, len, isinstance, lists' methods. -/
namespace Ev
open PySem PySem.Spec PyProof.Rows L2

/-! ### subscripts -/
def seqOf (S : Sto) : D → Option (List D)
  | .tup ds => some ds
  | d => lstOf S d
def gIdx (x y : D) (S : Sto) : R D := match y with
  | .int i => (match x with
    | .str z => if z.length ≤ sizeLine then (match atI z.cps.toList i with
      | some c => .ok (.str ⟨#[c]⟩) S
      | none => .no) else .no
    | x => match seqOf S x with
      | some ds => (match atI ds i with
        | some d => .ok d S
        | none => .no)
      | none => .no)
  | _ => .no
/-- the part from lo to hi -/
def cutG {α : Type} (xs : List α) (lo hi : Option Int) : List α := (xs.drop (HT.sIx xs.length 0 lo)).take (HT.sIx xs.length xs.length hi - HT.sIx xs.length 0 lo)
def gSl (x : D) (lo hi : Option Int) (S : Sto) : R D := match x with
  | .str z => if z.length ≤ sizeLine then .ok (.str (cutS z lo hi)) S else .no
  | x => match lstOf S x with
    | some ds => .ok (.lst (cutG ds lo hi)) S
    | none => .no
def gSlN (x : D) (lo hi : Option Int) (S : Sto) : R D := match lstOf S x with
  | some ds => .ok (.cell S.length) (S ++ [some (.lst (cutG ds lo hi))])
  | none => .no
abbrev Ox := Env → Sto → R (Option Int)
def oN : Ox := fun _ S => .ok none S
def oS (f : Ex) : Ox := fun σ S => (f σ S).bind fun v S1 => match v with
  | .int i => .ok (some i) S1
  | _ => .no
def eSl (g : D → Option Int → Option Int → Sto → R D) (f : Ex) (lo hi : Ox) : Ex := fun σ S => (f σ S).bind fun x S1 => (lo σ S1).bind fun l S2 => (hi σ S2).bind fun h S3 => g x l h S3
section
variable {Γ : Gm} {W : XK} {F : Hp} {μ : List Addr} {G H : Hp} {S : Sto} {d : D} {v : V}
theorem VRs.at {ds : List D} {vs : List V} (h : VRs Γ.K μ G ds vs) {i : Int} {d : D} (e : atI ds i = some d) : ∃ v, atI vs i = some v ∧ VR Γ.K μ G d v := by
  unfold atI at e ⊢
  rw [h.length] at e
  cases hx : ixN vs.length i with
  | none => rw [hx] at e; cases e
  | some j =>
    rw [hx] at e
    simp only [Option.bind_some] at e ⊢
    exact h.get e
theorem VRs.cut {ds : List D} {vs : List V} (h : VRs Γ.K μ G ds vs) (lo hi : Option Int) : VRs Γ.K μ G (cutG ds lo hi) (cutV vs lo hi) := by
  unfold cutG cutV
  rw [h.length]
  exact (h.drop _).take _
end
section
variable {X : Cx} {Γ : Gm} {W : WX} {e a b : Expr} {lo hi : Option Expr} {f fa fb : Ex} {pos p2 : Pos} {ol oh : Ox}
theorem os_idx : OpS Γ gIdx (rIx Γ.K) := by
  intro W F μ G H S x y vx vy Q t rx ry q
  unfold gIdx at q
  split at q
  · rename_i i
    cases ry
    split at q
    · rename_i z
      cases rx
      split at q
      · rename_i hz
        split at q
        · rename_i c hc
          exact .inr (.inr ⟨z, i, c, rfl, rfl, hz, hc, q.ok t _ (.str _)⟩)
        · exact q.elim
      · exact q.elim
    · split at q
      · rename_i ds hd
        split at q
        · rename_i d he
          unfold seqOf at hd
          split at hd
          · cases hd
            obtain ⟨p, vs, rfl, h1, _, h2⟩ := t.tup rx
            obtain ⟨w, e1, r1⟩ := h2.at he
            exact .inr (.inl ⟨p, vs, i, w, rfl, rfl, h1, e1, q.ok t _ r1⟩)
          · obtain ⟨p, vs, rfl, h1, h2⟩ := t.lst rx hd
            obtain ⟨w, e1, r1⟩ := h2.at he
            exact .inl ⟨p, vs, i, w, rfl, rfl, h1, e1, q.ok t _ r1⟩
        · exact q.elim
      · exact q.elim
  · exact q.elim
theorem ve_ix (ha : VE X Γ W a fa) (hb : VE X Γ W b fb) (hs : PlainIx b := by exact fun _ _ => rfl) (hK : X.K = Γ.K := by rfl) : VE X Γ W (.Subscript a b pos) (op2 gIdx fa fb) :=
  PE.imp (pe_ix ix_seq ha hb hs) fun _ _ _ h => tOp_of (hK ▸ os_idx) h
abbrev VO (X : Cx) (Γ : Gm) (W : WX) (e : Option Expr) (f : Ox) : Prop := PO X e (fun σv H Q => ∃ F μ G σ S, SR Γ.K μ G σ σv ∧ Sit Γ F μ G H S ∧ Wp Γ F (fun c d H' => W c d σv H') μ G (f σ S) fun o _ _ H' _ => Q o H')
theorem PO.imp {e : Option Expr} {t t' : TO} (h : PO X e t) (i : ∀ σ H Q, t' σ H Q → t σ H Q) : PO X e t' := ⟨fun pins s σ H Q I q => h.run pins s σ H Q I (i σ H Q q)⟩
theorem vo_none : VO X Γ W none oN := PO.imp po_none fun σv H Q ⟨F, μ, G, σ, S, hσ, hs, h⟩ => h.ok hs
theorem vo_some (h : VE X Γ W e f) : VO X Γ W (some e) (oS f) := by
  refine PO.imp (po_some h) fun σv H Q ⟨F, μ, G, σ, S, hσ, hs, h⟩ => ?_
  refine tOf.at hσ hs (Wp.bind h) fun v μ1 G1 H1 S1 vv l s t r q => ?_
  split at q
  · cases r; exact ⟨_, rfl, q.ok t⟩
  · exact q.elim
theorem sl_D : SlR X (fun x lo hi H Q => rSlL X.K x lo hi H Q ∨ rSlS x lo hi H Q) := SlR.or sl_list sl_str
theorem sl_of {g : D → Option Int → Option Int → Sto → R D} {r : V → Option Int → Option Int → Hp → VK → Prop}
    (hg : ∀ (W : XK) (F : Hp) (μ : List Addr) (G H : Hp) (S : Sto) (x : D) (vx : V) (l h : Option Int) (Q : VK), Sit Γ F μ G H S → VR Γ.K μ G x vx → Wp Γ F W μ G (g x l h S) (fun v μ' G' H' _ => ∀ vv, VR Γ.K μ' G' v vv → Q vv H') → r vx l h H Q)
    (hr : SlR X r) (he : VE X Γ W e f) (hl : VO X Γ W lo ol) (hh : VO X Γ W hi oh) : VE X Γ W (.Subscript e (.Slice lo hi none p2) pos) (eSl g f ol oh) := by
  refine PE.imp (pe_slice hr he hl hh) fun σv H Q ⟨F, μ, G, σ, S, hσ, hs, h⟩ => ?_
  refine tOf.at hσ hs (Wp.bind h) fun v μ1 G1 H1 S1 vv l s t r q => ?_
  refine ⟨F, μ1, G1, σ, S1, hσ.mono l s, t, (Wp.bind q).imp fun o μ2 G2 H2 S2 l2 s2 t2 q2 => ?_⟩
  refine ⟨F, μ2, G2, σ, S2, (hσ.mono l s).mono l2 s2, t2, (Wp.bind q2).imp fun o' μ3 G3 H3 S3 l3 s3 t3 q3 => ?_⟩
  exact hg _ _ _ _ _ _ _ _ _ _ _ t3 ((r.mono l2 s2).mono l3 s3) q3
theorem ve_sl (he : VE X Γ W e f) (hl : VO X Γ W lo ol) (hh : VO X Γ W hi oh) (hK : X.K = Γ.K := by rfl) : VE X Γ W (.Subscript e (.Slice lo hi none p2) pos) (eSl gSl f ol oh) := by
  refine sl_of (fun W F μ G H S x vx l h Q t rx q => ?_) sl_D he hl hh
  rw [hK]
  unfold gSl at q
  split at q
  · rename_i z
    cases rx
    split at q
    · exact .inr ⟨z, rfl, by assumption, q.ok t _ (.str _)⟩
    · exact q.elim
  · split at q
    · rename_i ds hd
      obtain ⟨p, vs, rfl, h1, h2⟩ := t.lst rx hd
      exact .inl ⟨p, vs, rfl, h1, t.newL (h2.cut l h) q⟩
    · exact q.elim
theorem ve_slN (he : VE X Γ W e f) (hl : VO X Γ W lo ol) (hh : VO X Γ W hi oh) (hK : X.K = Γ.K := by rfl) : VE X Γ W (.Subscript e (.Slice lo hi none p2) pos) (eSl gSlN f ol oh) := by
  refine sl_of (fun W F μ G H S x vx l h Q t rx q => ?_) sl_list he hl hh
  rw [hK]
  unfold gSlN at q
  split at q
  · rename_i ds hd
    obtain ⟨p, vs, rfl, h1, h2⟩ := t.lst rx hd
    exact ⟨p, vs, rfl, h1, fun p np => new_cell t (h2.cut l h) q np⟩
  · exact q.elim
end

/-! ### built-in calls -/
def CaS (Γ : Gm) (g : List D → Sto → R D) (r : List V → Hp → VK → Prop) : Prop :=
  ∀ (W : XK) (F : Hp) (μ : List Addr) (G H : Hp) (S : Sto) (xs : List D) (vs : List V) (Q : VK), Sit Γ F μ G H S → VRs Γ.K μ G xs vs → Wp Γ F W μ G (g xs S) (fun v μ' G' H' _ => ∀ vv, VR Γ.K μ' G' v vv → Q vv H') → r vs H Q
def eCall (g : List D → Sto → R D) (a : Ax) : Ex := fun σ S => (a σ S).bind g
section
variable {X : Cx} {Γ : Gm} {W : WX} {e o : Expr} {es : List Expr} {f : Ex} {fs : Ax} {p pos apos cpos : Pos} {x name : Str} {id T : String} {g : List D → Sto → R D} {r : List V → Hp → VK → Prop}
theorem tCB_of (hg : CaS Γ g r) {σv : L2.St} {H : Hp} {Q : VK} (h : tOf Γ W (eCall g fs) σv H Q) : tCB r (taOf Γ W fs) σv H Q := by
  obtain ⟨F, μ, G, σ, S, hσ, hs, h⟩ := h
  exact taOf.at hσ hs (Wp.bind h) fun vs μ1 G1 H1 S1 vv l s t r q => hg _ _ _ _ _ _ _ _ _ t r q
theorem ve_cb (hc : CallR X (.builtin id) r) (hs : CaS Γ g r) (hg : Gl X x) (hm : X.mg x = none) (hv : bootBuiltins x = some (.builtin id)) (ha : VA X Γ W (e :: es) fs) (hn : x ≠ "__name__" := by decide) (hdb : (x == ("__debug__" : Str)) = false := by decide)
    (he : starEach (e :: es) X.env = (false, eval e X.env) :: starEach es X.env := by rfl) (hpl : (backTo pos (starEach es X.env)).any (·.1) = false := by rfl) : VE X Γ W (.Call (.Name x p) (e :: es) [] pos) (eCall g fs) :=
  PE.imp (pe_callB hc hg hm hv ha hn hdb he hpl) fun _ _ _ h => tCB_of hs h
theorem ve_cty (hc : CallR X (.type T) r) (hs : CaS Γ g r) (hg : Gl X x) (hm : X.mg x = none) (hv : bootBuiltins x = some (.type T)) (ha : VA X Γ W (e :: es) fs) (hn : x ≠ "__name__" := by decide) (hdb : (x == ("__debug__" : Str)) = false := by decide)
    (he : starEach (e :: es) X.env = (false, eval e X.env) :: starEach es X.env := by rfl) (hpl : (backTo pos (starEach es X.env)).any (·.1) = false := by rfl) : VE X Γ W (.Call (.Name x p) (e :: es) [] pos) (eCall g fs) :=
  PE.imp (pe_callTy hc hg hm hv ha hn hdb he hpl) fun _ _ _ h => tCB_of hs h
/-- len -/
def gLen (xs : List D) (S : Sto) : R D := match xs with
  | [.str z] => if z.length ≤ sizeLine then .ok (.int z.length) S else .no
  | [x] => match seqOf S x with
    | some ds => .ok (.int ds.length) S
    | none => .no
  | _ => .no
theorem cs_len : CaS Γ gLen (fun xs H Q => ∃ x n, xs = [x] ∧ LenV Γ.K x H n ∧ Q (.int n) H) := by
  intro W F μ G H S xs vs Q t rs q
  unfold gLen at q
  split at q
  · rename_i z
    cases rs with
    | cons r1 r2 =>
      cases r2; cases r1
      split at q
      · exact ⟨_, z.length, rfl, ⟨by assumption, rfl⟩, q.ok t _ (.int _)⟩
      · exact q.elim
  · cases rs with
    | cons r1 r2 =>
      cases r2
      split at q
      · rename_i ds hd
        unfold seqOf at hd
        split at hd
        · cases hd
          obtain ⟨p, vs, rfl, h1, _, h2⟩ := t.tup r1
          exact ⟨_, ds.length, rfl, .inr ⟨vs, h1, h2.length⟩, q.ok t _ (.int _)⟩
        · obtain ⟨p, vs, rfl, h1, h2⟩ := t.lst r1 hd
          exact ⟨_, ds.length, rfl, .inl ⟨vs, h1, h2.length⟩, q.ok t _ (.int _)⟩
      · exact q.elim
  · exact q.elim
theorem ve_len (hm : X.mg "len" = none) (ha : VE X Γ W e f) (hg : Gl X "len" := by rfl) (hK : X.K = Γ.K := by rfl) (hs : starEach (e :: []) X.env = (false, eval e X.env) :: starEach [] X.env := by rfl) (hpl : (backTo pos (starEach [] X.env)).any (·.1) = false := by rfl) :
    VE X Γ W (.Call (.Name "len" p) [e] [] pos) (eCall gLen (aCons f aNil)) := ve_cb (id := "len") call_len (hK ▸ cs_len) hg hm PySem.boot_len (va_cons ha va_nil hs) (by decide) (by decide) hs hpl
/-- isinstance(x, T), T a built-in type -/
def tyName (S : Sto) : D → Option String
  | .non => some "NoneType"
  | .bl _ => some "bool"
  | .int _ => some "int"
  | .str _ => some "str"
  | .tup _ => some "tuple"
  | .lst _ => some "list"
  | .scr _ => none
  | .cell k => match S[k]? with
    | some (some (.lst _)) => some "list"
    | some (some (.dct _)) => some "dict"
    | _ => none
def gIsT (T : String) (x : D) (S : Sto) : R D := match tyName S x with
  | some n => .ok (.bl (n == T || (n == "bool" && T == "int"))) S
  | none => .no
theorem tyName_ok {W : XK} {F : Hp} {μ : List Addr} {G H : Hp} {S : Sto} {d : D} {v : V} {n : String} (t : Sit Γ F μ G H S) (r : VR Γ.K μ G d v) (h : tyName S d = some n) : TyX Γ.K H v (.type n) := by
  cases r with
  | non => simp [tyName] at h; subst h; exact .base .non
  | bl b => simp [tyName] at h; subst h; exact .base (.bl b)
  | int i => simp [tyName] at h; subst h; exact .base (.int i)
  | str i => simp [tyName] at h; subst h; exact .base (.str i)
  | tup h1 _ => simp [tyName] at h; subst h; exact .base (.tup (t.sub _ _ h1))
  | lst h1 _ => simp [tyName] at h; subst h; exact .base (.lst (t.sub _ _ h1))
  | scr _ => simp [tyName] at h
  | cell hk =>
    simp only [tyName] at h
    split at h
    · rename_i hs
      cases h
      obtain ⟨a, ha, vs, h1, _⟩ := t.at_ _ _ hs
      rw [hk] at ha; cases ha
      exact .base (.lst h1)
    · rename_i hs
      cases h
      obtain ⟨a, ha, vs, h1, _⟩ := t.at_ _ _ hs
      rw [hk] at ha; cases ha
      exact .base (.dK h1)
    · cases h
def tyNames : List String := ["NoneType", "bool", "int", "str", "tuple", "list", "dict"]
theorem tyName_mem {S : Sto} {d : D} {n : String} (h : tyName S d = some n) : n ∈ tyNames := by
  cases d with
  | cell k =>
    simp only [tyName] at h
    split at h
    · cases h; decide
    · cases h; decide
    · cases h
  | scr _ => simp [tyName] at h
  | _ => (simp [tyName] at h; subst h; decide)
theorem ve_isT {T : String} {p2 : Pos} (hc : VE X Γ W e f) (hT : ∀ n ∈ tyNames, kitB n T = some (n == T || (n == "bool" && T == "int"))) (hv : bootBuiltins (Str.ofString T) = some (.type T)) (hm : X.mg (Str.ofString T) = none) (hmi : X.mg "isinstance" = none) (hg : Gl X (Str.ofString T)) (hgi : Gl X "isinstance" := by rfl)
    (hn : (Str.ofString T) ≠ "__name__") (hd : ((Str.ofString T) == ("__debug__" : Str)) = false)
    (hK : X.K = Γ.K := by rfl)
    (hs : starEach (e :: [.Name (Str.ofString T) p2]) X.env = (false, eval e X.env) :: starEach [.Name (Str.ofString T) p2] X.env := by rfl) :
    VE X Γ W (.Call (.Name "isinstance" p) [e, .Name (Str.ofString T) p2] [] pos) (op1 (gIsT T) f) := by
  refine PE.imp (pe_callB (id := "isinstance") call_isi hgi hmi (by decide +kernel) (pa_cons hc (pa_cons (pe_bltn (v := .ty T) hg hm hv rfl hn hd) pa_nil) hs) (by decide) (by decide) hs rfl) fun σv H Q ⟨F, μ, G, σ, S, hσ, hs, h⟩ => ?_
  refine tOf.at hσ hs (Wp.bind h) fun v μ1 G1 H1 S1 vv l s t r q => ?_
  unfold gIsT at q
  split at q
  · rename_i n hn
    have ty := tyName_ok (W := fun _ _ _ => True) t r hn
    rw [← hK] at ty
    exact ⟨vv, .ty T, .type n, .type T, _, rfl, .ty T, ty, kit_ty (hT n (tyName_mem hn)), q.ok t _ (.bl _)⟩
  · exact q.elim
end

/-! ### lists' methods -/
def gAppend (x : D) (ys : List D) (S : Sto) : R D := match x, ys with
  | .cell k, [y] => (match S[k]? with
    | some (some (.lst ds)) => if ds.length < sizeLine then .ok .non (S.set k (some (.lst (ds ++ [y])))) else .no
    | _ => .no)
  | _, _ => .no
def gExtend (x : D) (ys : List D) (S : Sto) : R D := match x, ys with
  | .cell k, [y] => (match S[k]?, lstOf' S y with
    | some (some (.lst ds)), some es => if ds.length + es.length ≤ sizeLine then .ok .non (S.set k (some (.lst (ds ++ es)))) else .no
    | _, _ => .no)
  | _, _ => .no
def gPop (x : D) (ys : List D) (S : Sto) : R D := match x, ys with
  | .cell k, [] => (match S[k]? with
    | some (some (.lst ds)) => (match ds[ds.length - 1]? with
      | some d => .ok d (S.set k (some (.lst ds.dropLast)))
      | none => .no)
    | _ => .no)
  | _, _ => .no
def MeS (Γ : Gm) (T : String) (g : D → List D → Sto → R D) (r : V → List V → Hp → VK → Prop) : Prop :=
  ∀ (W : XK) (F : Hp) (μ : List Addr) (G H : Hp) (S : Sto) (x : D) (vx : V) (ys : List D) (vs : List V) (Q : VK), Sit Γ F μ G H S → VR Γ.K μ G x vx → VRs Γ.K μ G ys vs → Wp Γ F W μ G (g x ys S) (fun v μ' G' H' _ => ∀ vv, VR Γ.K μ' G' v vv → Q vv H') → r vx vs H Q
/-- the receiver's kind is looked at ahead of the arguments -/
def isTy (T : String) (x : D) (S : Sto) : Bool := match x with
  | .str _ => T == "str"
  | .lst _ => T == "list"
  | .cell k => match S[k]? with
    | some (some (.lst _)) => T == "list"
    | some (some (.dct _)) => T == "dict"
    | _ => false
  | _ => false
def eMeth (T : String) (g : D → List D → Sto → R D) (f : Ex) (a : Ax) : Ex := fun σ S => (f σ S).bind fun x S1 => if isTy T x S1 = true then (a σ S1).bind fun ys S2 => g x ys S2 else .no
theorem VRs.dropLast {Γ : Gm} {μ : List Addr} {G : Hp} {ds : List D} {vs : List V} (h : VRs Γ.K μ G ds vs) : VRs Γ.K μ G ds.dropLast vs.dropLast := by
  rw [List.dropLast_eq_take, List.dropLast_eq_take, h.length]
  exact h.take _
section
variable {X : Cx} {Γ : Gm} {W : WX} {e o : Expr} {es : List Expr} {f : Ex} {fs : Ax} {p pos apos cpos : Pos} {x name : Str} {id T : String} {g : D → List D → Sto → R D} {r : V → List V → Hp → VK → Prop}
theorem isTy_ok {F : Hp} {μ : List Addr} {G H : Hp} {S : Sto} {d : D} {v : V} (t : Sit Γ F μ G H S) (r : VR Γ.K μ G d v) (h : isTy T d S = true) : tyV Γ.K T v H := by
  cases r with
  | str x => exact (show T = "str" by simpa [isTy] using h)
  | lst h1 _ => exact .inl ⟨by simpa [isTy] using h, _, .inl (.inl (t.sub _ _ h1))⟩
  | cell hk =>
    simp only [isTy] at h
    split at h
    · rename_i hs
      obtain ⟨a, ha, vs, h1, _⟩ := t.at_ _ _ hs
      rw [hk] at ha; cases ha
      exact .inl ⟨by simpa using h, _, .inl (.inl h1)⟩
    · rename_i hs
      obtain ⟨a, ha, vs, h1, _⟩ := t.at_ _ _ hs
      rw [hk] at ha; cases ha
      exact .inr (.inr (.inl ⟨by simpa using h, .inl ⟨_, h1⟩⟩))
    · cases h
  | _ => simp [isTy] at h
theorem ve_bm (pa : PlainAttrs T) (slot : Slot T name id) (hty : typeOf (.builtin id) = pure (.type "method_descriptor")) (hm : MtR X id r) (hS : MeS Γ T g r) (ho : VE X Γ W o f) (ha : VA X Γ W (e :: es) fs) (hK : X.K = Γ.K := by rfl)
    (hbase : attributeBase o name X.env (eval o X.env) = eval o X.env := by rfl)
    (hfew : ((backTo cpos (starEach (e :: es) X.env)).all (fun x => !x.1) && (backToKw cpos (keywordEach [] X.env)).all (fun x => x.1.isSome)
      && decide ((e :: es).length + ([] : List Keyword).length + (if ([] : List Keyword).isEmpty then 0 else 1) < 30)) = true := by rfl)
    (hline : (apos.endLine == cpos.line) = true := by rfl) (hs : starEach (e :: es) X.env = (false, eval e X.env) :: starEach es X.env := by rfl) (hplain : (backTo cpos (starEach es X.env)).any (·.1) = false := by rfl) :
    VE X Γ W (.Call (.Attribute o name apos) (e :: es) [] cpos) (eMeth T g f fs) := by
  refine PE.imp (pe_bm pa slot hty hm ho ha hbase hfew hline hs hplain) fun σv H Q ⟨F, μ, G, σ, S, hσ, hs, h⟩ => ?_
  refine tOf.at hσ hs (Wp.bind h) fun v μ1 G1 H1 S1 vv l s t r q => ?_
  split at q
  · rename_i hi
    refine ⟨by rw [hK]; exact isTy_ok t r hi, ?_⟩
    exact taOf.at (hσ.mono l s) t (Wp.bind q) fun vs μ2 G2 H2 S2 ws l2 s2 t2 r2 q2 => hS _ _ _ _ _ _ _ _ _ _ _ t2 (r.mono l2 s2) r2 q2
  · exact q.elim
theorem ve_bm0 (pa : PlainAttrs T) (slot : Slot T name id) (hty : typeOf (.builtin id) = pure (.type "method_descriptor")) (hm : MtR X id r) (hS : MeS Γ T g r) (ho : VE X Γ W o f) (hK : X.K = Γ.K := by rfl)
    (hbase : attributeBase o name X.env (eval o X.env) = eval o X.env := by rfl) (hline : (apos.endLine == cpos.line) = true := by rfl) : VE X Γ W (.Call (.Attribute o name apos) [] [] cpos) (eMeth T g f aNil) := by
  refine PE.imp (pe_bm0 pa slot hty hm ho hbase hline) fun σv H Q ⟨F, μ, G, σ, S, hσ, hs, h⟩ => ?_
  refine tOf.at hσ hs (Wp.bind h) fun v μ1 G1 H1 S1 vv l s t r q => ?_
  split at q
  · rename_i hi
    exact ⟨by rw [hK]; exact isTy_ok t r hi, hS _ _ _ _ _ _ _ _ _ _ _ t r .nil q⟩
  · exact q.elim
theorem ms_append : MeS Γ "list" gAppend rAppend := by
  intro W F μ G H S x vx ys vs Q t rx rs q
  unfold gAppend at q
  split at q
  · rename_i k y
    split at q
    · rename_i ds hk
      split at q
      · rename_i hz
        cases rs with
        | cons r1 r2 =>
          cases r2
          cases rx with
          | cell ha =>
            obtain ⟨a, ha', vs, h1, h2⟩ := t.at_ _ _ hk
            rw [ha] at ha'; cases ha'
            refine ⟨_, vs, _, rfl, rfl, h1, by rw [← h2.length]; exact hz, ?_⟩
            exact q _ _ _ (Le.refl _) (Same.refl _) (t.write _ hk ha (fun b hb => upd_ne hb) ⟨_, upd_same, h2.append (.cons r1 .nil)⟩) _ .non
      · exact q.elim
    · exact q.elim
  · exact q.elim
theorem ms_extend : MeS Γ "list" gExtend rExtend := by
  intro W F μ G H S x vx ys vs Q t rx rs q
  unfold gExtend at q
  split at q
  · rename_i k y
    split at q
    · rename_i ds es hk he
      split at q
      · rename_i hz
        cases rs with
        | cons r1 r2 =>
          cases r2
          cases rx with
          | cell ha =>
            obtain ⟨a, ha', vs, h1, h2⟩ := t.at_ _ _ hk
            rw [ha] at ha'; cases ha'
            obtain ⟨b, ws, rfl, h3, h4⟩ := t.lst' r1 he
            refine ⟨_, b, vs, ws, rfl, rfl, h1, h3, by rw [← h2.length, ← h4.length]; exact hz, ?_⟩
            exact q _ _ _ (Le.refl _) (Same.refl _) (t.write _ hk ha (fun b hb => upd_ne hb) ⟨_, upd_same, h2.append h4⟩) _ .non
      · exact q.elim
    · exact q.elim
  · exact q.elim
theorem ms_pop : MeS Γ "list" gPop rPop := by
  intro W F μ G H S x vx ys vs Q t rx rs q
  unfold gPop at q
  split at q
  · rename_i k
    split at q
    · rename_i ds hk
      split at q
      · rename_i d hd
        cases rs
        cases rx with
        | cell ha =>
          obtain ⟨a, ha', vs, h1, h2⟩ := t.at_ _ _ hk
          rw [ha] at ha'; cases ha'
          rw [h2.length] at hd
          obtain ⟨y, e1, r1⟩ := h2.get hd
          refine ⟨_, vs, y, rfl, rfl, h1, e1, ?_⟩
          exact q _ _ _ (Le.refl _) (Same.refl _) (t.write _ hk ha (fun b hb => upd_ne hb) ⟨_, upd_same, h2.dropLast⟩) _ (r1)
      · exact q.elim
    · exact q.elim
  · exact q.elim
theorem ve_append (ho : VE X Γ W o f) (ha : VE X Γ W e fa) (hK : X.K = Γ.K := by rfl) (hbase : attributeBase o "append" X.env (eval o X.env) = eval o X.env := by rfl)
    (hfew : ((backTo cpos (starEach [e] X.env)).all (fun x => !x.1) && (backToKw cpos (keywordEach [] X.env)).all (fun x => x.1.isSome)
      && decide ([e].length + ([] : List Keyword).length + (if ([] : List Keyword).isEmpty then 0 else 1) < 30)) = true := by rfl)
    (hline : (apos.endLine == cpos.line) = true := by rfl) (hs : starEach [e] X.env = (false, eval e X.env) :: starEach [] X.env := by rfl) (hplain : (backTo cpos (starEach [] X.env)).any (·.1) = false := by rfl) :
    VE X Γ W (.Call (.Attribute o "append" apos) [e] [] cpos) (eMeth "list" gAppend f (aCons fa aNil)) :=
  ve_bm PySem.F.plainAttrs_list PySem.F.slot_list_append PySem.F.type_list_append mt_append ms_append ho (va_cons ha va_nil hs) hK hbase hfew hline hs hplain
theorem ve_extend (ho : VE X Γ W o f) (ha : VE X Γ W e fa) (hK : X.K = Γ.K := by rfl) (hbase : attributeBase o "extend" X.env (eval o X.env) = eval o X.env := by rfl)
    (hfew : ((backTo cpos (starEach [e] X.env)).all (fun x => !x.1) && (backToKw cpos (keywordEach [] X.env)).all (fun x => x.1.isSome)
      && decide ([e].length + ([] : List Keyword).length + (if ([] : List Keyword).isEmpty then 0 else 1) < 30)) = true := by rfl)
    (hline : (apos.endLine == cpos.line) = true := by rfl) (hs : starEach [e] X.env = (false, eval e X.env) :: starEach [] X.env := by rfl) (hplain : (backTo cpos (starEach [] X.env)).any (·.1) = false := by rfl) :
    VE X Γ W (.Call (.Attribute o "extend" apos) [e] [] cpos) (eMeth "list" gExtend f (aCons fa aNil)) :=
  ve_bm PySem.F.plainAttrs_list PySem.F.slot_list_extend PySem.F.type_list_extend mt_extend ms_extend ho (va_cons ha va_nil hs) hK hbase hfew hline hs hplain
theorem ve_pop (ho : VE X Γ W o f) (hK : X.K = Γ.K := by rfl) (hbase : attributeBase o "pop" X.env (eval o X.env) = eval o X.env := by rfl) (hline : (apos.endLine == cpos.line) = true := by rfl) :
    VE X Γ W (.Call (.Attribute o "pop" apos) [] [] cpos) (eMeth "list" gPop f aNil) :=
  ve_bm0 PySem.F.plainAttrs_list PySem.F.slot_list_pop PySem.F.type_list_pop mt_pop ms_pop ho hK hbase hline
end
end Ev

/-! Ev, the rules, part 4: statements, targets, loops, comprehensions. -/
namespace Ev
open PySem PySem.Spec PyProof.Rows L2

/-! ### statements -/
def SO.of {α : Type} (r : R α) (σ : Env) (k : α → Sto → SO) : SO := match r with
  | .no => .no
  | .ok v S => k v S
  | .ex c a S => .ex c a σ S
@[simp] theorem SO.of_no {α : Type} (σ : Env) (k : α → Sto → SO) : SO.of (.no : R α) σ k = .no := rfl
@[simp] theorem SO.of_ok {α : Type} (σ : Env) (v : α) (S : Sto) (k : α → Sto → SO) : SO.of (.ok v S) σ k = k v S := rfl
@[simp] theorem SO.of_ex {α : Type} (σ : Env) (c : Nat) (a : Option D) (S : Sto) (k : α → Sto → SO) : SO.of (.ex c a S : R α) σ k = .ex c a σ S := rfl
theorem Wps.of {α : Type} {Γ : Gm} {F : Hp} {W : WX} {μ : List Addr} {G H : Hp} {r : R α} {σ : Env} {σv : L2.St} {S : Sto} {k : α → Sto → SO} {E : Ends} (h : Wps Γ F W μ G (SO.of r σ k) E) (hσ : SR Γ.K μ G σ σv) :
    Wp Γ F (fun c d H' => W c d σv H') μ G r fun v μ' G' _ S' => Wps Γ F W μ' G' (k v S') E := by
  cases r with
  | no => exact h
  | ok v S' => exact fun μ' G' H' l s t => h.mono l s
  | ex c a S' => exact fun μ' G' H' l s t d x => h μ' G' H' l s t σv d (hσ.mono l s) x
def sSeq (f g : Sx) : Sx := fun σ S => match f σ S with
  | .nx σ' S' => g σ' S'
  | r => r
def sNil : Sx := fun σ S => .nx σ S
def sExp (f : Ex) : Sx := fun σ S => SO.of (f σ S) σ fun _ S1 => .nx σ S1
def sRet (f : Ex) : Sx := fun σ S => SO.of (f σ S) σ fun v S1 => .rt v S1
def sRetN : Sx := fun _ S => .rt .non S
def sIf (t : Tx) (f g : Sx) : Sx := fun σ S => SO.of (t σ S) σ fun b S1 => if b = true then f σ S1 else g σ S1
def sAsg (i : Nat) (f : Ex) : Sx := fun σ S => SO.of (f σ S) σ fun v S1 => .nx (σ.set i (some v)) S1
def sNo : Sx := fun _ _ => .no
def sBrk : Sx := fun σ S => .bk σ S
def sCnt : Sx := fun σ S => .ct σ S
/-- a local's list is frozen -/
def sFrz (i : Nat) : Sx := fun σ S => match σ[i]? with
  | some (some d) => SO.of (frzD d S) σ fun v S1 => .nx (σ.set i (some v)) S1
  | _ => .no
section
variable {X : Cx} {Γ : Gm} {W : WX} {st : Stmt} {rest : List Stmt} {e c : Expr} {f : Ex} {t : Tx} {g h : Sx} {pos : Pos}
theorem Wps.seq {F : Hp} {μ : List Addr} {G : Hp} {σ : Env} {S : Sto} {E : Ends} (q : Wps Γ F W μ G (sSeq g h σ S) E) : Wps Γ F W μ G (g σ S) { E with nx := tsOf Γ W h E } := by
  unfold sSeq at q
  cases hg : g σ S with
  | no => rw [hg] at q; exact q
  | nx σ' S' =>
    rw [hg] at q
    exact fun μ' G' H' l s t σv' hσ => ⟨F, μ', G', σ', S', hσ, t, q.mono l s⟩
  | rt v S' => rw [hg] at q; exact q
  | bk σ' S' => rw [hg] at q; exact q
  | ct σ' S' => rw [hg] at q; exact q
  | ex c a σ' S' => rw [hg] at q; exact q
theorem vss_nil : VSs X Γ W [] sNil := PSs.imp pss_nil fun D σv H ⟨F, μ, G, σ, S, hσ, hs, h⟩ => h _ _ _ (Le.refl _) (Same.refl _) hs _ hσ
theorem vss_cons (h1 : VS X Γ W st g) (h2 : VSs X Γ W rest h) : VSs X Γ W (st :: rest) (sSeq g h) :=
  PSs.imp (pss_cons h1 h2) fun D σv H ⟨F, μ, G, σ, S, hσ, hs, h⟩ => ⟨F, μ, G, σ, S, hσ, hs, h.seq⟩
theorem vss_one (h1 : VS X Γ W st g) : VSs X Γ W [st] g := pss_one h1
theorem vs_pass : VS X Γ W (.Pass pos) sNil := PS.imp ps_pass fun D σv H ⟨F, μ, G, σ, S, hσ, hs, h⟩ => h _ _ _ (Le.refl _) (Same.refl _) hs _ hσ
theorem vs_break : VS X Γ W (.Break pos) sBrk := PS.imp ps_break fun D σv H ⟨F, μ, G, σ, S, hσ, hs, h⟩ => h _ _ _ (Le.refl _) (Same.refl _) hs _ hσ
theorem vs_continue : VS X Γ W (.Continue pos) sCnt := PS.imp ps_continue fun D σv H ⟨F, μ, G, σ, S, hσ, hs, h⟩ => h _ _ _ (Le.refl _) (Same.refl _) hs _ hσ
theorem vs_never : VS X Γ W st sNo := PS.imp ps_never fun D σv H ⟨F, μ, G, σ, S, hσ, hs, h⟩ => h
theorem vss_never {sts : List Stmt} : VSs X Γ W sts sNo := PSs.imp pss_never fun D σv H ⟨F, μ, G, σ, S, hσ, hs, h⟩ => h
theorem vs_exp (he : VE X Γ W e f) (hs : swapsWith e none pos.line X.env = pure false := by rfl) : VS X Γ W (.Expr e pos) (sExp f) := by
  refine PS.imp (ps_expr he hs) fun D σv H ⟨F, μ, G, σ, S, hσ, hs, h⟩ => ?_
  exact tOf.at hσ hs (Wps.of (H := H) (S := S) h hσ) fun v μ1 G1 H1 S1 vv l s t r q => q _ _ _ (Le.refl _) (Same.refl _) t _ (hσ.mono l s)
theorem vs_ret (he : VE X Γ W e f) : VS X Γ W (.Return (some e) pos) (sRet f) := by
  refine PS.imp (ps_ret he) fun D σv H ⟨F, μ, G, σ, S, hσ, hs, h⟩ => ?_
  exact tOf.at hσ hs (Wps.of (H := H) (S := S) h hσ) fun v μ1 G1 H1 S1 vv l s t r q => q _ _ _ (Le.refl _) (Same.refl _) t _ r
theorem vs_retN : VS X Γ W (.Return none pos) sRetN := PS.imp ps_retN fun D σv H ⟨F, μ, G, σ, S, hσ, hs, h⟩ => h _ _ _ (Le.refl _) (Same.refl _) hs _ .non
theorem vs_if {a b : List Stmt} (hc : VT X Γ W c t) (ha : VSs X Γ W a g) (hb : VSs X Γ W b h) : VS X Γ W (.If c a b pos) (sIf t g h) := by
  refine PS.imp (ps_if hc ha hb) fun D σv H ⟨F, μ, G, σ, S, hσ, hs, h⟩ => ?_
  refine ttOf.at hσ hs (Wps.of (H := H) (S := S) h hσ) fun v μ1 G1 H1 S1 l s t q => ?_
  split
  · rename_i hv; rw [if_pos hv] at q; exact ⟨F, μ1, G1, σ, S1, hσ.mono l s, t, q⟩
  · rename_i hv; rw [if_neg hv] at q; exact ⟨F, μ1, G1, σ, S1, hσ.mono l s, t, q⟩
theorem vs_set {i : Nat} {x : Str} {pos' : Pos} (hN : X.N.Nodup) (he : VE X Γ W e f) (hi : X.N[i]? = some x := by rfl) (hx : Loc X.env.scope x := by first | exact Or.inl rfl | exact Or.inr rfl) (hs : swapsWith e (some (.Name x pos')) pos.line X.env = pure false := by rfl)
    (hf : X.fn x = true ∨ X.env.scope.names.lookup x = some .local := by first | exact .inl rfl | exact .inr rfl | assumption) : VS X Γ W (.Assign [.Name x pos'] e pos) (sAsg i f) := by
  refine PS.imp (ps_set hN hi hx he hs hf) fun D σv H ⟨F, μ, G, σ, S, hσ, hs, h⟩ => ?_
  exact tOf.at hσ hs (Wps.of (H := H) (S := S) h hσ) fun v μ1 G1 H1 S1 vv l s t r q => q _ _ _ (Le.refl _) (Same.refl _) t _ ((hσ.mono l s).set r i)
/-- ahead of some statements a local's list is frozen -/
theorem vss_frz {sts : List Stmt} (i : Nat) (h1 : VSs X Γ W sts h) : VSs X Γ W sts (sSeq (sFrz i) h) := by
  refine PSs.imp h1 fun D σv H ⟨F, μ, G, σ, S, hσ, hs, q⟩ => ?_
  unfold sSeq sFrz at q
  cases hi : σ[i]? with
  | none => rw [hi] at q; exact q.elim
  | some o =>
    cases o with
    | none => rw [hi] at q; exact q.elim
    | some d =>
      rw [hi] at q
      obtain ⟨v, e1, r⟩ := hσ.get hi
      have hset : ∀ (σv : L2.St) (i : Nat) (v : V), σv[i]? = some (some v) → σv.set i (some v) = σv := fun σv i v e => by
        obtain ⟨hl, e⟩ := List.getElem?_eq_some_iff.mp e
        apply List.ext_getElem (by simp)
        intro j h1 h2
        rw [List.getElem_set]
        split
        · rename_i z; subst z; exact e.symm
        · rfl
      cases d with
      | cell k =>
        simp only [frzD] at q
        cases hk : S[k]? with
        | none => rw [hk] at q; exact q.elim
        | some oc =>
          rw [hk] at q
          cases oc with
          | none => exact q.elim
          | some c =>
            cases c with
            | lst ds =>
              cases r with
              | cell ha =>
                obtain ⟨a', G', ha', sg, t', r'⟩ := hs.freeze hk
                rw [ha] at ha'; cases ha'
                have hh := (hσ.mono (Le.refl _) sg).set r' i
                rw [hset _ _ _ e1] at hh
                exact ⟨F, μ, G', _, _, hh, t', q.mono (Le.refl _) sg⟩
            | ins _ _ => exact q.elim
            | dct _ => exact q.elim
      | _ =>
        have hh := hσ.set r i
        rw [hset _ _ _ e1] at hh
        exact ⟨F, μ, G, _, _, hh, hs, q⟩
end

/-! ### targets -/
abbrev Hx := D → Env → Option Env
abbrev Hxs := List D → Env → Option Env
def hName (i : Nat) : Hx := fun d σ => some (σ.set i (some d))
def hNil : Hxs := fun ds σ => match ds with
  | [] => some σ
  | _ => none
def hCons (h : Hx) (hs : Hxs) : Hxs := fun ds σ => match ds with
  | d :: r => (h d σ).bind fun σ' => hs r σ'
  | _ => none
def hTup (n : Nat) (hs : Hxs) : Hx := fun d σ => match d with
  | .tup ds => if ds.length = n then hs ds σ else none
  | _ => none
/-- the slots but those of ws are as they were -/
def Agr (ws : List Nat) (σv σv' : L2.St) : Prop := σv'.length = σv.length ∧ ∀ i : Nat, i ∉ ws → σv'[i]? = σv[i]?
theorem Agr.refl (ws : List Nat) (σv : L2.St) : Agr ws σv σv := ⟨rfl, fun _ _ => rfl⟩
theorem Agr.trans {ws ws' : List Nat} {a b c : L2.St} (h : Agr ws a b) (h' : Agr ws' b c) : Agr (ws ++ ws') a c := ⟨h'.1.trans h.1, fun i hi => by
  rw [List.mem_append, not_or] at hi
  exact (h'.2 i hi.2).trans (h.2 i hi.1)⟩
def tgOf (Γ : Gm) (h : Hx) (ws : List Nat) : TG := fun v σv H Q => ∃ F μ G S d σ σ', VR Γ.K μ G d v ∧ SR Γ.K μ G σ σv ∧ Sit Γ F μ G H S ∧ h d σ = some σ' ∧ ∀ σv', SR Γ.K μ G σ' σv' → Agr ws σv σv' → Q σv' H
def tgsOf (Γ : Gm) (h : Hxs) (ws : List Nat) : TGs := fun vs σv H Q => ∃ F μ G S ds σ σ', VRs Γ.K μ G ds vs ∧ SR Γ.K μ G σ σv ∧ Sit Γ F μ G H S ∧ h ds σ = some σ' ∧ ∀ σv', SR Γ.K μ G σ' σv' → Agr ws σv σv' → Q σv' H
abbrev VG (X : Cx) (Γ : Gm) (e : Expr) (h : Hx) (ws : List Nat) : Prop := PG X e (tgOf Γ h ws)
abbrev VGs (X : Cx) (Γ : Gm) (es : List Expr) (h : Hxs) (ws : List Nat) : Prop := PGs X es (tgsOf Γ h ws)
section
variable {X : Cx} {Γ : Gm} {W : WX} {e tg : Expr} {es : List Expr} {f : Ex} {h : Hx} {hs : Hxs} {ws ws' : List Nat} {pos : Pos}
theorem PG.imp {t t' : TG} (h : PG X e t) (i : ∀ v σ H Q, t' v σ H Q → t v σ H Q) : PG X e t' := ⟨fun pins s σ H v u Q I r q => h.run pins s σ H v u Q I r (i v σ H Q q)⟩
theorem PGs.imp {t t' : TGs} (h : PGs X es t) (i : ∀ v σ H Q, t' v σ H Q → t v σ H Q) : PGs X es t' := ⟨fun pins s σ H v u Q I r q => h.run pins s σ H v u Q I r (i v σ H Q q)⟩
theorem vg_name {i : Nat} {x : Str} (hN : X.N.Nodup) (hi : X.N[i]? = some x := by rfl) (hx : Loc X.env.scope x := by first | exact Or.inl rfl | exact Or.inr rfl) (hf : X.fn x = true ∨ X.env.scope.names.lookup x = some .local := by first | exact .inl rfl | exact .inr rfl | assumption) : VG X Γ (.Name x pos) (hName i) [i] := by
  refine PG.imp (pg_name hN hi hx hf) fun v σv H Q ⟨F, μ, G, S, d, σ, σ', r, hσ, t, e, q⟩ => ?_
  cases e
  exact q _ (hσ.set r i) ⟨by simp, fun j hj => by rw [List.getElem?_set_ne (fun z => hj (by simp [z]))]⟩
theorem vgs_nil : VGs X Γ [] hNil [] := by
  refine PGs.imp pgs_nil fun v σv H Q ⟨F, μ, G, S, d, σ, σ', r, hσ, t, e, q⟩ => ?_
  unfold hNil at e
  split at e
  · cases e; cases r; exact ⟨rfl, q _ hσ (Agr.refl _ _)⟩
  · cases e
theorem vgs_cons (h1 : VG X Γ e h ws) (h2 : VGs X Γ es hs ws') (hz : (assignEach (e :: es) X.env).map (·.2) = assign e X.env :: (assignEach es X.env).map (·.2) := by rfl) : VGs X Γ (e :: es) (hCons h hs) (ws ++ ws') := by
  refine PGs.imp (pgs_cons h1 h2 hz) fun v σv H Q ⟨F, μ, G, S, d, σ, σ', r, hσ, t, e, q⟩ => ?_
  unfold hCons at e
  split at e
  · rename_i d ds
    rw [Option.bind_eq_some_iff] at e
    obtain ⟨σ1, e1, e2⟩ := e
    cases r with
    | cons r1 r2 => exact ⟨_, _, rfl, F, μ, G, S, d, σ, σ1, r1, hσ, t, e1, fun σv1 hσ1 ag => ⟨F, μ, G, S, ds, σ1, σ', r2, hσ1, t, e2, fun σv2 hσ2 ag2 => q σv2 hσ2 (ag.trans ag2)⟩⟩
  · cases e
theorem vg_tup {k : Nat} {n : Nat} (hc : X.calm = true) (h : VGs X Γ es hs ws) (hK : X.K = Γ.K := by rfl) (hn : (assignEach es X.env).length = n := by rfl) (hst : (assignEach es X.env).findIdx? (·.1) = none := by rfl) : VG X Γ (.Tuple es k pos) (hTup n hs) ws := by
  refine PG.imp (pg_tup hc h hn hst) fun v σv H Q ⟨F, μ, G, S, d, σ, σ', r, hσ, t, e, q⟩ => ?_
  unfold hTup at e
  split at e
  · rename_i ds
    split at e
    · rename_i hl
      obtain ⟨a, vs, rfl, h1, _, h2⟩ := t.tup r
      refine ⟨a, vs, rfl, by rw [hK]; exact h1, ?_, F, μ, G, S, ds, σ, σ', h2, hσ, t, e, q⟩
      rw [← h2.length, hl]
    · cases e
  · cases e
def sTgt (h : Hx) (f : Ex) : Sx := fun σ S => SO.of (f σ S) σ fun v S1 => match h v σ with
  | some σ' => .nx σ' S1
  | none => .no
theorem vs_asg (he : VE X Γ W e f) (hg : VG X Γ tg h ws) (hs : swapsWithSole [tg] e pos.line X.env = pure false := by rfl) (hw : swappedStores [tg] e X.env = pure none := by rfl)
    (h1 : (assignEach [tg] X.env).map (·.2) = [assign tg X.env] := by rfl) : VS X Γ W (.Assign [tg] e pos) (sTgt h f) := by
  refine PS.imp (ps_asg he hg hs hw h1) fun D σv H ⟨F, μ, G, σ, S, hσ, hs, h⟩ => ?_
  refine tOf.at hσ hs (Wps.of (H := H) (S := S) h hσ) fun v μ1 G1 H1 S1 vv l s t r q => ?_
  split at q
  · rename_i σ' e
    exact ⟨F, μ1, G1, S1, v, σ, σ', r, hσ.mono l s, t, e, fun σv' h' _ => q _ _ _ (Le.refl _) (Same.refl _) t _ h'⟩
  · exact q.elim
/-- xs[i] = e -/
def sIx (fv fo fi : Ex) : Sx := fun σ S => SO.of (fv σ S) σ fun v S1 => SO.of (fo σ S1) σ fun o S2 => SO.of (fi σ S2) σ fun i S3 => match o, i with
  | .cell k, .int n => (match S3[k]? with
    | some (some (.lst ds)) => (match ixN ds.length n with
      | some j => .nx σ (S3.set k (some (.lst (ds.set j v))))
      | none => .no)
    | _ => .no)
  | _, _ => .no
theorem vs_ix {o i : Expr} {fo fi : Ex} {spos : Pos} (hv : VE X Γ W e f) (ho : VE X Γ W o fo) (hi : VE X Γ W i fi)
    (ha : ∀ v, assign (.Subscript o i spos) X.env v = (do
      let ov ← holding [v] (eval o X.env)
      let iv ← holding [v, ov] (eval i X.env)
      standAt spos
      holding [v, ov, iv] (setItem ov iv v)
      release [v, ov, iv] []) := by intro _; rfl)
    (hs : swapsWithSole [(.Subscript o i spos)] e pos.line X.env = pure false := by rfl) (hw : swappedStores [(.Subscript o i spos)] e X.env = pure none := by rfl)
    (h1 : (assignEach [(.Subscript o i spos)] X.env).map (·.2) = [assign (.Subscript o i spos) X.env] := by rfl) : VS X Γ W (.Assign [.Subscript o i spos] e pos) (sIx f fo fi) := by
  refine PS.imp (ps_asg hv (pg_sub ho hi set_list ha) hs hw h1) fun D σv H ⟨F, μ, G, σ, S, hσ, hs, h⟩ => ?_
  refine tOf.at hσ hs (Wps.of (H := H) (S := S) h hσ) fun v μ1 G1 H1 S1 vv l s t r q => ?_
  refine tOf.at (hσ.mono l s) t (Wps.of (H := H1) (S := S1) q (hσ.mono l s)) fun w μ2 G2 H2 S2 ww l2 s2 t2 r2 q2 => ?_
  have hσ2 := (hσ.mono l s).mono l2 s2
  refine tOf.at hσ2 t2 (Wps.of (H := H2) (S := S2) q2 hσ2) fun x μ3 G3 H3 S3 xx l3 s3 t3 r3 q3 => ?_
  split at q3
  · rename_i k n
    split at q3
    · rename_i ds hk
      split at q3
      · rename_i j hj
        cases r3
        have r2' := r2.mono l3 s3
        cases r2' with
        | cell ha =>
          obtain ⟨a, ha', vs, e1, e2⟩ := t3.at_ _ _ hk
          rw [ha] at ha'; cases ha'
          refine ⟨_, vs, n, j, rfl, rfl, e1, by rw [← e2.length]; exact hj, ?_⟩
          exact q3 _ _ _ (Le.refl _) (Same.refl _) (t3.write _ hk ha (fun b hb => upd_ne hb) ⟨_, upd_same, e2.set ((r.mono l2 s2).mono l3 s3) j⟩) _ (hσ2.mono l3 s3)
      · exact q3.elim
    · exact q3.elim
  · exact q3.elim
/-- n += e, ints -/
def sAug (i : Nat) (g : D → D → Sto → R D) (f : Ex) : Sx := fun σ S => match σ[i]? with
  | some (some x) => SO.of (f σ S) σ fun y S1 => SO.of (g x y S1) σ fun z S2 => .nx (σ.set i (some z)) S2
  | _ => .no
def gAddI (x y : D) (S : Sto) : R D := match x, y with
  | .int i, .int j => .ok (.int (i + j)) S
  | _, _ => .no
theorem vs_aug {i : Nat} {x : Str} {pos' : Pos} (hN : X.N.Nodup) (he : VE X Γ W e f) (hi : X.N[i]? = some x := by rfl) (hx : Loc X.env.scope x := by first | exact Or.inl rfl | exact Or.inr rfl) (hf : X.fn x = true ∨ X.env.scope.names.lookup x = some .local := by first | exact .inl rfl | exact .inr rfl | assumption) :
    VS X Γ W (.AugAssign (.Name x pos') .Add e pos) (sAug i gAddI f) := by
  refine PS.imp (ps_aug hN hi hx he ip_add hf) fun D σv H ⟨F, μ, G, σ, S, hσ, hs, h⟩ => ?_
  unfold sAug at h
  split at h
  · rename_i d hd
    obtain ⟨v, e1, r⟩ := hσ.get hd
    refine ⟨v, e1, ?_⟩
    refine tOf.at hσ hs (Wps.of (H := H) (S := S) h hσ) fun w μ1 G1 H1 S1 ww l s t r2 q => ?_
    unfold gAddI at q
    split at q
    · cases r; cases r2
      exact ⟨_, _, rfl, rfl, q _ _ _ (Le.refl _) (Same.refl _) t _ ((hσ.mono l s).set (.int _) i)⟩
    · exact q.elim
  · exact h.elim
end
end Ev

/-! Ev, the rules, part 5: loops, comprehensions. -/
namespace Ev
open PySem PySem.Spec PyProof.Rows L2

/-! ### what is walked -/
/-- items, and what must stand while they are walked -/
abbrev Ix := Env → Sto → R ((Sto → Prop) × List D)
def JOk (Γ : Gm) (F0 : Hp) (μ0 : List Addr) (G0 : Hp) (J : It) (chk : Sto → Prop) (ds : List D) : Prop :=
  ∀ F μ G H S, Le μ0 μ → Same G0 G → Sit Γ F μ G H S → chk S → ∀ i : Nat, (ds.length ≤ i → J.stop i H) ∧
    ∀ d, ds[i]? = some d → J.go i H ∧ ∀ x H', J.yld i H x H' → ∃ G', Same G G' ∧ Sit Γ F μ G' H' S ∧ VR Γ.K μ G' d x
def tiOf (Γ : Gm) (W : WX) (f : Ix) : TI := fun σv H Rk => ∃ F μ G σ S, SR Γ.K μ G σ σv ∧ Sit Γ F μ G H S ∧ Wp Γ F (fun c d H' => W c d σv H') μ G (f σ S) fun p μ' G' H' _ => ∀ J, JOk Γ F μ' G' J p.1 p.2 → Rk J H'
abbrev VI (X : Cx) (Γ : Gm) (W : WX) (tg iter : Expr) (f : Ix) : Prop := PI X tg iter (tiOf Γ W f)
theorem PI.imp {X : Cx} {tg e : Expr} {t t' : TI} (h : PI X tg e t) (i : ∀ σ H Q, t' σ H Q → t σ H Q) : PI X tg e t' := ⟨fun pins s σ H Q I q => h.run pins s σ H Q I (i σ H Q q)⟩
def still : Sto → Prop := fun _ => True
/-- a list's items; a cell's list must stand -/
def itL (d : D) (S : Sto) : Option ((Sto → Prop) × List D) := match d with
  | .cell k => (match S[k]? with
    | some (some (.lst ds)) => some (fun S => S[k]? = some (some (.lst ds)), ds)
    | _ => none)
  | d => (lstOf S d).map fun ds => (still, ds)
def iL (f : Ex) : Ix := fun σ S => (f σ S).bind fun d S1 => match itL d S1 with
  | some p => .ok p S1
  | none => .no
def iT (f : Ex) : Ix := fun σ S => (f σ S).bind fun d S1 => match d with
  | .tup ds => .ok (still, ds) S1
  | _ => .no
def iStr (f : Ex) : Ix := fun σ S => (f σ S).bind fun d S1 => match d with
  | .str x => .ok (still, x.cps.toList.map fun c => .str ⟨#[c]⟩) S1
  | _ => .no
def pairsFrom : Nat → List D → List D
  | _, [] => []
  | k, d :: r => .tup [.int (k : Nat), d] :: pairsFrom (k + 1) r
def iEnum (f : Ex) : Ix := fun σ S => (f σ S).bind fun d S1 => match itL d S1 with
  | some p => .ok (p.1, pairsFrom 0 p.2) S1
  | none => .no
def iRev (f : Ex) : Ix := fun σ S => (f σ S).bind fun d S1 => match itL d S1 with
  | some p => .ok (p.1, p.2.reverse) S1
  | none => .no
def intsD (lo : Int) (n : Nat) : List D := (List.range n).map fun i => .int (lo + (i : Nat))
noncomputable def iR1 (f : Ex) : Ix := fun σ S => (f σ S).bind fun d S1 => match d with
  | .int j => cif (-4611686018427387904 ≤ j ∧ j < 4611686018427387904) (.ok (still, intsD 0 j.toNat) S1) .no
  | _ => .no
noncomputable def iR2 (f g : Ex) : Ix := fun σ S => (f σ S).bind fun d S1 => (g σ S1).bind fun e S2 => match d, e with
  | .int i, .int j => cif (-4611686018427387904 ≤ i ∧ i < 4611686018427387904 ∧ -4611686018427387904 ≤ j ∧ j < 4611686018427387904) (.ok (still, intsD i (j - i).toNat) S2) .no
  | _, _ => .no
theorem pairs_get : ∀ (ds : List D) (k i : Nat) (d : D), (pairsFrom k ds)[i]? = some d → ∃ e, ds[i]? = some e ∧ d = .tup [.int ((k + i : Nat) : Int), e]
  | [], k, i, d, h => by simp [pairsFrom] at h
  | e :: r, k, 0, d, h => by simp [pairsFrom] at h; exact ⟨e, rfl, h.symm⟩
  | e :: r, k, i + 1, d, h => by
    obtain ⟨e', h1, h2⟩ := pairs_get r (k + 1) i d (by simpa [pairsFrom] using h)
    exact ⟨e', by simpa using h1, by rw [h2, show k + 1 + i = k + (i + 1) by omega]⟩
theorem pairs_len : ∀ (ds : List D) (k : Nat), (pairsFrom k ds).length = ds.length
  | [], _ => rfl
  | d :: r, k => by simp [pairsFrom, pairs_len r]
section
variable {X : Cx} {Γ : Gm} {W : WX} {tg e a b : Expr} {f fa fb : Ex} {p pos : Pos}
/-- where an item list stands -/
theorem itL_ok {F : Hp} {μ : List Addr} {G H : Hp} {S : Sto} {d : D} {v : V} {q : (Sto → Prop) × List D} (t : Sit Γ F μ G H S) (r : VR Γ.K μ G d v) (h : itL d S = some q) :
    ∃ a, v = .ref a ∧ (∃ vs, SqL Γ.K H a vs ∧ VRs Γ.K μ G q.2 vs) ∧ ∀ F' μ' G' H' S', Le μ μ' → Same G G' → Sit Γ F' μ' G' H' S' → q.1 S' → ∃ vs, SqL Γ.K H' a vs ∧ VRs Γ.K μ' G' q.2 vs := by
  unfold itL at h
  split at h
  · rename_i k
    split at h
    · rename_i ds hk
      cases h
      cases r with
      | cell ha =>
        obtain ⟨a, ha', vs, h1, h2⟩ := t.at_ _ _ hk
        rw [ha] at ha'; cases ha'
        refine ⟨_, rfl, ⟨vs, .inl (.inl h1), h2⟩, fun F' μ' G' H' S' l s t' hc => ?_⟩
        obtain ⟨a', ha', vs', h1', h2'⟩ := t'.at_ _ _ hc
        have := l _ _ ha
        rw [this] at ha'; cases ha'
        exact ⟨vs', .inl (.inl h1'), h2'⟩
    · cases h
  · rename_i hn
    rw [Option.map_eq_some_iff] at h
    obtain ⟨ds, hd, rfl⟩ := h
    cases d with
    | cell k => exact absurd rfl (hn k)
    | lst es =>
      cases hd
      cases r with
      | lst h1 h2 => exact ⟨_, rfl, ⟨_, .inl (.inl (t.sub _ _ h1)), h2⟩, fun F' μ' G' H' S' l s t' _ => ⟨_, .inl (.inl (t'.sub _ _ (s _ _ h1))), h2.mono l s⟩⟩
    | scr ns =>
      cases hd
      cases r with
      | scr h1 => exact ⟨_, rfl, ⟨_, t.sub.seq h1, vrs_ints _⟩, fun F' μ' G' H' S' l s t' _ => ⟨_, t'.sub.seq (s.seq h1), vrs_ints _⟩⟩
    | _ => simp [lstOf] at hd
theorem sql_len {K : PySem.W.Frag} {μ : List Addr} {G : Hp} {ds : List D} {vs : List V} (h : VRs K μ G ds vs) {i : Nat} (hi : ds.length ≤ i) : vs.length ≤ i := by rw [← h.length]; exact hi
theorem vi_list (h : VE X Γ W e f) (hK : X.K = Γ.K := by rfl) : VI X Γ W tg e (iL f) := by
  refine PI.imp (pi_list h) fun σv H Q ⟨F, μ, G, σ, S, hσ, hs, h⟩ => ?_
  refine tOf.at hσ hs (Wp.bind h) fun v μ1 G1 H1 S1 vv l s t r q => ?_
  split at q
  · rename_i p hp
    obtain ⟨a, rfl, ⟨vs, h1, h2⟩, hg⟩ := itL_ok t r hp
    refine ⟨a, rfl, ⟨vs, by rw [hK]; exact h1⟩, q.ok t _ fun F' μ' G' H' S' l' s' t' hc i => ?_⟩
    obtain ⟨vs', e1, e2⟩ := hg F' μ' G' H' S' l' s' t' hc
    rw [← hK] at e1
    refine ⟨fun hi => ⟨vs', e1, sql_len e2 hi⟩, fun d hd => ?_⟩
    obtain ⟨y, hy, ry⟩ := e2.get hd
    refine ⟨⟨vs', y, e1, hy⟩, fun x H2 ⟨hH, hx⟩ => ?_⟩
    subst hH
    have := hx vs' e1
    rw [hy] at this; cases this
    exact ⟨G', Same.refl _, t', ry⟩
  · exact q.elim
theorem vi_tup (h : VE X Γ W e f) (hK : X.K = Γ.K := by rfl) : VI X Γ W tg e (iT f) := by
  refine PI.imp (pi_tup h) fun σv H Q ⟨F, μ, G, σ, S, hσ, hs, h⟩ => ?_
  refine tOf.at hσ hs (Wp.bind h) fun v μ1 G1 H1 S1 vv l s t r q => ?_
  split at q
  · rename_i ds
    cases r with
    | tup h1 h2 =>
      refine ⟨_, rfl, ⟨_, .inl (.inl (t.sub _ _ h1))⟩, q.ok t _ fun F' μ' G' H' S' l' s' t' hc i => ?_⟩
      have e1 := t'.sub _ _ (s' _ _ h1)
      have e2 := h2.mono l' s'
      refine ⟨fun hi => ⟨_, .inl (.inl e1), sql_len e2 hi⟩, fun d hd => ?_⟩
      obtain ⟨y, hy, ry⟩ := e2.get hd
      refine ⟨⟨_, y, .inl (.inl e1), hy⟩, fun x H2 ⟨hH, hx⟩ => ?_⟩
      subst hH
      have := hx _ (.inl (.inl e1))
      rw [hy] at this; cases this
      exact ⟨G', Same.refl _, t', ry⟩
  · exact q.elim
theorem vi_str (h : VE X Γ W e f) : VI X Γ W tg e (iStr f) := by
  refine PI.imp (pi_str h) fun σv H Q ⟨F, μ, G, σ, S, hσ, hs, h⟩ => ?_
  refine tOf.at hσ hs (Wp.bind h) fun v μ1 G1 H1 S1 vv l s t r q => ?_
  split at q
  · rename_i z
    cases r
    refine ⟨z, rfl, q.ok t _ fun F' μ' G' H' S' l' s' t' hc i => ?_⟩
    refine ⟨fun hi => by show z.cps.size ≤ i; simpa using hi, fun d hd => ?_⟩
    rw [List.getElem?_map, Option.map_eq_some_iff] at hd
    obtain ⟨c, hc', rfl⟩ := hd
    have hc'' : z.cps[i]? = some c := by simpa using hc'
    refine ⟨(Array.getElem?_eq_some_iff.mp hc'').1, fun x H2 ⟨hH, c', hx, ex⟩ => ?_⟩
    subst hH
    rw [hc''] at hx; cases hx
    subst ex
    exact ⟨G', Same.refl _, t', .str _⟩
  · exact q.elim
theorem vi_enum {elts : List Expr} {kk : Nat} {tpos : Pos} (hm : X.mg "enumerate" = none) (h : VE X Γ W e f) (hg : Gl X "enumerate" := by rfl) (hK : X.K = Γ.K := by rfl) (hs : starEach [e] X.env = [(false, eval e X.env)] := by rfl) :
    VI X Γ W (.Tuple elts kk tpos) (.Call (.Name "enumerate" p) [e] [] pos) (iEnum f) := by
  refine PI.imp (pi_enum hg hm (pa_cons h pa_nil hs) hs) fun σv H Q ⟨F, μ, G, σ, S, hσ, hs, h⟩ => ?_
  refine tOf.at hσ hs (Wp.bind h) fun v μ1 G1 H1 S1 vv l s t r q => ?_
  split at q
  · rename_i p hp
    obtain ⟨a, rfl, ⟨vs, h1, h2⟩, hgg⟩ := itL_ok t r hp
    refine ⟨a, vs, rfl, by rw [hK]; exact h1, q.ok t _ fun F' μ' G' H' S' l' s' t' hc i => ?_⟩
    obtain ⟨vs', e1, e2⟩ := hgg F' μ' G' H' S' l' s' t' hc
    rw [← hK] at e1
    refine ⟨fun hi => ⟨vs', e1, sql_len e2 (by rw [pairs_len] at hi; exact hi)⟩, fun d hd => ?_⟩
    obtain ⟨e', he', rfl⟩ := pairs_get _ _ _ _ hd
    obtain ⟨y, hy, ry⟩ := e2.get he'
    refine ⟨⟨vs', y, e1, hy⟩, fun x H2 ⟨T, x', ex, nT, eH, hx⟩ => ?_⟩
    have := hx vs' e1
    rw [hy] at this; cases this
    subst ex eH
    have ng := (t'.fresh nT).2
    refine ⟨upd G' T (.tup [.int (i : Nat), y]), same_upd ng, t'.allocG _ nT, .tup upd_same (.cons ?_ (.cons (ry.mono (Le.refl _) (same_upd ng)) .nil))⟩
    rw [Nat.zero_add]
    exact .int _
  · exact q.elim
theorem vi_rev (hm : X.mg "reversed" = none) (h : VE X Γ W e f) (hg : Gl X "reversed" := by rfl) (hK : X.K = Γ.K := by rfl) (hs : starEach [e] X.env = [(false, eval e X.env)] := by rfl) :
    VI X Γ W tg (.Call (.Name "reversed" p) [e] [] pos) (iRev f) := by
  refine PI.imp (pi_reversed hg hm (pa_cons h pa_nil hs) hs) fun σv H Q ⟨F, μ, G, σ, S, hσ, hs, h⟩ => ?_
  refine tOf.at hσ hs (Wp.bind h) fun v μ1 G1 H1 S1 vv l s t r q => ?_
  split at q
  · rename_i p hp
    obtain ⟨a, rfl, ⟨vs, h1, h2⟩, hgg⟩ := itL_ok t r hp
    refine ⟨a, vs, rfl, by rw [hK]; exact h1, q.ok t _ fun F' μ' G' H' S' l' s' t' hc i => ?_⟩
    obtain ⟨vs', e1, e2⟩ := hgg F' μ' G' H' S' l' s' t' hc
    rw [← hK] at e1
    have hl : vs.length = p.2.length := h2.length.symm
    refine ⟨fun hi => by show vs.length ≤ i; rw [hl]; simpa using hi, fun d hd => ?_⟩
    have hi : i < p.2.length := by have := (List.getElem?_eq_some_iff.mp hd).1; simpa using this
    rw [List.getElem?_reverse hi] at hd
    obtain ⟨y, hy, ry⟩ := e2.get hd
    rw [← hl] at hy
    refine ⟨⟨by rw [hl]; exact hi, vs', y, e1, hy⟩, fun x H2 ⟨hH, hx⟩ => ?_⟩
    subst hH
    have := hx vs' e1
    rw [hy] at this; cases this
    exact ⟨G', Same.refl _, t', ry⟩
  · exact q.elim
theorem j_range {F : Hp} {μ : List Addr} {G : Hp} (lo : Int) (n : Nat) : JOk Γ F μ G (Itr lo n) still (intsD lo n) := fun F' μ' G' H' S' l' s' t' hc i => by
  refine ⟨fun hi => by show n ≤ i; simpa [intsD] using hi, fun d hd => ?_⟩
  unfold intsD at hd
  rw [List.getElem?_map, Option.map_eq_some_iff] at hd
  obtain ⟨j, hj, rfl⟩ := hd
  have hi : i < n := by have := (List.getElem?_eq_some_iff.mp hj).1; simpa using this
  have ej : j = i := by rw [List.getElem?_range hi] at hj; cases hj; rfl
  subst ej
  refine ⟨hi, fun x H2 ⟨hH, hx⟩ => ?_⟩
  subst hH hx
  exact ⟨G', Same.refl _, t', .int _⟩
theorem vi_r1 (hm : X.mg "range" = none) (h : VE X Γ W e f) (hg : Gl X "range" := by rfl) (hs : starEach [e] X.env = [(false, eval e X.env)] := by rfl) : VI X Γ W tg (.Call (.Name "range" p) [e] [] pos) (iR1 f) := by
  refine PI.imp (pi_range1 hg hm (pa_cons h pa_nil hs) hs) fun σv H Q ⟨F, μ, G, σ, S, hσ, hs, h⟩ => ?_
  refine tOf.at hσ hs (Wp.bind h) fun v μ1 G1 H1 S1 vv l s t r q => ?_
  split at q
  · rename_i j
    by_cases hj : -4611686018427387904 ≤ j ∧ j < 4611686018427387904
    · rw [cif_pos hj] at q
      cases r
      exact ⟨_, rfl, by omega, by omega, q.ok t _ (j_range 0 _)⟩
    · rw [cif_neg hj] at q; exact q.elim
  · exact q.elim
theorem vi_r2 (hm : X.mg "range" = none) (ha : VE X Γ W a fa) (hb : VE X Γ W b fb) (hg : Gl X "range" := by rfl) (hs : starEach [a, b] X.env = [(false, eval a X.env), (false, eval b X.env)] := by rfl) (hs2 : starEach [b] X.env = [(false, eval b X.env)] := by rfl) :
    VI X Γ W tg (.Call (.Name "range" p) [a, b] [] pos) (iR2 fa fb) := by
  refine PI.imp (pi_range2 hg hm (pa_cons ha (pa_cons hb pa_nil hs2) (by rw [hs2]; exact hs)) hs hs2) fun σv H Q ⟨F, μ, G, σ, S, hσ, hs, h⟩ => ?_
  refine tOf.at hσ hs (Wp.bind h) fun v μ1 G1 H1 S1 vv l s t r q => ?_
  refine tOf.at (hσ.mono l s) t (Wp.bind q) fun w μ2 G2 H2 S2 ww l2 s2 t2 r2 q2 => ?_
  have r' := r.mono l2 s2
  split at q2
  · rename_i i j
    by_cases hj : -4611686018427387904 ≤ i ∧ i < 4611686018427387904 ∧ -4611686018427387904 ≤ j ∧ j < 4611686018427387904
    · rw [cif_pos hj] at q2
      cases r'; cases r2
      exact ⟨_, _, rfl, by omega, q2.ok t2 _ (j_range _ _)⟩
    · rw [cif_neg hj] at q2; exact q2.elim
  · exact q2.elim
end

/-! ### for -/
open Classical in
/-- the items one by one -/
noncomputable def forL (chk : Sto → Prop) (h : Hx) (body : Sx) : List D → Sx
  | [], σ, S => if chk S then .nx σ S else .no
  | d :: r, σ, S => if chk S then (match h d σ with
    | none => .no
    | some σ1 => match body σ1 S with
      | .nx σ2 S2 => forL chk h body r σ2 S2
      | .ct σ2 S2 => forL chk h body r σ2 S2
      | .bk σ2 S2 => .nx σ2 S2
      | o => o) else .no
noncomputable def sFor (fi : Ix) (h : Hx) (body : Sx) : Sx := fun σ S => SO.of (fi σ S) σ fun p S1 => forL p.1 h body p.2 σ S1
section
variable {X : Cx} {Γ : Gm} {W : WX} {tg iter c : Expr} {body : List Stmt} {fi : Ix} {h : Hx} {ws : List Nat} {g : Sx} {t : Tx} {pos : Pos}
theorem vs_for (hp : PassesOwn (model X.prog X.w) X.A X.env X.xe) (hc : X.calm = true) (hi : VI X Γ W tg iter fi) (hg : VG X Γ tg h ws) (hb : VSs X Γ W body g) (hs : ∀ x, foldedSetIterable iter X.env x = pure x := by intro _; rfl) :
    VS X Γ W (.For tg iter body [] pos) (sFor fi h g) := by
  refine PS.imp (ps_for hp hc hi hg hb hs) fun D σv H ⟨F, μ, G, σ, S, hσ, hs, q⟩ => ?_
  refine ⟨F, μ, G, σ, S, hσ, hs, (Wps.of (H := H) (S := S) q hσ).imp fun p μ1 G1 H1 S1 l s t q J hJ => ?_⟩
  refine ⟨fun i m σv H => ∃ F μ G σ S, m = p.2.length - i ∧ i ≤ p.2.length ∧ Le μ1 μ ∧ Same G1 G ∧ SR Γ.K μ G σ σv ∧ Sit Γ F μ G H S ∧ Wps Γ F W μ G (forL p.1 h g (p.2.drop i) σ S) D, ⟨p.2.length, F, μ1, G1, σ, S1, by simp, Nat.zero_le _, Le.refl _, Same.refl _, hσ.mono l s, t, by simpa using q⟩, ?_⟩
  rintro i m σv H ⟨F, μ, G, σ, S, rfl, hi, l, s, hσ, t, q⟩
  by_cases hlt : i < p.2.length
  · rw [List.drop_eq_getElem_cons hlt] at q
    unfold forL at q
    split at q
    · rename_i hck
      obtain ⟨_, hgo⟩ := hJ F μ G H S l s t hck i
      obtain ⟨g1, g2⟩ := hgo p.2[i] (List.getElem?_eq_getElem hlt)
      refine .inr ⟨g1, fun σv H => ∃ F μ G σ S, Le μ1 μ ∧ Same G1 G ∧ SR Γ.K μ G σ σv ∧ Sit Γ F μ G H S ∧ Wps Γ F W μ G (forL p.1 h g (p.2.drop (i + 1)) σ S) D, ?_, fun x H' hy => ?_⟩
      · rintro σv' H' ⟨F, μ, G, σ, S, l, s, hσ, t, q⟩
        exact ⟨p.2.length - (i + 1), by omega, F, μ, G, σ, S, rfl, hlt, l, s, hσ, t, q⟩
      · obtain ⟨G', sg, t', r⟩ := g2 x H' hy
        split at q
        · exact q.elim
        · rename_i σ1 e1
          refine ⟨F, μ, G', S, p.2[i], σ, σ1, r, hσ.mono (Le.refl _) sg, t', e1, fun σv1 hσ1 _ => ⟨F, μ, G', σ1, S, hσ1, t', ?_⟩⟩
          have l' := l
          have s' := s.trans sg
          cases hb : g σ1 S with
          | no => rw [hb] at q; exact q
          | nx σ2 S2 =>
            rw [hb] at q
            exact fun μ2 G2 H2 l2 s2 t2 σv2 hσ2 => ⟨F, μ2, G2, σ2, S2, l'.trans l2, s'.trans s2, hσ2, t2, q.mono l2 (sg.trans s2)⟩
          | ct σ2 S2 =>
            rw [hb] at q
            exact fun μ2 G2 H2 l2 s2 t2 σv2 hσ2 => ⟨F, μ2, G2, σ2, S2, l'.trans l2, s'.trans s2, hσ2, t2, q.mono l2 (sg.trans s2)⟩
          | bk σ2 S2 => rw [hb] at q; exact fun μ2 G2 H2 l2 s2 t2 σv2 hσ2 => q μ2 G2 H2 l2 (sg.trans s2) t2 σv2 hσ2
          | rt v S2 => rw [hb] at q; exact fun μ2 G2 H2 l2 s2 t2 => q μ2 G2 H2 l2 (sg.trans s2) t2
          | ex c a σ2 S2 => rw [hb] at q; exact fun μ2 G2 H2 l2 s2 t2 => q μ2 G2 H2 l2 (sg.trans s2) t2
    · exact q.elim
  · have e : i = p.2.length := by omega
    subst e
    rw [List.drop_length] at q
    unfold forL at q
    split at q
    · rename_i hck
      obtain ⟨hst, _⟩ := hJ F μ G H S l s t hck p.2.length
      exact .inl ⟨hst (Nat.le_refl _), q _ _ _ (Le.refl _) (Same.refl _) t _ hσ⟩
    · exact q.elim

/-! ### while -/
def whileN (t : Tx) (body : Sx) : Nat → Sx
  | 0, _, _ => .no
  | n + 1, σ, S => SO.of (t σ S) σ fun b S1 => if b = true then (match body σ S1 with
    | .nx σ2 S2 => whileN t body n σ2 S2
    | .ct σ2 S2 => whileN t body n σ2 S2
    | .bk σ2 S2 => .nx σ2 S2
    | o => o) else .nx σ S1
open Classical in
noncomputable def sWhile (t : Tx) (body : Sx) : Sx := fun σ S => if h : ∃ n, whileN t body n σ S ≠ .no then whileN t body (Classical.choose h) σ S else .no
theorem whileN_mono (t : Tx) (body : Sx) : ∀ (n m : Nat) (σ : Env) (S : Sto), whileN t body n σ S ≠ .no → n ≤ m → whileN t body m σ S = whileN t body n σ S := by
  intro n
  induction n with
  | zero => intro m σ S h _; exact absurd rfl h
  | succ n ih =>
    intro m σ S h hm
    obtain ⟨m, rfl⟩ : ∃ k, m = k + 1 := ⟨m - 1, by omega⟩
    simp only [whileN] at h ⊢
    cases ht : t σ S with
    | no => rfl
    | ex c a S1 => rfl
    | ok b S1 =>
      rw [ht] at h
      simp only [SO.of_ok] at h ⊢
      cases b with
      | false => rfl
      | true =>
        simp only [if_true] at h ⊢
        cases hb : body σ S1 with
        | nx σ2 S2 => rw [hb] at h; exact ih m σ2 S2 h (by omega)
        | ct σ2 S2 => rw [hb] at h; exact ih m σ2 S2 h (by omega)
        | _ => rfl
theorem sWhile_eq {t : Tx} {body : Sx} (n : Nat) {σ : Env} {S : Sto} {r : SO} (h : whileN t body n σ S = r) (hr : r ≠ .no) : sWhile t body σ S = r := by
  have hx : ∃ n, whileN t body n σ S ≠ .no := ⟨n, by rw [h]; exact hr⟩
  unfold sWhile
  rw [dif_pos hx]
  have h1 := Classical.choose_spec hx
  have h2 := whileN_mono t body _ (max n (Classical.choose hx)) σ S h1 (Nat.le_max_right _ _)
  have h3 := whileN_mono t body n (max n (Classical.choose hx)) σ S (by rw [h]; exact hr) (Nat.le_max_left _ _)
  rw [← h2, h3, h]
theorem vs_while (hp : PassesOwn (model X.prog X.w) X.A X.env X.xe) (hc : VT X Γ W c t) (hb : VSs X Γ W body g) : VS X Γ W (.While c body [] pos) (sWhile t g) := by
  refine PS.imp (ps_while hp hc hb) fun D σv H ⟨F, μ, G, σ, S, hσ, hs, q⟩ => ?_
  unfold sWhile at q
  split at q
  · rename_i hx
    generalize Classical.choose hx = n at q
    refine ⟨fun m σv H => ∃ F μ G σ S, SR Γ.K μ G σ σv ∧ Sit Γ F μ G H S ∧ Wps Γ F W μ G (whileN t g m σ S) D, ⟨n, F, μ, G, σ, S, hσ, hs, q⟩, ?_⟩
    rintro m σv H ⟨F, μ, G, σ, S, hσ, hs, q⟩
    cases m with
    | zero => exact q.elim
    | succ m =>
      unfold whileN at q
      refine ttOf.at hσ hs (Wps.of (H := H) (S := S) q hσ) fun v μ1 G1 H1 S1 l s t1 q => ?_
      have hσ1 := hσ.mono l s
      split
      · rename_i hv
        rw [if_pos hv] at q
        refine ⟨fun σv H => ∃ F μ G σ S, SR Γ.K μ G σ σv ∧ Sit Γ F μ G H S ∧ Wps Γ F W μ G (whileN t g m σ S) D, fun σ' H' hN => ⟨m, Nat.lt_succ_self _, hN⟩, F, μ1, G1, σ, S1, hσ1, t1, ?_⟩
        cases hbd : g σ S1 with
        | no => rw [hbd] at q; exact q
        | nx σ2 S2 => rw [hbd] at q; exact fun μ2 G2 H2 l2 s2 t2 σv2 hσ2 => ⟨F, μ2, G2, σ2, S2, hσ2, t2, q.mono l2 s2⟩
        | ct σ2 S2 => rw [hbd] at q; exact fun μ2 G2 H2 l2 s2 t2 σv2 hσ2 => ⟨F, μ2, G2, σ2, S2, hσ2, t2, q.mono l2 s2⟩
        | bk σ2 S2 => rw [hbd] at q; exact q
        | rt v S2 => rw [hbd] at q; exact q
        | ex c a σ2 S2 => rw [hbd] at q; exact q
      · rename_i hv
        rw [if_neg hv] at q
        exact q _ _ _ (Le.refl _) (Same.refl _) t1 _ hσ1
  · exact q.elim
end

/-! ### comprehensions -/
def wipeE (σ : Env) : List Nat → Env
  | [] => σ
  | v :: vs => (wipeE σ vs).set v none
open Classical in
/-- the items one by one: what is made of them, the store behind -/
noncomputable def compL (chk : Sto → Prop) (h : Hx) (t : Tx) (f : Ex) (σ : Env) : List D → List D → Sto → R (List D)
  | [], acc, S => if chk S then .ok acc S else .no
  | d :: r, acc, S => if chk S then (match h d σ with
    | none => .no
    | some σ1 => (match t σ1 S with
      | .ok b S1 => if b = true then (match f σ1 S1 with
        | .ok v S2 => if acc.length < sizeLine then compL chk h t f σ r (acc ++ [v]) S2 else .no
        | _ => .no) else compL chk h t f σ r acc S1
      | _ => .no)) else .no
def tYes : Tx := fun _ S => .ok true S
/-- the list never changes; or it is a cell -/
noncomputable def eComp (fi : Ix) (h : Hx) (t : Tx) (f : Ex) (own : List Nat) : Ex := fun σ S => (fi σ S).bind fun p S1 => (compL p.1 h t f (wipeE σ own) p.2 [] S1).bind fun ds S2 => .ok (.lst ds) S2
noncomputable def eCompN (fi : Ix) (h : Hx) (t : Tx) (f : Ex) (own : List Nat) : Ex := fun σ S => (fi σ S).bind fun p S1 => (compL p.1 h t f (wipeE σ own) p.2 [] S1).bind fun ds S2 => .ok (.cell S2.length) (S2 ++ [some (.lst ds)])
theorem SR.wipe {K : PySem.W.Frag} {μ : List Addr} {G : Hp} {σ : Env} {σv : L2.St} (h : SR K μ G σ σv) : ∀ vs : List Nat, SR K μ G (wipeE σ vs) (wipe σv vs)
  | [] => h
  | v :: vs => (h.wipe vs).unset v
abbrev W0 : WX := fun _ _ _ _ => False
section
variable {X : Cx} {Γ : Gm} {W : WX} {elt tg iter c : Expr} {ifs : List Expr} {scope : Scope} {own : List (Str × Nat)} {fi : Ix} {h : Hx} {t : Tx} {f : Ex} {pos : Pos}
theorem VTs_nil : PTs X [] (ttOf Γ W tYes) := ⟨fun pins s σv H Q I ⟨F, μ, G, σ, S, hσ, hs, q⟩ => (pts_nil (X := X)).run pins s σv H Q I (q.ok hs)⟩
theorem VTs_one (hc : VT X Γ W c t) : PTs X [c] (ttOf Γ W t) := pts_one hc
/-- the frame with one thing more (or changed) that is ours alone -/
theorem Sit.framed {F : Hp} {μ : List Addr} {G H : Hp} {S : Sto} (s : Sit Γ F μ G H S) {p : Addr} (o : HO) (nm : p ∉ μ) (ng : G p = none) : Sit Γ (upd F p o) μ G (upd H p o) S := by
  refine ⟨fun b x e => ?_, fun b x e => ?_, fun a ha => ?_, fun a u e => ?_, s.len, s.nd, fun a ha => ?_, s.off, fun k c hk => ?_⟩
  · have hb : b ≠ p := fun z => by rw [z, ng] at e; cases e
    rw [upd_ne hb]; exact s.sub b x e
  · rw [upd_get] at e ⊢
    split
    · rename_i z; rw [if_pos z] at e; exact e
    · rename_i z; rw [if_neg z] at e; exact s.frm b x e
  · rw [upd_ne (fun z => nm (by rw [← z]; exact ha))]; exact s.fmu a ha
  · rw [upd_ne (fun z => by rw [z, ng] at e; cases e)]; exact s.fg a u e
  · rw [upd_ne (fun z => nm (by rw [← z]; exact ha))]; exact s.dom a ha
  · obtain ⟨a, ha, hc⟩ := s.at_ k c hk
    refine ⟨a, ha, hc.mono (Le.refl _) (Same.refl _) fun o e => ?_⟩
    rw [upd_ne (fun z => nm (by rw [← z]; exact List.mem_of_getElem? ha))]
    exact e
theorem Sit.unframe {F F' : Hp} {μ : List Addr} {G H : Hp} {S : Sto} (s : Sit Γ F' μ G H S) (h : Same F F') : Sit Γ F μ G H S :=
  ⟨s.sub, h.trans s.frm, fun a ha => h.free (s.fmu a ha), fun a o e => h.free (s.fg a o e), s.len, s.nd, s.dom, s.off, s.at_⟩
theorem Sit.adoptG {F : Hp} {μ : List Addr} {G H : Hp} {S : Sto} (s : Sit Γ F μ G H S) {p : Addr} {o : HO} (hp : H p = some o) (nm : p ∉ μ) (ng : G p = none) (nf : F p = none) : Sit Γ F μ (upd G p o) H S := by
  refine ⟨fun b x e => ?_, s.frm, s.fmu, fun a u e => ?_, s.len, s.nd, s.dom, fun k a c h1 h2 => ?_, fun k c hk => ?_⟩
  · rw [upd_get] at e
    split at e
    · rename_i z; subst z; cases e; exact hp
    · exact s.sub b x e
  · rw [upd_get] at e
    split at e
    · rename_i z; rw [z]; exact nf
    · exact s.fg a u e
  · rw [upd_ne (fun z => nm (by rw [← z]; exact List.mem_of_getElem? h2))]; exact s.off k a c h1 h2
  · obtain ⟨a, ha, hc⟩ := s.at_ k c hk
    exact ⟨a, ha, hc.mono (Le.refl _) (same_upd ng) fun o e => e⟩
theorem Sit.adoptC {F : Hp} {μ : List Addr} {G H : Hp} {S : Sto} (s : Sit Γ F μ G H S) {p : Addr} {o : HO} (c : C) (hp : H p = some o) (nm : p ∉ μ) (ng : G p = none) (nf : F p = none) (hc : CR Γ (μ ++ [p]) G H c p) : Sit Γ F (μ ++ [p]) G H (S ++ [some c]) := by
  refine ⟨s.sub, s.frm, fun a ha => ?_, s.fg, by simp [s.len], ?_, fun a ha => ?_, fun k a c' h1 h2 => ?_, fun k c' h => ?_⟩
  · rcases List.mem_append.mp ha with h | h
    · exact s.fmu a h
    · simp at h; subst h; exact nf
  · rw [List.nodup_append]
    refine ⟨s.nd, by simp, fun a ha b hb => ?_⟩
    simp at hb
    subst hb
    exact fun e => nm (e ▸ ha)
  · rcases List.mem_append.mp ha with h | h
    · exact s.dom a h
    · simp at h; subst h; rw [hp]; simp
  · by_cases hk : k < S.length
    · rw [List.getElem?_append_left hk] at h1
      rw [List.getElem?_append_left (by rw [s.len]; exact hk)] at h2
      exact s.off k a c' h1 h2
    · have e : k = S.length := by
        have := (List.getElem?_eq_some_iff.mp h1).1
        simp at this
        omega
      subst e
      rw [← s.len] at h2
      simp at h2
      subst h2
      exact ng
  · by_cases hk : k < S.length
    · rw [List.getElem?_append_left hk] at h
      obtain ⟨a, h1, h2⟩ := s.at_ k c' h
      exact ⟨a, Le.push _ _ _ _ h1, h2.mono (Le.push _ _) (Same.refl G) fun o e => e⟩
    · have e : k = S.length := by
        have := (List.getElem?_eq_some_iff.mp h).1
        simp at this
        omega
      subst e
      simp at h
      subst h
      exact ⟨p, by rw [← s.len]; simp, hc⟩
theorem wipe_len (σ : L2.St) (vs : List Nat) : (wipe σ vs).length = σ.length := wipe_length σ vs
theorem wipe_get : ∀ (σ : L2.St) (vs : List Nat) (i : Nat), (wipe σ vs)[i]? = if i ∈ vs ∧ i < σ.length then some none else σ[i]?
  | σ, [], i => by simp [wipe]
  | σ, v :: vs, i => by
    unfold wipe
    by_cases hv : v = i
    · subst hv
      by_cases hl : v < σ.length
      · rw [List.getElem?_set_self (by rw [wipe_len]; exact hl)]
        simp [hl]
      · rw [List.getElem?_eq_none (by simp [wipe_len]; omega), List.getElem?_eq_none (by omega)]
        simp [hl]
    · rw [List.getElem?_set_ne hv, wipe_get σ vs i]
      simp only [List.mem_cons, show ¬ i = v from fun e => hv e.symm, false_or]
theorem wipe_agr {ws vs : List Nat} {σ0 σ1 : L2.St} (h : Agr ws (wipe σ0 vs) σ1) (hw : ∀ i ∈ ws, i ∈ vs) : wipe σ1 vs = wipe σ0 vs := by
  apply List.ext_getElem?
  intro i
  have hl := h.1
  rw [wipe_len] at hl
  rw [wipe_get, wipe_get, hl]
  split
  · rfl
  · rename_i hn
    by_cases hi : i ∈ vs
    · have hge : σ0.length ≤ i := by
        have : ¬ i < σ0.length := fun z => hn ⟨hi, z⟩
        omega
      rw [List.getElem?_eq_none (by omega), List.getElem?_eq_none hge]
    · rw [h.2 i (fun z => hi (hw i z)), wipe_get, if_neg (fun z => hi z.1)]
theorem lc_run {hh : Hx} {tt : Tx} {ff : Ex} {ws vs : List Nat} {F : Hp} {μ : List Addr} {G H1 : Hp} {σ : Env} {σv : L2.St} {S1 : Sto} {p : (Sto → Prop) × List D} {J : It} {Q : VK} {k : List Ev.D → List Addr → Hp → Hp → Sto → Prop} {WW : XK}
    (hσ : SR Γ.K μ G σ σv) (t1 : Sit Γ F μ G H1 S1) (q : Wp Γ F WW μ G (compL p.1 hh tt ff (wipeE σ vs) p.2 [] S1) k) (hJ : JOk Γ F μ G J p.1 p.2) (hws : ∀ i ∈ ws, i ∈ vs)
    (hend : ∀ (D : Addr) (ds : List Ev.D) (vv : List V) (μ' : List Addr) (G' H' : Hp) (S' : Sto), F D = none → Le μ μ' → Same G G' → Sit Γ F μ' G' H' S' → H' D = some (.lst vv) → D ∉ μ' → G' D = none → VRs Γ.K μ' G' ds vv → k ds μ' G' H' S' → Q (.ref D) H') :
    ∀ D, H1 D = none → ∃ Wi : Nat → Nat → Hp → Prop, (∃ m, Wi 0 m (upd H1 D (.lst []))) ∧ ∀ i m H, Wi i m H →
      (J.stop i H ∧ Q (.ref D) H) ∨ (J.go i H ∧ ∃ Nx : Hp → Prop, (∀ H', Nx H' → ∃ m', m' < m ∧ Wi (i + 1) m' H') ∧ ∀ x H', J.yld i H x H' → tgOf Γ hh ws x (wipe σv vs) H' fun σ2 H2 => wipe σ2 vs = wipe σv vs ∧ ttOf Γ W0 tt σ2 H2 fun b H3 =>
        if b = true then tOf Γ W0 ff σ2 H3 fun y H4 => ∃ acc, H4 D = some (.lst acc) ∧ acc.length < sizeLine ∧ Nx (upd H4 D (.lst (acc ++ [y]))) else Nx H3) := by
  intro D nD
  obtain ⟨nm, ng⟩ := t1.fresh nD
  have nf := t1.freshF nD
  have sF : ∀ vv, Same F (upd F D (.lst vv)) := fun vv => same_upd nf
  refine ⟨fun i m Hc => ∃ μ' G' S' acc vv, m = p.2.length - i ∧ i ≤ p.2.length ∧ Le μ μ' ∧ Same G G' ∧ Sit Γ (upd F D (.lst vv)) μ' G' Hc S' ∧ VRs Γ.K μ' G' acc vv ∧ Wp Γ F WW μ' G' (compL p.1 hh tt ff (wipeE σ vs) (p.2.drop i) acc S') k,
    ⟨p.2.length, μ, G, S1, [], [], by simp, Nat.zero_le _, Le.refl _, Same.refl _, t1.framed _ nm ng, .nil, by simpa using q⟩, ?_⟩
  rintro i m Hc ⟨μ', G', S', acc, vv, rfl, hi, l, s, t, r, q⟩
  have hDm : D ∉ μ' := fun z => by have := t.fmu D z; rw [upd_same] at this; cases this
  have hDg : ∀ {G' : Hp} {H : Hp} {μ' : List Addr} {S' : Sto} {vv : List V}, Sit Γ (upd F D (.lst vv)) μ' G' H S' → G' D = none := fun {G' H μ' S' vv} t => by
    cases e : G' D with
    | none => rfl
    | some o => have := t.fg D o e; rw [upd_same] at this; cases this
  have hDH : ∀ {G' : Hp} {H : Hp} {μ' : List Addr} {S' : Sto} {vv : List V}, Sit Γ (upd F D (.lst vv)) μ' G' H S' → H D = some (.lst vv) := fun t => t.frm D _ upd_same
  by_cases hlt : i < p.2.length
  · rw [List.drop_eq_getElem_cons hlt] at q
    unfold compL at q
    split at q
    · rename_i hck
      obtain ⟨_, hgo⟩ := hJ (upd F D (.lst vv)) μ' G' Hc S' l s t hck i
      obtain ⟨g1, g2⟩ := hgo p.2[i] (List.getElem?_eq_getElem hlt)
      refine .inr ⟨g1, fun Hc => ∃ μ' G' S' acc vv, Le μ μ' ∧ Same G G' ∧ Sit Γ (upd F D (.lst vv)) μ' G' Hc S' ∧ VRs Γ.K μ' G' acc vv ∧ Wp Γ F WW μ' G' (compL p.1 hh tt ff (wipeE σ vs) (p.2.drop (i + 1)) acc S') k, ?_, fun x H' hy => ?_⟩
      · rintro H' ⟨μ', G', S', acc, vv, l, s, t, r, q⟩
        exact ⟨p.2.length - (i + 1), by omega, μ', G', S', acc, vv, rfl, hlt, l, s, t, r, q⟩
      · obtain ⟨G2, sg, t2, rx⟩ := g2 x H' hy
        split at q
        · exact q.elim
        · rename_i σ1 e1
          have hσ' : SR Γ.K μ' G2 (wipeE σ vs) (wipe σv vs) := (hσ.mono l (s.trans sg)).wipe vs
          refine ⟨_, μ', G2, S', p.2[i], wipeE σ vs, σ1, rx, hσ', t2, e1, fun σv1 hσ1 ag => ⟨wipe_agr ag hws, _, μ', G2, σ1, S', hσ1, t2, ?_⟩⟩
          cases ht : tt σ1 S' with
          | no => rw [ht] at q; exact q.elim
          | ex c a S3 => rw [ht] at q; exact q.elim
          | ok b S3 =>
            rw [ht] at q
            intro μ3 G3 H3 l3 s3 t3
            simp only at q
            by_cases hb : b = true
            · subst hb
              simp only [if_true] at q ⊢
              refine ⟨_, μ3, G3, σ1, S3, hσ1.mono l3 s3, t3, ?_⟩
              cases hf : ff σ1 S3 with
              | no => rw [hf] at q; exact q.elim
              | ex c a S4 => rw [hf] at q; exact q.elim
              | ok v S4 =>
                rw [hf] at q
                intro μ4 G4 H4 l4 s4 t4 y ry
                simp only at q
                split at q
                · rename_i hz
                  have r4 : VRs Γ.K μ4 G4 acc vv := (r.mono l3 (sg.trans s3)).mono l4 s4
                  refine ⟨vv, hDH t4, by rw [← r4.length]; exact hz, μ4, G4, S4, acc ++ [v], vv ++ [y], (l.trans l3).trans l4, ((s.trans sg).trans s3).trans s4, ?_, r4.append (.cons ry .nil), ?_⟩
                  · have hm : D ∉ μ4 := fun z => by have := t4.fmu D z; rw [upd_same] at this; cases this
                    have := t4.framed (.lst (vv ++ [y])) hm (hDg t4)
                    rw [upd_upd] at this
                    exact this
                  · exact q.mono (l3.trans l4) ((sg.trans s3).trans s4) fun _ _ _ _ _ _ _ _ z => z
                · exact q.elim
            · have hb' : b = false := by simpa using hb
              subst hb'
              simp only [Bool.false_eq_true, if_false] at q ⊢
              exact ⟨μ3, G3, S3, acc, vv, l.trans l3, (s.trans sg).trans s3, t3, r.mono l3 (sg.trans s3), q.mono l3 (sg.trans s3) fun _ _ _ _ _ _ _ _ z => z⟩
    · exact q.elim
  · have e : i = p.2.length := by omega
    subst e
    rw [List.drop_length] at q
    unfold compL at q
    split at q
    · rename_i hck
      obtain ⟨hst, _⟩ := hJ (upd F D (.lst vv)) μ' G' Hc S' l s t hck p.2.length
      have tf := t.unframe (sF vv)
      exact .inl ⟨hst (Nat.le_refl _), hend D acc vv μ' G' Hc S' nf l s tf (hDH t) hDm (hDg t) r (q.ok tf)⟩
    · exact q.elim
variable {ws : List Nat}
theorem comp_of {σv : L2.St} {H : Hp} {Q : VK} (hws : ∀ i ∈ ws, i ∈ own.map (·.2)) (q : tOf Γ W (eComp fi h t f (own.map (·.2))) σv H Q) : tLc (tiOf Γ W fi) (tgOf Γ h ws) (ttOf Γ W0 t) (tOf Γ W0 f) (own.map (·.2)) σv H Q := by
  obtain ⟨F, μ, G, σ, S, hσ, hs, q⟩ := q
  refine ⟨F, μ, G, σ, S, hσ, hs, (Wp.bind q).imp fun p μ1 G1 H1 S1 l s t1 q J hJ => ?_⟩
  refine lc_run (hσ.mono l s) t1 (Wp.bind q) hJ hws fun D ds vv μ' G' H' S' nf l' s' t' hD nm ng r q => ?_
  exact q _ _ _ (Le.refl _) (same_upd ng) (t'.adoptG hD nm ng nf) _ (.lst upd_same (r.mono (Le.refl _) (same_upd ng)))
theorem compN_of {σv : L2.St} {H : Hp} {Q : VK} (hws : ∀ i ∈ ws, i ∈ own.map (·.2)) (q : tOf Γ W (eCompN fi h t f (own.map (·.2))) σv H Q) : tLc (tiOf Γ W fi) (tgOf Γ h ws) (ttOf Γ W0 t) (tOf Γ W0 f) (own.map (·.2)) σv H Q := by
  obtain ⟨F, μ, G, σ, S, hσ, hs, q⟩ := q
  refine ⟨F, μ, G, σ, S, hσ, hs, (Wp.bind q).imp fun p μ1 G1 H1 S1 l s t1 q J hJ => ?_⟩
  refine lc_run (hσ.mono l s) t1 (Wp.bind q) hJ hws fun D ds vv μ' G' H' S' nf l' s' t' hD nm ng r q => ?_
  exact q _ _ _ (Le.push _ _) (Same.refl _) (t'.adoptC (.lst ds) hD nm ng nf ⟨vv, hD, r.mono (Le.push _ _) (Same.refl _)⟩) _ (.cell (by rw [← t'.len]; simp))
abbrev BlkEnv (X : Cx) (scope : Scope) (P : Cx → Prop) : Prop := ∀ (s : Shared) (H : Hp) (C : Addr) (cl : List (Str × Addr)) (fp : List Addr), P (X.blk s H scope (compEnvC scope cl C X.env) fp)
theorem ve_comp (hc : X.calm = true) (hN : X.N.Nodup) (hi : VI X Γ W tg iter fi) (ok : BlkOk X.N X.env.scope scope own)
    (hg : BlkEnv X scope fun Y => VG Y Γ tg h ws) (ht : BlkEnv X scope fun Y => PTs Y ifs (ttOf Γ W0 t)) (he : BlkEnv X scope fun Y => VE Y Γ W0 elt f)
    (hws : ∀ i ∈ ws, i ∈ own.map (·.2) := by decide) (hs : ∀ x, foldedSetIterable iter X.env x = pure x := by intro _; rfl) : VE X Γ W (.ListComp elt [⟨tg, iter, ifs, 0⟩] scope pos) (eComp fi h t f (own.map (·.2))) :=
  PE.imp (pe_lc hc hN hi ok hg ht he hs) fun _ _ _ q => comp_of hws q
theorem ve_compN (hc : X.calm = true) (hN : X.N.Nodup) (hi : VI X Γ W tg iter fi) (ok : BlkOk X.N X.env.scope scope own)
    (hg : BlkEnv X scope fun Y => VG Y Γ tg h ws) (ht : BlkEnv X scope fun Y => PTs Y ifs (ttOf Γ W0 t)) (he : BlkEnv X scope fun Y => VE Y Γ W0 elt f)
    (hws : ∀ i ∈ ws, i ∈ own.map (·.2) := by decide) (hs : ∀ x, foldedSetIterable iter X.env x = pure x := by intro _; rfl) : VE X Γ W (.ListComp elt [⟨tg, iter, ifs, 0⟩] scope pos) (eCompN fi h t f (own.map (·.2))) :=
  PE.imp (pe_lc hc hN hi ok hg ht he hs) fun _ _ _ q => compN_of hws q
/-- name = [..] on one line -/
theorem vs_setLc {i : Nat} {y : Str} {py spos : Pos} (hc : X.calm = true) (hN : X.N.Nodup) (hi : VI X Γ W tg iter fi) (ok : BlkOk X.N X.env.scope scope own)
    (hg : BlkEnv X scope fun Y => VG Y Γ tg h ws) (ht : BlkEnv X scope fun Y => PTs Y ifs (ttOf Γ W0 t)) (he : BlkEnv X scope fun Y => VE Y Γ W0 elt f)
    (hsw : swapsWith (.ListComp elt [⟨tg, iter, ifs, 0⟩] scope pos) (some (.Name y py)) spos.line X.env = pure true) (hy : X.N[i]? = some y := by rfl) (hyl : X.env.scope.names.lookup y = some .local := by rfl)
    (hws : ∀ i ∈ ws, i ∈ own.map (·.2) := by decide) (hs : ∀ x, foldedSetIterable iter X.env x = pure x := by intro _; rfl) :
    VS X Γ W (.Assign [.Name y py] (.ListComp elt [⟨tg, iter, ifs, 0⟩] scope pos) spos) (sAsg i (eComp fi h t f (own.map (·.2)))) := by
  refine PS.imp (ps_setLc hc hN hy hyl hsw hi ok hg ht he hs) fun D σv H ⟨F, μ, G, σ, S, hσ, hs, q⟩ => comp_of hws ?_
  exact tOf.at hσ hs (Wps.of (H := H) (S := S) q hσ) fun v μ1 G1 H1 S1 vv l s t r q => q _ _ _ (Le.refl _) (Same.refl _) t _ ((hσ.mono l s).set r i)
theorem vs_setLcN {i : Nat} {y : Str} {py spos : Pos} (hc : X.calm = true) (hN : X.N.Nodup) (hi : VI X Γ W tg iter fi) (ok : BlkOk X.N X.env.scope scope own)
    (hg : BlkEnv X scope fun Y => VG Y Γ tg h ws) (ht : BlkEnv X scope fun Y => PTs Y ifs (ttOf Γ W0 t)) (he : BlkEnv X scope fun Y => VE Y Γ W0 elt f)
    (hsw : swapsWith (.ListComp elt [⟨tg, iter, ifs, 0⟩] scope pos) (some (.Name y py)) spos.line X.env = pure true) (hy : X.N[i]? = some y := by rfl) (hyl : X.env.scope.names.lookup y = some .local := by rfl)
    (hws : ∀ i ∈ ws, i ∈ own.map (·.2) := by decide) (hs : ∀ x, foldedSetIterable iter X.env x = pure x := by intro _; rfl) :
    VS X Γ W (.Assign [.Name y py] (.ListComp elt [⟨tg, iter, ifs, 0⟩] scope pos) spos) (sAsg i (eCompN fi h t f (own.map (·.2)))) := by
  refine PS.imp (ps_setLc hc hN hy hyl hsw hi ok hg ht he hs) fun D σv H ⟨F, μ, G, σ, S, hσ, hs, q⟩ => compN_of hws ?_
  exact tOf.at hσ hs (Wps.of (H := H) (S := S) q hσ) fun v μ1 G1 H1 S1 vv l s t r q => q _ _ _ (Le.refl _) (Same.refl _) t _ ((hσ.mono l s).set r i)
end
end Ev

/-! Ev, the rules, part 6: defs and their calls. -/
namespace Ev
open PySem PySem.Spec PyProof.Rows L2

/-! ### what is cleared away behind a call -/
mutual
/-- all handles are below n -/
def hb (n : Nat) : D → Bool
  | .cell k => decide (k < n)
  | .tup ds => hbs n ds
  | .lst ds => hbs n ds
  | _ => true
def hbs (n : Nat) : List D → Bool
  | [] => true
  | d :: r => hb n d && hbs n r
end
def hbC (n : Nat) : C → Bool
  | .lst ds => hbs n ds
  | .ins _ fs => hbs n (fs.map (·.2))
  | .dct kvs => hbs n (kvs.map (·.2))
theorem hbs_all {n : Nat} : ∀ {ds : List D}, hbs n ds = true ↔ ∀ d ∈ ds, hb n d = true
  | [] => by simp [hbs]
  | d :: r => by simp [hbs, hbs_all (ds := r)]
section
variable {K : PySem.W.Frag} {μ μ0 : List Addr} {G : Hp}
mutual
theorem VR.down' {n : Nat} (hn : ∀ k a, k < n → μ[k]? = some a → μ0[k]? = some a) : ∀ {d : D} {v : V}, VR K μ G d v → hb n d = true → VR K μ0 G d v
  | _, _, .non, h => .non
  | _, _, .bl b, h => .bl b
  | _, _, .int i, h => .int i
  | _, _, .str x, h => .str x
  | _, _, .tup e r, h => .tup e (VRs.down' hn r (by simpa [hb] using h))
  | _, _, .lst e r, h => .lst e (VRs.down' hn r (by simpa [hb] using h))
  | _, _, .scr e, h => .scr e
  | _, _, .cell e, h => .cell (hn _ _ (by simpa [hb] using h) e)
theorem VRs.down' {n : Nat} (hn : ∀ k a, k < n → μ[k]? = some a → μ0[k]? = some a) : ∀ {ds : List D} {vs : List V}, VRs K μ G ds vs → hbs n ds = true → VRs K μ0 G ds vs
  | _, _, .nil, h => .nil
  | _, _, .cons r s, h => by
    simp only [hbs, Bool.and_eq_true] at h
    exact .cons (VR.down' hn r h.1) (VRs.down' hn s h.2)
end
theorem VR.down {n : Nat} {d : D} {v : V} (r : VR K μ G d v) (hn : ∀ k a, k < n → μ[k]? = some a → μ0[k]? = some a) (h : hb n d = true) : VR K μ0 G d v := VR.down' hn r h
theorem VRs.down {n : Nat} {ds : List D} {vs : List V} (r : VRs K μ G ds vs) (hn : ∀ k a, k < n → μ[k]? = some a → μ0[k]? = some a) (h : hbs n ds = true) : VRs K μ0 G ds vs := VRs.down' hn r h
mutual
theorem VR.hb : ∀ {d : D} {v : V}, VR K μ G d v → hb μ.length d = true
  | _, _, .non => rfl
  | _, _, .bl b => rfl
  | _, _, .int i => rfl
  | _, _, .str x => rfl
  | _, _, .tup e r => by simpa [Ev.hb] using VRs.hb r
  | _, _, .lst e r => by simpa [Ev.hb] using VRs.hb r
  | _, _, .scr e => rfl
  | _, _, .cell e => by simpa [Ev.hb] using (List.getElem?_eq_some_iff.mp e).1
theorem VRs.hb : ∀ {ds : List D} {vs : List V}, VRs K μ G ds vs → hbs μ.length ds = true
  | _, _, .nil => rfl
  | _, _, .cons r s => by simp [Ev.hbs, VR.hb r, VRs.hb s]
end
theorem FR.down {κ : Type} {n : Nat} (hn : ∀ k a, k < n → μ[k]? = some a → μ0[k]? = some a) {fs : List (κ × D)} {fv : List (κ × V)} (h : hbs n (fs.map (·.2)) = true) (r : FR K μ G fs fv) : FR K μ0 G fs fv := by
  induction r with
  | nil => exact .nil
  | cons r _ ih =>
    simp only [List.map_cons, hbs, Bool.and_eq_true] at h
    exact .cons (r.down hn h.1) (ih h.2)
theorem FR.hb {κ : Type} {fs : List (κ × D)} {fv : List (κ × V)} (r : FR K μ G fs fv) : hbs μ.length (fs.map (·.2)) = true := by
  induction r with
  | nil => rfl
  | cons r _ ih => simp [Ev.hbs, r.hb, ih]
end
theorem CR.hb {Γ : Gm} {μ : List Addr} {G H : Hp} {c : C} {a : Addr} (h : CR Γ μ G H c a) : hbC μ.length c = true := by
  cases c with
  | lst ds => obtain ⟨vs, _, h2⟩ := h; exact h2.hb
  | ins c fs => obtain ⟨dx, fv, _, h2⟩ := h; exact h2.hb
  | dct kvs => obtain ⟨kv, _, h2⟩ := h; exact h2.hb
theorem CR.down {Γ : Gm} {μ μ0 : List Addr} {G H : Hp} {c : C} {a : Addr} {n : Nat} (hn : ∀ k a, k < n → μ[k]? = some a → μ0[k]? = some a) (h : CR Γ μ G H c a) (hc : hbC n c = true) : CR Γ μ0 G H c a := by
  cases c with
  | lst ds => obtain ⟨vs, h1, h2⟩ := h; exact ⟨vs, h1, h2.down hn hc⟩
  | ins c fs => obtain ⟨dx, fv, h1, h2⟩ := h; exact ⟨dx, fv, h1, h2.down hn hc⟩
  | dct kvs => obtain ⟨kv, h1, h2⟩ := h; exact ⟨kv, h1, h2.down hn hc⟩
/-- behind a call that began at S, the value v2 in S2 may be told as v1 in S1 -/
def Cl (S : Sto) (v2 : D) (S2 : Sto) (v1 : D) (S1 : Sto) : Prop :=
  ∀ (Γ : Gm) (F : Hp) (μ0 : List Addr) (G0 H0 : Hp) (μ : List Addr) (G H : Hp) (vv : V), Sit Γ F μ0 G0 H0 S → Le μ0 μ → Same G0 G → Sit Γ F μ G H S2 → VR Γ.K μ G v2 vv →
    ∃ μ1 G1, Le μ0 μ1 ∧ Same G G1 ∧ Sit Γ F μ1 G1 H S1 ∧ VR Γ.K μ1 G1 v1 vv
theorem Cl.refl (S : Sto) (v : D) (S2 : Sto) : Cl S v S2 v S2 := fun Γ F μ0 G0 H0 μ G H vv t0 l s t r => ⟨μ, G, l, Same.refl _, t, r⟩
theorem Le.take {μ0 μ : List Addr} (l : Le μ0 μ) {n : Nat} (h : μ0.length ≤ n) : Le μ0 (μ.take n) := fun k a e => by
  have hk := (List.getElem?_eq_some_iff.mp e).1
  rw [List.getElem?_take_of_lt (by omega)]
  exact l k a e
theorem take_down {μ : List Addr} {n : Nat} : ∀ k a, k < n → μ[k]? = some a → (μ.take n)[k]? = some a := fun k a hk e => by
  rw [List.getElem?_take_of_lt hk]; exact e
/-- the later cells are dropped -/
theorem Sit.drop {Γ : Gm} {F : Hp} {μ : List Addr} {G H : Hp} {S J : Sto} (t : Sit Γ F μ G H (S ++ J)) (h : ∀ (k : Nat) (c : C), S[k]? = some (some c) → hbC S.length c = true) : Sit Γ F (μ.take S.length) G H S := by
  have hl := t.len
  rw [List.length_append] at hl
  refine ⟨t.sub, t.frm, fun a ha => t.fmu a (List.mem_of_mem_take ha), t.fg, by simp; omega, t.nd.sublist (List.take_sublist _ _), fun a ha => t.dom a (List.mem_of_mem_take ha), fun k a c h1 h2 => ?_, fun k c h1 => ?_⟩
  · have hk := (List.getElem?_eq_some_iff.mp h1).1
    rw [List.getElem?_take_of_lt hk] at h2
    exact t.off k a c (by rw [List.getElem?_append_left hk]; exact h1) h2
  · have hk := (List.getElem?_eq_some_iff.mp h1).1
    obtain ⟨a, ha, hc⟩ := t.at_ k c (by rw [List.getElem?_append_left hk]; exact h1)
    exact ⟨a, take_down k a hk ha, hc.down take_down (h k c h1)⟩
theorem Sit.hbs {Γ : Gm} {F : Hp} {μ : List Addr} {G H : Hp} {S : Sto} (t : Sit Γ F μ G H S) (k : Nat) (c : C) (h : S[k]? = some (some c)) : hbC S.length c = true := by
  obtain ⟨a, _, hc⟩ := t.at_ k c h
  rw [← t.len]
  exact hc.hb
/-- what the call has made is dropped; old cells may have changed -/
theorem Cl.drop {S S' J : Sto} {v : D} (hl : S'.length = S.length) (hS : ∀ (k : Nat) (c : C), S'[k]? = some (some c) → S[k]? = some (some c) ∨ hbC S.length c = true) (hv : hb S.length v = true) : Cl S v (S' ++ J) v S' :=
  fun Γ F μ0 G0 H0 μ G H vv t0 l s t r => by
    refine ⟨μ.take S'.length, G, l.take (by rw [hl, t0.len]; exact Nat.le_refl _), Same.refl _, t.drop fun k c h => ?_, r.down (n := S.length) (fun k a hk e => by rw [hl]; exact take_down k a hk e) hv⟩
    rcases hS k c h with h | h
    · rw [hl]; exact t0.hbs k c h
    · rw [hl]; exact h
/-- all is as it was -/
theorem Cl.pure {S J : Sto} {v : D} (hv : hb S.length v = true) : Cl S v (S ++ J) v S := Cl.drop rfl (fun _ _ h => .inl h) hv
/-- the list that comes back never changes from here on -/
theorem Cl.frz {S J : Sto} {j : Nat} {ds : List D} (hj : J[j]? = some (some (.lst ds))) (hv : hb S.length (.lst ds) = true) : Cl S (.cell (S.length + j)) (S ++ J) (.lst ds) S :=
  fun Γ F μ0 G0 H0 μ G H vv t0 l s t r => by
    have hk : (S ++ J)[S.length + j]? = some (some (.lst ds)) := by rw [List.getElem?_append_right (by omega)]; simpa using hj
    obtain ⟨a, G', ha, sg, t', r'⟩ := t.freeze hk
    rw [List.set_append_right _ _ (by omega)] at t'
    have e : vv = .ref a := by
      cases r with
      | cell e => rw [ha] at e; cases e; rfl
    subst e
    have hl := t0.len
    refine ⟨μ.take S.length, G', l.take (by rw [hl]; exact Nat.le_refl _), sg, t'.drop fun k c h => t0.hbs k c h, r'.down (n := S.length) take_down hv⟩
/-- the new thing that comes back is the one new cell -/
theorem Cl.fresh {S J : Sto} {j : Nat} {c : C} (hj : J[j]? = some (some c)) (hc : hbC S.length c = true) : Cl S (.cell (S.length + j)) (S ++ J) (.cell S.length) (S ++ [some c]) :=
  fun Γ F μ0 G0 H0 μ G H vv t0 l s t r => by
    have hk : (S ++ J)[S.length + j]? = some (some c) := by rw [List.getElem?_append_right (by omega)]; simpa using hj
    obtain ⟨a, ha, hcr⟩ := t.at_ _ _ hk
    have e : vv = .ref a := by
      cases r with
      | cell e => rw [ha] at e; cases e; rfl
    subst e
    have hl := t0.len
    have htl : (μ.take S.length).length = S.length := by
      have := t.len
      rw [List.length_append] at this
      rw [List.length_take]; omega
    have td : Sit Γ F (μ.take S.length) G H S := t.drop fun k c h => t0.hbs k c h
    have hg : G a = none := t.off _ a c hk ha
    have hm : a ∉ μ.take S.length := fun z => by
      obtain ⟨i, hi⟩ := List.getElem?_of_mem z
      have hil : i < S.length := by have := (List.getElem?_eq_some_iff.mp hi).1; rw [htl] at this; exact this
      rw [List.getElem?_take_of_lt hil] at hi
      obtain ⟨p1, q1⟩ := List.getElem?_eq_some_iff.mp hi
      obtain ⟨p2, q2⟩ := List.getElem?_eq_some_iff.mp ha
      have := (List.getElem_inj t.nd).mp (q1.trans q2.symm)
      omega
    obtain ⟨o, ho⟩ := hcr.there
    have hcd : CR Γ (μ.take S.length) G H c a := hcr.down take_down hc
    exact ⟨μ.take S.length ++ [a], G, (l.take (by rw [hl]; exact Nat.le_refl _)).trans (Le.push _ _), Same.refl _, td.adoptC c ho hm hg (t.fmu a (List.mem_of_getElem? ha)) (hcd.mono (Le.push _ _) (Same.refl _) fun o e => e),
      .cell (by rw [List.getElem?_append_right (by omega), htl]; simp)⟩

/-! ### defs -/
def spOf (Γ : Gm) (n : Nat) (fn : Fn) : Sp := fun vs H Q E => ∃ F μ G ds S, ds.length = n ∧ VRs Γ.K μ G ds vs ∧ Sit Γ F μ G H S ∧ Wp Γ F E μ G (fn ds S) fun v μ' G' H' _ => ∀ vv, VR Γ.K μ' G' v vv → Q vv H'
/-- a body, run -/
def runB (n : Nat) (body : Sx) : Fn := fun ds S => match body (ds.map some ++ List.replicate (n - ds.length) none) S with
  | .nx _ S' => .ok .non S'
  | .rt v S' => .ok v S'
  | .ex c a _ S' => .ex c a S'
  | _ => .no
/-- an exception's argument holds no handle -/
def plainA : Option D → Bool
  | none => true
  | some (.int _) => true
  | _ => false
/-- what is promised is what the body does -/
def Ref (S : Sto) (r1 r2 : R D) : Prop := match r1 with
  | .no => True
  | .ok v S1 => ∃ v2 S2, r2 = .ok v2 S2 ∧ Cl S v2 S2 v S1
  | .ex c a S1 => ∃ J, r2 = .ex c a (S1 ++ J) ∧ S1 = S ∧ plainA a = true
theorem Ref.no {S : Sto} {r : R D} : Ref S .no r := trivial
theorem Ref.ok {S : Sto} {v v2 : D} {S1 S2 : Sto} {r : R D} (h : r = .ok v2 S2) (c : Cl S v2 S2 v S1) : Ref S (.ok v S1) r := ⟨v2, S2, h, c⟩
theorem Ref.self {S : Sto} {v : D} {S1 : Sto} {r : R D} (h : r = .ok v S1) : Ref S (.ok v S1) r := ⟨v, S1, h, Cl.refl _ _ _⟩
def eFn (n : Nat) (fn : Fn) (a : Ax) : Ex := fun σ S => (a σ S).bind fun ds S1 => if ds.length = n then fn ds S1 else .no
section
variable {P : Program} {w : World} {K : PySem.W.Frag} {mg : Str → Option Value} {base : Heap} {Γ : Gm}
theorem fn_ok {x qual : Str} {st : Stmt} {f : Addr} {fd : FuncData} {N ps : List Str} {k n : Nat} {fn : Fn} {body : Sx} (Fu : FunD K x qual (defArgs st) (defBody st) (defScope st) [] [] f fd) (Sc : FnScope N ps (defScope st)) (hK : Γ.K = K) (hn : ps.length = n)
    (hbody : ∀ (cdv : Value) (A : Around) (outer : List PySem.Env) (s : Shared) (H : Hp) (E : XK), Room k (A.deeper (envOfC qual (defScope st) s.heap.objs.size f cdv)) →
      VSs (cxOf (L2.CX P w) P w K mg base N qual (defScope st) f cdv A outer s H E) Γ (fun c d _ H => E c d H) (defBody st) body)
    (hfn : ∀ ds S, ds.length = n → Ref S (fn ds S) (runB N.length body ds S)) : FnOk P w K mg base (L2.CX P w) (k + 1) f fd ps (spOf Γ n fn) := by
  refine Fu.ok (CX := L2.CX P w) Sc (fun vs H Q E ⟨F, μ, G, ds, S, hl, r, t, q⟩ => by rw [← r.length, hl, hn]) fun cdv A outer s H vs Q E hr ⟨F, μ, G, ds, S, hl, r, t, q⟩ => ⟨_, hbody cdv A outer s H E hr, ?_⟩
  have hr := hfn ds S hl
  have hvl : vs.length = ds.length := r.length.symm
  have hσ : SR Γ.K μ G (ds.map some ++ List.replicate (N.length - ds.length) none) (L2.start N vs) := by
    unfold L2.start
    rw [hvl]
    exact SR.args r _
  refine ⟨F, μ, G, _, S, hσ, t, ?_⟩
  cases hf : fn ds S with
  | no => rw [hf] at q; exact q.elim
  | ok v S1 =>
    rw [hf] at hr q
    obtain ⟨v2, S2, h2, cl⟩ := hr
    unfold runB at h2
    cases hb : body (ds.map some ++ List.replicate (N.length - ds.length) none) S with
    | no => rw [hb] at h2; cases h2
    | nx σ' S' =>
      rw [hb] at h2; cases h2
      intro μ' G' H' l' s' t' σv' _
      obtain ⟨μ1, G1, l1, s1, t1, r1⟩ := cl Γ F μ G H μ' G' H' .non t l' s' t' .non
      exact q μ1 G1 H' l1 (s'.trans s1) t1 .non r1
    | rt v' S' =>
      rw [hb] at h2; cases h2
      intro μ' G' H' l' s' t' vv rr
      obtain ⟨μ1, G1, l1, s1, t1, r1⟩ := cl Γ F μ G H μ' G' H' vv t l' s' t' rr
      exact q μ1 G1 H' l1 (s'.trans s1) t1 vv r1
    | bk σ' S' => rw [hb] at h2; cases h2
    | ct σ' S' => rw [hb] at h2; cases h2
    | ex c a σ' S' => rw [hb] at h2; cases h2
  | ex c a S1 =>
    rw [hf] at hr q
    obtain ⟨J, h2, rfl, pa⟩ := hr
    unfold runB at h2
    cases hb : body (ds.map some ++ List.replicate (N.length - ds.length) none) S1 with
    | no => rw [hb] at h2; cases h2
    | nx σ' S' => rw [hb] at h2; cases h2
    | rt v' S' => rw [hb] at h2; cases h2
    | bk σ' S' => rw [hb] at h2; cases h2
    | ct σ' S' => rw [hb] at h2; cases h2
    | ex c' a' σ' S' =>
      rw [hb] at h2; cases h2
      intro μ' G' H' l' s' t' σv' d _ x
      refine q (μ'.take S1.length) G' H' (l'.take (by rw [t.len]; exact Nat.le_refl _)) s' (t'.drop fun k c h => t.hbs k c h) d ?_
      cases a with
      | none =>
        cases d with
        | none => exact trivial
        | some d => exact x.elim
      | some y =>
        cases y with
        | int i =>
          cases d with
          | none => exact x
          | some d =>
            obtain ⟨va, x1, x2, x3, x4⟩ := x
            cases x2
            exact ⟨_, x1, .int i, fun z => x3 (List.mem_of_mem_take z), x4⟩
        | _ => simp [plainA] at pa
end
section
variable {X : Cx} {Γ : Gm} {W : WX} {k n : Nat} {f : Addr} {fd : FuncData} {ps : List Str} {fn : Fn} {x : Str} {p pos : Pos} {e : Expr} {es : List Expr} {a : Ax}
theorem fn_of {F : Hp} {μ : List Addr} {G H1 : Hp} {S1 : Sto} {ds : List D} {vs : List V} {Q : VK} {E : XK} (t : Sit Γ F μ G H1 S1) (r : VRs Γ.K μ G ds vs) (q : Wp Γ F E μ G (if ds.length = n then fn ds S1 else .no) fun v μ' G' H' _ => ∀ vv, VR Γ.K μ' G' v vv → Q vv H') : spOf Γ n fn vs H1 Q E := by
  split at q
  · rename_i hl; exact ⟨F, μ, G, ds, S1, hl, r, t, q⟩
  · exact q.elim
theorem ve_call (Fo : FnOk X.prog X.w X.K X.mg X.base (L2.CX X.prog X.w) k f fd ps (spOf Γ n fn)) (hr : Room k X.A) (hm : X.mg x = some (.ref f)) (hk : PySem.W.keepIn X.K (.ref f) = true) (hb : Binds X.K fd ps []) (tk : Takes X W) (ha : VA X Γ W (e :: es) a) (hg : Gl X x := by rfl)
    (hdb : (x == ("__debug__" : Str)) = false := by decide) (he : starEach (e :: es) X.env = (false, eval e X.env) :: starEach es X.env := by rfl) (hpl : (backTo pos (starEach es X.env)).any (·.1) = false := by rfl) :
    VE X Γ W (.Call (.Name x p) (e :: es) [] pos) (eFn n fn a) := by
  refine PE.imp (pe_callS Fo hr hg hm hk hb (fun σ => passAt tk σ) ha hdb he hpl) fun σv H Q ⟨F, μ, G, σ, S, hσ, hs, h⟩ => ?_
  exact taOf.at hσ hs (Wp.bind h) fun vs μ1 G1 H1 S1 vv l s t r q => fn_of t r q
theorem ve_call0 (Fo : FnOk X.prog X.w X.K X.mg X.base (L2.CX X.prog X.w) k f fd ps (spOf Γ n fn)) (hr : Room k X.A) (hm : X.mg x = some (.ref f)) (hk : PySem.W.keepIn X.K (.ref f) = true) (hb : Binds X.K fd ps []) (tk : Takes X W) (hg : Gl X x := by rfl)
    (hdb : (x == ("__debug__" : Str)) = false := by decide) : VE X Γ W (.Call (.Name x p) [] [] pos) (eFn n fn aNil) := by
  refine ⟨fun pins s σv H Q I ⟨F, μ, G, σ, S, hσ, hs, h⟩ => ?_⟩
  refine wpAny_Call_Name_kw (ld_glob I hg hm ?_ hdb)
  exact PySem.W.callWith_K0 I.kIn hk (run_fnS (us := []) Fo hr hb (passAt tk σv) I .nil (fn_of hs .nil h))
theorem takes00 {X : Cx} : Takes X W0 := takes0
end
/-- the def x (or the method m of the class x) keeps the promise fn, k calls deep -/
structure Has (P : Program) (w : World) (K : PySem.W.Frag) (mg : Str → Option Value) (base : Heap) (Γ : Gm) (k : Nat) (x : Str) (m : Option Str) (ps : List Str) (n : Nat) (fn : Fn) : Prop where
  ex : ∃ fd, FnOk P w K mg base (L2.CX P w) k (He.fAd K (x, m)) fd ps (spOf Γ n fn) ∧ Binds K fd ps []
  kp : PySem.W.keepIn K (.ref (He.fAd K (x, m))) = true
section
variable {P : Program} {w : World} {K : PySem.W.Frag} {mg : Str → Option Value} {base : Heap} {Γ : Gm} {k j n : Nat} {x : Str} {m : Option Str} {ps : List Str} {fn : Fn}
theorem Has.mono (h : Has P w K mg base Γ j x m ps n fn) (l : j ≤ k) : Has P w K mg base Γ k x m ps n fn := by
  obtain ⟨⟨fd, F, b⟩, kp⟩ := h
  exact ⟨⟨fd, F.mono l, b⟩, kp⟩
/-- where a def stands -/
structure At (K : PySem.W.Frag) (x : Str) (m : Option Str) (nm qual : Str) (st : Stmt) (ps : List Str) : Prop where
  ex : ∃ fd, FunD K nm qual (defArgs st) (defBody st) (defScope st) [] [] (He.fAd K (x, m)) fd ∧ Binds K fd ps []
/-- nothing is promised -/
theorem Has.none {nm qual : Str} {st : Stmt} (a : At K x m nm qual st ps) (h : ∀ ds S, fn ds S = .no) : Has P w K mg base Γ 0 x m ps n fn := by
  obtain ⟨fd, F, b⟩ := a.ex
  refine ⟨⟨fd, ⟨fun vs H Q E ⟨F, μ, G, ds, S, hl, r, t, q⟩ => ?_, fun A outer s H args us vs Q E hr he hb hv ⟨F, μ, G, ds, S, hl, r, t, q⟩ => ?_⟩, b⟩, F.kp⟩
  · rw [h] at q; exact q.elim
  · rw [h] at q; exact q.elim
theorem Has.of {nm qual : Str} {st : Stmt} {N : List Str} {body : Sx} (a : At K x m nm qual st ps) (Sc : FnScope N ps (defScope st)) (hK : Γ.K = K) (hn : ps.length = n)
    (hbody : ∀ (cdv : Value) (A : Around) (outer : List PySem.Env) (s : Shared) (H : Hp) (E : XK), Room k (A.deeper (envOfC qual (defScope st) s.heap.objs.size (He.fAd K (x, m)) cdv)) →
      VSs (cxOf (L2.CX P w) P w K mg base N qual (defScope st) (He.fAd K (x, m)) cdv A outer s H E) Γ (fun c d _ H => E c d H) (defBody st) body)
    (hfn : ∀ ds S, ds.length = n → Ref S (fn ds S) (runB N.length body ds S)) : Has P w K mg base Γ (k + 1) x m ps n fn := by
  obtain ⟨fd, F, b⟩ := a.ex
  exact ⟨⟨fd, fn_ok F Sc hK hn hbody hfn, b⟩, F.kp⟩
/-- another promise that asks more -/
theorem Has.imp {fn' : Fn} (h : Has P w K mg base Γ k x m ps n fn) (hf : ∀ ds S, fn' ds S = .no ∨ fn' ds S = fn ds S) : Has P w K mg base Γ k x m ps n fn' := by
  obtain ⟨⟨fd, F, b⟩, kp⟩ := h
  refine ⟨⟨fd, F.imp fun vs H Q E ⟨F, μ, G, ds, S, hl, r, t, q⟩ => ⟨F, μ, G, ds, S, hl, r, t, ?_⟩, b⟩, kp⟩
  rcases hf ds S with e | e
  · rw [e] at q; exact q.elim
  · rw [e] at q; exact q
end
section
variable {X : Cx} {Γ : Gm} {W : WX} {k n : Nat} {ps : List Str} {fn : Fn} {x : Str} {p pos : Pos} {e : Expr} {es : List Expr} {a : Ax}
theorem Has.call (h : Has X.prog X.w X.K X.mg X.base Γ k x .none ps n fn) (hm : X.mg x = some (.ref (He.ga X.K x))) (hr : Room k X.A) (tk : Takes X W) (ha : VA X Γ W (e :: es) a) (hg : Gl X x := by rfl)
    (hdb : (x == ("__debug__" : Str)) = false := by decide) (he : starEach (e :: es) X.env = (false, eval e X.env) :: starEach es X.env := by rfl) (hpl : (backTo pos (starEach es X.env)).any (·.1) = false := by rfl) :
    VE X Γ W (.Call (.Name x p) (e :: es) [] pos) (eFn n fn a) := by
  obtain ⟨⟨fd, F, b⟩, kp⟩ := h
  exact ve_call F hr hm kp b tk ha hg hdb he hpl
theorem Has.call0 (h : Has X.prog X.w X.K X.mg X.base Γ k x .none ps n fn) (hm : X.mg x = some (.ref (He.ga X.K x))) (hr : Room k X.A) (tk : Takes X W) (hg : Gl X x := by rfl)
    (hdb : (x == ("__debug__" : Str)) = false := by decide) : VE X Γ W (.Call (.Name x p) [] [] pos) (eFn n fn aNil) := by
  obtain ⟨⟨fd, F, b⟩, kp⟩ := h
  exact ve_call0 F hr hm kp b tk hg hdb
theorem ve_isT_ (T : String) (hT : ∀ n ∈ tyNames, kitB n T = some (n == T || (n == "bool" && T == "int"))) (hv : bootBuiltins (Str.ofString T) = some (.type T)) (hn : (Str.ofString T) ≠ "__name__") (hd : ((Str.ofString T) == ("__debug__" : Str)) = false)
    {f : Ex} {p2 : Pos} (hm : X.mg (Str.ofString T) = none) (hmi : X.mg "isinstance" = none) (hc : VE X Γ W e f) (hg : Gl X (Str.ofString T)) (hgi : Gl X "isinstance") (hK : X.K = Γ.K)
    (hs : starEach (e :: [.Name (Str.ofString T) p2]) X.env = (false, eval e X.env) :: starEach [.Name (Str.ofString T) p2] X.env) :
    VE X Γ W (.Call (.Name "isinstance" p) [e, .Name (Str.ofString T) p2] [] pos) (op1 (gIsT T) f) := ve_isT hc hT hv hm hmi hg hgi hn hd hK hs
theorem ve_isT_str {f : Ex} {p2 : Pos} (hm : X.mg "str" = none) (hmi : X.mg "isinstance" = none) (hc : VE X Γ W e f) (hg : Gl X "str" := by rfl) (hgi : Gl X "isinstance" := by rfl) (hK : X.K = Γ.K := by rfl) (hs : starEach (e :: [.Name "str" p2]) X.env = (false, eval e X.env) :: starEach [.Name "str" p2] X.env := by rfl) :
    VE X Γ W (.Call (.Name "isinstance" p) [e, .Name "str" p2] [] pos) (op1 (gIsT "str") f) := ve_isT_ "str" (by decide +kernel) (by decide +kernel) (by decide +kernel) (by decide +kernel) hm hmi hc hg hgi hK hs
theorem ve_isT_int {f : Ex} {p2 : Pos} (hm : X.mg "int" = none) (hmi : X.mg "isinstance" = none) (hc : VE X Γ W e f) (hg : Gl X "int" := by rfl) (hgi : Gl X "isinstance" := by rfl) (hK : X.K = Γ.K := by rfl) (hs : starEach (e :: [.Name "int" p2]) X.env = (false, eval e X.env) :: starEach [.Name "int" p2] X.env := by rfl) :
    VE X Γ W (.Call (.Name "isinstance" p) [e, .Name "int" p2] [] pos) (op1 (gIsT "int") f) := ve_isT_ "int" (by decide +kernel) (by decide +kernel) (by decide +kernel) (by decide +kernel) hm hmi hc hg hgi hK hs
theorem ve_isT_bool {f : Ex} {p2 : Pos} (hm : X.mg "bool" = none) (hmi : X.mg "isinstance" = none) (hc : VE X Γ W e f) (hg : Gl X "bool" := by rfl) (hgi : Gl X "isinstance" := by rfl) (hK : X.K = Γ.K := by rfl) (hs : starEach (e :: [.Name "bool" p2]) X.env = (false, eval e X.env) :: starEach [.Name "bool" p2] X.env := by rfl) :
    VE X Γ W (.Call (.Name "isinstance" p) [e, .Name "bool" p2] [] pos) (op1 (gIsT "bool") f) := ve_isT_ "bool" (by decide +kernel) (by decide +kernel) (by decide +kernel) (by decide +kernel) hm hmi hc hg hgi hK hs
theorem ve_isT_list {f : Ex} {p2 : Pos} (hm : X.mg "list" = none) (hmi : X.mg "isinstance" = none) (hc : VE X Γ W e f) (hg : Gl X "list" := by rfl) (hgi : Gl X "isinstance" := by rfl) (hK : X.K = Γ.K := by rfl) (hs : starEach (e :: [.Name "list" p2]) X.env = (false, eval e X.env) :: starEach [.Name "list" p2] X.env := by rfl) :
    VE X Γ W (.Call (.Name "isinstance" p) [e, .Name "list" p2] [] pos) (op1 (gIsT "list") f) := ve_isT_ "list" (by decide +kernel) (by decide +kernel) (by decide +kernel) (by decide +kernel) hm hmi hc hg hgi hK hs
theorem ve_isT_tuple {f : Ex} {p2 : Pos} (hm : X.mg "tuple" = none) (hmi : X.mg "isinstance" = none) (hc : VE X Γ W e f) (hg : Gl X "tuple" := by rfl) (hgi : Gl X "isinstance" := by rfl) (hK : X.K = Γ.K := by rfl) (hs : starEach (e :: [.Name "tuple" p2]) X.env = (false, eval e X.env) :: starEach [.Name "tuple" p2] X.env := by rfl) :
    VE X Γ W (.Call (.Name "isinstance" p) [e, .Name "tuple" p2] [] pos) (op1 (gIsT "tuple") f) := ve_isT_ "tuple" (by decide +kernel) (by decide +kernel) (by decide +kernel) (by decide +kernel) hm hmi hc hg hgi hK hs
end
end Ev

/-! Ev, how the evaluator is run: rows for simp. -/
namespace Ev
open PySem PySem.Spec PyProof.Rows L2

/-! ### the store -/
section
variable {S L : Sto} {k : Nat} {c : Option C}
@[simp] theorem get_app0 : (S ++ L)[S.length]? = L[0]? := by rw [List.getElem?_append_right (Nat.le_refl _)]; simp
@[simp] theorem get_app : (S ++ L)[S.length + k]? = L[k]? := by rw [List.getElem?_append_right (by omega)]; simp
@[simp] theorem set_app0 : (S ++ L).set S.length c = S ++ L.set 0 c := by rw [List.set_append_right _ _ (Nat.le_refl _)]; simp
@[simp] theorem set_app : (S ++ L).set (S.length + k) c = S ++ L.set k c := by rw [List.set_append_right _ _ (by omega)]; simp
theorem get_old {x : Option C} (h : S[k]? = some x) : (S ++ L)[k]? = some x := by
  rw [List.getElem?_append_left (List.getElem?_eq_some_iff.mp h).1]; exact h
theorem set_old (h : k < S.length) : (S ++ L).set k c = S.set k c ++ L := by rw [List.set_append_left _ _ h]
end
section
variable {σ : Env} {S : Sto}
/-! ### expressions -/
@[simp] theorem eVar_eq (i : Nat) : eVar i σ S = match σ[i]? with
  | some (some d) => .ok d S
  | _ => .no := rfl
@[simp] theorem eC_eq (d : D) : eC d σ S = .ok d S := rfl
@[simp] theorem aNil_eq : aNil σ S = .ok [] S := rfl
@[simp] theorem aCons_eq (f : Ex) (g : Ax) : aCons f g σ S = (f σ S).bind fun d S1 => (g σ S1).bind fun ds S2 => .ok (d :: ds) S2 := rfl
@[simp] theorem eTup_eq (a : Ax) : eTup a σ S = (a σ S).bind fun ds S1 => if ds.length ≤ 1000 then .ok (.tup ds) S1 else .no := rfl
@[simp] theorem eLst_eq (a : Ax) : eLst a σ S = (a σ S).bind fun ds S1 => if ds.length ≤ 1000 then .ok (.lst ds) S1 else .no := rfl
@[simp] theorem eNew_eq (a : Ax) : eNew a σ S = (a σ S).bind fun ds S1 => if ds.length ≤ 1000 then .ok (.cell S1.length) (S1 ++ [some (.lst ds)]) else .no := rfl
@[simp] theorem eFrz_eq (f : Ex) : eFrz f σ S = (f σ S).bind frzD := rfl
@[simp] theorem frzD_cell (k : Nat) : frzD (.cell k) S = match S[k]? with
    | some (some (.lst ds)) => .ok (.lst ds) (S.set k none)
    | _ => .no := rfl
@[simp] theorem frzD_lst (ds : List D) : frzD (.lst ds) S = .ok (.lst ds) S := rfl
@[simp] theorem frzD_tup (ds : List D) : frzD (.tup ds) S = .ok (.tup ds) S := rfl
@[simp] theorem op1_eq (g : D → Sto → R D) (f : Ex) : op1 g f σ S = (f σ S).bind g := rfl
@[simp] theorem op2_eq (g : D → D → Sto → R D) (f1 f2 : Ex) : op2 g f1 f2 σ S = (f1 σ S).bind fun x S1 => (f2 σ S1).bind fun y S2 => g x y S2 := rfl
@[simp] theorem tTst_eq (f : Ex) : tTst f σ S = (f σ S).bind fun v S1 => match v with
  | .bl b => .ok b S1
  | _ => .no := rfl
@[simp] theorem tAnd_eq (f g : Tx) : tAnd f g σ S = (f σ S).bind fun b S1 => if b = true then g σ S1 else .ok false S1 := rfl
@[simp] theorem tOr_eq (f g : Tx) : tOr f g σ S = (f σ S).bind fun b S1 => if b = true then .ok true S1 else g σ S1 := rfl
@[simp] theorem tNot_eq (f : Tx) : tNot f σ S = (f σ S).bind fun b S1 => .ok (!b) S1 := rfl
@[simp] theorem tYes_eq : tYes σ S = .ok true S := rfl
@[simp] theorem eAnd_eq (f g : Ex) : eAnd f g σ S = (f σ S).bind fun v S1 => match v with
  | .bl b => if b = true then g σ S1 else .ok (.bl false) S1
  | _ => .no := rfl
@[simp] theorem eOr_eq (f g : Ex) : eOr f g σ S = (f σ S).bind fun v S1 => match v with
  | .bl b => if b = true then .ok (.bl true) S1 else g σ S1
  | _ => .no := rfl
@[simp] theorem gNot_bl (b : Bool) : gNot (.bl b) S = .ok (.bl (!b)) S := rfl
@[simp] theorem eIf_eq (t : Tx) (f g : Ex) : eIf t f g σ S = (t σ S).bind fun b S1 => if b = true then f σ S1 else g σ S1 := rfl
@[simp] theorem eSl_eq (g : D → Option Int → Option Int → Sto → R D) (f : Ex) (lo hi : Ox) : eSl g f lo hi σ S = (f σ S).bind fun x S1 => (lo σ S1).bind fun l S2 => (hi σ S2).bind fun h S3 => g x l h S3 := rfl
@[simp] theorem oN_eq : oN σ S = .ok none S := rfl
@[simp] theorem oS_eq (f : Ex) : oS f σ S = (f σ S).bind fun v S1 => match v with
  | .int i => .ok (some i) S1
  | _ => .no := rfl
@[simp] theorem eCall_eq (g : List D → Sto → R D) (a : Ax) : eCall g a σ S = (a σ S).bind g := rfl
@[simp] theorem eFn_eq (n : Nat) (fn : Fn) (a : Ax) : eFn n fn a σ S = (a σ S).bind fun ds S1 => if ds.length = n then fn ds S1 else .no := rfl
@[simp] theorem eMeth_eq (T : String) (g : D → List D → Sto → R D) (f : Ex) (a : Ax) : eMeth T g f a σ S = (f σ S).bind fun x S1 => if isTy T x S1 = true then (a σ S1).bind fun ys S2 => g x ys S2 else .no := rfl
/-! ### statements -/
@[simp] theorem sSeq_eq (f g : Sx) : sSeq f g σ S = match f σ S with
  | .nx σ' S' => g σ' S'
  | r => r := rfl
@[simp] theorem sNil_eq : sNil σ S = .nx σ S := rfl
@[simp] theorem sExp_eq (f : Ex) : sExp f σ S = SO.of (f σ S) σ fun _ S1 => .nx σ S1 := rfl
@[simp] theorem sRet_eq (f : Ex) : sRet f σ S = SO.of (f σ S) σ fun v S1 => .rt v S1 := rfl
@[simp] theorem sRetN_eq : sRetN σ S = .rt .non S := rfl
@[simp] theorem sIf_eq (t : Tx) (f g : Sx) : sIf t f g σ S = SO.of (t σ S) σ fun b S1 => if b = true then f σ S1 else g σ S1 := rfl
@[simp] theorem sAsg_eq (i : Nat) (f : Ex) : sAsg i f σ S = SO.of (f σ S) σ fun v S1 => .nx (σ.set i (some v)) S1 := rfl
@[simp] theorem sNo_eq : sNo σ S = .no := rfl
@[simp] theorem sBrk_eq : sBrk σ S = .bk σ S := rfl
@[simp] theorem sCnt_eq : sCnt σ S = .ct σ S := rfl
@[simp] theorem sFrz_eq (i : Nat) : sFrz i σ S = match σ[i]? with
  | some (some d) => SO.of (frzD d S) σ fun v S1 => .nx (σ.set i (some v)) S1
  | _ => .no := rfl
@[simp] theorem sTgt_eq (h : Hx) (f : Ex) : sTgt h f σ S = SO.of (f σ S) σ fun v S1 => match h v σ with
  | some σ' => .nx σ' S1
  | none => .no := rfl
@[simp] theorem sIx_eq (fv fo fi : Ex) : sIx fv fo fi σ S = SO.of (fv σ S) σ fun v S1 => SO.of (fo σ S1) σ fun o S2 => SO.of (fi σ S2) σ fun i S3 => match o, i with
  | .cell k, .int n => (match S3[k]? with
    | some (some (.lst ds)) => (match ixN ds.length n with
      | some j => .nx σ (S3.set k (some (.lst (ds.set j v))))
      | none => .no)
    | _ => .no)
  | _, _ => .no := rfl
@[simp] theorem sAug_eq (i : Nat) (g : D → D → Sto → R D) (f : Ex) : sAug i g f σ S = match σ[i]? with
  | some (some x) => SO.of (f σ S) σ fun y S1 => SO.of (g x y S1) σ fun z S2 => .nx (σ.set i (some z)) S2
  | _ => .no := rfl
@[simp] theorem hName_eq (i : Nat) (d : D) : hName i d σ = some (σ.set i (some d)) := rfl
@[simp] theorem hNil_eq : hNil [] σ = some σ := rfl
@[simp] theorem hCons_eq (h : Hx) (hs : Hxs) (d : D) (r : List D) : hCons h hs (d :: r) σ = (h d σ).bind fun σ' => hs r σ' := rfl
@[simp] theorem hTup_eq (n : Nat) (hs : Hxs) (ds : List D) : hTup n hs (.tup ds) σ = if ds.length = n then hs ds σ else none := rfl
@[simp] theorem sFor_eq (fi : Ix) (h : Hx) (body : Sx) : sFor fi h body σ S = SO.of (fi σ S) σ fun p S1 => forL p.1 h body p.2 σ S1 := rfl
@[simp] theorem iL_eq (f : Ex) : iL f σ S = (f σ S).bind fun d S1 => match itL d S1 with
  | some p => .ok p S1
  | none => .no := rfl
@[simp] theorem iT_eq (f : Ex) : iT f σ S = (f σ S).bind fun d S1 => match d with
  | .tup ds => .ok (still, ds) S1
  | _ => .no := rfl
@[simp] theorem iStr_eq (f : Ex) : iStr f σ S = (f σ S).bind fun d S1 => match d with
  | .str x => .ok (still, x.cps.toList.map fun c => .str ⟨#[c]⟩) S1
  | _ => .no := rfl
@[simp] theorem iEnum_eq (f : Ex) : iEnum f σ S = (f σ S).bind fun d S1 => match itL d S1 with
  | some p => .ok (p.1, pairsFrom 0 p.2) S1
  | none => .no := rfl
@[simp] theorem iRev_eq (f : Ex) : iRev f σ S = (f σ S).bind fun d S1 => match itL d S1 with
  | some p => .ok (p.1, p.2.reverse) S1
  | none => .no := rfl
@[simp] theorem iR1_eq (f : Ex) : iR1 f σ S = (f σ S).bind fun d S1 => match d with
  | .int j => cif (-4611686018427387904 ≤ j ∧ j < 4611686018427387904) (.ok (still, intsD 0 j.toNat) S1) .no
  | _ => .no := rfl
@[simp] theorem iR2_eq (f g : Ex) : iR2 f g σ S = (f σ S).bind fun d S1 => (g σ S1).bind fun e S2 => match d, e with
  | .int i, .int j => cif (-4611686018427387904 ≤ i ∧ i < 4611686018427387904 ∧ -4611686018427387904 ≤ j ∧ j < 4611686018427387904) (.ok (still, intsD i (j - i).toNat) S2) .no
  | _, _ => .no := rfl
@[simp] theorem itL_lst (ds : List D) : itL (.lst ds) S = some (still, ds) := rfl
@[simp] theorem itL_cell (k : Nat) : itL (.cell k) S = match S[k]? with
    | some (some (.lst ds)) => some (fun S => S[k]? = some (some (.lst ds)), ds)
    | _ => none := rfl
@[simp] theorem eComp_eq (fi : Ix) (h : Hx) (t : Tx) (f : Ex) (own : List Nat) : eComp fi h t f own σ S = (fi σ S).bind fun p S1 => (compL p.1 h t f (wipeE σ own) p.2 [] S1).bind fun ds S2 => .ok (.lst ds) S2 := rfl
@[simp] theorem eCompN_eq (fi : Ix) (h : Hx) (t : Tx) (f : Ex) (own : List Nat) : eCompN fi h t f own σ S = (fi σ S).bind fun p S1 => (compL p.1 h t f (wipeE σ own) p.2 [] S1).bind fun ds S2 => .ok (.cell S2.length) (S2 ++ [some (.lst ds)]) := rfl
@[simp] theorem wipeE_nil : wipeE σ [] = σ := rfl
@[simp] theorem wipeE_cons (v : Nat) (vs : List Nat) : wipeE σ (v :: vs) = (wipeE σ vs).set v none := rfl
end
/-! ### operations -/
section
variable {S : Sto}
@[simp] theorem gAdd_int (i j : Int) : gAdd (.int i) (.int j) S = .ok (.int (i + j)) S := rfl
@[simp] theorem gAdd_str (i j : Str) : gAdd (.str i) (.str j) S = if i.length + j.length ≤ sizeLine then .ok (.str (i ++ j)) S else .no := rfl
@[simp] theorem gAdd_lst (a b : List D) : gAdd (.lst a) (.lst b) S = if a.length + b.length ≤ sizeLine then .ok (.lst (a ++ b)) S else .no := rfl
@[simp] theorem gAddI_int (i j : Int) : gAddI (.int i) (.int j) S = .ok (.int (i + j)) S := rfl
@[simp] theorem gSub_int (i j : Int) : gSub (.int i) (.int j) S = .ok (.int (i - j)) S := rfl
@[simp] theorem gMul_int (i j : Int) : gMul (.int i) (.int j) S = cif ((-18446744073709551616 < i ∧ i < 18446744073709551616) ∨ (-18446744073709551616 < j ∧ j < 18446744073709551616)) (.ok (.int (i * j)) S) .no := rfl
@[simp] theorem gDiv_int (i j : Int) : gDiv (.int i) (.int j) S = cif (0 < j ∧ j < 18446744073709551616) (.ok (.int (i / j)) S) .no := rfl
@[simp] theorem gMod_int (i j : Int) : gMod (.int i) (.int j) S = if 0 < j then .ok (.int (i % j)) S else .no := rfl
@[simp] theorem gNeg_int (i : Int) : gNeg (.int i) S = .ok (.int (-i)) S := rfl
@[simp] theorem gLt_int (i j : Int) : gLt (.int i) (.int j) S = .ok (.bl (decide (i < j))) S := rfl
@[simp] theorem gLe_int (i j : Int) : gLe (.int i) (.int j) S = .ok (.bl (decide (i ≤ j))) S := rfl
@[simp] theorem gGt_int (i j : Int) : gGt (.int i) (.int j) S = .ok (.bl (decide (j < i))) S := rfl
@[simp] theorem gGe_int (i j : Int) : gGe (.int i) (.int j) S = .ok (.bl (decide (j ≤ i))) S := rfl
@[simp] theorem gIsN_non : gIsN .non .non S = .ok (.bl true) S := rfl
@[simp] theorem gIsN_cell (k : Nat) : gIsN (.cell k) .non S = .ok (.bl false) S := rfl
@[simp] theorem gIsN_int (k : Int) : gIsN (.int k) .non S = .ok (.bl false) S := rfl
@[simp] theorem gIsN_tup (k : List D) : gIsN (.tup k) .non S = .ok (.bl false) S := rfl
@[simp] theorem gIsN_lst (k : List D) : gIsN (.lst k) .non S = .ok (.bl false) S := rfl
@[simp] theorem gNotN_non : gNotN .non .non S = .ok (.bl false) S := rfl
@[simp] theorem gNotN_cell (k : Nat) : gNotN (.cell k) .non S = .ok (.bl true) S := rfl
@[simp] theorem gNotN_int (k : Int) : gNotN (.int k) .non S = .ok (.bl true) S := rfl
@[simp] theorem gNotN_tup (k : List D) : gNotN (.tup k) .non S = .ok (.bl true) S := rfl
@[simp] theorem gNotN_lst (k : List D) : gNotN (.lst k) .non S = .ok (.bl true) S := rfl
@[simp] theorem gIdx_tup (ds : List D) (i : Int) : gIdx (.tup ds) (.int i) S = match atI ds i with
        | some d => .ok d S
        | none => .no := rfl
@[simp] theorem gIdx_lst (ds : List D) (i : Int) : gIdx (.lst ds) (.int i) S = match atI ds i with
        | some d => .ok d S
        | none => .no := rfl
theorem gIdx_cell' {k : Nat} {ds : List D} (h : S[k]? = some (some (.lst ds))) (i : Int) : gIdx (.cell k) (.int i) S = match atI ds i with
        | some d => .ok d S
        | none => .no := by simp only [gIdx, seqOf, lstOf, h] <;> rfl
@[simp] theorem gIdx_cell (k : Nat) (i : Int) : gIdx (.cell k) (.int i) S = match S[k]? with
    | some (some (.lst ds)) => (match atI ds i with
        | some d => .ok d S
        | none => .no)
    | _ => .no := by
  simp only [gIdx, seqOf, lstOf]
  cases S[k]? with
  | none => rfl
  | some o =>
    cases o with
    | none => rfl
    | some c => cases c <;> rfl
@[simp] theorem gIdx_str (z : Str) (i : Int) : gIdx (.str z) (.int i) S = if z.length ≤ sizeLine then (match atI z.cps.toList i with
      | some c => .ok (.str ⟨#[c]⟩) S
      | none => .no) else .no := rfl
@[simp] theorem gSl_lst (ds : List D) (lo hi : Option Int) : gSl (.lst ds) lo hi S = .ok (.lst (cutG ds lo hi)) S := rfl
@[simp] theorem gSl_scr (ns : List Int) (lo hi : Option Int) : gSl (.scr ns) lo hi S = .ok (.lst (cutG (ns.map D.int) lo hi)) S := rfl
@[simp] theorem gSl_str (z : Str) (lo hi : Option Int) : gSl (.str z) lo hi S = if z.length ≤ sizeLine then .ok (.str (cutS z lo hi)) S else .no := rfl
@[simp] theorem gSl_cell (k : Nat) (lo hi : Option Int) : gSl (.cell k) lo hi S = match S[k]? with
    | some (some (.lst ds)) => .ok (.lst (cutG ds lo hi)) S
    | _ => .no := by
  simp only [gSl, lstOf]
  cases S[k]? with
  | none => rfl
  | some o =>
    cases o with
    | none => rfl
    | some c => cases c <;> rfl
@[simp] theorem gSlN_cell (k : Nat) (lo hi : Option Int) : gSlN (.cell k) lo hi S = match S[k]? with
    | some (some (.lst ds)) => .ok (.cell S.length) (S ++ [some (.lst (cutG ds lo hi))])
    | _ => .no := by
  simp only [gSlN, lstOf]
  cases S[k]? with
  | none => rfl
  | some o =>
    cases o with
    | none => rfl
    | some c => cases c <;> rfl
@[simp] theorem gLen_str (z : Str) : gLen [.str z] S = if z.length ≤ sizeLine then .ok (.int z.length) S else .no := rfl
@[simp] theorem gLen_lst (ds : List D) : gLen [.lst ds] S = .ok (.int ds.length) S := rfl
@[simp] theorem gLen_tup (ds : List D) : gLen [.tup ds] S = .ok (.int ds.length) S := rfl
@[simp] theorem gLen_cell (k : Nat) : gLen [.cell k] S = match S[k]? with
    | some (some (.lst ds)) => .ok (.int ds.length) S
    | _ => .no := by
  simp only [gLen, seqOf, lstOf]
  cases S[k]? with
  | none => rfl
  | some o =>
    cases o with
    | none => rfl
    | some c => cases c <;> rfl
@[simp] theorem gIsT_str (T : String) (z : Str) : gIsT T (.str z) S = .ok (.bl ("str" == T || ("str" == "bool" && T == "int"))) S := rfl
@[simp] theorem gIsT_tup (T : String) (z : List D) : gIsT T (.tup z) S = .ok (.bl ("tuple" == T || ("tuple" == "bool" && T == "int"))) S := rfl
@[simp] theorem gIsT_lst (T : String) (z : List D) : gIsT T (.lst z) S = .ok (.bl ("list" == T || ("list" == "bool" && T == "int"))) S := rfl
@[simp] theorem gIsT_int (T : String) (z : Int) : gIsT T (.int z) S = .ok (.bl ("int" == T || ("int" == "bool" && T == "int"))) S := rfl
@[simp] theorem gIsT_bl (T : String) (z : Bool) : gIsT T (.bl z) S = .ok (.bl ("bool" == T || ("bool" == "bool" && T == "int"))) S := rfl
@[simp] theorem gIsT_non (T : String) : gIsT T .non S = .ok (.bl ("NoneType" == T || ("NoneType" == "bool" && T == "int"))) S := rfl
@[simp] theorem isTy_cell (T : String) (k : Nat) : isTy T (.cell k) S = match S[k]? with
    | some (some (.lst _)) => T == "list"
    | some (some (.dct _)) => T == "dict"
    | _ => false := rfl
@[simp] theorem isTy_str (T : String) (z : Str) : isTy T (.str z) S = (T == "str") := rfl
@[simp] theorem gAppend_cell (k : Nat) (y : D) : gAppend (.cell k) [y] S = match S[k]? with
    | some (some (.lst ds)) => if ds.length < sizeLine then .ok .non (S.set k (some (.lst (ds ++ [y])))) else .no
    | _ => .no := rfl
@[simp] theorem gExtend_cell (k : Nat) (es : List D) : gExtend (.cell k) [.lst es] S = match S[k]? with
    | some (some (.lst ds)) => if ds.length + es.length ≤ sizeLine then .ok .non (S.set k (some (.lst (ds ++ es)))) else .no
    | _ => .no := by
  simp only [gExtend, lstOf']
  cases S[k]? with
  | none => rfl
  | some o =>
    cases o with
    | none => rfl
    | some c => cases c <;> rfl
@[simp] theorem gPop_cell (k : Nat) : gPop (.cell k) [] S = match S[k]? with
    | some (some (.lst ds)) => (match ds[ds.length - 1]? with
      | some d => .ok d (S.set k (some (.lst ds.dropLast)))
      | none => .no)
    | _ => .no := rfl
@[simp] theorem atI_0 {α : Type} (x : α) (xs : List α) : atI (x :: xs) 0 = some x := by
  have h : (0 : Int) < ((x :: xs).length : Int) := by simp only [List.length_cons]; omega
  simp only [atI, ixN, show (0 : Int) ≤ 0 by decide, if_true, h, Option.bind_some]; rfl
@[simp] theorem atI_1 {α : Type} (x y : α) (xs : List α) : atI (x :: y :: xs) 1 = some y := by
  have h : (1 : Int) < ((x :: y :: xs).length : Int) := by simp only [List.length_cons]; omega
  simp only [atI, ixN, show (0 : Int) ≤ 1 by decide, if_true, h, Option.bind_some]; rfl
@[simp] theorem atI_2 {α : Type} (x y z : α) (xs : List α) : atI (x :: y :: z :: xs) 2 = some z := by
  have h : (2 : Int) < ((x :: y :: z :: xs).length : Int) := by simp only [List.length_cons]; omega
  simp only [atI, ixN, show (0 : Int) ≤ 2 by decide, if_true, h, Option.bind_some]; rfl
@[simp] theorem atI_3 {α : Type} (x y z w : α) (xs : List α) : atI (x :: y :: z :: w :: xs) 3 = some w := by
  have h : (3 : Int) < ((x :: y :: z :: w :: xs).length : Int) := by simp only [List.length_cons]; omega
  simp only [atI, ixN, show (0 : Int) ≤ 3 by decide, if_true, h, Option.bind_some]; rfl
@[simp] theorem atI_last' {α : Type} (x : α) (xs : List α) : atI (xs ++ [x]) (-1) = some x := atI_last xs x
theorem atI_get {α : Type} {xs : List α} {j : Nat} {x : α} (h : xs[j]? = some x) : atI xs (j : Int) = some x := atI_nat h
@[simp] theorem forL_still_nil (h : Hx) (body : Sx) (σ : Env) : forL still h body [] σ S = .nx σ S := by simp [forL, still]
@[simp] theorem forL_still_cons (h : Hx) (body : Sx) (d : D) (r : List D) (σ : Env) : forL still h body (d :: r) σ S = match h d σ with
    | none => .no
    | some σ1 => match body σ1 S with
      | .nx σ2 S2 => forL still h body r σ2 S2
      | .ct σ2 S2 => forL still h body r σ2 S2
      | .bk σ2 S2 => .nx σ2 S2
      | o => o := by
  rw [forL, if_pos (show still S from trivial)] <;> rfl
@[simp] theorem compL_still_nil (h : Hx) (t : Tx) (f : Ex) (σ : Env) (acc : List D) : compL still h t f σ [] acc S = .ok acc S := by simp [compL, still]
@[simp] theorem compL_still_cons (h : Hx) (t : Tx) (f : Ex) (σ : Env) (acc : List D) (d : D) (r : List D) : compL still h t f σ (d :: r) acc S = match h d σ with
    | none => .no
    | some σ1 => match t σ1 S with
      | .ok b S1 => if b = true then (match f σ1 S1 with
        | .ok v S2 => if acc.length < sizeLine then compL still h t f σ r (acc ++ [v]) S2 else .no
        | _ => .no) else compL still h t f σ r acc S1
      | _ => .no := by
  rw [compL, if_pos (show still S from trivial)] <;> rfl
theorem sizeLine_val : sizeLine = 16777216 := by decide
/-- one way to write each: x of type α as data -/
noncomputable def un {α β : Type} (e : α → β) (b : β) : Option α := by classical exact if h : ∃ a, e a = b then some h.choose else none
theorem un_e {α β : Type} {e : α → β} (inj : ∀ a b, e a = e b → a = b) (a : α) : un e (e a) = some a := by
  have h : ∃ x, e x = e a := ⟨a, rfl⟩
  unfold un
  rw [dif_pos h]
  exact congrArg some (inj _ _ h.choose_spec)
theorem un_some {α β : Type} {e : α → β} {a : α} {b : β} (h : un e b = some a) : e a = b := by
  unfold un at h
  split at h
  · rename_i hx; cases h; exact hx.choose_spec
  · cases h
/-- a promise by data of a type: arguments that are e a, where ok a -/
noncomputable def fnOf {α : Type} (e : α → List D) (ok : α → Prop) (r : α → Sto → R D) : Fn := fun ds S => by
  classical exact match un e ds with
  | some a => if ok a then r a S else .no
  | none => .no
theorem fnOf_eq {α : Type} {e : α → List D} {ok : α → Prop} {r : α → Sto → R D} (inj : ∀ a b, e a = e b → a = b) {a : α} (h : ok a) : fnOf e ok r (e a) S = r a S := by
  unfold fnOf
  rw [un_e inj]
  exact if_pos h
theorem fnOf_ref {α : Type} {e : α → List D} {ok : α → Prop} {r : α → Sto → R D} {n : Nat} {body : Sx} (h : ∀ a S, ok a → Ref S (r a S) (runB n body (e a) S)) (ds : List D) (S : Sto) : Ref S (fnOf e ok r ds S) (runB n body ds S) := by
  unfold fnOf
  cases hu : un e ds with
  | none => exact Ref.no
  | some a =>
    have := un_some hu
    subst this
    by_cases ho : ok a
    · simp only [if_pos ho]; exact h a S ho
    · simp only [if_neg ho]; exact Ref.no
theorem fnOf_no {α : Type} {e : α → List D} {ok : α → Prop} {r : α → Sto → R D} (h : ∀ a, ¬ ok a) (ds : List D) : fnOf e ok r ds S = .no := by
  unfold fnOf
  cases hu : un e ds with
  | none => rfl
  | some a => simp only [if_neg (h a)]
end
end Ev

/-! Ev: what a call has built out of new lists is told as data that never change. -/
namespace Ev
open PySem PySem.Spec PyProof.Rows L2
section
variable (n : Nat) (J : Sto)
mutual
/-- d with the new lists (those of J, the j-th one at handle n + j) read as data -/
inductive Fz : D → D → Prop
  | non : Fz .non .non
  | bl (b : Bool) : Fz (.bl b) (.bl b)
  | int (i : Int) : Fz (.int i) (.int i)
  | str (x : Str) : Fz (.str x) (.str x)
  | scr (ns : List Int) : Fz (.scr ns) (.scr ns)
  | tup {ds es : List D} : FzAll ds es → Fz (.tup ds) (.tup es)
  | lst {ds es : List D} : FzAll ds es → Fz (.lst ds) (.lst es)
  | cell {j : Nat} {ds es : List D} : J[j]? = some (some (.lst ds)) → FzAll ds es → Fz (.cell (n + j)) (.lst es)
  | old {k : Nat} : k < n → Fz (.cell k) (.cell k)
inductive FzAll : List D → List D → Prop
  | nil : FzAll [] []
  | cons {d e : D} {ds es : List D} : Fz d e → FzAll ds es → FzAll (d :: ds) (e :: es)
end
end
section
variable {n : Nat} {J J' : Sto}
mutual
theorem Fz.mono (h : ∀ (j : Nat) (c : C), J[j]? = some (some c) → J'[j]? = some (some c)) : ∀ {d e : D}, Fz n J d e → Fz n J' d e
  | _, _, .non => .non
  | _, _, .bl b => .bl b
  | _, _, .int i => .int i
  | _, _, .str x => .str x
  | _, _, .scr x => .scr x
  | _, _, .tup r => .tup (FzAll.mono h r)
  | _, _, .lst r => .lst (FzAll.mono h r)
  | _, _, .cell e r => .cell (h _ _ e) (FzAll.mono h r)
  | _, _, .old e => .old e
theorem FzAll.mono (h : ∀ (j : Nat) (c : C), J[j]? = some (some c) → J'[j]? = some (some c)) : ∀ {ds es : List D}, FzAll n J ds es → FzAll n J' ds es
  | _, _, .nil => .nil
  | _, _, .cons a r => .cons (Fz.mono h a) (FzAll.mono h r)
end
theorem FzAll.append {ds es ds' es' : List D} (h : FzAll n J ds es) (h' : FzAll n J ds' es') : FzAll n J (ds ++ ds') (es ++ es') := by
  induction ds generalizing es with
  | nil => cases h; exact h'
  | cons d r ih =>
    cases h with
    | cons a b => exact .cons a (ih b)
mutual
/-- data without new handles are told as they are -/
theorem Fz.same : ∀ (d : D), hb n d = true → Fz n J d d
  | .non, _ => .non
  | .bl b, _ => .bl b
  | .int i, _ => .int i
  | .str x, _ => .str x
  | .scr x, _ => .scr x
  | .tup ds, h => .tup (FzAll.same ds (by simpa [hb] using h))
  | .lst ds, h => .lst (FzAll.same ds (by simpa [hb] using h))
  | .cell k, h => .old (by simpa [hb] using h)
theorem FzAll.same : ∀ (ds : List D), hbs n ds = true → FzAll n J ds ds
  | [], _ => .nil
  | d :: r, h => by
    simp only [hbs, Bool.and_eq_true] at h
    exact .cons (Fz.same d h.1) (FzAll.same r h.2)
end
mutual
theorem Fz.vr {K : PySem.W.Frag} {μ μ1 : List Addr} {G G1 : Hp} (hG : Same G G1) (h1 : ∀ k a, k < n → μ[k]? = some a → μ1[k]? = some a)
    (hJ : ∀ (j : Nat) (ds : List D), J[j]? = some (some (.lst ds)) → ∃ a vs, μ[n + j]? = some a ∧ G1 a = some (.lst vs) ∧ VRs K μ G ds vs) : ∀ {d e : D} {v : V}, Fz n J d e → VR K μ G d v → VR K μ1 G1 e v
  | _, _, _, .non, .non => .non
  | _, _, _, .bl b, .bl _ => .bl b
  | _, _, _, .int i, .int _ => .int i
  | _, _, _, .str x, .str _ => .str x
  | _, _, _, .scr x, .scr h => .scr (hG.seq h)
  | _, _, _, .tup r, .tup e s => .tup (hG _ _ e) (FzAll.vr hG h1 hJ r s)
  | _, _, _, .lst r, .lst e s => .lst (hG _ _ e) (FzAll.vr hG h1 hJ r s)
  | _, _, _, .cell ej r, .cell e => by
    obtain ⟨a, vs, q1, q2, q3⟩ := hJ _ _ ej
    rw [q1] at e; cases e
    exact .lst q2 (FzAll.vr hG h1 hJ r q3)
  | _, _, _, .old hk, .cell e => .cell (h1 _ _ hk e)
theorem FzAll.vr {K : PySem.W.Frag} {μ μ1 : List Addr} {G G1 : Hp} (hG : Same G G1) (h1 : ∀ k a, k < n → μ[k]? = some a → μ1[k]? = some a)
    (hJ : ∀ (j : Nat) (ds : List D), J[j]? = some (some (.lst ds)) → ∃ a vs, μ[n + j]? = some a ∧ G1 a = some (.lst vs) ∧ VRs K μ G ds vs) : ∀ {ds es : List D} {vs : List V}, FzAll n J ds es → VRs K μ G ds vs → VRs K μ1 G1 es vs
  | _, _, _, .nil, .nil => .nil
  | _, _, _, .cons a r, .cons x s => .cons (Fz.vr hG h1 hJ a x) (FzAll.vr hG h1 hJ r s)
end
end
/-- all new lists frozen at once -/
theorem Sit.frzAll {Γ : Gm} {F : Hp} {μ : List Addr} {G H : Hp} {S J : Sto} (t : Sit Γ F μ G H (S ++ J)) : ∃ G1, Same G G1 ∧ (∀ a ∈ μ.take S.length, G1 a = G a) ∧ Sit Γ F μ G1 H (S ++ J.map fun o => match o with | some (.lst _) => none | o => o) ∧
    ∀ (j : Nat) (ds : List D), J[j]? = some (some (.lst ds)) → ∃ a vs, μ[S.length + j]? = some a ∧ G1 a = some (.lst vs) ∧ VRs Γ.K μ G ds vs := by
  classical
  let isN : Addr → Prop := fun b => ∃ (j : Nat) (ds : List D), J[j]? = some (some (.lst ds)) ∧ μ[S.length + j]? = some b
  have gnone : ∀ b, isN b → G b = none := fun b ⟨j, ds, h1, h2⟩ => t.off (S.length + j) b (.lst ds) (by rw [List.getElem?_append_right (by omega)]; simpa using h1) h2
  have inj : ∀ (i j : Nat) (a : Addr), μ[i]? = some a → μ[j]? = some a → i = j := fun i j a h1 h2 => by
    obtain ⟨p1, q1⟩ := List.getElem?_eq_some_iff.mp h1
    obtain ⟨p2, q2⟩ := List.getElem?_eq_some_iff.mp h2
    exact (List.getElem_inj t.nd).mp (q1.trans q2.symm)
  refine ⟨fun b => if isN b then H b else G b, fun b x e => ?_, fun a ha => ?_, ⟨fun b x e => ?_, t.frm, t.fmu, fun b o e => ?_, ?_, t.nd, t.dom, fun k a c h1 h2 => ?_, fun k c h1 => ?_⟩, fun j ds hj => ?_⟩
  · have hn : ¬ isN b := fun z => by rw [gnone b z] at e; cases e
    simp only [if_neg hn]; exact e
  · have hn : ¬ isN a := fun ⟨j, ds, h1, h2⟩ => by
      obtain ⟨i, hi⟩ := List.getElem?_of_mem ha
      have hil : i < S.length := by have := (List.getElem?_eq_some_iff.mp hi).1; rw [List.length_take] at this; omega
      rw [List.getElem?_take_of_lt hil] at hi
      have := inj _ _ _ hi h2
      omega
    simp only [if_neg hn]
  · by_cases hn : isN b
    · simp only [if_pos hn] at e; exact e
    · simp only [if_neg hn] at e; exact t.sub b x e
  · by_cases hn : isN b
    · obtain ⟨j, ds, h1, h2⟩ := hn
      exact t.fmu b (List.mem_of_getElem? h2)
    · simp only [if_neg hn] at e; exact t.fg b o e
  · have := t.len; simpa using this
  · have hk : (S ++ J)[k]? = some (some c) ∧ (S.length ≤ k → ∀ ds, c ≠ .lst ds) := by
      by_cases hk : k < S.length
      · rw [List.getElem?_append_left hk] at h1 ⊢
        exact ⟨h1, fun z => by omega⟩
      · rw [List.getElem?_append_right (by omega), List.getElem?_map, Option.map_eq_some_iff] at h1
        obtain ⟨o, h3, h4⟩ := h1
        rw [List.getElem?_append_right (by omega)]
        cases o with
        | none => cases h4
        | some c' =>
          cases c' with
          | lst ds => cases h4
          | ins _ _ => cases h4; exact ⟨h3, fun _ ds e => by cases e⟩
          | dct _ => cases h4; exact ⟨h3, fun _ ds e => by cases e⟩
    have hn : ¬ isN a := fun ⟨j, ds, h3, h4⟩ => by
      have e := inj _ _ _ h2 h4
      subst e
      have := hk.1
      rw [List.getElem?_append_right (by omega)] at this
      simp only [Nat.add_sub_cancel_left] at this
      rw [h3] at this
      cases this
      exact hk.2 (by omega) ds rfl
    simp only [if_neg hn]
    exact t.off k a c hk.1 h2
  · have hk : (S ++ J)[k]? = some (some c) := by
      by_cases hk : k < S.length
      · rw [List.getElem?_append_left hk] at h1 ⊢
        exact h1
      · rw [List.getElem?_append_right (by omega), List.getElem?_map, Option.map_eq_some_iff] at h1
        obtain ⟨o, h3, h4⟩ := h1
        rw [List.getElem?_append_right (by omega)]
        cases o with
        | none => cases h4
        | some c' =>
          cases c' with
          | lst ds => cases h4
          | ins _ _ => cases h4; exact h3
          | dct _ => cases h4; exact h3
    obtain ⟨a, ha, hc⟩ := t.at_ k c hk
    refine ⟨a, ha, hc.mono (Le.refl _) (fun b x e => ?_) fun o e => e⟩
    have hn : ¬ isN b := fun z => by rw [gnone b z] at e; cases e
    simp only [if_neg hn]; exact e
  · obtain ⟨a, ha, vs, h1, h2⟩ := t.at_ (S.length + j) (.lst ds) (by rw [List.getElem?_append_right (by omega)]; simpa using hj)
    exact ⟨a, vs, ha, by simp only [if_pos (show isN a from ⟨j, ds, hj, ha⟩)]; exact h1, h2⟩
/-- what comes back is told as data -/
theorem Cl.fz {S J : Sto} {v e : D} (h : Fz S.length J v e) : Cl S v (S ++ J) e S :=
  fun Γ F μ0 G0 H0 μ G H vv t0 l s t r => by
    obtain ⟨G1, s1, _, t1, hJ⟩ := t.frzAll
    have hl := t0.len
    exact ⟨μ.take S.length, G1, l.take (by rw [hl]; exact Nat.le_refl _), s1, t1.drop fun k c h => t0.hbs k c h, Fz.vr s1 (fun k a hk e => take_down k a hk e) hJ h r⟩
end Ev

namespace Ev
open PySem PySem.Spec PyProof.Rows L2
/-! papers, signs -/
inductive Fo where
  | nil | tx (s : Str) (r : Fo) | el (n : Str) (k : Fo) (r : Fo)
inductive Pt where
  | tx (s : Str) | el (n : Str) (k : Fo)
inductive Sg where
  | op (n : Str) | tx (s : Str) | cl
def Fo.ds : Fo → List D
  | .nil => []
  | .tx s r => .str s :: r.ds
  | .el n k r => .tup [.str n, .lst k.ds] :: r.ds
def Pt.d : Pt → D
  | .tx s => .str s
  | .el n k => .tup [.str n, .lst k.ds]
def Sg.d : Sg → D
  | .op n => .tup [.str "open", .str n]
  | .tx s => .tup [.str "text", .str s]
  | .cl => .tup [.str "close"]
def sgs (ss : List Sg) : D := .lst (ss.map Sg.d)
theorem Fo.inj : ∀ a b : Fo, a.ds = b.ds → a = b
  | .nil, .nil, _ => rfl
  | .nil, .tx _ _, h => by simp [Fo.ds] at h
  | .nil, .el _ _ _, h => by simp [Fo.ds] at h
  | .tx _ _, .nil, h => by simp [Fo.ds] at h
  | .el _ _ _, .nil, h => by simp [Fo.ds] at h
  | .tx s r, .tx s' r', h => by simp [Fo.ds] at h; rw [h.1, Fo.inj r r' h.2]
  | .tx s r, .el _ _ _, h => by simp [Fo.ds] at h
  | .el _ _ _, .tx s r, h => by simp [Fo.ds] at h
  | .el n k r, .el n' k' r', h => by simp [Fo.ds] at h; rw [h.1.1, Fo.inj k k' h.1.2, Fo.inj r r' h.2]
theorem Pt.inj : ∀ a b : Pt, a.d = b.d → a = b
  | .tx _, .tx _, h => by simp [Pt.d] at h; rw [h]
  | .tx _, .el _ _, h => by simp [Pt.d] at h
  | .el _ _, .tx _, h => by simp [Pt.d] at h
  | .el n k, .el n' k', h => by simp [Pt.d] at h; rw [h.1, Fo.inj k k' h.2]
def Fo.sg : Fo → List Sg
  | .nil => []
  | .tx s r => .tx s :: r.sg
  | .el n k r => .op n :: (k.sg ++ .cl :: r.sg)
def Pt.sg : Pt → List Sg
  | .tx s => [.tx s]
  | .el n k => .op n :: (k.sg ++ [.cl])
/-- how deep calls go -/
def Fo.dp : Fo → Nat
  | .nil => 0
  | .tx _ r => max 1 r.dp
  | .el _ k r => max (k.dp + 1) r.dp
def Pt.dp : Pt → Nat
  | .tx _ => 1
  | .el _ k => k.dp + 1
theorem Sg.hb (n : Nat) (s : Sg) : hb n s.d = true := by cases s <;> simp [Sg.d, Ev.hb, Ev.hbs]
theorem hbs_sg (n : Nat) (ss : List Sg) : hbs n (ss.map Sg.d) = true := hbs_all.mpr fun d hd => by
  obtain ⟨s, _, rfl⟩ := List.mem_map.mp hd
  exact s.hb n
noncomputable def b_signs_of (f_signs_of : Fn) : Sx :=
      (sSeq (sIf (tTst (op1 (gIsT "str") (eVar 0))) (sRet (eLst (aCons (eTup (aCons (eC (.str "text")) (aCons (eVar 0) aNil))) aNil))) sNil)
      (sSeq (sAsg 1 (eNew (aCons (eTup (aCons (eC (.str "open")) (aCons (op2 gIdx (eVar 0) (eC (.int 0))) aNil))) aNil)))
      (sSeq (sFor (iL (op2 gIdx (eVar 0) (eC (.int 1)))) (hName 2) (sExp (eMeth "list" gExtend (eVar 1) (aCons (eFn 1 f_signs_of (aCons (eVar 2) aNil)) aNil))))
      (sSeq (sExp (eMeth "list" gAppend (eVar 1) (aCons (eTup (aCons (eC (.str "close")) aNil)) aNil)))
      (sRet (eVar 1))))))
/-- at most a million signs -/
noncomputable def fn_signs_of (k : Nat) : Fn := fnOf (fun p : Pt => [p.d]) (fun p => p.dp ≤ k ∧ p.sg.length ≤ 1000000) fun p S => .ok (sgs p.sg) S
theorem inj1 {α : Type} {e : α → D} (h : ∀ a b, e a = e b → a = b) : ∀ a b : α, [e a] = [e b] → a = b := fun a b q => h a b (List.head_eq_of_cons_eq q)
theorem fn_signs_of_0 (ds : List D) (S : Sto) : fn_signs_of 0 ds S = .no := fnOf_no (fun p h => by cases p <;> simp [Pt.dp] at h) ds
theorem signs_of_tx {k : Nat} (s : Str) (S : Sto) (hk : 1 ≤ k) : fn_signs_of k [.str s] S = .ok (.lst [Sg.d (.tx s)]) S := fnOf_eq (a := Pt.tx s) (inj1 Pt.inj) ⟨hk, by simp [Pt.sg]⟩
theorem signs_of_el {k : Nat} (n : Str) (f : Fo) (S : Sto) (hk : f.dp + 1 ≤ k) (hz : f.sg.length ≤ 999998) : fn_signs_of k [.tup [.str n, .lst f.ds]] S = .ok (.lst ((Pt.el n f).sg.map Sg.d)) S := fnOf_eq (a := Pt.el n f) (inj1 Pt.inj) ⟨hk, by simp [Pt.sg]; omega⟩
theorem signs_loop (k : Nat) (x : D) : ∀ (f : Fo) (y : Option D) (S : Sto) (acc : List D), f.dp ≤ k → acc.length + f.sg.length ≤ 1000000 →
    ∃ y', forL still (hName 2) (sExp (eMeth "list" gExtend (eVar 1) (aCons (eFn 1 (fn_signs_of k) (aCons (eVar 2) aNil)) aNil))) f.ds [some x, some (.cell S.length), y] (S ++ [some (.lst acc)]) =
      .nx [some x, some (.cell S.length), y'] (S ++ [some (.lst (acc ++ f.sg.map Sg.d))])
  | .nil, y, S, acc, _, _ => ⟨y, by simp [Fo.ds, Fo.sg]⟩
  | .tx s r, y, S, acc, hd, hz => by
    simp only [Fo.dp, Fo.sg, List.length_cons] at hd hz
    obtain ⟨y', h⟩ := signs_loop k x r (some (.str s)) S (acc ++ [Sg.d (.tx s)]) (by omega) (by simp; omega)
    refine ⟨y', ?_⟩
    have hs : acc.length + 1 ≤ sizeLine := by rw [sizeLine_val]; omega
    simp [Fo.ds, Fo.sg, signs_of_tx s _ (show 1 ≤ k by omega), hs, h]
  | .el n f r, y, S, acc, hd, hz => by
    simp only [Fo.dp, Fo.sg, List.length_cons, List.length_append] at hd hz
    obtain ⟨y', h⟩ := signs_loop k x r (some (.tup [.str n, .lst f.ds])) S (acc ++ (Pt.el n f).sg.map Sg.d) (by omega) (by simp [Pt.sg]; omega)
    refine ⟨y', ?_⟩
    have hs : acc.length + (Pt.el n f).sg.length ≤ sizeLine := by rw [sizeLine_val]; simp [Pt.sg]; omega
    simp [Fo.ds, signs_of_el n f _ (show f.dp + 1 ≤ k by omega) (by omega), hs, h]
    simp [Pt.sg, Fo.sg]
theorem ref_signs_of (k : Nat) (ds : List D) (S : Sto) : Ref S (fn_signs_of (k + 1) ds S) (runB 3 (b_signs_of (fn_signs_of k)) ds S) := by
  refine fnOf_ref (fun p S ⟨hd, hz⟩ => ?_) ds S
  cases p with
  | tx s => exact Ref.self (by simp [runB, b_signs_of, Pt.d, Pt.sg, sgs, Sg.d])
  | el n f =>
    simp only [Pt.dp, Pt.sg, List.length_cons, List.length_append, List.length_nil] at hd hz
    obtain ⟨y', h⟩ := signs_loop k (Pt.el n f).d f none S [Sg.d (.op n)] (by omega) (by simp; omega)
    have hs : f.sg.length + 1 < sizeLine := by rw [sizeLine_val]; omega
    refine Ref.ok (v2 := .cell (S.length + 0)) (S2 := S ++ [some (.lst ((Pt.el n f).sg.map Sg.d))]) ?_ (Cl.frz (j := 0) (by simp [Pt.sg]) (by simp only [Ev.hb]; exact hbs_sg _ _))
    simp [Pt.d, Sg.d] at h
    simp [runB, b_signs_of, Pt.d, h, hs]
    simp [Pt.sg, Sg.d]

/-! many_parts -/
def Fo.many : Fo → Nat
  | .nil => 0
  | .tx _ r => r.many
  | .el _ k r => 1 + k.many + r.many
def Pt.many : Pt → Nat
  | .tx _ => 0
  | .el _ k => 1 + k.many
noncomputable def b_many_parts (f_many_parts : Fn) : Sx :=
      (sSeq (sIf (tTst (op1 (gIsT "str") (eVar 0))) (sRet (eC (.int 0))) sNil)
      (sSeq (sAsg 1 (eC (.int 1)))
      (sSeq (sFor (iL (op2 gIdx (eVar 0) (eC (.int 1)))) (hName 2) (sAug 1 gAddI (eFn 1 f_many_parts (aCons (eVar 2) aNil))))
      (sRet (eVar 1)))))
noncomputable def fn_many_parts (k : Nat) : Fn := fnOf (fun p : Pt => [p.d]) (fun p => p.dp ≤ k) fun p S => .ok (.int p.many) S
theorem fn_many_parts_0 (ds : List D) (S : Sto) : fn_many_parts 0 ds S = .no := fnOf_no (fun p h => by cases p <;> simp [Pt.dp] at h) ds
theorem many_parts_tx {k : Nat} (s : Str) (S : Sto) (hk : 1 ≤ k) : fn_many_parts k [.str s] S = .ok (.int 0) S := fnOf_eq (a := Pt.tx s) (inj1 Pt.inj) hk
theorem many_parts_el {k : Nat} (n : Str) (f : Fo) (S : Sto) (hk : f.dp + 1 ≤ k) : fn_many_parts k [.tup [.str n, .lst f.ds]] S = .ok (.int ((Pt.el n f).many)) S := fnOf_eq (a := Pt.el n f) (inj1 Pt.inj) hk
theorem many_loop (k : Nat) (x : D) (S : Sto) : ∀ (f : Fo) (y : Option D) (m : Int), f.dp ≤ k →
    ∃ y', forL still (hName 2) (sAug 1 gAddI (eFn 1 (fn_many_parts k) (aCons (eVar 2) aNil))) f.ds [some x, some (.int m), y] S = .nx [some x, some (.int (m + f.many)), y'] S
  | .nil, y, m, _ => ⟨y, by simp [Fo.ds, Fo.many]⟩
  | .tx s r, y, m, hd => by
    simp only [Fo.dp] at hd
    obtain ⟨y', h⟩ := many_loop k x S r (some (.str s)) (m + 0) (by omega)
    exact ⟨y', by simp [Fo.ds, Fo.many, many_parts_tx s _ (show 1 ≤ k by omega)]; simpa using h⟩
  | .el n f r, y, m, hd => by
    simp only [Fo.dp] at hd
    obtain ⟨y', h⟩ := many_loop k x S r (some (.tup [.str n, .lst f.ds])) (m + (Pt.el n f).many) (by omega)
    refine ⟨y', ?_⟩
    simp [Fo.ds, many_parts_el n f _ (show f.dp + 1 ≤ k by omega), h]
    simp [Pt.many, Fo.many]; omega
theorem ref_many_parts (k : Nat) (ds : List D) (S : Sto) : Ref S (fn_many_parts (k + 1) ds S) (runB 3 (b_many_parts (fn_many_parts k)) ds S) := by
  refine fnOf_ref (fun p S hd => ?_) ds S
  cases p with
  | tx s => exact Ref.self (by simp [runB, b_many_parts, Pt.d, Pt.many])
  | el n f =>
    simp only [Pt.dp] at hd
    obtain ⟨y', h⟩ := many_loop k (Pt.el n f).d S f none 1 (by omega)
    simp [Pt.d] at h
    exact Ref.self (by simp [runB, b_many_parts, Pt.d, h, Pt.many])
/-! can_come -/
noncomputable def b_can_come : Sx :=
      (sSeq (sIf (tTst (op2 gEq (op2 gIdx (eVar 0) (eC (.int 0))) (eC (.str "open")))) (sRet (eOr (op2 gGt (eVar 2) (eC (.int 0))) (op1 gNot (eVar 1)))) sNil)
      (sRet (op2 gGt (eVar 2) (eC (.int 0)))))
def canCome (s : Sg) (begun : Bool) (n : Int) : Bool := match s with
  | .op _ => decide (0 < n) || !begun
  | _ => decide (0 < n)
theorem Sg.inj : ∀ a b : Sg, a.d = b.d → a = b := by
  have h1 : ("open" : Str) ≠ "text" := by decide +kernel
  intro a b h
  cases a <;> cases b <;> simp [Sg.d] at h ⊢
  · exact h
  · exact h1 h.1
  · exact h1 h.1.symm
  · exact h
noncomputable def fn_can_come : Fn := fnOf (fun p : Sg × Bool × Int => [p.1.d, .bl p.2.1, .int p.2.2]) (fun _ => True) fun p S => .ok (.bl (canCome p.1 p.2.1 p.2.2)) S
theorem can_come_eq (s : Sg) (b : Bool) (n : Int) (S : Sto) : fn_can_come [s.d, .bl b, .int n] S = .ok (.bl (canCome s b n)) S :=
  fnOf_eq (e := fun p : Sg × Bool × Int => [p.1.d, .bl p.2.1, .int p.2.2]) (a := (s, b, n)) (fun a b h => by
    obtain ⟨a1, a2, a3⟩ := a
    obtain ⟨b1, b2, b3⟩ := b
    simp at h
    rw [Sg.inj _ _ h.1, h.2.1, h.2.2]) trivial
@[simp] theorem gEq_int (i j : Int) (S : Sto) : gEq (.int i) (.int j) S = .ok (.bl (i == j)) S := rfl
@[simp] theorem gNe_int (i j : Int) (S : Sto) : gNe (.int i) (.int j) S = .ok (.bl (!(i == j))) S := rfl
theorem gEq_str {x y : Str} (hx : PyData.strOk x = true) (hy : PyData.strOk y = true) (S : Sto) : gEq (.str x) (.str y) S = .ok (.bl (x == y)) S := by
  simp [gEq, py, hx, hy, PyData.eqv]
theorem gNe_str {x y : Str} (hx : PyData.strOk x = true) (hy : PyData.strOk y = true) (S : Sto) : gNe (.str x) (.str y) S = .ok (.bl (!(x == y))) S := by
  simp [gNe, py, hx, hy, PyData.eqv]
@[simp] theorem eq_oo (S : Sto) : gEq (.str "open") (.str "open") S = .ok (.bl true) S := by rw [gEq_str (by decide +kernel) (by decide +kernel)]; rfl
@[simp] theorem eq_to (S : Sto) : gEq (.str "text") (.str "open") S = .ok (.bl false) S := by rw [gEq_str (by decide +kernel) (by decide +kernel), show (("text" : Str) == "open") = false by decide +kernel]
@[simp] theorem eq_co (S : Sto) : gEq (.str "close") (.str "open") S = .ok (.bl false) S := by rw [gEq_str (by decide +kernel) (by decide +kernel), show (("close" : Str) == "open") = false by decide +kernel]
@[simp] theorem eq_ot (S : Sto) : gEq (.str "open") (.str "text") S = .ok (.bl false) S := by rw [gEq_str (by decide +kernel) (by decide +kernel), show (("open" : Str) == "text") = false by decide +kernel]
@[simp] theorem eq_tt (S : Sto) : gEq (.str "text") (.str "text") S = .ok (.bl true) S := by rw [gEq_str (by decide +kernel) (by decide +kernel)]; rfl
@[simp] theorem eq_ct (S : Sto) : gEq (.str "close") (.str "text") S = .ok (.bl false) S := by rw [gEq_str (by decide +kernel) (by decide +kernel), show (("close" : Str) == "text") = false by decide +kernel]
@[simp] theorem eq_oc (S : Sto) : gEq (.str "open") (.str "close") S = .ok (.bl false) S := by rw [gEq_str (by decide +kernel) (by decide +kernel), show (("open" : Str) == "close") = false by decide +kernel]
@[simp] theorem eq_tc (S : Sto) : gEq (.str "text") (.str "close") S = .ok (.bl false) S := by rw [gEq_str (by decide +kernel) (by decide +kernel), show (("text" : Str) == "close") = false by decide +kernel]
@[simp] theorem eq_cc (S : Sto) : gEq (.str "close") (.str "close") S = .ok (.bl true) S := by rw [gEq_str (by decide +kernel) (by decide +kernel)]; rfl
theorem ref_can_come (ds : List D) (S : Sto) : Ref S (fn_can_come ds S) (runB 3 b_can_come ds S) := by
  refine fnOf_ref (fun p S _ => ?_) ds S
  obtain ⟨s, b, n⟩ := p
  cases s with
  | op m =>
    refine Ref.self ?_
    by_cases h : 0 < n <;> simp [runB, b_can_come, Sg.d, canCome, h]
  | tx m => exact Ref.self (by simp [runB, b_can_come, Sg.d, canCome])
  | cl => exact Ref.self (by simp [runB, b_can_come, Sg.d, canCome])
end Ev

/-! stump: a paper out of a row of signs, by lists that grow -/
namespace Ev
open PySem PySem.Spec PyProof.Rows L2
def Fo.app : Fo → Fo → Fo
  | .nil, g => g
  | .tx s r, g => .tx s (r.app g)
  | .el n k r, g => .el n k (r.app g)
theorem Fo.app_ds : ∀ f g : Fo, (f.app g).ds = f.ds ++ g.ds
  | .nil, g => rfl
  | .tx s r, g => by simp [Fo.app, Fo.ds, Fo.app_ds r g]
  | .el n k r, g => by simp [Fo.app, Fo.ds, Fo.app_ds r g]
theorem Fo.app_sg : ∀ f g : Fo, (f.app g).sg = f.sg ++ g.sg
  | .nil, g => rfl
  | .tx s r, g => by simp [Fo.app, Fo.sg, Fo.app_sg r g]
  | .el n k r, g => by simp [Fo.app, Fo.sg, Fo.app_sg r g]
theorem Fo.app_nil : ∀ f : Fo, f.app .nil = f
  | .nil => rfl
  | .tx s r => by simp [Fo.app, Fo.app_nil r]
  | .el n k r => by simp [Fo.app, Fo.app_nil r]
theorem Fo.app_assoc : ∀ f g h : Fo, (f.app g).app h = f.app (g.app h)
  | .nil, g, h => rfl
  | .tx s r, g, h => by simp [Fo.app, Fo.app_assoc r g h]
  | .el n k r, g, h => by simp [Fo.app, Fo.app_assoc r g h]
/-- a paper that is coming: what has closed at the bottom, the open parts from the innermost -/
structure Zp where
  bot : Fo
  st : List (Str × Fo)
/-- something more in the innermost open part -/
def addSt (fs : Fo) : List (Str × Fo) → List (Str × Fo)
  | [] => []
  | (m, f) :: r => (m, f.app fs) :: r
def addBot (fs bot : Fo) : List (Str × Fo) → Fo
  | [] => bot.app fs
  | _ :: _ => bot
def Zp.step (z : Zp) : Sg → Zp
  | .op n => ⟨z.bot, (n, .nil) :: z.st⟩
  | .tx s => match z.st with
    | [] => z
    | p :: r => ⟨z.bot, addSt (.tx s .nil) (p :: r)⟩
  | .cl => match z.st with
    | [] => z
    | (n, f) :: r => ⟨addBot (.el n f .nil) z.bot r, addSt (.el n f .nil) r⟩
/-- all open parts closed at once; acc comes into the innermost -/
def upF (acc : Fo) : List (Str × Fo) → Fo → Fo
  | [], bot => bot.app acc
  | (n, f) :: r, bot => upF (.el n (f.app acc) .nil) r bot
def Zp.all (z : Zp) : Fo := upF .nil z.st z.bot
def Zp.begun (z : Zp) : Bool := match z.st, z.bot with
  | [], .nil => false
  | _, _ => true
def Zp.can (z : Zp) (s : Sg) : Bool := canCome s z.begun z.st.length
/-- the signs can come one behind the other -/
def okFrom : Zp → List Sg → Bool
  | _, [] => true
  | z, s :: r => z.can s && okFrom (z.step s) r
def Zp.run (z : Zp) (ss : List Sg) : Zp := ss.foldl Zp.step z
def z0 : Zp := ⟨.nil, []⟩
/-- the cells: from the innermost open part outwards, each with what has closed in it and then the part that is open in it -/
inductive Chn (n : Nat) (J Jc : Sto) (t : Nat) : List (Str × Fo) → Fo → List Nat → List D → Prop
  | base {ds link : List D} {bot : Fo} : J[0]? = some (some (.lst (ds ++ link))) → Jc[0]? = some none → ds.length + link.length ≤ t → FzAll n Jc ds bot.ds → Chn n J Jc t [] bot [0] link
  | cons {j : Nat} {js : List Nat} {ds link : List D} {m : Str} {f : Fo} {r : List (Str × Fo)} {bot : Fo} : J[j]? = some (some (.lst (ds ++ link))) → Jc[j]? = some none → 2 ≤ j → j ∉ js → ds.length + link.length ≤ t → FzAll n Jc ds f.ds →
      Chn n J Jc t r bot js [.tup [.str m, .cell (n + j)]] → Chn n J Jc t ((m, f) :: r) bot (j :: js) link
section
variable {n : Nat} {J Jc J' Jc' : Sto} {t : Nat}
theorem Chn.mono {st : List (Str × Fo)} {bot : Fo} {js : List Nat} {link : List D} (h : Chn n J Jc t st bot js link) {t' : Nat} (ht : t ≤ t') (hJ : ∀ j ∈ js, J'[j]? = J[j]?) (hc : ∀ j ∈ js, Jc'[j]? = some none)
    (hm : ∀ (j : Nat) (c : C), Jc[j]? = some (some c) → Jc'[j]? = some (some c)) : Chn n J' Jc' t' st bot js link := by
  induction h with
  | base h1 h2 h3 h4 => exact .base (by rw [hJ 0 (by simp)]; exact h1) (hc 0 (by simp)) (by omega) (h4.mono hm)
  | cons h1 h2 h3 h4 h5 h6 _ ih => exact .cons (by rw [hJ _ (by simp)]; exact h1) (hc _ (by simp)) h3 h4 (by omega) (h6.mono hm) (ih (fun j hj => hJ j (by simp [hj])) fun j hj => hc j (by simp [hj]))
theorem Chn.len {st : List (Str × Fo)} {bot : Fo} {js : List Nat} {link : List D} (h : Chn n J Jc t st bot js link) : js.length = st.length + 1 := by
  induction h with
  | base => rfl
  | cons _ _ _ _ _ _ _ ih => simp [ih]
theorem Chn.ne1 {st : List (Str × Fo)} {bot : Fo} {js : List Nat} {link : List D} (h : Chn n J Jc t st bot js link) : 1 ∉ js := by
  induction h with
  | base => simp
  | cons _ _ h3 _ _ _ _ ih => simp only [List.mem_cons, not_or]; exact ⟨by omega, ih⟩
theorem Chn.lt {st : List (Str × Fo)} {bot : Fo} {js : List Nat} {link : List D} (h : Chn n J Jc t st bot js link) : ∀ j ∈ js, j < J.length := by
  induction h with
  | base h1 => intro j hj; simp at hj; subst hj; exact (List.getElem?_eq_some_iff.mp h1).1
  | cons h1 _ _ _ _ _ _ ih =>
    intro j hj
    rcases List.mem_cons.mp hj with rfl | hj
    · exact (List.getElem?_eq_some_iff.mp h1).1
    · exact ih j hj
/-- the innermost level's cell, and what another content makes of it -/
theorem Chn.top {st : List (Str × Fo)} {bot : Fo} {js : List Nat} (h : Chn n J Jc t st bot js []) : ∃ j jr ds, js = j :: jr ∧ J[j]? = some (some (.lst ds)) ∧ ds.length ≤ t ∧ j ∉ jr ∧ (st = [] → j = 0) ∧
    (∀ link, Chn n (J.set j (some (.lst (ds ++ link)))) Jc (t + link.length) st bot js link) ∧
    ∀ xs fs, FzAll n Jc xs fs.ds → Chn n (J.set j (some (.lst (ds ++ xs)))) Jc (t + xs.length) (addSt fs st) (addBot fs bot st) js [] := by
  cases h with
  | base h1 h2 h3 h4 =>
    rename_i ds
    have hl := (List.getElem?_eq_some_iff.mp h1).1
    rw [List.append_nil] at h1
    refine ⟨0, [], ds, rfl, h1, by simpa using h3, by simp, fun _ => rfl, fun link => .base (List.getElem?_set_self hl) h2 (by simp at h3; omega) h4, fun xs fs hx => .base (by rw [List.getElem?_set_self hl, List.append_nil]) h2 (by simp at h3 ⊢; omega) (by rw [addBot, Fo.app_ds]; exact h4.append hx)⟩
  | cons h1 h2 h3 h4 h5 h6 h7 =>
    rename_i j js ds m f r
    have hl := (List.getElem?_eq_some_iff.mp h1).1
    rw [List.append_nil] at h1
    have hs : ∀ x, ∀ i ∈ js, (J.set j x)[i]? = J[i]? := fun x i hi => List.getElem?_set_ne (fun e => h4 (by rw [e]; exact hi))
    have hc := fun {t'} (ht : t ≤ t') (x : Option C) => h7.mono (J' := J.set j x) (Jc' := Jc) ht (hs x) (fun i hi => by
      clear hs
      have : ∀ {st : List (Str × Fo)} {bot : Fo} {js : List Nat} {link : List D}, Chn n J Jc t st bot js link → ∀ i ∈ js, Jc[i]? = some none := fun h => by
        induction h with
        | base _ q => intro i hi; simp at hi; subst hi; exact q
        | cons _ q _ _ _ _ _ ih =>
          intro i hi
          rcases List.mem_cons.mp hi with rfl | hi
          · exact q
          · exact ih i hi
      exact this h7 i hi) fun _ _ e => e
    refine ⟨j, js, ds, rfl, h1, by simpa using h5, h4, (fun e => by cases e), fun link => .cons (List.getElem?_set_self hl) h2 h3 h4 (by simp at h5; omega) h6 (hc (by omega) _), fun xs fs hx => .cons (by rw [List.getElem?_set_self hl, List.append_nil]) h2 h3 h4 (by simp at h5 ⊢; omega) (by rw [Fo.app_ds]; exact h6.append hx) (hc (by omega) _)⟩
theorem Chn.free {st : List (Str × Fo)} {bot : Fo} {js : List Nat} {link : List D} (h : Chn n J Jc t st bot js link) : ∀ i ∈ js, Jc[i]? = some none := by
  induction h with
  | base _ q => intro i hi; simp at hi; subst hi; exact q
  | cons _ q _ _ _ _ _ ih =>
    intro i hi
    rcases List.mem_cons.mp hi with rfl | hi
    · exact q
    · exact ih i hi
theorem Chn.absorb {st : List (Str × Fo)} {bot fs : Fo} {js : List Nat} {link : List D} (h : Chn n J Jc t st bot js link) (hl : FzAll n Jc link fs.ds) : Chn n J Jc t (addSt fs st) (addBot fs bot st) js [] := by
  cases h with
  | base h1 h2 h3 h4 => exact .base (by rw [List.append_nil]; exact h1) h2 (by simpa using h3) (by rw [addBot, Fo.app_ds]; exact h4.append hl)
  | cons h1 h2 h3 h4 h5 h6 h7 => exact .cons (by rw [List.append_nil]; exact h1) h2 h3 h4 (by simpa using h5) (by rw [Fo.app_ds]; exact h6.append hl) h7
/-- in the end: all is read as data -/
theorem Chn.fin {st : List (Str × Fo)} {bot : Fo} {js : List Nat} {link : List D} (h : Chn n J Jc t st bot js link) (hJ : ∀ (j : Nat) (c : C), Jc[j]? = some (some c) → J[j]? = some (some c)) : ∀ fl : Fo, FzAll n J link fl.ds → ∃ ds, J[0]? = some (some (.lst ds)) ∧ FzAll n J ds (upF fl st bot).ds := by
  induction h with
  | base h1 h2 h3 h4 => exact fun fl hl => ⟨_, h1, by rw [upF, Fo.app_ds]; exact (h4.mono hJ).append hl⟩
  | cons h1 h2 h3 h4 h5 h6 _ ih =>
    intro fl hl
    refine ih _ (.cons (.tup (.cons (.str _) (.cons ?_ .nil))) .nil)
    rw [Fo.app_ds]
    exact .cell h1 ((h6.mono hJ).append hl)
end
/-- the loop's state behind some signs -/
structure StI (n : Nat) (J : Sto) (z : Zp) (t : Nat) : Prop where
  ex : ∃ Jc js, Chn n J Jc t z.st z.bot js [] ∧ (∀ (j : Nat) (c : C), Jc[j]? = some (some c) → J[j]? = some (some c)) ∧ Jc.length = J.length ∧ Jc[1]? = some none ∧ J[1]? = some (some (.lst (js.reverse.map fun j => .cell (n + j)))) ∧ z.st.length ≤ t
theorem StI.start (n : Nat) : StI n [some (.lst []), some (.lst [.cell n])] z0 0 :=
  ⟨[none, none], [0], .base (ds := []) rfl rfl (Nat.le_refl _) .nil, fun j c h => by
    rcases j with _ | _ | j <;> simp at h, rfl, rfl, rfl, Nat.le_refl _⟩
noncomputable def b_stump (f_can_come : Fn) : Sx :=
      (sSeq (sAsg 1 (eNew aNil))
      (sSeq (sAsg 2 (eNew (aCons (eVar 1) aNil)))
      (sSeq (sFor (iEnum (eVar 0)) (hTup 2 (hCons (hName 3) (hCons (hName 4) hNil))) (sSeq (sIf (tNot (tTst (eFn 3 f_can_come (aCons (eVar 4) (aCons (op2 gGt (eCall gLen (aCons (eVar 1) aNil)) (eC (.int 0))) (aCons (op2 gSub (eCall gLen (aCons (eVar 2) aNil)) (eC (.int 1))) aNil)))))) sNo sNil)
      (sIf (tTst (op2 gEq (op2 gIdx (eVar 4) (eC (.int 0))) (eC (.str "open")))) (sSeq (sAsg 5 (eNew aNil))
      (sSeq (sExp (eMeth "list" gAppend (op2 gIdx (eVar 2) (op1 gNeg (eC (.int 1)))) (aCons (eTup (aCons (op2 gIdx (eVar 4) (eC (.int 1))) (aCons (eVar 5) aNil))) aNil)))
      (sExp (eMeth "list" gAppend (eVar 2) (aCons (eVar 5) aNil))))) (sIf (tTst (op2 gEq (op2 gIdx (eVar 4) (eC (.int 0))) (eC (.str "text")))) (sExp (eMeth "list" gAppend (op2 gIdx (eVar 2) (op1 gNeg (eC (.int 1)))) (aCons (op2 gIdx (eVar 4) (eC (.int 1))) aNil))) (sExp (eMeth "list" gPop (eVar 2) aNil))))))
      (sRet (op2 gIdx (eVar 1) (eC (.int 0)))))))
/-- the loop's body -/
noncomputable def stumpB : Sx := (sSeq (sIf (tNot (tTst (eFn 3 fn_can_come (aCons (eVar 4) (aCons (op2 gGt (eCall gLen (aCons (eVar 1) aNil)) (eC (.int 0))) (aCons (op2 gSub (eCall gLen (aCons (eVar 2) aNil)) (eC (.int 1))) aNil)))))) sNo sNil)
      (sIf (tTst (op2 gEq (op2 gIdx (eVar 4) (eC (.int 0))) (eC (.str "open")))) (sSeq (sAsg 5 (eNew aNil))
      (sSeq (sExp (eMeth "list" gAppend (op2 gIdx (eVar 2) (op1 gNeg (eC (.int 1)))) (aCons (eTup (aCons (op2 gIdx (eVar 4) (eC (.int 1))) (aCons (eVar 5) aNil))) aNil)))
      (sExp (eMeth "list" gAppend (eVar 2) (aCons (eVar 5) aNil))))) (sIf (tTst (op2 gEq (op2 gIdx (eVar 4) (eC (.int 0))) (eC (.str "text")))) (sExp (eMeth "list" gAppend (op2 gIdx (eVar 2) (op1 gNeg (eC (.int 1)))) (aCons (op2 gIdx (eVar 4) (eC (.int 1))) aNil))) (sExp (eMeth "list" gPop (eVar 2) aNil)))))
theorem b_stump_eq : b_stump fn_can_come = (sSeq (sAsg 1 (eNew aNil)) (sSeq (sAsg 2 (eNew (aCons (eVar 1) aNil))) (sSeq (sFor (iEnum (eVar 0)) (hTup 2 (hCons (hName 3) (hCons (hName 4) hNil))) stumpB) (sRet (op2 gIdx (eVar 1) (eC (.int 0))))))) := rfl
theorem begun_len {n : Nat} {J Jc : Sto} {t : Nat} {z : Zp} {js : List Nat} (h : Chn n J Jc t z.st z.bot js []) : ∃ ds, J[0]? = some (some (.lst ds)) ∧ z.begun = decide ((0 : Int) < (ds.length : Int)) := by
  obtain ⟨bot, st⟩ := z
  have key : ∀ {st : List (Str × Fo)} {bot : Fo} {js : List Nat} {link : List D}, Chn n J Jc t st bot js link → ∃ ds, J[0]? = some (some (.lst ds)) ∧ ((st ≠ [] ∨ link ≠ []) → ds ≠ []) ∧ (st = [] → link = [] → FzAll n Jc ds bot.ds) := fun h => by
    induction h with
    | base h1 h2 h3 h4 => exact ⟨_, h1, fun q => by rcases q with q | q <;> simp_all, fun _ e => by subst e; simpa using h4⟩
    | cons h1 h2 h3 h4 h5 h6 _ ih =>
      obtain ⟨ds, a1, a2, a3⟩ := ih
      exact ⟨ds, a1, fun _ => a2 (.inr (by simp)), fun e => by cases e⟩
  obtain ⟨ds, h1, h2, h3⟩ := key h
  refine ⟨ds, h1, ?_⟩
  cases st with
  | nil =>
    have h3 := h3 rfl rfl
    cases bot with
    | nil => simp [Fo.ds] at h3; cases h3; simp [Zp.begun]
    | tx s r => simp [Fo.ds] at h3; cases h3; simp [Zp.begun]
    | el s k r => simp [Fo.ds] at h3; cases h3; simp [Zp.begun]
  | cons p r =>
    have h2 := h2 (.inl (by simp))
    have hl : 0 < ds.length := List.length_pos_iff.mpr h2
    have hl' : (0 : Int) < (ds.length : Int) := by omega
    rw [decide_eq_true hl']
    cases bot <;> rfl
theorem stump_turn {S J : Sto} {z : Zp} {t : Nat} {s : Sg} {x a b e : Option D} {i : Int} (h : StI S.length J z t) (hc : z.can s = true) (ht : t ≤ 1000000) :
    ∃ J' e', StI S.length J' (z.step s) (t + 1) ∧ stumpB [x, some (.cell S.length), some (.cell (S.length + 1)), some (.int i), some s.d, e] (S ++ J) = .nx [x, some (.cell S.length), some (.cell (S.length + 1)), some (.int i), some s.d, e'] (S ++ J') := by
  obtain ⟨Jc, js, hch, hle, hlen, hp, hpile, hst⟩ := h.ex
  obtain ⟨dsA, hA, hbg⟩ := begun_len hch
  have hjl := hch.len
  obtain ⟨j, jr, ds, rfl, hj, hdt, hjn, hj0, hlink, happ⟩ := hch.top
  simp only [List.reverse_cons, List.map_append, List.map_cons, List.map_nil] at hpile
  simp only [List.length_cons, Nat.add_right_cancel_iff] at hjl
  have hj1 : j ≠ 1 := fun e => hch.ne1 (by simp [e])
  have hjJ : j < J.length := (List.getElem?_eq_some_iff.mp hj).1
  have h1J : 1 < J.length := (List.getElem?_eq_some_iff.mp hpile).1
  have hds : ds.length < sizeLine := by rw [sizeLine_val]; omega
  have hpl : (jr.length : Int) + 1 - 1 = (z.st.length : Int) := by omega
  have hpz : jr.length + 1 < sizeLine := by rw [sizeLine_val]; omega
  have hcan : canCome s (decide ((0 : Int) < (dsA.length : Int))) (z.st.length : Int) = true := by rw [← hbg]; exact hc
  have hset : ∀ (l : Sto) (c : Option C) (i : Nat), i ≠ j → (l.set j c)[i]? = l[i]? := fun l c i h => List.getElem?_set_ne (Ne.symm h)
  have hset1 : ∀ (l : Sto) (c : Option C) (i : Nat), i ≠ 1 → (l.set 1 c)[i]? = l[i]? := fun l c i h => List.getElem?_set_ne (Ne.symm h)
  have hcc : ∀ S', fn_can_come [s.d, .bl (decide ((0 : Int) < (dsA.length : Int))), .int (z.st.length : Int)] S' = .ok (.bl true) S' := fun S' => by rw [can_come_eq, hcan]
  cases s with
  | op m =>
    have e1 : (J ++ [some (C.lst [])])[1]? = some (some (.lst (jr.reverse.map (fun j => D.cell (S.length + j)) ++ [.cell (S.length + j)]))) := by rw [List.getElem?_append_left h1J]; exact hpile
    have ej : (J ++ [some (C.lst [])])[j]? = some (some (.lst ds)) := by rw [List.getElem?_append_left hjJ]; exact hj
    refine ⟨((J ++ [some (C.lst [])]).set j (some (.lst (ds ++ [D.tup [.str m, .cell (S.length + J.length)]])))).set 1 (some (.lst ((jr.reverse.map (fun j => D.cell (S.length + j)) ++ [.cell (S.length + j)]) ++ [.cell (S.length + J.length)]))), some (.cell (S.length + J.length)), ⟨Jc ++ [none], J.length :: j :: jr, ?_, ?_, ?_, ?_, ?_, ?_⟩, ?_⟩
    · have hold := hlink [D.tup [.str m, .cell (S.length + J.length)]]
      have hlt := hch.lt
      have hfr := hch.free
      have hne := hch.ne1
      refine .cons (ds := []) ?_ ?_ (by omega) (fun z => by have := hlt _ z; omega) (by simp) .nil (hold.mono (by simp) (fun i hi => ?_) (fun i hi => ?_) fun i c e => ?_)
      · rw [hset1 _ _ _ (by omega), hset _ _ _ (by omega)]; simp
      · rw [← hlen]; simp
      · have h1 : i ≠ 1 := fun e => hne (by rw [← e]; exact hi)
        rw [hset1 _ _ _ h1, List.set_append_left _ _ hjJ, List.getElem?_append_left (by simpa using hlt i hi)]
      · rw [List.getElem?_append_left (by rw [hlen]; exact hlt i hi)]; exact hfr i hi
      · rw [List.getElem?_append_left (List.getElem?_eq_some_iff.mp e).1]; exact e
    · intro i c e
      have hi : i < Jc.length := by
        have := (List.getElem?_eq_some_iff.mp e).1
        simp at this
        rcases Nat.lt_or_ge i Jc.length with h | h
        · exact h
        · have : i = Jc.length := by omega
          subst this
          simp at e
      rw [List.getElem?_append_left hi] at e
      have n1 : i ≠ 1 := fun z => by rw [z, hp] at e; cases e
      have nj : i ≠ j := fun z => by rw [z, hch.free j (by simp)] at e; cases e
      rw [hset1 _ _ _ n1, hset _ _ _ nj, List.getElem?_append_left (by omega)]
      exact hle i c e
    · simp [hlen]
    · rw [List.getElem?_append_left (by omega)]; exact hp
    · rw [List.getElem?_set_self (by simp; omega)]; simp
    · simp [Zp.step]; omega
    · simp [Sg.d] at hcc
      simp [stumpB, hcc, hA, hpile, hpl, e1, ej, hset, hj1.symm, hds, hpz, Sg.d, Nat.add_assoc]
  | tx m =>
    cases hz : z.st with
    | nil => rw [hz] at hcan; simp [canCome] at hcan
    | cons p r =>
      have hn := happ [.str m] (.tx m .nil) (.cons (.str m) .nil)
      refine ⟨J.set j (some (.lst (ds ++ [.str m]))), e, ⟨Jc, j :: jr, ?_, ?_, ?_, hp, ?_, ?_⟩, ?_⟩
      · rw [hz] at hn
        simp only [Zp.step, hz]
        exact hn
      · intro i c e
        have nj : i ≠ j := fun z => by rw [z, hch.free j (by simp)] at e; cases e
        rw [hset _ _ _ nj]; exact hle i c e
      · simp [hlen]
      · rw [hset _ _ _ hj1.symm]; simpa using hpile
      · obtain ⟨p1, p2⟩ := p
        rw [hz] at hst
        simp only [Zp.step, hz, addSt, List.length_cons] at hst ⊢; omega
      · simp [Sg.d] at hcc
        simp [stumpB, hcc, hA, hpile, hpl, hj, hds, Sg.d]
  | cl =>
    cases hz : z.st with
    | nil => rw [hz] at hcan; simp [canCome] at hcan
    | cons p r =>
      obtain ⟨m, f⟩ := p
      rw [hz] at hch
      have hfr := hch.free
      have hne := hch.ne1
      cases hch with
      | cons q1 q2 q3 q4 q5 q6 q7 =>
        rename_i ds0
        rw [List.append_nil] at q1
        have hjc : j < Jc.length := by omega
        have hJc' : ∀ (i : Nat) (c : C), Jc[i]? = some (some c) → (Jc.set j (some (.lst ds0)))[i]? = some (some c) := fun i c e => by
          have nj : i ≠ j := fun z => by rw [z, q2] at e; cases e
          rw [hset _ _ _ nj]; exact e
        refine ⟨J.set 1 (some (.lst (jr.reverse.map fun j => D.cell (S.length + j)))), e, ⟨Jc.set j (some (.lst ds0)), jr, ?_, ?_, ?_, ?_, ?_, ?_⟩, ?_⟩
        · simp only [Zp.step, hz]
          refine (q7.mono (J' := J.set 1 (some (.lst (jr.reverse.map fun j => D.cell (S.length + j))))) (Jc' := Jc.set j (some (.lst ds0))) (Nat.le_succ t) (fun i hi => ?_) (fun i hi => ?_) hJc').absorb (.cons (.tup (.cons (.str _) (.cons (.cell ?_ (q6.mono hJc')) .nil))) .nil)
          · exact hset1 _ _ _ fun e => hne (by rw [← e]; simp [hi])
          · rw [hset _ _ _ (fun e => q4 (by rw [← e]; exact hi))]; exact hfr i (by simp [hi])
          · exact List.getElem?_set_self hjc
        · intro i c e
          by_cases nj : i = j
          · subst nj
            rw [List.getElem?_set_self hjc] at e
            cases e
            rw [hset1 _ _ _ hj1]; exact q1
          · rw [hset _ _ _ nj] at e
            have n1 : i ≠ 1 := fun z => by rw [z, hp] at e; cases e
            rw [hset1 _ _ _ n1]; exact hle i c e
        · simp [hlen]
        · rw [hset _ _ _ hj1.symm]; exact hp
        · rw [List.getElem?_set_self h1J]
        · rw [hz] at hst
          have : (addSt (.el m f .nil) r).length = r.length := by cases r <;> simp [addSt]
          simp only [Zp.step, hz, List.length_cons] at hst ⊢; omega
        · have hjp : jr.length + 1 - 1 = jr.length := by omega
          simp [Sg.d] at hcc
          simp [stumpB, hcc, hA, hpile, hpl, Sg.d]
theorem okFrom_cons {z : Zp} {s : Sg} {r : List Sg} (h : okFrom z (s :: r) = true) : z.can s = true ∧ okFrom (z.step s) r = true := by simpa [okFrom] using h
theorem stump_loop {S : Sto} {x : Option D} : ∀ (ss : List Sg) (J : Sto) (z : Zp) (t k : Nat) (a b e : Option D), StI S.length J z t → okFrom z ss = true → t + ss.length ≤ 1000000 →
    ∃ J' a' b' e', StI S.length J' (z.run ss) (t + ss.length) ∧ forL still (hTup 2 (hCons (hName 3) (hCons (hName 4) hNil))) stumpB (pairsFrom k (ss.map Sg.d)) [x, some (.cell S.length), some (.cell (S.length + 1)), a, b, e] (S ++ J) =
      .nx [x, some (.cell S.length), some (.cell (S.length + 1)), a', b', e'] (S ++ J')
  | [], J, z, t, k, a, b, e, h, _, _ => ⟨J, a, b, e, h, by simp [pairsFrom]⟩
  | s :: r, J, z, t, k, a, b, e, h, ho, ht => by
    obtain ⟨h1, h2⟩ := okFrom_cons ho
    simp only [List.length_cons] at ht
    obtain ⟨J1, e1, hs1, he1⟩ := stump_turn (x := x) (a := a) (b := b) (e := e) (i := (k : Int)) h h1 (by omega)
    obtain ⟨J', a', b', e', hs, he⟩ := stump_loop (x := x) r J1 (z.step s) (t + 1) (k + 1) (some (.int k)) (some s.d) e1 hs1 h2 (by omega)
    refine ⟨J', a', b', e', ?_, ?_⟩
    · have : t + (s :: r).length = t + 1 + r.length := by simp; omega
      rw [this]; exact hs
    · simp [pairsFrom, he1, he]
/-- what has been opened: nothing yet, or one part alone at the outside -/
def Zp.one (z : Zp) : Prop := z.bot = .nil ∨ (z.st = [] ∧ ∃ n k, z.bot = .el n k .nil)
theorem Zp.one_step {z : Zp} {s : Sg} (h : z.one) (hc : z.can s = true) : (z.step s).one ∧ (z.step s).begun = true := by
  obtain ⟨bot, st⟩ := z
  cases s with
  | op n =>
    refine ⟨?_, by cases bot <;> rfl⟩
    rcases h with h | ⟨h1, n', k, h2⟩
    · exact .inl h
    · simp only at h1 h2
      subst h1 h2
      simp [Zp.can, canCome, Zp.begun] at hc
  | tx n =>
    cases st with
    | nil => simp [Zp.can, canCome] at hc
    | cons p r =>
      refine ⟨?_, by cases bot <;> rfl⟩
      rcases h with h | ⟨h1, _⟩
      · exact .inl h
      · cases h1
  | cl =>
    cases st with
    | nil => simp [Zp.can, canCome] at hc
    | cons p r =>
      obtain ⟨m, f⟩ := p
      rcases h with h | ⟨h1, _⟩
      · simp only at h
        subst h
        cases r with
        | nil => exact ⟨.inr ⟨rfl, m, f, rfl⟩, rfl⟩
        | cons q r => exact ⟨.inl rfl, by obtain ⟨q1, q2⟩ := q; rfl⟩
      · cases h1
theorem Zp.one_run : ∀ (ss : List Sg) (z : Zp), z.one → okFrom z ss = true → (z.run ss).one ∧ (ss ≠ [] ∨ z.begun = true → (z.run ss).begun = true)
  | [], z, h, _ => ⟨h, fun q => by rcases q with q | q; exact absurd rfl q; exact q⟩
  | s :: r, z, h, ho => by
    obtain ⟨h1, h2⟩ := okFrom_cons ho
    obtain ⟨a, b⟩ := Zp.one_step h h1
    obtain ⟨c, d⟩ := Zp.one_run r (z.step s) a h2
    exact ⟨c, fun _ => d (.inr b)⟩
theorem upF_nil : ∀ (st : List (Str × Fo)) (acc : Fo), st ≠ [] → ∃ n k, upF acc st .nil = .el n k .nil
  | [], acc, h => absurd rfl h
  | [(n, f)], acc, _ => ⟨n, f.app acc, rfl⟩
  | (n, f) :: q :: r, acc, _ => upF_nil (q :: r) _ (by simp)
theorem Zp.all_one {z : Zp} (h : z.one) (hb : z.begun = true) : ∃ n k, z.all = .el n k .nil := by
  obtain ⟨bot, st⟩ := z
  rcases h with h | ⟨h1, n, k, h2⟩
  · simp only at h
    subst h
    cases st with
    | nil => simp [Zp.begun] at hb
    | cons p r => exact upF_nil _ _ (by simp)
  · simp only at h1 h2
    subst h1 h2
    exact ⟨n, k, rfl⟩
/-- the paper of some signs, all open parts closed at once -/
def stumpP (ss : List Sg) : Pt := match (z0.run ss).all with
  | .el n k _ => .el n k
  | _ => .tx ""
theorem stumpP_all {ss : List Sg} (h : ss ≠ []) (ho : okFrom z0 ss = true) : ∃ n k, stumpP ss = .el n k ∧ (z0.run ss).all = .el n k .nil := by
  obtain ⟨a, b⟩ := Zp.one_run ss z0 (.inl rfl) ho
  obtain ⟨n, k, e⟩ := Zp.all_one a (b (.inl h))
  exact ⟨n, k, by simp [stumpP, e], e⟩
noncomputable def fn_stump : Fn := fnOf (fun ss : List Sg => [sgs ss]) (fun ss => ss ≠ [] ∧ okFrom z0 ss = true ∧ ss.length ≤ 900000) fun ss S => .ok (stumpP ss).d S
theorem map_inj {α : Type} {e : α → D} (h : ∀ a b, e a = e b → a = b) : ∀ a b : List α, a.map e = b.map e → a = b
  | [], [], _ => rfl
  | [], _ :: _, h' => by simp at h'
  | _ :: _, [], h' => by simp at h'
  | a :: r, b :: s, h' => by
    simp only [List.map_cons, List.cons.injEq] at h'
    rw [h a b h'.1, map_inj h r s h'.2]
theorem sgs_inj : ∀ a b : List Sg, [sgs a] = [sgs b] → a = b := fun a b h => map_inj Sg.inj a b (by simpa [sgs] using h)
theorem stump_eq {ss : List Sg} (h : ss ≠ []) (ho : okFrom z0 ss = true) (hz : ss.length ≤ 900000) (S : Sto) : fn_stump [.lst (ss.map Sg.d)] S = .ok (stumpP ss).d S := fnOf_eq (a := ss) sgs_inj ⟨h, ho, hz⟩
theorem ref_stump (ds : List D) (S : Sto) : Ref S (fn_stump ds S) (runB 6 (b_stump fn_can_come) ds S) := by
  refine fnOf_ref (fun ss S ⟨h, ho, hz⟩ => ?_) ds S
  obtain ⟨n, k, e1, e2⟩ := stumpP_all h ho
  obtain ⟨J', a', b', e', hs, he⟩ := stump_loop (S := S) (x := some (sgs ss)) ss _ z0 0 0 none none none (StI.start S.length) ho (by omega)
  obtain ⟨Jc, js, hch, hle, _, _, _, _⟩ := hs.ex
  obtain ⟨ds0, h0, hf⟩ := hch.fin hle .nil .nil
  have e2' : upF .nil (z0.run ss).st (z0.run ss).bot = .el n k .nil := e2
  rw [e2'] at hf
  simp only [Fo.ds] at hf
  cases hf with
  | cons hd hr =>
    cases hr
    rename_i d0
    refine Ref.ok (v2 := d0) (S2 := S ++ J') ?_ (Cl.fz (by rw [e1]; exact hd))
    rw [b_stump_eq]
    simp [sgs, z0] at he
    simp [runB, sgs, he, h0]
/-! the signs of a paper make the paper -/
theorem run_fo : ∀ (f : Fo) (bot : Fo) (m : Str) (g : Fo) (r : List (Str × Fo)), Zp.run ⟨bot, (m, g) :: r⟩ f.sg = ⟨bot, (m, g.app f) :: r⟩ ∧ okFrom ⟨bot, (m, g) :: r⟩ f.sg = true
  | .nil, bot, m, g, r => by simp [Fo.sg, Zp.run, Fo.app_nil, okFrom]
  | .tx s f, bot, m, g, r => by
    have ih := run_fo f bot m (g.app (.tx s .nil)) r
    simp only [Zp.run] at ih
    simp [Fo.sg, Zp.run, Zp.step, addSt, okFrom, Zp.can, canCome, ih, Fo.app_assoc, Fo.app]
  | .el n k f, bot, m, g, r => by
    have ih1 := run_fo k bot n .nil ((m, g) :: r)
    have ih2 := run_fo f bot m (g.app (.el n k .nil)) r
    have hap : ∀ (z : Zp) (a b : List Sg), okFrom z (a ++ b) = (okFrom z a && okFrom (z.run a) b) := by
      intro z a
      induction a generalizing z with
      | nil => intro b; simp [okFrom, Zp.run]
      | cons s a ih => intro b; simp [okFrom, ih, Zp.run, Bool.and_assoc]
    simp only [Zp.run] at ih1 ih2 hap
    simp [Fo.sg, Zp.run, Zp.step, okFrom, hap, ih1, Zp.can, canCome, addSt, addBot, ih2, Fo.app_assoc, Fo.app]
    omega
theorem okFrom_app (z : Zp) (a b : List Sg) : okFrom z (a ++ b) = (okFrom z a && okFrom (z.run a) b) := by
  induction a generalizing z with
  | nil => simp [okFrom, Zp.run]
  | cons s a ih => simp [okFrom, ih, Zp.run, Bool.and_assoc]
theorem run_app (z : Zp) (a b : List Sg) : z.run (a ++ b) = (z.run a).run b := by simp [Zp.run]
theorem stumpP_sg (n : Str) (k : Fo) : stumpP (Pt.el n k).sg = .el n k ∧ okFrom z0 (Pt.el n k).sg = true := by
  have ih := run_fo k .nil n .nil []
  constructor
  · simp only [stumpP, Pt.sg, ← List.cons_append, run_app]
    have e : z0.run (.op n :: k.sg) = Zp.run ⟨.nil, [(n, .nil)]⟩ k.sg := rfl
    rw [e, ih.1]
    simp [Zp.run, Zp.step, addBot, addSt, Zp.all, upF, Fo.app]
  · have e : okFrom z0 (Pt.el n k).sg = okFrom ⟨.nil, [(n, .nil)]⟩ (k.sg ++ [.cl]) := by
      simp [Pt.sg, okFrom, z0, Zp.can, canCome, Zp.begun, Zp.step]
    rw [e, okFrom_app, ih.2, ih.1]
    simp [okFrom, Zp.can, canCome]
end Ev

/-! Ev, the rules, part 7: further built-ins. -/
namespace Ev
open PySem PySem.Spec PyProof.Rows L2
/-- list(x): a list that never changes; one that may -/
def gList (xs : List D) (S : Sto) : R D := match xs with
  | [x] => match seqOf S x with
    | some ds => .ok (.lst ds) S
    | none => .no
  | _ => .no
def gListN (xs : List D) (S : Sto) : R D := match xs with
  | [x] => match seqOf S x with
    | some ds => .ok (.cell S.length) (S ++ [some (.lst ds)])
    | none => .no
  | _ => .no
def gInt (xs : List D) (S : Sto) : R D := match xs with
  | [.int i] => .ok (.int i) S
  | [.bl b] => .ok (.int (if b then 1 else 0)) S
  | _ => .no
section
variable {X : Cx} {Γ : Gm} {W : WX} {e : Expr} {f : Ex} {fs : Ax} {p pos : Pos}
theorem seq_ok {F : Hp} {μ : List Addr} {G H : Hp} {S : Sto} {d : D} {v : V} {ds : List D} (t : Sit Γ F μ G H S) (r : VR Γ.K μ G d v) (h : seqOf S d = some ds) : ∃ a vs, v = .ref a ∧ (SqL Γ.K H a vs ∨ SqT Γ.K H a vs) ∧ VRs Γ.K μ G ds vs := by
  unfold seqOf at h
  split at h
  · cases h
    obtain ⟨a, vs, rfl, h1, _, h2⟩ := t.tup r
    exact ⟨a, vs, rfl, .inr h1, h2⟩
  · obtain ⟨a, vs, rfl, h1, h2⟩ := t.lst r h
    exact ⟨a, vs, rfl, .inl h1, h2⟩
abbrev rListOf (K : PySem.W.Frag) : List V → Hp → VK → Prop := fun xs H Q => ∃ p ys, xs = [.ref p] ∧ (SqL K H p ys ∨ SqT K H p ys) ∧ ∀ l, H l = none → Q (.ref l) (upd H l (.lst ys))
theorem cs_list : CaS Γ gList (rListOf Γ.K) := by
  intro W F μ G H S xs vs Q t rs q
  unfold gList at q
  split at q
  · cases rs with
    | cons r1 r2 =>
      cases r2
      split at q
      · rename_i ds hd
        obtain ⟨a, vs, rfl, h1, h2⟩ := seq_ok t r1 hd
        exact ⟨a, vs, rfl, h1, t.newL h2 q⟩
      · exact q.elim
  · exact q.elim
theorem cs_listN : CaS Γ gListN (rListOf Γ.K) := by
  intro W F μ G H S xs vs Q t rs q
  unfold gListN at q
  split at q
  · cases rs with
    | cons r1 r2 =>
      cases r2
      split at q
      · rename_i ds hd
        obtain ⟨a, vs, rfl, h1, h2⟩ := seq_ok t r1 hd
        exact ⟨a, vs, rfl, h1, fun p np => new_cell t h2 q np⟩
      · exact q.elim
  · exact q.elim
theorem ve_blist (hm : X.mg "list" = none) (ha : VA X Γ W [e] fs) (hg : Gl X "list" := by rfl) (hK : X.K = Γ.K := by rfl) (hs : starEach (e :: []) X.env = (false, eval e X.env) :: starEach [] X.env := by rfl) (hpl : (backTo pos (starEach [] X.env)).any (·.1) = false := by rfl) :
    VE X Γ W (.Call (.Name "list" p) [e] [] pos) (eCall gList fs) := ve_cty (T := "list") call_list_of (hK ▸ cs_list) hg hm (by decide +kernel) ha (by decide) (by decide) hs hpl
theorem ve_blistN (hm : X.mg "list" = none) (ha : VA X Γ W [e] fs) (hg : Gl X "list" := by rfl) (hK : X.K = Γ.K := by rfl) (hs : starEach (e :: []) X.env = (false, eval e X.env) :: starEach [] X.env := by rfl) (hpl : (backTo pos (starEach [] X.env)).any (·.1) = false := by rfl) :
    VE X Γ W (.Call (.Name "list" p) [e] [] pos) (eCall gListN fs) := ve_cty (T := "list") call_list_of (hK ▸ cs_listN) hg hm (by decide +kernel) ha (by decide) (by decide) hs hpl
theorem cs_int : CaS Γ gInt (fun xs H Q => (∃ i, xs = [.int i] ∧ Q (.int i) H) ∨ ∃ k, xs = [.bl k] ∧ Q (.int (if k then 1 else 0)) H) := by
  intro W F μ G H S xs vs Q t rs q
  unfold gInt at q
  split at q
  · cases rs with
    | cons r1 r2 => cases r2; cases r1; exact .inl ⟨_, rfl, q.ok t _ (.int _)⟩
  · cases rs with
    | cons r1 r2 => cases r2; cases r1; exact .inr ⟨_, rfl, q.ok t _ (.int _)⟩
  · exact q.elim
theorem ve_bint (hm : X.mg "int" = none) (ha : VA X Γ W [e] fs) (hg : Gl X "int" := by rfl) (hs : starEach (e :: []) X.env = (false, eval e X.env) :: starEach [] X.env := by rfl) (hpl : (backTo pos (starEach [] X.env)).any (·.1) = false := by rfl) :
    VE X Γ W (.Call (.Name "int" p) [e] [] pos) (eCall gInt fs) := ve_cty (T := "int") call_int1 cs_int hg hm (by decide +kernel) ha (by decide) (by decide) hs hpl
end
section
variable {S : Sto}
@[simp] theorem gList_lst (ds : List D) : gList [.lst ds] S = .ok (.lst ds) S := rfl
@[simp] theorem gListN_lst (ds : List D) : gListN [.lst ds] S = .ok (.cell S.length) (S ++ [some (.lst ds)]) := rfl
@[simp] theorem gList_cell (k : Nat) : gList [.cell k] S = match S[k]? with
    | some (some (.lst ds)) => .ok (.lst ds) S
    | _ => .no := by
  simp only [gList, seqOf, lstOf]
  cases S[k]? with
  | none => rfl
  | some o =>
    cases o with
    | none => rfl
    | some c => cases c <;> rfl
@[simp] theorem gInt_int (i : Int) : gInt [.int i] S = .ok (.int i) S := rfl
@[simp] theorem gInt_bl (b : Bool) : gInt [.bl b] S = .ok (.int (if b then 1 else 0)) S := rfl
end
/-! comprehensions whose parts leave the store as it is -/
theorem compL_gen {chk : Sto → Prop} {h : Hx} {t : Tx} {f : Ex} {σ : Env} {S : Sto} (hc : chk S) (p : D → Bool) (g : D → D) : ∀ (items acc : List D),
    (∀ d ∈ items, ∃ σ1, h d σ = some σ1 ∧ t σ1 S = .ok (p d) S ∧ (p d = true → f σ1 S = .ok (g d) S)) → acc.length + items.length ≤ sizeLine → compL chk h t f σ items acc S = .ok (acc ++ (items.filter p).map g) S
  | [], acc, _, _ => by simp [compL, hc]
  | d :: r, acc, hi, hz => by
    obtain ⟨σ1, h1, h2, h3⟩ := hi d (by simp)
    simp only [List.length_cons] at hz
    rw [compL, if_pos hc]
    simp only [h1, h2]
    by_cases hp : p d = true
    · simp only [hp, if_true, h3 hp]
      rw [if_pos (by omega), compL_gen hc p g r (acc ++ [g d]) (fun d hd => hi d (by simp [hd])) (by simp; omega)]
      simp [hp]
    · simp only [hp, if_false, Bool.false_eq_true]
      rw [compL_gen hc p g r acc (fun d hd => hi d (by simp [hd])) (by omega)]
      simp [hp]
theorem compL_map {chk : Sto → Prop} {h : Hx} {f : Ex} {σ : Env} {S : Sto} (hc : chk S) (g : D → D) (items : List D) (hi : ∀ d ∈ items, ∃ σ1, h d σ = some σ1 ∧ f σ1 S = .ok (g d) S) (hz : items.length ≤ sizeLine) : compL chk h tYes f σ items [] S = .ok (items.map g) S := by
  have := compL_gen (t := tYes) (f := f) (h := h) (σ := σ) hc (fun _ => true) g items [] (fun d hd => by obtain ⟨σ1, a, b⟩ := hi d hd; exact ⟨σ1, a, rfl, fun _ => b⟩) (by simpa using hz)
  rw [List.filter_eq_self.mpr (fun _ _ => rfl), List.nil_append] at this
  exact this
theorem compL_filter {chk : Sto → Prop} {h : Hx} {t : Tx} {f : Ex} {σ : Env} {S : Sto} (hc : chk S) (p : D → Bool) (g : D → D) (items : List D)
    (hi : ∀ d ∈ items, ∃ σ1, h d σ = some σ1 ∧ t σ1 S = .ok (p d) S ∧ (p d = true → f σ1 S = .ok (g d) S)) (hz : items.length ≤ sizeLine) : compL chk h t f σ items [] S = .ok ((items.filter p).map g) S := by
  have := compL_gen hc p g items [] hi (by simpa using hz)
  simpa using this
/-! slices -/
theorem cutG_from {α : Type} (xs : List α) (t : Nat) : cutG xs (some (t : Int)) none = xs.drop t := by
  unfold cutG
  rw [HT.sIx_none, HT.sIx_nat]
  rcases Nat.lt_or_ge t xs.length with h | h
  · rw [Nat.min_eq_left (by omega), List.take_of_length_le (by simp)]
  · rw [Nat.min_eq_right h, List.drop_length, List.drop_of_length_le h]; simp
theorem cutG_to {α : Type} (xs : List α) (t : Nat) : cutG xs none (some (t : Int)) = xs.take t := by
  unfold cutG
  rw [HT.sIx_none, HT.sIx_nat]
  simp only [List.drop_zero, Nat.sub_zero]
  rcases Nat.lt_or_ge t xs.length with h | h
  · rw [Nat.min_eq_left (by omega)]
  · rw [Nat.min_eq_right h, List.take_length, List.take_of_length_le h]
theorem cutG_to' {α : Type} (xs : List α) {i : Int} (h : 0 ≤ i) : cutG xs none (some i) = xs.take i.toNat := by
  obtain ⟨n, rfl⟩ := Int.eq_ofNat_of_zero_le h
  exact cutG_to xs n
theorem cutG_from' {α : Type} (xs : List α) {i : Int} (h : 0 ≤ i) : cutG xs (some i) none = xs.drop i.toNat := by
  obtain ⟨n, rfl⟩ := Int.eq_ofNat_of_zero_le h
  exact cutG_from xs n
theorem intsD_zero (n : Nat) : intsD 0 n = (List.range n).map fun (k : Nat) => D.int (k : Int) := by
  unfold intsD
  simp
theorem atI_map {α : Type} (e : α → D) (xs : List α) (i : Int) : atI (xs.map e) i = (atI xs i).map e := by
  unfold atI
  simp only [List.length_map]
  cases ixN xs.length i with
  | none => rfl
  | some j => simp
theorem atI_mod {α : Type} (xs : List α) (h : xs ≠ []) (i : Int) : ∃ (j : Nat) (x : α), i % (xs.length : Int) = (j : Int) ∧ j < xs.length ∧ xs[j]? = some x ∧ atI xs (i % (xs.length : Int)) = some x ∧ ixN xs.length (i % (xs.length : Int)) = some j := by
  have hl : 0 < xs.length := List.length_pos_iff.mpr h
  have h1 : 0 ≤ i % (xs.length : Int) := Int.emod_nonneg _ (by omega)
  have h2 : i % (xs.length : Int) < (xs.length : Int) := Int.emod_lt_of_pos _ (by omega)
  obtain ⟨j, e⟩ := Int.eq_ofNat_of_zero_le h1
  have hj : j < xs.length := by omega
  have hx : xs[j]? = some xs[j] := List.getElem?_eq_getElem hj
  have hi : ixN xs.length (i % (xs.length : Int)) = some j := by
    rw [e]
    unfold ixN
    rw [if_pos (by omega), if_pos (by omega)]
    rfl
  exact ⟨j, xs[j], e, hj, hx, by rw [e]; exact atI_nat hx, hi⟩
end Ev

/-! the law's own draws, by cells -/
namespace Ev
open PySem PySem.Spec PyProof.Rows L2
noncomputable def b_law_mix : Sx :=
      (sSeq (sAsg 2 (op2 gMod (op2 gMul (op2 gAdd (op2 gAdd (op2 gMod (eVar 0) (eC (.int 2147483647))) (op2 gMul (op2 gMul (eVar 1) (eVar 1)) (eC (.int 7919)))) (eC (.int 104729))) (eC (.int 48271))) (eC (.int 2147483647))))
      (sRet (op2 gMod (op2 gAdd (op2 gMul (eVar 2) (eVar 2)) (op2 gMul (eC (.int 69621)) (eVar 1))) (eC (.int 2147483629)))))
def mixI (c t : Int) : Int :=
  let n := (c % 2147483647 + t * t * 7919 + 104729) * 48271 % 2147483647
  (n * n + 69621 * t) % 2147483629
theorem mixI_pos (c t : Int) : 0 ≤ mixI c t ∧ mixI c t < 2147483629 := by unfold mixI; constructor; exact Int.emod_nonneg _ (by decide); exact Int.emod_lt_of_pos _ (by decide)
noncomputable def fn_law_mix : Fn := fnOf (fun p : Int × Int => [.int p.1, .int p.2]) (fun p => 0 ≤ p.2 ∧ p.2 < 2 ^ 62) fun p S => .ok (.int (mixI p.1 p.2)) S
theorem mix_eq {c t : Int} (h0 : 0 ≤ t) (h : t < 2 ^ 62) (S : Sto) : fn_law_mix [.int c, .int t] S = .ok (.int (mixI c t)) S :=
  fnOf_eq (e := fun p : Int × Int => [.int p.1, .int p.2]) (a := (c, t)) (fun a b h => by
    obtain ⟨a1, a2⟩ := a
    obtain ⟨b1, b2⟩ := b
    simp at h
    rw [h.1, h.2]) ⟨h0, h⟩
theorem ref_law_mix (ds : List D) (S : Sto) : Ref S (fn_law_mix ds S) (runB 3 b_law_mix ds S) := by
  refine fnOf_ref (fun p S ⟨h0, h1⟩ => ?_) ds S
  obtain ⟨c, t⟩ := p
  simp only at h0 h1
  have hn := Int.emod_nonneg ((c % 2147483647 + t * t * 7919 + 104729) * 48271) (show (2147483647 : Int) ≠ 0 by decide)
  have hn2 := Int.emod_lt_of_pos ((c % 2147483647 + t * t * 7919 + 104729) * 48271) (show (0 : Int) < 2147483647 by decide)
  have g1 : (-18446744073709551616 : Int) < t ∧ t < 18446744073709551616 := by omega
  have g2 : (-18446744073709551616 : Int) < (c % 2147483647 + t * t * 7919 + 104729) * 48271 % 2147483647 ∧ (c % 2147483647 + t * t * 7919 + 104729) * 48271 % 2147483647 < 18446744073709551616 := by omega
  exact Ref.self (by simp [runB, b_law_mix, g1, g2, mixI])
noncomputable def b_law_cells_s1 : Sx :=
      (sAsg 3 (op2 gAdd (eSl gSl (eVar 0) oN (oS (eC (.int 63)))) (eLst (aCons (eVar 1) aNil))))
noncomputable def b_law_cells_s2 : Sx :=
      (sAsg 4 (eNew aNil))
noncomputable def b_law_cells_s4 : Sx :=
      (sAsg 5 (eCompN (iL (eVar 3)) (hName 9) tYes (op2 gDiv (eVar 9) (eC (.int 100000))) [9]))
noncomputable def b_law_cells_l1 : Sx :=
      (sSeq (sAsg 7 (op2 gMod (eVar 6) (eCall gLen (aCons (eVar 5) aNil))))
      (sSeq (sExp (eMeth "list" gAppend (eVar 4) (aCons (op2 gMod (op2 gIdx (eVar 5) (eVar 7)) (eC (.int 2147483587))) aNil)))
      (sIx (op2 gDiv (op2 gIdx (eVar 5) (eVar 7)) (eC (.int 2147483587))) (eVar 5) (eVar 7))))
noncomputable def b_law_cells_s5 : Sx :=
      (sFor (iR1 (op2 gAdd (op2 gAdd (eVar 1) (eVar 2)) (eC (.int 1)))) (hName 6) (b_law_cells_l1))
noncomputable def b_law_cells_s6 : Sx :=
      (sAsg 4 (eSl gSlN (eVar 4) (oS (eVar 1)) oN))
noncomputable def b_law_cells_s7 : Sx :=
      (sRet (eSl gSl (eVar 4) oN (oS (op2 gAdd (eC (.int 1)) (op2 gMod (op2 gIdx (eVar 4) (eVar 2)) (eVar 2))))))
noncomputable def b_law_cells_i1 : Sx :=
      (sSeq (b_law_cells_s4)
      (sSeq (b_law_cells_s5)
      (sSeq (b_law_cells_s6)
      (b_law_cells_s7))))
noncomputable def b_law_cells_s3 : Sx :=
      (sIf (tTst (op2 gEq (op2 gMod (op2 gDiv (op2 gIdx (eVar 3) (eC (.int 0))) (eC (.int 50000))) (eC (.int 2))) (eC (.int 1)))) (b_law_cells_i1) sNil)
noncomputable def b_law_cells_s8 : Sx :=
      (sAsg 8 (eC (.int 0)))
noncomputable def b_law_cells_l2 (f_law_mix : Fn) : Sx :=
      (sAsg 8 (op2 gMod (op2 gAdd (op2 gMul (eVar 8) (eC (.int 31))) (eFn 2 f_law_mix (aCons (eVar 9) (aCons (op2 gAdd (eVar 6) (eVar 1)) aNil)))) (eC (.int 2147483629))))
noncomputable def b_law_cells_s9 (f_law_mix : Fn) : Sx :=
      (sFor (iEnum (eVar 3)) (hTup 2 (hCons (hName 6) (hCons (hName 9) hNil))) (b_law_cells_l2 f_law_mix))
noncomputable def b_law_cells_l3 (f_law_mix : Fn) : Sx :=
      (sSeq (sAsg 10 (eFn 2 f_law_mix (aCons (op2 gIdx (eVar 3) (op2 gMod (eVar 6) (eCall gLen (aCons (eVar 3) aNil)))) (aCons (op2 gAdd (op2 gAdd (op2 gMod (eVar 8) (eC (.int 1009))) (eVar 6)) (eVar 1)) aNil))))
      (sExp (eMeth "list" gAppend (eVar 4) (aCons (op2 gMod (op2 gAdd (op2 gMul (eVar 10) (eVar 10)) (op2 gMul (eC (.int 7)) (eVar 6))) (eC (.int 2147483587))) aNil))))
noncomputable def b_law_cells_s10 (f_law_mix : Fn) : Sx :=
      (sFor (iR1 (op2 gAdd (eC (.int 1)) (op2 gMod (op2 gDiv (eVar 8) (eC (.int 1009))) (eVar 2)))) (hName 6) (b_law_cells_l3 f_law_mix))
noncomputable def b_law_cells_s11 : Sx :=
      (sRet (eVar 4))
noncomputable def b_law_cells (f_law_mix : Fn) : Sx :=
      (sSeq (b_law_cells_s1)
      (sSeq (b_law_cells_s2)
      (sSeq (b_law_cells_s3)
      (sSeq (b_law_cells_s8)
      (sSeq (b_law_cells_s9 f_law_mix)
      (sSeq (b_law_cells_s10 f_law_mix)
      (b_law_cells_s11)))))))
def inR (xs : List Int) : Prop := ∀ x ∈ xs, 0 ≤ x ∧ x < 2147483587
theorem inR_snoc {xs : List Int} {x : Int} (h : inR xs) (h0 : 0 ≤ x) (h1 : x < 2147483587) : inR (xs ++ [x]) := fun y hy => by
  rcases List.mem_append.mp hy with hy | hy
  · exact h y hy
  · simp at hy; subst hy; exact ⟨h0, h1⟩
theorem cells_loop1 : ∀ (ks : List Nat) (found lefts : List Int), lefts ≠ [] → found.length + ks.length ≤ 100000 → inR found → ∃ (found' lefts' : List Int), found'.length = found.length + ks.length ∧ inR found' ∧
    ∀ (S : Sto) (a b c d k at_ x8 x9 x10 : Option D), ∃ k' at', forL still (hName 6) b_law_cells_l1 (ks.map fun (k : Nat) => D.int (k : Int)) [a, b, c, d, some (.cell S.length), some (.cell (S.length + 1)), k, at_, x8, x9, x10] (S ++ [some (.lst (found.map D.int)), some (.lst (lefts.map D.int))]) =
      .nx [a, b, c, d, some (.cell S.length), some (.cell (S.length + 1)), k', at', x8, x9, x10] (S ++ [some (.lst (found'.map D.int)), some (.lst (lefts'.map D.int))])
  | [], found, lefts, _, _, hr => ⟨found, lefts, by simp, hr, fun S a b c d k at_ x8 x9 x10 => ⟨k, at_, by simp⟩⟩
  | k :: ks, found, lefts, hl, hz, hr => by
    obtain ⟨j, y, e1, e2, e3, e4, e5⟩ := atI_mod lefts hl (k : Int)
    simp only [List.length_cons] at hz
    obtain ⟨found', lefts', h1, h2, h3⟩ := cells_loop1 ks (found ++ [y % 2147483587]) (lefts.set j (y / 2147483587)) (by simpa using hl) (by simp; omega) (inR_snoc hr (Int.emod_nonneg _ (by decide)) (Int.emod_lt_of_pos _ (by decide)))
    refine ⟨found', lefts', by rw [h1]; simp; omega, h2, fun S a b c d k0 at0 x8 x9 x10 => ?_⟩
    obtain ⟨k', at', h⟩ := h3 S a b c d (some (.int k)) (some (.int ((k : Int) % (lefts.length : Int)))) x8 x9 x10
    refine ⟨k', at', ?_⟩
    have hs : found.length < sizeLine := by rw [sizeLine_val]; omega
    have hp : (0 : Int) < (lefts.length : Int) := by have := List.length_pos_iff.mpr hl; omega
    simp only [List.map_append, List.map_cons, List.map_nil, List.map_set] at h
    have ht : b_law_cells_l1 [a, b, c, d, some (.cell S.length), some (.cell (S.length + 1)), some (.int (k : Int)), at0, x8, x9, x10] (S ++ [some (.lst (found.map D.int)), some (.lst (lefts.map D.int))]) =
        .nx [a, b, c, d, some (.cell S.length), some (.cell (S.length + 1)), some (.int (k : Int)), some (.int ((k : Int) % (lefts.length : Int))), x8, x9, x10] (S ++ [some (.lst (found.map D.int ++ [D.int (y % 2147483587)])), some (.lst ((lefts.map D.int).set j (D.int (y / 2147483587))))]) := by
      simp [b_law_cells_l1, atI_map, e4, e5, hs, hp, List.length_pos_iff.mpr hl]
    simp [ht, h]
theorem cells_loop2 (t : Nat) (ht : t ≤ 10000) : ∀ (cs : List Int) (i : Nat) (n : Int), i + cs.length ≤ 10000 → 0 ≤ n → ∃ n' : Int, 0 ≤ n' ∧
    ∀ (S : Sto) (a c d f x5 k x7 y x10 : Option D), ∃ k' y', forL still (hTup 2 (hCons (hName 6) (hCons (hName 9) hNil))) (b_law_cells_l2 fn_law_mix) (pairsFrom i (cs.map D.int)) [a, some (.int (t : Int)), c, d, f, x5, k, x7, some (.int n), y, x10] S =
      .nx [a, some (.int (t : Int)), c, d, f, x5, k', x7, some (.int n'), y', x10] S
  | [], i, n, _, h0 => ⟨n, h0, fun S a c d f x5 k x7 y x10 => ⟨k, y, by simp [pairsFrom]⟩⟩
  | x :: cs, i, n, hz, h0 => by
    simp only [List.length_cons] at hz
    obtain ⟨n', h1, h2⟩ := cells_loop2 t ht cs (i + 1) ((n * 31 + mixI x ((i : Int) + (t : Int))) % 2147483629) (by omega) (Int.emod_nonneg _ (by decide))
    refine ⟨n', h1, fun S a c d f x5 k x7 y x10 => ?_⟩
    obtain ⟨k', y', h⟩ := h2 S a c d f x5 (some (.int i)) x7 (some (.int x)) x10
    have hm : ∀ S', fn_law_mix [.int x, .int ((i : Int) + (t : Int))] S' = .ok (.int (mixI x ((i : Int) + (t : Int)))) S' := fun S' => mix_eq (by omega) (by omega) S'
    have htt : (b_law_cells_l2 fn_law_mix) [a, some (.int (t : Int)), c, d, f, x5, some (.int (i : Int)), x7, some (.int n), some (.int x), x10] S = .nx [a, some (.int (t : Int)), c, d, f, x5, some (.int (i : Int)), x7, some (.int ((n * 31 + mixI x ((i : Int) + (t : Int))) % 2147483629)), some (.int x), x10] S := by
      simp [b_law_cells_l2, hm]
    exact ⟨k', y', by simp [pairsFrom, htt, h]⟩
theorem cells_loop3 (t : Nat) (ht : t ≤ 10000) (cs : List Int) (hc : cs ≠ []) (n : Int) : ∀ (ks : List Nat) (found : List Int), (∀ k ∈ ks, k ≤ 10000) → found.length + ks.length ≤ 10000 → inR found → ∃ found' : List Int, found'.length = found.length + ks.length ∧ inR found' ∧
    ∀ (S : Sto) (a c x5 k x7 x9 x10 : Option D), ∃ k' x10', forL still (hName 6) (b_law_cells_l3 fn_law_mix) (ks.map fun (k : Nat) => D.int (k : Int)) [a, some (.int (t : Int)), c, some (.lst (cs.map D.int)), some (.cell S.length), x5, k, x7, some (.int n), x9, x10] (S ++ [some (.lst (found.map D.int))]) =
      .nx [a, some (.int (t : Int)), c, some (.lst (cs.map D.int)), some (.cell S.length), x5, k', x7, some (.int n), x9, x10'] (S ++ [some (.lst (found'.map D.int))])
  | [], found, _, _, hr => ⟨found, by simp, hr, fun S a c x5 k x7 x9 x10 => ⟨k, x10, by simp⟩⟩
  | k :: ks, found, hk, hz, hr => by
    obtain ⟨j, y, e1, e2, e3, e4, e5⟩ := atI_mod cs hc (k : Int)
    simp only [List.length_cons] at hz
    have hkk := hk k (by simp)
    have hn0 := Int.emod_nonneg n (show (1009 : Int) ≠ 0 by decide)
    have hn1 := Int.emod_lt_of_pos n (show (0 : Int) < 1009 by decide)
    generalize hm : mixI y (n % 1009 + (k : Int) + (t : Int)) = m
    have hm0 : 0 ≤ m ∧ m < 2147483629 := by rw [← hm]; exact mixI_pos _ _
    obtain ⟨found', h1, h2, h3⟩ := cells_loop3 t ht cs hc n ks (found ++ [(m * m + 7 * (k : Int)) % 2147483587]) (fun k hk' => hk k (by simp [hk'])) (by simp; omega) (inR_snoc hr (Int.emod_nonneg _ (by decide)) (Int.emod_lt_of_pos _ (by decide)))
    refine ⟨found', by rw [h1]; simp; omega, h2, fun S a c x5 k0 x7 x9 x10 => ?_⟩
    obtain ⟨k', x10', h⟩ := h3 S a c x5 (some (.int k)) x7 x9 (some (.int m))
    have hs : found.length < sizeLine := by rw [sizeLine_val]; omega
    have hp : (0 : Int) < (cs.length : Int) := by have := List.length_pos_iff.mpr hc; omega
    have hmm : ∀ S', fn_law_mix [.int y, .int (n % 1009 + (k : Int) + (t : Int))] S' = .ok (.int m) S' := fun S' => by rw [mix_eq (by omega) (by omega) S', hm]
    have g : (-18446744073709551616 : Int) < m ∧ m < 18446744073709551616 := by omega
    simp only [List.map_append, List.map_cons, List.map_nil] at h
    have htt : (b_law_cells_l3 fn_law_mix) [a, some (.int (t : Int)), c, some (.lst (cs.map D.int)), some (.cell S.length), x5, some (.int (k : Int)), x7, some (.int n), x9, x10] (S ++ [some (.lst (found.map D.int))]) =
        .nx [a, some (.int (t : Int)), c, some (.lst (cs.map D.int)), some (.cell S.length), x5, some (.int (k : Int)), x7, some (.int n), x9, some (.int m)] (S ++ [some (.lst (found.map D.int ++ [D.int ((m * m + 7 * (k : Int)) % 2147483587)]))]) := by
      simp [b_law_cells_l3, atI_map, e4, hs, hp, List.length_pos_iff.mpr hc, hmm, g]
    exact ⟨k', x10', by simp [htt, h]⟩
theorem cells_own (ns : List Int) (t m : Nat) (S : Sto) (cds lds : List D) (found lefts : List Int) (y : Int) (k' at' : Option D)
    (q2 : compL still (hName 9) tYes (op2 gDiv (eVar 9) (eC (.int 100000))) [some (.scr ns), some (.int (t : Int)), some (.int (m : Int)), some (.lst cds), some (.cell S.length), none, none, none, none, none, none] cds [] (S ++ [some (.lst [])]) = .ok lds (S ++ [some (.lst [])]))
    (h : forL still (hName 6) b_law_cells_l1 ((List.range (t + m + 1)).map fun (k : Nat) => D.int (k : Int)) [some (.scr ns), some (.int (t : Int)), some (.int (m : Int)), some (.lst cds), some (.cell S.length), some (.cell (S.length + 1)), none, none, none, none, none] (S ++ [some (.lst []), some (.lst lds)]) =
      .nx [some (.scr ns), some (.int (t : Int)), some (.int (m : Int)), some (.lst cds), some (.cell S.length), some (.cell (S.length + 1)), k', at', none, none, none] (S ++ [some (.lst (found.map D.int)), some (.lst (lefts.map D.int))]))
    (hr1 : ((t : Int) + (m : Int) + 1).toNat = t + m + 1) (hr2 : (-4611686018427387904 : Int) ≤ (t : Int) + (m : Int) + 1 ∧ (t : Int) + (m : Int) + 1 < 4611686018427387904)
    (hcut : cutG (found.map D.int) (some (t : Int)) none = (found.map D.int).drop t) (hcut2 : cutG ((found.map D.int).drop t) none (some (1 + y % (m : Int))) = ((found.map D.int).drop t).take (1 + y % (m : Int)).toNat)
    (hya' : atI ((found.map D.int).drop t) (m : Int) = some (.int y)) (hm : 0 < m) :
    b_law_cells_i1 [some (.scr ns), some (.int (t : Int)), some (.int (m : Int)), some (.lst cds), some (.cell S.length), none, none, none, none, none, none] (S ++ [some (.lst [])]) =
          .rt (.lst (((found.drop t).take (1 + y % (m : Int)).toNat).map D.int)) (S ++ [some (.lst (found.map D.int)), some (.lst (lefts.map D.int)), some (.lst ((found.map D.int).drop t))]) := by
  have p1 : b_law_cells_s4 [some (.scr ns), some (.int (t : Int)), some (.int (m : Int)), some (.lst cds), some (.cell S.length), none, none, none, none, none, none] (S ++ [some (.lst [])]) =
      .nx [some (.scr ns), some (.int (t : Int)), some (.int (m : Int)), some (.lst cds), some (.cell S.length), some (.cell (S.length + 1)), none, none, none, none, none] (S ++ [some (.lst []), some (.lst lds)]) := by
    simp [b_law_cells_s4, q2]
  have p2 : b_law_cells_s5 [some (.scr ns), some (.int (t : Int)), some (.int (m : Int)), some (.lst cds), some (.cell S.length), some (.cell (S.length + 1)), none, none, none, none, none] (S ++ [some (.lst []), some (.lst lds)]) =
      .nx [some (.scr ns), some (.int (t : Int)), some (.int (m : Int)), some (.lst cds), some (.cell S.length), some (.cell (S.length + 1)), k', at', none, none, none] (S ++ [some (.lst (found.map D.int)), some (.lst (lefts.map D.int))]) := by
    simp [b_law_cells_s5, hr1, hr2, intsD_zero, h]
  have p3 : b_law_cells_s6 [some (.scr ns), some (.int (t : Int)), some (.int (m : Int)), some (.lst cds), some (.cell S.length), some (.cell (S.length + 1)), k', at', none, none, none] (S ++ [some (.lst (found.map D.int)), some (.lst (lefts.map D.int))]) =
      .nx [some (.scr ns), some (.int (t : Int)), some (.int (m : Int)), some (.lst cds), some (.cell (S.length + 2)), some (.cell (S.length + 1)), k', at', none, none, none] (S ++ [some (.lst (found.map D.int)), some (.lst (lefts.map D.int)), some (.lst ((found.map D.int).drop t))]) := by
    simp [b_law_cells_s6, hcut]
  have p4 : b_law_cells_s7 [some (.scr ns), some (.int (t : Int)), some (.int (m : Int)), some (.lst cds), some (.cell (S.length + 2)), some (.cell (S.length + 1)), k', at', none, none, none] (S ++ [some (.lst (found.map D.int)), some (.lst (lefts.map D.int)), some (.lst ((found.map D.int).drop t))]) =
      .rt (.lst (((found.drop t).take (1 + y % (m : Int)).toNat).map D.int)) (S ++ [some (.lst (found.map D.int)), some (.lst (lefts.map D.int)), some (.lst ((found.map D.int).drop t))]) := by
    simp [b_law_cells_s7, hya', hcut2, hm]
  simp [b_law_cells_i1, p1, p2, p3, p4]
/-- there are such numbers -/
theorem cells_ex (ns : List Int) (t m : Nat) (ht : t + m ≤ 5000) (hm : 0 < m) (hn : ns.length ≤ 63) : ∃ xs : List Int, xs ≠ [] ∧ xs.length ≤ m ∧ inR xs ∧
    ∀ S : Sto, Ref S (.ok (.lst (xs.map D.int)) S) (runB 11 (b_law_cells fn_law_mix) [.scr ns, .int (t : Int), .int (m : Int)] S) := by
  have hcs : cutG (ns.map D.int) none (some 63) ++ [D.int (t : Int)] = (ns.take 63 ++ [(t : Int)]).map D.int := by
    rw [show (63 : Int) = ((63 : Nat) : Int) from rfl, cutG_to]; simp
  have hcl : (ns.take 63 ++ [(t : Int)]).length ≤ 64 := by simp; omega
  have hcn : ns.take 63 ++ [(t : Int)] ≠ [] := by simp
  have hcz : (cutG (ns.map D.int) none (some 63)).length + 1 ≤ sizeLine := by
    have := congrArg List.length hcs
    simp only [List.length_append, List.length_map, List.length_cons, List.length_nil] at this hcl
    rw [sizeLine_val]; omega
  generalize ns.take 63 ++ [(t : Int)] = cs at hcs hcl hcn
  obtain ⟨c0, cr, rfl⟩ : ∃ c0 cr, cs = c0 :: cr := by cases cs with | nil => exact absurd rfl hcn | cons a b => exact ⟨a, b, rfl⟩
  have hcond : ((c0 / 50000 % 2 == 1) = true) ∨ ((c0 / 50000 % 2 == 1) = false) := by cases (c0 / 50000 % 2 == 1) <;> simp
  have hcz2 : ((c0 :: cr).map D.int).length ≤ sizeLine := by rw [sizeLine_val, List.length_map]; omega
  have hS1 : ∀ S : Sto, b_law_cells_s1 [some (.scr ns), some (.int (t : Int)), some (.int (m : Int)), none, none, none, none, none, none, none, none] S = .nx [some (.scr ns), some (.int (t : Int)), some (.int (m : Int)), some (.lst ((c0 :: cr).map D.int)), none, none, none, none, none, none, none] S := fun S => by
    simp [b_law_cells_s1, hcz, hcs]
  have hS2 : ∀ S : Sto, b_law_cells_s2 [some (.scr ns), some (.int (t : Int)), some (.int (m : Int)), some (.lst ((c0 :: cr).map D.int)), none, none, none, none, none, none, none] S = .nx [some (.scr ns), some (.int (t : Int)), some (.int (m : Int)), some (.lst ((c0 :: cr).map D.int)), some (.cell S.length), none, none, none, none, none, none] (S ++ [some (.lst [])]) := fun S => by
    simp [b_law_cells_s2]
  rcases hcond with hb | hb
  · -- the cells' own figures
    have hcomp : ∀ (S : Sto) (a b c d e f g h i k : Option D), compL still (hName 9) tYes (op2 gDiv (eVar 9) (eC (.int 100000))) [a, b, c, d, e, f, g, h, i, none, k] ((c0 :: cr).map D.int) [] S = .ok (((c0 :: cr).map (· / 100000)).map D.int) S := fun S a b c d e f g h i k => by
      rw [compL_map (h := hName 9) trivial (fun d => match d with | .int c => .int (c / 100000) | d => d) _ (fun d hd => by
        obtain ⟨c', _, rfl⟩ := List.mem_map.mp hd
        exact ⟨_, rfl, by simp⟩) hcz2]
      simp
    obtain ⟨found, lefts, h1, h2, h3⟩ := cells_loop1 (List.range (t + m + 1)) [] ((c0 :: cr).map (· / 100000)) (by simp) (by simp; omega) (fun x hx => by cases hx)
    simp only [List.length_nil, List.length_range, Nat.zero_add] at h1
    have hy : ∃ y, (found.drop t)[m]? = some y := ⟨_, List.getElem?_eq_getElem (by rw [List.length_drop]; omega)⟩
    obtain ⟨y, hy⟩ := hy
    have hya : atI (found.drop t) (m : Int) = some y := atI_nat hy
    have hy0 : 0 ≤ y % (m : Int) := Int.emod_nonneg _ (by omega)
    have hy1 : y % (m : Int) < (m : Int) := Int.emod_lt_of_pos _ (by omega)
    refine ⟨(found.drop t).take (1 + y % (m : Int)).toNat, ?_, ?_, fun x hx => h2 x (List.mem_of_mem_drop (List.mem_of_mem_take hx)), fun S => ?_⟩
    · intro e
      have := congrArg List.length e
      simp only [List.length_take, List.length_drop, List.length_nil] at this
      omega
    · simp only [List.length_take, List.length_drop]; omega
    · obtain ⟨k', at', h⟩ := h3 S (some (.scr ns)) (some (.int (t : Int))) (some (.int (m : Int))) (some (.lst ((c0 :: cr).map D.int))) none none none none none
      simp only [List.map_nil] at h
      have hr1 : ((t : Int) + (m : Int) + 1).toNat = t + m + 1 := by omega
      have hr2 : (-4611686018427387904 : Int) ≤ (t : Int) + (m : Int) + 1 ∧ (t : Int) + (m : Int) + 1 < 4611686018427387904 := by omega
      have hcut : cutG (found.map D.int) (some (t : Int)) none = (found.map D.int).drop t := by rw [cutG_from]
      have hcut2 : cutG ((found.map D.int).drop t) none (some (1 + y % (m : Int))) = ((found.map D.int).drop t).take (1 + y % (m : Int)).toNat := by rw [cutG_to' _ (by omega)]
      have hya' : atI ((found.map D.int).drop t) (m : Int) = some (.int y) := by rw [← List.map_drop, atI_map, hya]; rfl
      refine Ref.ok (v2 := .lst (((found.drop t).take (1 + y % (m : Int)).toNat).map D.int)) (S2 := S ++ [some (.lst (found.map D.int)), some (.lst (lefts.map D.int)), some (.lst ((found.map D.int).drop t))]) ?_ (Cl.pure (by simp only [Ev.hb]; exact hbs_all.mpr fun d hd => by obtain ⟨x, _, rfl⟩ := List.mem_map.mp hd; rfl))
      have g1 := hS1 S
      have g2 := hS2 S
      have q1 := cells_own ns t m S _ _ found lefts y k' at' (hcomp (S ++ [some (.lst [])]) (some (.scr ns)) (some (.int (t : Int))) (some (.int (m : Int))) (some (.lst ((c0 :: cr).map D.int))) (some (.cell S.length)) none none none none none) h hr1 hr2 hcut hcut2 hya' hm
      have q3 : b_law_cells_s3 [some (.scr ns), some (.int (t : Int)), some (.int (m : Int)), some (.lst ((c0 :: cr).map D.int)), some (.cell S.length), none, none, none, none, none, none] (S ++ [some (.lst [])]) =
          .rt (.lst (((found.drop t).take (1 + y % (m : Int)).toNat).map D.int)) (S ++ [some (.lst (found.map D.int)), some (.lst (lefts.map D.int)), some (.lst ((found.map D.int).drop t))]) := by
        rw [← q1]
        simp [b_law_cells_s3, hb]
      generalize (c0 :: cr).map D.int = cds at g1 g2 q3
      simp [runB, b_law_cells, g1, g2, q3]
  · -- mixed
    obtain ⟨n, hn0, hn2⟩ := cells_loop2 t (by omega) (c0 :: cr) 0 0 (by omega) (Int.le_refl _)
    have hq0 : 0 ≤ n / 1009 % (m : Int) := Int.emod_nonneg _ (by omega)
    have hq1 : n / 1009 % (m : Int) < (m : Int) := Int.emod_lt_of_pos _ (by omega)
    obtain ⟨found, h1, h2, h3⟩ := cells_loop3 t (by omega) (c0 :: cr) (by simp) n (List.range (1 + n / 1009 % (m : Int)).toNat) [] (fun k hk => by have := List.mem_range.mp hk; omega) (by simp; omega) (fun x hx => by cases hx)
    simp only [List.length_nil, List.length_range, Nat.zero_add] at h1
    refine ⟨found, fun e => by rw [e] at h1; simp at h1; omega, by omega, h2, fun S => ?_⟩
    obtain ⟨k', y', hA⟩ := hn2 (S ++ [some (.lst [])]) (some (.scr ns)) (some (.int (m : Int))) (some (.lst ((c0 :: cr).map D.int))) (some (.cell S.length)) none none none none none
    obtain ⟨k2, x10, hB⟩ := h3 S (some (.scr ns)) (some (.int (m : Int))) none k' none y' none
    have hr2 : (-4611686018427387904 : Int) ≤ 1 + n / 1009 % (m : Int) ∧ 1 + n / 1009 % (m : Int) < 4611686018427387904 := by omega
    have hm' : (0 : Int) < (m : Int) := by omega
    refine Ref.ok (v2 := .cell (S.length + 0)) (S2 := S ++ [some (.lst (found.map D.int))]) ?_ (Cl.frz (j := 0) rfl (by simp only [Ev.hb]; exact hbs_all.mpr fun d hd => by obtain ⟨x, _, rfl⟩ := List.mem_map.mp hd; rfl))
    simp only [List.map_nil] at hB
    have g1 := hS1 S
    have g2 := hS2 S
    have q3 : b_law_cells_s3 [some (.scr ns), some (.int (t : Int)), some (.int (m : Int)), some (.lst ((c0 :: cr).map D.int)), some (.cell S.length), none, none, none, none, none, none] (S ++ [some (.lst [])]) =
        .nx [some (.scr ns), some (.int (t : Int)), some (.int (m : Int)), some (.lst ((c0 :: cr).map D.int)), some (.cell S.length), none, none, none, none, none, none] (S ++ [some (.lst [])]) := by
      simp [b_law_cells_s3, hb]
    have q4 : ∀ a b c d e S', b_law_cells_s8 [a, b, c, d, e, none, none, none, none, none, none] S' = .nx [a, b, c, d, e, none, none, none, some (.int 0), none, none] S' := fun a b c d e S' => by simp [b_law_cells_s8]
    have hcne : (c0 :: cr).map D.int ≠ [] := by simp
    generalize (c0 :: cr).map D.int = cds at g1 g2 q3 hA hB hcne
    have q5 : b_law_cells_s9 fn_law_mix [some (.scr ns), some (.int (t : Int)), some (.int (m : Int)), some (.lst cds), some (.cell S.length), none, none, none, some (.int 0), none, none] (S ++ [some (.lst [])]) =
        .nx [some (.scr ns), some (.int (t : Int)), some (.int (m : Int)), some (.lst cds), some (.cell S.length), none, k', none, some (.int n), y', none] (S ++ [some (.lst [])]) := by
      simp [b_law_cells_s9, hA]
    have q6 : b_law_cells_s10 fn_law_mix [some (.scr ns), some (.int (t : Int)), some (.int (m : Int)), some (.lst cds), some (.cell S.length), none, k', none, some (.int n), y', none] (S ++ [some (.lst [])]) =
        .nx [some (.scr ns), some (.int (t : Int)), some (.int (m : Int)), some (.lst cds), some (.cell S.length), none, k2, none, some (.int n), y', x10] (S ++ [some (.lst (found.map D.int))]) := by
      simp [b_law_cells_s10, hr2, intsD_zero, hB, hm]
    simp [runB, b_law_cells, g1, g2, q3, q4, q5, q6, b_law_cells_s11]
/-- the numbers that the law draws -/
noncomputable def cellsI (p : List Int × Nat × Nat) : List Int := by
  classical exact if h : p.2.1 + p.2.2 ≤ 5000 ∧ 0 < p.2.2 ∧ p.1.length ≤ 63 then (cells_ex p.1 p.2.1 p.2.2 h.1 h.2.1 h.2.2).choose else []
theorem cellsI_spec (ns : List Int) (t m : Nat) (h1 : t + m ≤ 5000) (h2 : 0 < m) (h3 : ns.length ≤ 63) : cellsI (ns, t, m) ≠ [] ∧ (cellsI (ns, t, m)).length ≤ m ∧ inR (cellsI (ns, t, m)) ∧
    ∀ S : Sto, Ref S (.ok (.lst ((cellsI (ns, t, m)).map D.int)) S) (runB 11 (b_law_cells fn_law_mix) [.scr ns, .int (t : Int), .int (m : Int)] S) := by
  unfold cellsI
  rw [dif_pos ⟨h1, h2, h3⟩]
  exact (cells_ex ns t m h1 h2 h3).choose_spec
noncomputable def fn_law_cells : Fn := fnOf (fun p : List Int × Nat × Nat => [.scr p.1, .int (p.2.1 : Int), .int (p.2.2 : Int)]) (fun p => p.2.1 + p.2.2 ≤ 5000 ∧ 0 < p.2.2 ∧ p.1.length ≤ 63) fun p S => .ok (.lst ((cellsI p).map D.int)) S
theorem cells_eq (ns : List Int) (t m : Nat) (h1 : t + m ≤ 5000) (h2 : 0 < m) (h3 : ns.length ≤ 63) (S : Sto) : fn_law_cells [.scr ns, .int (t : Int), .int (m : Int)] S = .ok (.lst ((cellsI (ns, t, m)).map D.int)) S :=
  fnOf_eq (e := fun p : List Int × Nat × Nat => [.scr p.1, .int (p.2.1 : Int), .int (p.2.2 : Int)]) (a := (ns, t, m)) (fun a b h => by
    obtain ⟨a1, a2, a3⟩ := a
    obtain ⟨b1, b2, b3⟩ := b
    simp at h
    obtain ⟨e1, e2, e3⟩ := h
    have e2 : a2 = b2 := by omega
    have e3 : a3 = b3 := by omega
    rw [e1, e2, e3]) ⟨h1, h2, h3⟩
theorem ref_law_cells (ds : List D) (S : Sto) : Ref S (fn_law_cells ds S) (runB 11 (b_law_cells fn_law_mix) ds S) :=
  fnOf_ref (fun p S ⟨h1, h2, h3⟩ => (cellsI_spec p.1 p.2.1 p.2.2 h1 h2 h3).2.2.2 S) ds S
/-! names -/
noncomputable def b_law_names_s1 (f_law_cells : Fn) : Sx :=
      (sAsg 1 (op2 gIdx (eFn 3 f_law_cells (aCons (eVar 0) (aCons (eC (.int 40)) (aCons (eC (.int 1)) aNil)))) (eC (.int 0))))
noncomputable def b_law_names_s2 : Sx :=
      (sAsg 2 (eSl gSl (eC (.str "abcdefabcde")) oN (oS (op2 gMod (eVar 1) (eC (.int 12))))))
noncomputable def b_law_names_s3 : Sx :=
      (sAsg 3 (op2 gMod (op2 gDiv (eVar 1) (eC (.int 12))) (op2 gAdd (eCall gLen (aCons (eVar 2) aNil)) (eC (.int 1)))))
noncomputable def b_law_names_s4 : Sx :=
      (sRet (eComp (iStr (eC (.str "mnopq"))) (hName 4) tYes (op2 gAdd (op2 gAdd (eSl gSl (eVar 2) oN (oS (eVar 3))) (eVar 4)) (eSl gSl (eVar 2) (oS (eVar 3)) oN)) [4]))
noncomputable def b_law_names (f_law_cells : Fn) : Sx :=
      (sSeq (b_law_names_s1 f_law_cells)
      (sSeq (b_law_names_s2)
      (sSeq (b_law_names_s3)
      (b_law_names_s4))))
/-- a name: small letters, at most twelve -/
def nameOk (s : Str) : Prop := (∀ c ∈ s.cps.toList, 97 ≤ c ∧ c ≤ 122) ∧ s.cps.size ≤ 12 ∧ 1 ≤ s.cps.size
theorem nameOk.str {s : Str} (h : nameOk s) : PyData.strOk s = true := by
  unfold PyData.strOk
  rw [Array.all_eq_true']
  intro c hc
  have := h.1 c (by simpa using hc)
  simp; omega
theorem cut_mem {z : Str} {lo hi : Option Int} {c : Nat} (h : c ∈ (cutS z lo hi).cps.toList) : c ∈ z.cps.toList := by
  simp only [cutS] at h
  exact List.mem_of_mem_drop (List.mem_of_mem_take (by simpa using h))
theorem cut_to (z : Str) {i : Int} (h : 0 ≤ i) : (cutS z none (some i)).cps.toList = z.cps.toList.take i.toNat := by
  have := cutG_to' z.cps.toList h
  have hl : z.length = z.cps.toList.length := by simp [Str.length]
  unfold cutG at this
  simp only [cutS, hl]
  exact this
theorem cut_from (z : Str) {i : Int} (h : 0 ≤ i) : (cutS z (some i) none).cps.toList = z.cps.toList.drop i.toNat := by
  have := cutG_from' z.cps.toList h
  have hl : z.length = z.cps.toList.length := by simp [Str.length]
  unfold cutG at this
  simp only [cutS, hl]
  exact this
theorem str_len (z : Str) : z.length = z.cps.toList.length := by simp [Str.length]
theorem str_app (x y : Str) : (x ++ y).cps.toList = x.cps.toList ++ y.cps.toList := by
  show (x.cps ++ y.cps).toList = _
  simp
/-- the names that are made of a number -/
def stemI (n : Int) : Str := cutS "abcdefabcde" none (some (n % 12))
def atN (n : Int) : Int := n / 12 % ((stemI n).length + 1)
def nameI (n : Int) (c : Nat) : Str := cutS (stemI n) none (some (atN n)) ++ ⟨#[c]⟩ ++ cutS (stemI n) (some (atN n)) none
def namesI (n : Int) : List Str := ("mnopq" : Str).cps.toList.map (nameI n)
theorem stem_len (n : Int) : (stemI n).cps.toList.length ≤ 11 := by
  unfold stemI
  rw [cut_to _ (Int.emod_nonneg _ (by decide)), List.length_take]
  have : ("abcdefabcde" : Str).cps.toList.length = 11 := by decide +kernel
  omega
theorem atN_ok (n : Int) : 0 ≤ atN n ∧ atN n ≤ (stemI n).length := by
  unfold atN
  have h1 := Int.emod_nonneg (n / 12) (show ((stemI n).length : Int) + 1 ≠ 0 by omega)
  have h2 := Int.emod_lt_of_pos (n / 12) (show (0 : Int) < ((stemI n).length : Int) + 1 by omega)
  omega
theorem name_len (n : Int) (c : Nat) : (nameI n c).cps.toList.length = (stemI n).cps.toList.length + 1 := by
  have h := atN_ok n
  unfold nameI
  rw [str_app, str_app, cut_to _ h.1, cut_from _ h.1, List.length_append, List.length_append, List.length_take, List.length_drop]
  rw [str_len] at h
  simp
  omega
theorem names_ok (n : Int) : (namesI n).length = 5 ∧ ∀ s ∈ namesI n, nameOk s := by
  constructor
  · unfold namesI; rw [List.length_map]; decide +kernel
  · intro s hs
    unfold namesI at hs
    obtain ⟨c, hc, rfl⟩ := List.mem_map.mp hs
    have hc' : 97 ≤ c ∧ c ≤ 122 := (show ∀ c ∈ ("mnopq" : Str).cps.toList, 97 ≤ c ∧ c ≤ 122 by decide +kernel) c hc
    have hst : ∀ c ∈ (stemI n).cps.toList, 97 ≤ c ∧ c ≤ 122 := fun c h => (show ∀ c ∈ ("abcdefabcde" : Str).cps.toList, 97 ≤ c ∧ c ≤ 122 by decide +kernel) c (cut_mem h)
    have hl := name_len n c
    have hs := stem_len n
    refine ⟨fun d hd => ?_, by simp at hl hs; omega, by simp at hl; omega⟩
    unfold nameI at hd
    rw [str_app, str_app] at hd
    simp only [List.mem_append] at hd
    rcases hd with (hd | hd) | hd
    · exact hst d (cut_mem hd)
    · simp at hd; subst hd; exact hc'
    · exact hst d (cut_mem hd)
/-- the number that the names are made of -/
noncomputable def nameNo (ns : List Int) : Int := (cellsI (ns, 40, 1)).headD 0
noncomputable def fn_law_names : Fn := fnOf (fun ns : List Int => [.scr ns]) (fun ns => ns.length ≤ 63) fun ns S => .ok (.lst ((namesI (nameNo ns)).map D.str)) S
theorem names_eq (ns : List Int) (h : ns.length ≤ 63) (S : Sto) : fn_law_names [.scr ns] S = .ok (.lst ((namesI (nameNo ns)).map D.str)) S := fnOf_eq (a := ns) (fun a b h => by simpa using h) h
theorem ref_law_names (ds : List D) (S : Sto) : Ref S (fn_law_names ds S) (runB 5 (b_law_names fn_law_cells) ds S) := by
  refine fnOf_ref (fun ns S hn => ?_) ds S
  have hc := cells_eq ns 40 1 (by decide) (by decide) hn S
  obtain ⟨h1, h2, h3, _⟩ := cellsI_spec ns 40 1 (by decide) (by decide) hn
  have hno : ∃ r, cellsI (ns, 40, 1) = nameNo ns :: r := by
    unfold nameNo
    cases e : cellsI (ns, 40, 1) with
    | nil => exact absurd e h1
    | cons a r => exact ⟨r, rfl⟩
  obtain ⟨r, hno⟩ := hno
  rw [hno] at hc
  generalize nameNo ns = n at hc
  have g1 : b_law_names_s1 fn_law_cells [some (.scr ns), none, none, none, none] S = .nx [some (.scr ns), some (.int n), none, none, none] S := by
    simp at hc
    simp [b_law_names_s1, hc]
  have hlen : ("abcdefabcde" : Str).length ≤ sizeLine := by decide +kernel
  have g2 : b_law_names_s2 [some (.scr ns), some (.int n), none, none, none] S = .nx [some (.scr ns), some (.int n), some (.str (stemI n)), none, none] S := by
    simp [b_law_names_s2, hlen, stemI]
  have hsl := stem_len n
  rw [← str_len] at hsl
  have hsz : (stemI n).length ≤ sizeLine := by rw [sizeLine_val]; omega
  have hp : (0 : Int) < ((stemI n).length : Int) + 1 := by omega
  have g3 : b_law_names_s3 [some (.scr ns), some (.int n), some (.str (stemI n)), none, none] S = .nx [some (.scr ns), some (.int n), some (.str (stemI n)), some (.int (atN n)), none] S := by
    simp [b_law_names_s3, hsz, hp, atN]
  have hat := atN_ok n
  have g4 : b_law_names_s4 [some (.scr ns), some (.int n), some (.str (stemI n)), some (.int (atN n)), none] S = .rt (.lst ((namesI n).map D.str)) S := by
    have hcomp := compL_map (chk := still) (h := hName 4) (f := (op2 gAdd (op2 gAdd (eSl gSl (eVar 2) oN (oS (eVar 3))) (eVar 4)) (eSl gSl (eVar 2) (oS (eVar 3)) oN))) (σ := [some (.scr ns), some (.int n), some (.str (stemI n)), some (.int (atN n)), none]) (S := S) trivial
      (fun d => match d with | .str c => .str (cutS (stemI n) none (some (atN n)) ++ c ++ cutS (stemI n) (some (atN n)) none) | d => d) (("mnopq" : Str).cps.toList.map fun c => D.str ⟨#[c]⟩) (fun d hd => by
        obtain ⟨c, _, rfl⟩ := List.mem_map.mp hd
        refine ⟨_, rfl, ?_⟩
        have e1 : (cutS (stemI n) none (some (atN n))).length + (⟨#[c]⟩ : Str).length ≤ sizeLine := by
          rw [str_len, cut_to _ hat.1, List.length_take, sizeLine_val]
          rw [str_len] at hsl
          show _ + 1 ≤ _
          omega
        have e2 : (cutS (stemI n) none (some (atN n)) ++ (⟨#[c]⟩ : Str)).length + (cutS (stemI n) (some (atN n)) none).length ≤ sizeLine := by
          rw [str_len, str_len (cutS _ _ _), str_app, cut_from _ hat.1, cut_to _ hat.1, List.length_append, List.length_take, List.length_drop, sizeLine_val]
          rw [str_len] at hsl
          simp
          simp at hsl
          omega
        simp [hsz, e1, e2]) (by rw [sizeLine_val, List.length_map]; decide +kernel)
    have hmm : (("mnopq" : Str).cps.toList.map fun c => D.str ⟨#[c]⟩).map (fun d => match d with | .str c => .str (cutS (stemI n) none (some (atN n)) ++ c ++ cutS (stemI n) (some (atN n)) none) | d => d) = (namesI n).map D.str := by
      unfold namesI
      rw [List.map_map, List.map_map]
      rfl
    rw [hmm] at hcomp
    unfold b_law_names_s4
    rw [sRet_eq, eComp_eq, iStr_eq, eC_eq]
    simp only [R.ok_bind]
    show SO.of ((compL still (hName 4) tYes _ [some (.scr ns), some (.int n), some (.str (stemI n)), some (.int (atN n)), none] (("mnopq" : Str).cps.toList.map fun c => D.str ⟨#[c]⟩) [] S).bind _) _ _ = _
    rw [hcomp]
    rfl
  exact Ref.self (by simp [runB, b_law_names, g1, g2, g3, g4])
end Ev

/-! the row of signs that the law draws -/
namespace Ev
open PySem PySem.Spec PyProof.Rows L2
/-- the texts in it can be compared -/
def Sg.ok : Sg → Prop
  | .op n => PyData.strOk n = true
  | .tx s => PyData.strOk s = true
  | .cl => True
def Sg.pyd : Sg → PyData
  | .op n => .tuple [.str "open", .str n]
  | .tx s => .tuple [.str "text", .str s]
  | .cl => .tuple [.str "close"]
theorem sg_py {s : Sg} (h : s.ok) (S : Sto) (n : Nat) : py S (n + 1) s.d = some s.pyd := by
  have h1 : PyData.strOk "open" = true := by decide +kernel
  have h2 : PyData.strOk "text" = true := by decide +kernel
  have h3 : PyData.strOk "close" = true := by decide +kernel
  cases s with
  | op m => have h' : PyData.strOk m = true := h; simp [Sg.d, py, omap, Sg.pyd, h1, h']
  | tx m => have h' : PyData.strOk m = true := h; simp [Sg.d, py, omap, Sg.pyd, h2, h']
  | cl => simp [Sg.d, py, omap, Sg.pyd, h3]
theorem omap_map {α : Type} {f : D → Option PyData} {e : α → D} {g : α → PyData} : ∀ {xs : List α}, (∀ x ∈ xs, f (e x) = some (g x)) → omap f (xs.map e) = some (xs.map g)
  | [], _ => rfl
  | x :: r, h => by
    have ih := omap_map (f := f) (e := e) (g := g) (xs := r) fun y hy => h y (by simp [hy])
    simp [omap, h x (by simp), ih]
theorem sgs_py {ss : List Sg} (h : ∀ s ∈ ss, s.ok) (S : Sto) (n : Nat) : omap (py S (n + 1)) (ss.map Sg.d) = some (ss.map Sg.pyd) := omap_map fun s hs => sg_py (h s hs) S n
theorem gEq_cell_nil {S : Sto} {k : Nat} {ds : List D} {ps : List PyData} (h : S[k]? = some (some (.lst ds))) (hp : omap (py S 199) ds = some ps) : gEq (.cell k) (.lst []) S = .ok (.bl (decide (ps = []))) S := by
  simp only [gEq, py, h, hp, Option.map_some, omap]
  cases ps <;> simp [PyData.eqv, PyData.eqvAll]
def fiveT : List Str := ["x", "", "y x", "\"", "[a]"]
def Sg.of (names : List Str) : Sg → Prop
  | .op n => n ∈ names
  | .tx s => s ∈ fiveT
  | .cl => True
theorem fiveT_ok : ∀ s ∈ fiveT, PyData.strOk s = true := by decide +kernel
theorem Sg.of_ok {names : List Str} (hn : ∀ n ∈ names, PyData.strOk n = true) {s : Sg} (h : s.of names) : s.ok := by
  cases s with
  | op n => exact hn n h
  | tx n => exact fiveT_ok n h
  | cl => trivial
noncomputable def b_law_signs_s1 : Sx :=
      (sAsg 2 (eLst (aCons (eC (.str "x")) (aCons (eC (.str "")) (aCons (eC (.str "y x")) (aCons (eC (.str "\"")) (aCons (eC (.str "[a]")) aNil)))))))
noncomputable def b_law_signs_s2 : Sx :=
      (sAsg 3 (eNew aNil))
noncomputable def b_law_signs_s3 : Sx :=
      (sAsg 4 (eC (.int 0)))
noncomputable def b_law_signs_s4 : Sx :=
      (sAsg 5 (eC (.int 0)))
noncomputable def b_law_signs_s6 : Sx :=
      (sExp (eMeth "list" gAppend (eVar 3) (aCons (eTup (aCons (eC (.str "open")) (aCons (op2 gIdx (eVar 1) (op2 gMod (op2 gMod (op2 gDiv (eVar 8) (eC (.int 7))) (eC (.int 11))) (eC (.int 5)))) aNil))) aNil)))
noncomputable def b_law_signs_s7 : Sx :=
      (sAsg 4 (op2 gAdd (eVar 4) (eC (.int 1))))
noncomputable def b_law_signs_i1 : Sx :=
      (sSeq (b_law_signs_s6)
      (b_law_signs_s7))
noncomputable def b_law_signs_s8 : Sx :=
      (sExp (eMeth "list" gAppend (eVar 3) (aCons (eTup (aCons (eC (.str "close")) aNil)) aNil)))
noncomputable def b_law_signs_s9 : Sx :=
      (sAsg 4 (op2 gSub (eVar 4) (eC (.int 1))))
noncomputable def b_law_signs_i2 : Sx :=
      (sSeq (b_law_signs_s8)
      (b_law_signs_s9))
noncomputable def b_law_signs_l1 : Sx :=
      (sSeq (sAsg 8 (eVar 7))
      (sSeq (sIf (tTst (op2 gEq (eVar 6) (eC (.int 0)))) (sAsg 5 (op2 gMod (op2 gDiv (eVar 8) (eC (.int 7))) (eC (.int 3)))) sNil)
      (sSeq (sAsg 9 (op2 gMod (op2 gAdd (eVar 8) (op2 gMul (op2 gMul (eVar 5) (op2 gMod (eVar 6) (eC (.int 2)))) (eC (.int 5)))) (eC (.int 7))))
      (sIf (tOr (tTst (op2 gEq (eVar 3) (eLst aNil))) (tAnd (tTst (op2 gLt (eVar 9) (eC (.int 3)))) (tTst (op2 gGt (eVar 4) (eC (.int 0)))))) (b_law_signs_i1) (sIf (tAnd (tTst (op2 gLt (eVar 9) (eC (.int 5)))) (tTst (op2 gGt (eVar 4) (eC (.int 0))))) (sExp (eMeth "list" gAppend (eVar 3) (aCons (eTup (aCons (eC (.str "text")) (aCons (op2 gIdx (eVar 2) (op2 gMod (op2 gDiv (eVar 8) (eC (.int 7))) (eC (.int 5)))) aNil))) aNil))) (sIf (tOr (tTst (op2 gGt (eVar 4) (eC (.int 1)))) (tAnd (tTst (op2 gEq (eVar 4) (eC (.int 1)))) (tTst (op2 gEq (op2 gMod (op2 gDiv (eVar 8) (eC (.int 7))) (eC (.int 6))) (eC (.int 0)))))) (b_law_signs_i2) sNil))))))
noncomputable def b_law_signs_s5 : Sx :=
      (sFor (iEnum (eVar 0)) (hTup 2 (hCons (hName 6) (hCons (hName 7) hNil))) (b_law_signs_l1))
noncomputable def b_law_signs_s10 : Sx :=
      (sRet (eVar 3))
noncomputable def b_law_signs : Sx :=
      (sSeq (b_law_signs_s1)
      (sSeq (b_law_signs_s2)
      (sSeq (b_law_signs_s3)
      (sSeq (b_law_signs_s4)
      (sSeq (b_law_signs_s5)
      (b_law_signs_s10))))))
/-- what stands behind some turns -/
structure SgI (names : List Str) (ss : List Sg) (d : Nat) : Prop where
  ok : okFrom z0 ss = true
  dep : (z0.run ss).st.length = d
  of : ∀ s ∈ ss, s.of names
theorem SgI.snoc {names : List Str} {ss : List Sg} {d : Nat} {s : Sg} (h : SgI names ss d) (hs : s.of names) (hc : (z0.run ss).can s = true) : SgI names (ss ++ [s]) ((z0.run ss).step s).st.length := by
  refine ⟨?_, ?_, fun x hx => ?_⟩
  · rw [okFrom_app, h.ok]; simp [okFrom, hc]
  · rw [run_app]; simp [Zp.run]
  · rcases List.mem_append.mp hx with hx | hx
    · exact h.of x hx
    · simp at hx; subst hx; exact hs
theorem signs_turn {names : List Str} (hn5 : names.length = 5) (hns : ∀ n ∈ names, PyData.strOk n = true) {ss : List Sg} {d : Nat} (hI : SgI names ss d) (hz : ss.length ≤ 1000) {l c : Int} (hl : 0 ≤ l ∧ l ≤ 2) (k : Nat) :
    ∃ (ss' : List Sg) (d' : Nat) (l' : Int), SgI names ss' d' ∧ (0 ≤ l' ∧ l' ≤ 2) ∧ ss'.length ≤ ss.length + 1 ∧ ss' ≠ [] ∧ ∀ (S : Sto) (a x8 x9 : Option D), ∃ x8' x9',
      b_law_signs_l1 [a, some (.lst (names.map D.str)), some (.lst (fiveT.map D.str)), some (.cell S.length), some (.int (d : Int)), some (.int l), some (.int (k : Int)), some (.int c), x8, x9] (S ++ [some (.lst (ss.map Sg.d))]) =
        .nx [a, some (.lst (names.map D.str)), some (.lst (fiveT.map D.str)), some (.cell S.length), some (.int (d' : Int)), some (.int l'), some (.int (k : Int)), some (.int c), x8', x9'] (S ++ [some (.lst (ss'.map Sg.d))]) := by
  have hl' : ∃ l' : Int, l' = (if (k : Int) = 0 then c / 7 % 3 else l) ∧ 0 ≤ l' ∧ l' ≤ 2 := by
    refine ⟨_, rfl, ?_⟩
    have h1 := Int.emod_nonneg (c / 7) (show (3 : Int) ≠ 0 by decide)
    have h2 := Int.emod_lt_of_pos (c / 7) (show (0 : Int) < 3 by decide)
    split <;> omega
  obtain ⟨l', el, hl0, hl2⟩ := hl'
  obtain ⟨jn, nm, _, _, hjn, han, _⟩ := atI_mod names (by intro e; rw [e] at hn5; simp at hn5) (c / 7 % 11)
  obtain ⟨jt, tx, _, _, hjt, hat, _⟩ := atI_mod fiveT (by decide) (c / 7)
  rw [hn5] at han
  have hf5 : fiveT.length = 5 := rfl
  rw [hf5] at hat
  have hnm : nm ∈ names := List.mem_of_getElem? hjn
  have htx : tx ∈ fiveT := List.mem_of_getElem? hjt
  have hzs : ss.length < sizeLine := by rw [sizeLine_val]; omega
  have g1 : (-18446744073709551616 : Int) < l' ∧ l' < 18446744073709551616 := by omega
  have han' : atI (names.map D.str) (c / 7 % 11 % 5) = some (.str nm) := by rw [atI_map]; simp only [Int.cast_ofNat_Int] at han; rw [han]; rfl
  have hat' : atI (fiveT.map D.str) (c / 7 % 5) = some (.str tx) := by rw [atI_map]; simp only [Int.cast_ofNat_Int] at hat; rw [hat]; rfl
  have hnil : ∀ S : Sto, gEq (.cell S.length) (.lst []) (S ++ [some (.lst (ss.map Sg.d))]) = .ok (.bl (decide (ss = []))) (S ++ [some (.lst (ss.map Sg.d))]) := fun S => by
    rw [gEq_cell_nil (ds := ss.map Sg.d) (ps := ss.map Sg.pyd) (by simp) (sgs_py (fun s hs => Sg.of_ok hns (hI.of s hs)) _ 198)]
    simp
  have pre : ∀ (S : Sto) (a x8 x9 : Option D) (f : Sx), sSeq (sAsg 8 (eVar 7)) (sSeq (sIf (tTst (op2 gEq (eVar 6) (eC (.int 0)))) (sAsg 5 (op2 gMod (op2 gDiv (eVar 8) (eC (.int 7))) (eC (.int 3)))) sNil)
      (sSeq (sAsg 9 (op2 gMod (op2 gAdd (eVar 8) (op2 gMul (op2 gMul (eVar 5) (op2 gMod (eVar 6) (eC (.int 2)))) (eC (.int 5)))) (eC (.int 7)))) f))
      [a, some (.lst (names.map D.str)), some (.lst (fiveT.map D.str)), some (.cell S.length), some (.int (d : Int)), some (.int l), some (.int (k : Int)), some (.int c), x8, x9] (S ++ [some (.lst (ss.map Sg.d))]) =
      f [a, some (.lst (names.map D.str)), some (.lst (fiveT.map D.str)), some (.cell S.length), some (.int (d : Int)), some (.int l'), some (.int (k : Int)), some (.int c), some (.int c), some (.int ((c + l' * ((k : Int) % 2) * 5) % 7))] (S ++ [some (.lst (ss.map Sg.d))]) := fun S a x8 x9 f => by
    subst el
    by_cases hk : (k : Int) = 0
    · simp [hk, if_pos]
    · have hk' : ¬ k = 0 := by omega
      simp only [hk, if_false] at g1
      simp [hk, hk', g1]
  generalize hkind : (c + l' * ((k : Int) % 2) * 5) % 7 = kind at pre
  by_cases hA : ss = [] ∨ (kind < 3 ∧ 0 < d)
  · refine ⟨ss ++ [.op nm], d + 1, l', ?_, ⟨hl0, hl2⟩, by simp, by simp, fun S a x8 x9 => ⟨some (.int c), some (.int kind), ?_⟩⟩
    · have := hI.snoc (s := .op nm) hnm (by
        rcases hA with h | ⟨_, h⟩
        · subst h; simp [Zp.can, canCome, z0, Zp.run, Zp.begun]
        · simp only [Zp.can, canCome, hI.dep, Bool.or_eq_true, decide_eq_true_eq]; left; omega)
      simpa [Zp.step, hI.dep] using this
    · unfold b_law_signs_l1
      rw [pre]
      have hi : ∀ S : Sto, b_law_signs_i1 [a, some (.lst (names.map D.str)), some (.lst (fiveT.map D.str)), some (.cell S.length), some (.int (d : Int)), some (.int l'), some (.int (k : Int)), some (.int c), some (.int c), some (.int kind)] (S ++ [some (.lst (ss.map Sg.d))]) =
          .nx [a, some (.lst (names.map D.str)), some (.lst (fiveT.map D.str)), some (.cell S.length), some (.int ((d : Int) + 1)), some (.int l'), some (.int (k : Int)), some (.int c), some (.int c), some (.int kind)] (S ++ [some (.lst (ss.map Sg.d ++ [Sg.d (.op nm)]))]) := fun S => by
        simp [b_law_signs_i1, b_law_signs_s6, b_law_signs_s7, han', hzs, Sg.d]
      rcases hA with h | ⟨h1, h2⟩
      · have hn := hnil S; simp [h] at hi hn; simp [h, hn, hi]
      · by_cases hss : ss = []
        · have hn := hnil S; simp [hss] at hi hn; simp [hss, hn, hi]
        · simp [hnil, hss, h1, h2, hi]
  · have hss : ss ≠ [] := fun e => hA (.inl e)
    have hA2 : ¬ (kind < 3 ∧ 0 < d) := fun e => hA (.inr e)
    by_cases hB : kind < 5 ∧ 0 < d
    · refine ⟨ss ++ [.tx tx], d, l', ?_, ⟨hl0, hl2⟩, by simp, by simp, fun S a x8 x9 => ⟨some (.int c), some (.int kind), ?_⟩⟩
      · have := hI.snoc (s := .tx tx) htx (by simp only [Zp.can, canCome, hI.dep, decide_eq_true_eq]; omega)
        have hst : ((z0.run ss).step (.tx tx)).st.length = d := by
          rw [← hI.dep]
          simp only [Zp.step]
          cases hz : (z0.run ss).st with
          | nil => simp [hz]
          | cons p r => obtain ⟨p1, p2⟩ := p; simp [addSt]
        rw [hst] at this
        exact this
      · unfold b_law_signs_l1
        rw [pre]
        have hk3 : ¬ kind < 3 := fun e => hA2 ⟨e, hB.2⟩
        simp [hnil, hss, hk3, hB.1, hB.2, hat', hzs, Sg.d]
    · by_cases hC : 1 < d ∨ (d = 1 ∧ c / 7 % 6 = 0)
      · refine ⟨ss ++ [.cl], d - 1, l', ?_, ⟨hl0, hl2⟩, by simp, by simp, fun S a x8 x9 => ⟨some (.int c), some (.int kind), ?_⟩⟩
        · have := hI.snoc (s := .cl) trivial (by simp only [Zp.can, canCome, hI.dep, decide_eq_true_eq]; omega)
          have hst : ((z0.run ss).step .cl).st.length = d - 1 := by
            rw [← hI.dep]
            simp only [Zp.step]
            cases hz : (z0.run ss).st with
            | nil => simp [hz]
            | cons p r =>
              obtain ⟨p1, p2⟩ := p
              cases r <;> simp [addSt]
          rw [hst] at this
          exact this
        · unfold b_law_signs_l1
          rw [pre]
          have hd : 0 < d := by omega
          have hk5 : ¬ kind < 5 := fun e => hB ⟨e, hd⟩
          have hk3 : ¬ kind < 3 := by omega
          have hi : ∀ S : Sto, b_law_signs_i2 [a, some (.lst (names.map D.str)), some (.lst (fiveT.map D.str)), some (.cell S.length), some (.int (d : Int)), some (.int l'), some (.int (k : Int)), some (.int c), some (.int c), some (.int kind)] (S ++ [some (.lst (ss.map Sg.d))]) =
              .nx [a, some (.lst (names.map D.str)), some (.lst (fiveT.map D.str)), some (.cell S.length), some (.int ((d - 1 : Nat) : Int)), some (.int l'), some (.int (k : Int)), some (.int c), some (.int c), some (.int kind)] (S ++ [some (.lst (ss.map Sg.d ++ [Sg.d .cl]))]) := fun S => by
            have e : (d : Int) - 1 = ((d - 1 : Nat) : Int) := by omega
            simp [b_law_signs_i2, b_law_signs_s8, b_law_signs_s9, hzs, Sg.d, e]
          rcases hC with h | ⟨h1, h2⟩
          · have h' : (1 : Int) < (d : Int) := by omega
            simp [hnil, hss, hk3, hk5, h', hi]
          · subst h1
            simp at hi
            simp [hnil, hss, hk3, hk5, h2, hi]
      · refine ⟨ss, d, l', hI, ⟨hl0, hl2⟩, by omega, hss, fun S a x8 x9 => ⟨some (.int c), some (.int kind), ?_⟩⟩
        unfold b_law_signs_l1
        rw [pre]
        rcases Nat.lt_or_ge 0 d with hd | hd
        · have hk5 : ¬ kind < 5 := fun e => hB ⟨e, hd⟩
          have hk3 : ¬ kind < 3 := by omega
          have hd1 : d = 1 := by omega
          subst hd1
          have h6 : ¬ c / 7 % 6 = 0 := fun e => hC (.inr ⟨rfl, e⟩)
          simp [hnil, hss, hk3, hk5, h6]
        · have hd0 : d = 0 := by omega
          subst hd0
          simp [hnil, hss]
theorem draws_loop {names : List Str} (hn5 : names.length = 5) (hns : ∀ n ∈ names, PyData.strOk n = true) : ∀ (cs : List Int) (i : Nat) (ss : List Sg) (d : Nat) (l : Int), SgI names ss d → ss.length + cs.length ≤ 1000 → 0 ≤ l ∧ l ≤ 2 →
    ∃ (ss' : List Sg) (d' : Nat) (l' : Int), SgI names ss' d' ∧ ss'.length ≤ ss.length + cs.length ∧ (ss ≠ [] ∨ cs ≠ [] → ss' ≠ []) ∧ ∀ (S : Sto) (a k c x8 x9 : Option D), ∃ k' c' x8' x9',
      forL still (hTup 2 (hCons (hName 6) (hCons (hName 7) hNil))) b_law_signs_l1 (pairsFrom i (cs.map D.int)) [a, some (.lst (names.map D.str)), some (.lst (fiveT.map D.str)), some (.cell S.length), some (.int (d : Int)), some (.int l), k, c, x8, x9] (S ++ [some (.lst (ss.map Sg.d))]) =
        .nx [a, some (.lst (names.map D.str)), some (.lst (fiveT.map D.str)), some (.cell S.length), some (.int (d' : Int)), some (.int l'), k', c', x8', x9'] (S ++ [some (.lst (ss'.map Sg.d))])
  | [], i, ss, d, l, hI, hz, hl => ⟨ss, d, l, hI, by simp, by simp, fun S a k c x8 x9 => ⟨k, c, x8, x9, by simp [pairsFrom]⟩⟩
  | x :: cs, i, ss, d, l, hI, hz, hl => by
    simp only [List.length_cons] at hz
    obtain ⟨s1, d1, l1, i1, q1, n1, ne1, h1⟩ := signs_turn hn5 hns hI (by omega) (c := x) hl i
    obtain ⟨s2, d2, l2, i2, n2, ne2, h2⟩ := draws_loop hn5 hns cs (i + 1) s1 d1 l1 i1 (by omega) q1
    refine ⟨s2, d2, l2, i2, by simp; omega, fun _ => ne2 (.inl ne1), fun S a k c x8 x9 => ?_⟩
    obtain ⟨y8, y9, g1⟩ := h1 S a x8 x9
    obtain ⟨k', c', z8, z9, g2⟩ := h2 S a (some (.int i)) (some (.int x)) y8 y9
    exact ⟨k', c', z8, z9, by simp [pairsFrom, g1, g2]⟩
def okNames (names : List Str) : Prop := names.length = 5 ∧ ∀ n ∈ names, PyData.strOk n = true
theorem signs_ex (cs : List Int) (names : List Str) (hn : okNames names) (hc : cs.length ≤ 1000) : ∃ ss : List Sg, okFrom z0 ss = true ∧ (∀ s ∈ ss, s.of names) ∧ ss.length ≤ cs.length ∧ (cs ≠ [] → ss ≠ []) ∧
    ∀ S : Sto, Ref S (.ok (sgs ss) S) (runB 10 b_law_signs [.lst (cs.map D.int), .lst (names.map D.str)] S) := by
  obtain ⟨ss, d, l, hI, h2, h3, h4⟩ := draws_loop hn.1 hn.2 cs 0 [] 0 0 ⟨rfl, rfl, by simp⟩ (by simpa using hc) (by decide)
  refine ⟨ss, hI.ok, hI.of, by simpa using h2, fun e => h3 (.inr e), fun S => ?_⟩
  obtain ⟨k', c', x8', x9', h⟩ := h4 S (some (.lst (cs.map D.int))) none none none none
  have g5 : b_law_signs_s5 [some (.lst (cs.map D.int)), some (.lst (names.map D.str)), some (.lst (fiveT.map D.str)), some (.cell S.length), some (.int 0), some (.int 0), none, none, none, none] (S ++ [some (.lst [])]) =
      .nx [some (.lst (cs.map D.int)), some (.lst (names.map D.str)), some (.lst (fiveT.map D.str)), some (.cell S.length), some (.int (d : Int)), some (.int l), k', c', x8', x9'] (S ++ [some (.lst (ss.map Sg.d))]) := by
    simp at h
    simp [b_law_signs_s5, h]
  have g1 : b_law_signs_s1 [some (.lst (cs.map D.int)), some (.lst (names.map D.str)), none, none, none, none, none, none, none, none] S = .nx [some (.lst (cs.map D.int)), some (.lst (names.map D.str)), some (.lst (fiveT.map D.str)), none, none, none, none, none, none, none] S := by
    simp [b_law_signs_s1, fiveT]
  refine Ref.ok (v2 := .cell (S.length + 0)) (S2 := S ++ [some (.lst (ss.map Sg.d))]) ?_ (Cl.frz (j := 0) rfl (by simp only [Ev.hb]; exact hbs_sg _ _))
  · simp [runB, b_law_signs, g1, b_law_signs_s2, b_law_signs_s3, b_law_signs_s4, g5, b_law_signs_s10]
noncomputable def signsI (p : List Int × List Str) : List Sg := by
  classical exact if h : okNames p.2 ∧ p.1.length ≤ 1000 then (signs_ex p.1 p.2 h.1 h.2).choose else []
theorem signsI_spec (cs : List Int) (names : List Str) (hn : okNames names) (hc : cs.length ≤ 1000) : okFrom z0 (signsI (cs, names)) = true ∧ (∀ s ∈ signsI (cs, names), s.of names) ∧ (signsI (cs, names)).length ≤ cs.length ∧ (cs ≠ [] → signsI (cs, names) ≠ []) ∧
    ∀ S : Sto, Ref S (.ok (sgs (signsI (cs, names))) S) (runB 10 b_law_signs [.lst (cs.map D.int), .lst (names.map D.str)] S) := by
  unfold signsI
  rw [dif_pos ⟨hn, hc⟩]
  exact (signs_ex cs names hn hc).choose_spec
noncomputable def fn_law_signs : Fn := fnOf (fun p : List Int × List Str => [.lst (p.1.map D.int), .lst (p.2.map D.str)]) (fun p => okNames p.2 ∧ p.1.length ≤ 1000) fun p S => .ok (sgs (signsI p)) S
theorem signs_eq (cs : List Int) (names : List Str) (hn : okNames names) (hc : cs.length ≤ 1000) (S : Sto) : fn_law_signs [.lst (cs.map D.int), .lst (names.map D.str)] S = .ok (sgs (signsI (cs, names))) S :=
  fnOf_eq (e := fun p : List Int × List Str => [.lst (p.1.map D.int), .lst (p.2.map D.str)]) (a := (cs, names)) (fun a b h => by
    obtain ⟨a1, a2⟩ := a
    obtain ⟨b1, b2⟩ := b
    simp only [List.cons.injEq, D.lst.injEq, and_true] at h
    rw [map_inj (fun a b h => by simpa using h) _ _ h.1, map_inj (fun a b h => by simpa using h) _ _ h.2]) ⟨hn, hc⟩
theorem ref_law_signs (ds : List D) (S : Sto) : Ref S (fn_law_signs ds S) (runB 10 b_law_signs ds S) :=
  fnOf_ref (fun p S ⟨h1, h2⟩ => (signsI_spec p.1 p.2 h1 h2).2.2.2.2 S) ds S
@[simp] theorem sne_open_text : (("open" : Str) = "text") = False := by apply eq_false; decide
@[simp] theorem sne_open_close : (("open" : Str) = "close") = False := by apply eq_false; decide
@[simp] theorem sne_text_open : (("text" : Str) = "open") = False := by apply eq_false; decide
@[simp] theorem sne_text_close : (("text" : Str) = "close") = False := by apply eq_false; decide
@[simp] theorem sne_close_open : (("close" : Str) = "open") = False := by apply eq_false; decide
@[simp] theorem sne_close_text : (("close" : Str) = "text") = False := by apply eq_false; decide
noncomputable def b_law_depth_s1 : Sx :=
      (sRet (op2 gSub (eCall gLen (aCons (eComp (iL (eVar 0)) (hName 1) (tTst (op2 gEq (op2 gIdx (eVar 1) (eC (.int 0))) (eC (.str "open")))) (eVar 1) [1]) aNil)) (eCall gLen (aCons (eComp (iL (eVar 0)) (hName 1) (tTst (op2 gEq (op2 gIdx (eVar 1) (eC (.int 0))) (eC (.str "close")))) (eVar 1) [1]) aNil))))
noncomputable def b_law_depth : Sx :=
      (b_law_depth_s1)
/-- what the signs have opened and not closed -/
def opens (ss : List Sg) : Nat := (ss.filter fun s => match s with | .op _ => true | _ => false).length
def closes (ss : List Sg) : Nat := (ss.filter fun s => match s with | .cl => true | _ => false).length
noncomputable def fn_law_depth : Fn := fnOf (fun ss : List Sg => [sgs ss]) (fun ss => ss.length ≤ 900000) fun ss S => .ok (.int ((opens ss : Int) - (closes ss : Int))) S
theorem depth_eq {ss : List Sg} (h : ss.length ≤ 900000) (S : Sto) : fn_law_depth [.lst (ss.map Sg.d)] S = .ok (.int ((opens ss : Int) - (closes ss : Int))) S := fnOf_eq (a := ss) sgs_inj h
theorem filter_sg (ss : List Sg) (p : D → Bool) : (ss.map Sg.d).filter p = (ss.filter fun s => p s.d).map Sg.d := by
  induction ss with
  | nil => rfl
  | cons s r ih => simp only [List.map_cons, List.filter_cons, ih]; split <;> rfl
theorem ref_law_depth (ds : List D) (S : Sto) : Ref S (fn_law_depth ds S) (runB 2 b_law_depth ds S) := by
  refine fnOf_ref (fun ss S hs => ?_) ds S
  have hz : ss.length ≤ sizeLine := by rw [sizeLine_val]; omega
  have c1 := compL_filter (chk := still) (h := hName 1) (t := tTst (op2 gEq (op2 gIdx (eVar 1) (eC (.int 0))) (eC (.str "open")))) (f := eVar 1) (σ := [some (sgs ss), none]) (S := S) trivial
    (fun d => match d with | .tup (.str t :: _) => decide (t = "open") | _ => false) id (ss.map Sg.d) (fun d hd => by
      obtain ⟨s, _, rfl⟩ := List.mem_map.mp hd
      exact ⟨[some (sgs ss), some s.d], by simp, by cases s <;> simp [Sg.d], fun _ => by simp⟩) (by simpa using hz)
  have c2 := compL_filter (chk := still) (h := hName 1) (t := tTst (op2 gEq (op2 gIdx (eVar 1) (eC (.int 0))) (eC (.str "close")))) (f := eVar 1) (σ := [some (sgs ss), none]) (S := S) trivial
    (fun d => match d with | .tup (.str t :: _) => decide (t = "close") | _ => false) id (ss.map Sg.d) (fun d hd => by
      obtain ⟨s, _, rfl⟩ := List.mem_map.mp hd
      exact ⟨[some (sgs ss), some s.d], by simp, by cases s <;> simp [Sg.d], fun _ => by simp⟩) (by simpa using hz)
  rw [List.map_id, filter_sg] at c1 c2
  have e1 : (ss.filter fun s => match s.d with | .tup (.str t :: _) => decide (t = "open") | _ => false) = ss.filter fun s => match s with | .op _ => true | _ => false := by
    congr 1; funext s; cases s <;> simp [Sg.d]
  have e2 : (ss.filter fun s => match s.d with | .tup (.str t :: _) => decide (t = "close") | _ => false) = ss.filter fun s => match s with | .cl => true | _ => false := by
    congr 1; funext s; cases s <;> simp [Sg.d]
  rw [e1] at c1
  rw [e2] at c2
  have l1 : (ss.filter fun s => match s with | .op _ => true | _ => false).length ≤ ss.length := List.length_filter_le _ _
  have l2 : (ss.filter fun s => match s with | .cl => true | _ => false).length ≤ ss.length := List.length_filter_le _ _
  have q1 : (-18446744073709551616 : Int) < opens ss := by omega
  refine Ref.self ?_
  simp [sgs] at c1 c2
  simp [runB, sgs, b_law_depth, b_law_depth_s1, wipeE, c1, c2, opens, closes]
noncomputable def b_law_paper_s1 : Sx :=
      (sAsg 1 (eNew aNil))
noncomputable def b_law_paper_s2 : Sx :=
      (sAsg 2 (eNew (aCons (eVar 1) aNil)))
noncomputable def b_law_paper_s4 : Sx :=
      (sExp (eMeth "list" gAppend (op2 gIdx (eVar 2) (op1 gNeg (eC (.int 1)))) (aCons (eTup (aCons (op2 gIdx (eVar 3) (eC (.int 1))) (aCons (eNew aNil) aNil))) aNil)))
noncomputable def b_law_paper_s5 : Sx :=
      (sExp (eMeth "list" gAppend (eVar 2) (aCons (op2 gIdx (op2 gIdx (op2 gIdx (eVar 2) (op1 gNeg (eC (.int 1)))) (op1 gNeg (eC (.int 1)))) (eC (.int 1))) aNil)))
noncomputable def b_law_paper_i1 : Sx :=
      (sSeq (b_law_paper_s4)
      (b_law_paper_s5))
noncomputable def b_law_paper_l1 : Sx :=
      (sIf (tTst (op2 gEq (op2 gIdx (eVar 3) (eC (.int 0))) (eC (.str "open")))) (b_law_paper_i1) (sIf (tTst (op2 gEq (op2 gIdx (eVar 3) (eC (.int 0))) (eC (.str "text")))) (sExp (eMeth "list" gAppend (op2 gIdx (eVar 2) (op1 gNeg (eC (.int 1)))) (aCons (op2 gIdx (eVar 3) (eC (.int 1))) aNil))) (sExp (eMeth "list" gPop (eVar 2) aNil))))
noncomputable def b_law_paper_s3 : Sx :=
      (sFor (iL (eVar 0)) (hName 3) (b_law_paper_l1))
noncomputable def b_law_paper_s6 : Sx :=
      (sRet (op2 gIdx (eVar 1) (eC (.int 0))))
noncomputable def b_law_paper : Sx :=
      (sSeq (b_law_paper_s1)
      (sSeq (b_law_paper_s2)
      (sSeq (b_law_paper_s3)
      (b_law_paper_s6))))
theorem paper_turn {S J : Sto} {z : Zp} {t : Nat} {s : Sg} {x : Option D} (h : StI S.length J z t) (hc : z.can s = true) (ht : t ≤ 1000000) :
    ∃ J', StI S.length J' (z.step s) (t + 1) ∧ b_law_paper_l1 [x, some (.cell S.length), some (.cell (S.length + 1)), some s.d] (S ++ J) = .nx [x, some (.cell S.length), some (.cell (S.length + 1)), some s.d] (S ++ J') := by
  obtain ⟨Jc, js, hch, hle, hlen, hp, hpile, hst⟩ := h.ex
  have hjl := hch.len
  obtain ⟨j, jr, ds, rfl, hj, hdt, hjn, hj0, hlink, happ⟩ := hch.top
  simp only [List.reverse_cons, List.map_append, List.map_cons, List.map_nil] at hpile
  simp only [List.length_cons, Nat.add_right_cancel_iff] at hjl
  have hj1 : j ≠ 1 := fun e => hch.ne1 (by simp [e])
  have hjJ : j < J.length := (List.getElem?_eq_some_iff.mp hj).1
  have h1J : 1 < J.length := (List.getElem?_eq_some_iff.mp hpile).1
  have hds : ds.length < sizeLine := by rw [sizeLine_val]; omega
  have hpl : (jr.length : Int) + 1 - 1 = (z.st.length : Int) := by omega
  have hpz : jr.length + 1 < sizeLine := by rw [sizeLine_val]; omega
  have hcan : z.can s = true := hc
  have hset : ∀ (l : Sto) (c : Option C) (i : Nat), i ≠ j → (l.set j c)[i]? = l[i]? := fun l c i h => List.getElem?_set_ne (Ne.symm h)
  have hset1 : ∀ (l : Sto) (c : Option C) (i : Nat), i ≠ 1 → (l.set 1 c)[i]? = l[i]? := fun l c i h => List.getElem?_set_ne (Ne.symm h)
  cases s with
  | op m =>
    have e1 : (J ++ [some (C.lst [])])[1]? = some (some (.lst (jr.reverse.map (fun j => D.cell (S.length + j)) ++ [.cell (S.length + j)]))) := by rw [List.getElem?_append_left h1J]; exact hpile
    have ej : (J ++ [some (C.lst [])])[j]? = some (some (.lst ds)) := by rw [List.getElem?_append_left hjJ]; exact hj
    refine ⟨((J ++ [some (C.lst [])]).set j (some (.lst (ds ++ [D.tup [.str m, .cell (S.length + J.length)]])))).set 1 (some (.lst ((jr.reverse.map (fun j => D.cell (S.length + j)) ++ [.cell (S.length + j)]) ++ [.cell (S.length + J.length)]))), ⟨Jc ++ [none], J.length :: j :: jr, ?_, ?_, ?_, ?_, ?_, ?_⟩, ?_⟩
    · have hold := hlink [D.tup [.str m, .cell (S.length + J.length)]]
      have hlt := hch.lt
      have hfr := hch.free
      have hne := hch.ne1
      refine .cons (ds := []) ?_ ?_ (by omega) (fun z => by have := hlt _ z; omega) (by simp) .nil (hold.mono (by simp) (fun i hi => ?_) (fun i hi => ?_) fun i c e => ?_)
      · rw [hset1 _ _ _ (by omega), hset _ _ _ (by omega)]; simp
      · rw [← hlen]; simp
      · have h1 : i ≠ 1 := fun e => hne (by rw [← e]; exact hi)
        rw [hset1 _ _ _ h1, List.set_append_left _ _ hjJ, List.getElem?_append_left (by simpa using hlt i hi)]
      · rw [List.getElem?_append_left (by rw [hlen]; exact hlt i hi)]; exact hfr i hi
      · rw [List.getElem?_append_left (List.getElem?_eq_some_iff.mp e).1]; exact e
    · intro i c e
      have hi : i < Jc.length := by
        have := (List.getElem?_eq_some_iff.mp e).1
        simp at this
        rcases Nat.lt_or_ge i Jc.length with h | h
        · exact h
        · have : i = Jc.length := by omega
          subst this
          simp at e
      rw [List.getElem?_append_left hi] at e
      have n1 : i ≠ 1 := fun z => by rw [z, hp] at e; cases e
      have nj : i ≠ j := fun z => by rw [z, hch.free j (by simp)] at e; cases e
      rw [hset1 _ _ _ n1, hset _ _ _ nj, List.getElem?_append_left (by omega)]
      exact hle i c e
    · simp [hlen]
    · rw [List.getElem?_append_left (by omega)]; exact hp
    · rw [List.getElem?_set_self (by simp; omega)]; simp
    · simp [Zp.step]; omega
    · have es : ∀ c : Option C, ((J ++ [some (C.lst [])]).set j c)[j]? = some c := fun c => List.getElem?_set_self (by simp; omega)
      simp [b_law_paper_l1, b_law_paper_i1, b_law_paper_s4, b_law_paper_s5, hpile, e1, ej, es, hj, hset, hj1.symm, hds, hpz, Sg.d, Nat.add_assoc]
  | tx m =>
    cases hz : z.st with
    | nil => simp [Zp.can, canCome, hz] at hcan
    | cons p r =>
      have hn := happ [.str m] (.tx m .nil) (.cons (.str m) .nil)
      refine ⟨J.set j (some (.lst (ds ++ [.str m]))), ⟨Jc, j :: jr, ?_, ?_, ?_, hp, ?_, ?_⟩, ?_⟩
      · rw [hz] at hn
        simp only [Zp.step, hz]
        exact hn
      · intro i c e
        have nj : i ≠ j := fun z => by rw [z, hch.free j (by simp)] at e; cases e
        rw [hset _ _ _ nj]; exact hle i c e
      · simp [hlen]
      · rw [hset _ _ _ hj1.symm]; simpa using hpile
      · obtain ⟨p1, p2⟩ := p
        rw [hz] at hst
        simp only [Zp.step, hz, addSt, List.length_cons] at hst ⊢; omega
      · simp [b_law_paper_l1, hpile, hpl, hj, hds, Sg.d]
  | cl =>
    cases hz : z.st with
    | nil => simp [Zp.can, canCome, hz] at hcan
    | cons p r =>
      obtain ⟨m, f⟩ := p
      rw [hz] at hch
      have hfr := hch.free
      have hne := hch.ne1
      cases hch with
      | cons q1 q2 q3 q4 q5 q6 q7 =>
        rename_i ds0
        rw [List.append_nil] at q1
        have hjc : j < Jc.length := by omega
        have hJc' : ∀ (i : Nat) (c : C), Jc[i]? = some (some c) → (Jc.set j (some (.lst ds0)))[i]? = some (some c) := fun i c e => by
          have nj : i ≠ j := fun z => by rw [z, q2] at e; cases e
          rw [hset _ _ _ nj]; exact e
        refine ⟨J.set 1 (some (.lst (jr.reverse.map fun j => D.cell (S.length + j)))), ⟨Jc.set j (some (.lst ds0)), jr, ?_, ?_, ?_, ?_, ?_, ?_⟩, ?_⟩
        · simp only [Zp.step, hz]
          refine (q7.mono (J' := J.set 1 (some (.lst (jr.reverse.map fun j => D.cell (S.length + j))))) (Jc' := Jc.set j (some (.lst ds0))) (Nat.le_succ t) (fun i hi => ?_) (fun i hi => ?_) hJc').absorb (.cons (.tup (.cons (.str _) (.cons (.cell ?_ (q6.mono hJc')) .nil))) .nil)
          · exact hset1 _ _ _ fun e => hne (by rw [← e]; simp [hi])
          · rw [hset _ _ _ (fun e => q4 (by rw [← e]; exact hi))]; exact hfr i (by simp [hi])
          · exact List.getElem?_set_self hjc
        · intro i c e
          by_cases nj : i = j
          · subst nj
            rw [List.getElem?_set_self hjc] at e
            cases e
            rw [hset1 _ _ _ hj1]; exact q1
          · rw [hset _ _ _ nj] at e
            have n1 : i ≠ 1 := fun z => by rw [z, hp] at e; cases e
            rw [hset1 _ _ _ n1]; exact hle i c e
        · simp [hlen]
        · rw [hset _ _ _ hj1.symm]; exact hp
        · rw [List.getElem?_set_self h1J]
        · rw [hz] at hst
          have : (addSt (.el m f .nil) r).length = r.length := by cases r <;> simp [addSt]
          simp only [Zp.step, hz, List.length_cons] at hst ⊢; omega
        · have hjp : jr.length + 1 - 1 = jr.length := by omega
          simp [b_law_paper_l1, hpile, hpl, Sg.d]

theorem paper_loop {S : Sto} {x : Option D} : ∀ (ss : List Sg) (J : Sto) (z : Zp) (t : Nat) (b : Option D), StI S.length J z t → okFrom z ss = true → t + ss.length ≤ 1000000 →
    ∃ J' b', StI S.length J' (z.run ss) (t + ss.length) ∧ forL still (hName 3) b_law_paper_l1 (ss.map Sg.d) [x, some (.cell S.length), some (.cell (S.length + 1)), b] (S ++ J) =
      .nx [x, some (.cell S.length), some (.cell (S.length + 1)), b'] (S ++ J')
  | [], J, z, t, b, h, _, _ => ⟨J, b, h, by simp⟩
  | s :: r, J, z, t, b, h, ho, ht => by
    obtain ⟨h1, h2⟩ := okFrom_cons ho
    simp only [List.length_cons] at ht
    obtain ⟨J1, hs1, he1⟩ := paper_turn (x := x) h h1 (by omega)
    obtain ⟨J', b', hs, he⟩ := paper_loop (x := x) r J1 (z.step s) (t + 1) (some s.d) hs1 h2 (by omega)
    refine ⟨J', b', ?_, ?_⟩
    · have : t + (s :: r).length = t + 1 + r.length := by simp; omega
      rw [this]; exact hs
    · simp [he1, he]
noncomputable def fn_law_paper : Fn := fnOf (fun ss : List Sg => [sgs ss]) (fun ss => ss ≠ [] ∧ okFrom z0 ss = true ∧ ss.length ≤ 900000) fun ss S => .ok (stumpP ss).d S
theorem paper_eq {ss : List Sg} (h : ss ≠ []) (ho : okFrom z0 ss = true) (hz : ss.length ≤ 900000) (S : Sto) : fn_law_paper [.lst (ss.map Sg.d)] S = .ok (stumpP ss).d S := fnOf_eq (a := ss) sgs_inj ⟨h, ho, hz⟩
theorem ref_law_paper (ds : List D) (S : Sto) : Ref S (fn_law_paper ds S) (runB 4 b_law_paper ds S) := by
  refine fnOf_ref (fun ss S ⟨h, ho, hz⟩ => ?_) ds S
  obtain ⟨n, k, e1, e2⟩ := stumpP_all h ho
  obtain ⟨J', b', hs, he⟩ := paper_loop (S := S) (x := some (sgs ss)) ss _ z0 0 none (StI.start S.length) ho (by omega)
  obtain ⟨Jc, js, hch, hle, _, _, _, _⟩ := hs.ex
  obtain ⟨ds0, h0, hf⟩ := hch.fin hle .nil .nil
  have e2' : upF .nil (z0.run ss).st (z0.run ss).bot = .el n k .nil := e2
  rw [e2'] at hf
  simp only [Fo.ds] at hf
  cases hf with
  | cons hd hr =>
    cases hr
    rename_i d0
    refine Ref.ok (v2 := d0) (S2 := S ++ J') ?_ (Cl.fz (by rw [e1]; exact hd))
    simp [sgs] at he
    simp [runB, b_law_paper, b_law_paper_s1, b_law_paper_s2, b_law_paper_s3, b_law_paper_s6, sgs, he, h0]
end Ev

/-! Ev: the law's start. -/
namespace Ev
open PySem PySem.Spec PyProof.Rows L2
theorem law_start {Γ : Gm} {H : Hp} {a : Addr} {ns : List Int} {fn : Fn} (hS : SqL Γ.K H a (ns.map V.int)) (hf : ∀ S : Sto, fn [.scr ns] S = .ok (.bl true) S) : spOf Γ 1 fn [.ref a] H (fun v _ => v = .bl true) fun _ _ _ => False := by
  refine ⟨fun _ => none, [], H, [.scr ns], [], rfl, .cons (.scr hS) .nil, ⟨Same.refl _, (fun _ _ e => by cases e), fun _ _ => rfl, fun _ _ _ => rfl, rfl, .nil, fun a ha => (by cases ha), (fun k a c h => by simp at h), (fun k c h => by simp at h)⟩, ?_⟩
  rw [hf]
  intro μ' G' H' l s t vv r
  cases r
  rfl
end Ev

/-! Ev, the rules, part 8: own classes: fields, methods, new instances. -/
namespace Ev
open PySem PySem.Spec PyProof.Rows L2
/-- a field's new value -/
def putD (f : Str) (d : D) : List (Str × D) → List (Str × D)
  | [] => [(f, d)]
  | (g, x) :: r => if g = f then (g, d) :: r else (g, x) :: putD f d r
section
variable {K : PySem.W.Frag} {μ : List Addr} {G : Hp}
theorem FR.look {fs : List (Str × D)} {fv : List (Str × V)} (h : FR K μ G fs fv) {f : Str} {d : D} (e : fs.lookup f = some d) : ∃ v, fv.lookup f = some v ∧ VR K μ G d v := by
  induction h with
  | nil => cases e
  | cons a b ih =>
    rename_i x d0 v0 fs fv
    rw [List.lookup_cons] at e ⊢
    cases hb : (f == x) with
    | true => rw [hb] at e; simp only at e; cases e; exact ⟨v0, rfl, a⟩
    | false => rw [hb] at e; simp only at e; exact ih e
theorem FR.look0 {fs : List (Str × D)} {fv : List (Str × V)} (h : FR K μ G fs fv) {f : Str} (e : fs.lookup f = none) : fv.lookup f = none := by
  induction h with
  | nil => rfl
  | cons a b ih =>
    rename_i x d0 v0 fs fv
    rw [List.lookup_cons] at e ⊢
    cases hb : (f == x) with
    | true => rw [hb] at e; cases e
    | false => rw [hb] at e; simp only at e; exact ih e
theorem FR.put {fs : List (Str × D)} {fv : List (Str × V)} (h : FR K μ G fs fv) {f : Str} {d : D} {v : V} (r : VR K μ G d v) : FR K μ G (putD f d fs) (putF f v fv) := by
  induction h with
  | nil => exact .cons r .nil
  | cons a b ih =>
    rename_i x d0 v0 fs fv
    unfold putD putF
    split
    · exact .cons r b
    · exact .cons a ih
theorem FR.len {fs : List (Str × D)} {fv : List (Str × V)} (h : FR K μ G fs fv) : fs.length = fv.length := by
  induction h with
  | nil => rfl
  | cons _ _ ih => simp [ih]
end
/-- the fields of the instance that d stands for -/
def insOf (c : Nat) (d : D) (S : Sto) : Option (Nat × List (Str × D)) := match d with
  | .cell k => (match S[k]? with
    | some (some (.ins c' fs)) => if c' = c then some (k, fs) else none
    | _ => none)
  | _ => none
def gFld (c : Nat) (f : Str) (d : D) (S : Sto) : R D := match insOf c d S with
  | some (_, fs) => (match fs.lookup f with
    | some v => .ok v S
    | none => .no)
  | none => .no
def eFld (c : Nat) (f : Str) (o : Ex) : Ex := fun σ S => (o σ S).bind fun d S1 => gFld c f d S1
def sFld (c : Nat) (f : Str) (o e : Ex) : Sx := fun σ S => SO.of (e σ S) σ fun v S1 => SO.of (o σ S1) σ fun d S2 => match insOf c d S2 with
  | some (k, fs) => if fs.length < 1000 then .nx σ (S2.set k (some (.ins c (putD f v fs)))) else .no
  | none => .no
/-- o.f += e, of whole numbers -/
def sFldAug (c : Nat) (f : Str) (o e : Ex) : Sx := fun σ S => SO.of (o σ S) σ fun d S1 => match insOf c d S1 with
  | some (_, fs) => (match fs.lookup f with
    | some (.int i) => SO.of (e σ S1) σ fun y S2 => (match y, insOf c d S2 with
      | .int j, some (k, fs2) => if fs2.length < 1000 then .nx σ (S2.set k (some (.ins c (putD f (.int (i + j)) fs2)))) else .no
      | _, _ => .no)
    | _ => .no)
  | none => .no
def eMet (c : Nat) (m : Str) (n : Nat) (fn : Fn) (o : Ex) (a : Ax) : Ex := fun σ S => (o σ S).bind fun d S1 => match insOf c d S1 with
  | some (_, fs) => if fs.lookup m = none then (a σ S1).bind fun ds S2 => (if ds.length + 1 = n then fn (d :: ds) S2 else .no) else .no
  | none => .no
def eMake (c n : Nat) (fn : Fn) (a : Ax) : Ex := fun σ S => (a σ S).bind fun ds S1 => if ds.length + 1 = n then ((fn (.cell S1.length :: ds) (S1 ++ [some (.ins c [])])).bind fun v S2 => match v with
  | .non => .ok (.cell S1.length) S2
  | _ => .no) else .no
section
variable {Γ : Gm} {F : Hp} {μ : List Addr} {G H : Hp} {S : Sto}
theorem ins_ok (t : Sit Γ F μ G H S) {c k : Nat} {d : D} {v : V} {fs : List (Str × D)} (r : VR Γ.K μ G d v) (h : insOf c d S = some (k, fs)) : ∃ a dx fv, d = .cell k ∧ S[k]? = some (some (.ins c fs)) ∧ v = .ref a ∧ μ[k]? = some a ∧ H a = some (.ins (Γ.ca c) dx fv) ∧ FR Γ.K μ G fs fv := by
  unfold insOf at h
  split at h
  · split at h
    · split at h
      · rename_i k0 c0 fs0 hk hc
        cases h
        subst hc
        obtain ⟨a, ha, dx, fv, h1, h2⟩ := t.at_ _ _ hk
        cases r with
        | cell e => rw [ha] at e; cases e; exact ⟨a, dx, fv, rfl, hk, rfl, ha, h1, h2⟩
      · cases h
    · cases h
  · cases h
/-- a field is written -/
theorem Sit.putF (t : Sit Γ F μ G H S) {c k : Nat} {fs : List (Str × D)} {a dx : Addr} {fv : List (Str × V)} {f : Str} {d : D} {v : V} (hk : S[k]? = some (some (.ins c fs))) (ha : μ[k]? = some a) (hf : FR Γ.K μ G fs fv) (r : VR Γ.K μ G d v) :
    Sit Γ F μ G (upd H a (.ins (Γ.ca c) dx (L2.putF f v fv))) (S.set k (some (.ins c (putD f d fs)))) :=
  t.write (.ins c (putD f d fs)) hk ha (fun b hb => upd_ne hb) ⟨dx, _, upd_same, hf.put r⟩
end
section
variable {X : Cx} {Γ : Gm} {W : WX} {e o : Expr} {es : List Expr} {f fo fv : Ex} {fs : Ax} {p pos pos' apos cpos tpos : Pos} {x m g : Str} {c n k j : Nat} {fn : Fn} {ps : List Str}
theorem ve_fld (hc : Cls X.K (Γ.ca c)) (hn : NoAttr X.K (Γ.ca c) g) (ho : VE X Γ W o fo) (hb : attributeBase o g X.env (eval o X.env) = eval o X.env := by rfl) : VE X Γ W (.Attribute o g pos) (eFld c g fo) := by
  refine PE.imp (pe_fld ho hb) fun σv H Q ⟨F, μ, G, σ, S, hσ, hs, h⟩ => ?_
  refine tOf.at hσ hs (Wp.bind h) fun v μ1 G1 H1 S1 vv l s t r q => ?_
  unfold gFld at q
  split at q
  · rename_i k fs hi
    split at q
    · rename_i d hd
      obtain ⟨a, dx, fv, _, _, rfl, ha, h1, h2⟩ := ins_ok t r hi
      obtain ⟨u, e1, r1⟩ := h2.look hd
      exact ⟨a, _, dx, fv, u, rfl, h1, hc, hn, e1, q _ _ _ (Le.refl _) (Same.refl _) t _ r1⟩
    · exact q.elim
  · exact q.elim
theorem vs_fld (hc : Cls X.K (Γ.ca c)) (hn : NoAttr X.K (Γ.ca c) g) (ho : VE X Γ W o fo) (hv : VE X Γ W e f) (hs : swapsWith e (some (.Attribute o g pos')) pos.line X.env = pure false := by rfl) : VS X Γ W (.Assign [.Attribute o g pos'] e pos) (sFld c g fo f) := by
  refine PS.imp (ps_fld ho hv hs) fun D σv H ⟨F, μ, G, σ, S, hσ, hs, h⟩ => ?_
  refine tOf.at hσ hs (Wps.of (H := H) (S := S) h hσ) fun v μ1 G1 H1 S1 vv l s t r q => ?_
  refine tOf.at (hσ.mono l s) t (Wps.of (H := H1) (S := S1) q (hσ.mono l s)) fun w μ2 G2 H2 S2 ww l2 s2 t2 r2 q2 => ?_
  split at q2
  · rename_i k fs hi
    split at q2
    · rename_i hz
      obtain ⟨a, dx, fv, _, hk, rfl, ha, h1, h2⟩ := ins_ok t2 r2 hi
      exact ⟨a, _, dx, fv, rfl, h1, hc, hn, by rw [← h2.len]; exact hz, q2 _ _ _ (Le.refl _) (Same.refl _) (t2.putF hk ha h2 (r.mono l2 s2)) _ ((hσ.mono l s).mono l2 s2)⟩
    · exact q2.elim
  · exact q2.elim
theorem vs_fldaug (hc : Cls X.K (Γ.ca c)) (hn : NoAttr X.K (Γ.ca c) g) (ho : VE X Γ W o fo) (hv : VE X Γ W e f) : VS X Γ W (.AugAssign (.Attribute o g tpos) .Add e pos) (sFldAug c g fo f) := by
  refine PS.imp (ps_fldaug ho hv in_add) fun D σv H ⟨F, μ, G, σ, S, hσ, hs, h⟩ => ?_
  refine tOf.at hσ hs (Wps.of (H := H) (S := S) h hσ) fun v μ1 G1 H1 S1 vv l s t r q => ?_
  split at q
  · rename_i k fs hi
    split at q
    · rename_i i hd
      obtain ⟨a, dx, fv, hvk, _, rfl, ha, h1, h2⟩ := ins_ok t r hi
      obtain ⟨u, e1, r1⟩ := h2.look hd
      cases r1
      refine ⟨a, _, dx, fv, _, rfl, h1, hc, hn, e1, ?_⟩
      refine tOf.at (hσ.mono l s) t (Wps.of (H := H1) (S := S1) q (hσ.mono l s)) fun w μ2 G2 H2 S2 ww l2 s2 t2 r2 q2 => ?_
      split at q2
      · rename_i j k2 fs2 hi2
        split at q2
        · rename_i hz
          obtain ⟨a2, dx2, fv2, hvk2, hk2, e2, ha2, h12, h22⟩ := ins_ok t2 (r.mono l2 s2) hi2
          cases e2
          cases r2
          exact ⟨_, _, rfl, rfl, dx2, fv2, h12, by rw [← h22.len]; exact hz, q2 _ _ _ (Le.refl _) (Same.refl _) (t2.putF hk2 ha2 h22 (.int _)) _ ((hσ.mono l s).mono l2 s2)⟩
        · exact q2.elim
      · exact q2.elim
    · exact q.elim
  · exact q.elim
end
end Ev

/-! Ev, the rules, part 9: methods called, instances made. -/
namespace Ev
open PySem PySem.Spec PyProof.Rows L2
/-- o.m(..), what it lets out seen at the slots -/
def tMethW (C : Addr) (m : Str) (sp : Sp) (E : L2.St → XK) (ta : TE) (t : TA) : TE := fun σ H Q => ta σ H fun x H1 =>
  ∃ a dx fs, x = .ref a ∧ H1 a = some (.ins C dx fs) ∧ fs.lookup m = none ∧ t σ H1 fun vs H2 => sp (x :: vs) H2 Q (E σ)
def tMakeW (C : Addr) (sp : Sp) (E : L2.St → XK) (t : TA) : TE := fun σ H Q => t σ H fun vs H1 =>
  ∀ x dx, H1 x = none → H1 dx = none → dx ≠ x → sp (.ref x :: vs) (upd (upd H1 dx (.own x)) x (.ins C dx [])) (fun v H2 => v = .non ∧ Q (.ref x) H2) (E σ)
section
variable {X : Cx} {CX : CXT} {k : Nat} {f C : Addr} {fd : FuncData} {ps : List Str} {sp : Sp} {E : L2.St → XK} {x m : Str} {p pos apos : Pos} {e o : Expr} {es : List Expr} {ta : TE} {t : TA}
theorem pe_methW {pl : Sem Bool} (ho : PE X o ta) (hc : Cls X.K C) (hM : Meth X.K C m f) (Fo : FnOk X.prog X.w X.K X.mg X.base CX k f fd ps sp) (hR : Room k X.A) (hB : Binds X.K fd ps []) (hP : ∀ σ, PassesAt CX X σ (E σ)) (hA : PA X (e :: es) t)
    (hst : starEach (e :: es) X.env = (false, eval e X.env) :: starEach es X.env := by rfl) (hpl : (backTo pos (starEach es X.env)).any (·.1) = false := by rfl)
    (ht : eval (.Call (.Attribute o m apos) (e :: es) [] pos) X.env = (do
      let u ← eval o X.env
      standAt apos.atName
      let (f, first) ← holding [u] (getMethod u m pl)
      callWith pos f first (backTo pos (starEach (e :: es) X.env)) (backToKw pos (keywordEach [] X.env))) := by rfl) :
    PE X (.Call (.Attribute o m apos) (e :: es) [] pos) (tMethW C m sp E ta t) := by
  refine ⟨fun qs s0 σ H Q I h => PySem.W.methodCall_KW (pl := pl) (thn (ho.run qs s0 σ H _ I h) fun u s1 ⟨y, H1, I1, ry, a, dx, fs, ex, ea, l, q⟩ => ?_) ht⟩
  subst ex
  obtain rfl : u = Value.ref a := ry
  refine getmeth_ok I1 ea hc hM l (PySem.W.callWith_K (first := [.ref a]) (h₀ := X.base) I.ok.mod.kin hM.kp (thn (hA.run pos qs s1 σ H1 _ I1 q) fun us s2 ⟨vs, H2, I2, r, q2⟩ => ⟨I2.kIn, ?_⟩) hst hpl)
  exact run_fnS (us := .ref a :: us) (vs := .ref a :: vs) Fo hR hB (hP σ) I2 (.cons rfl r) q2
theorem pe_methW0 {pl : Sem Bool} (ho : PE X o ta) (hc : Cls X.K C) (hM : Meth X.K C m f) (Fo : FnOk X.prog X.w X.K X.mg X.base CX k f fd ps sp) (hR : Room k X.A) (hB : Binds X.K fd ps []) (hP : ∀ σ, PassesAt CX X σ (E σ))
    (ht : eval (.Call (.Attribute o m apos) [] [] pos) X.env = (do
      let u ← eval o X.env
      standAt apos.atName
      let (f, first) ← holding [u] (getMethod u m pl)
      callWith pos f first (backTo pos (starEach [] X.env)) (backToKw pos (keywordEach [] X.env))) := by rfl) :
    PE X (.Call (.Attribute o m apos) [] [] pos) (tMethW C m sp E ta tNil) := by
  refine ⟨fun qs s0 σ H Q I h => PySem.W.methodCall_KW (pl := pl) (thn (ho.run qs s0 σ H _ I h) fun u s1 ⟨y, H1, I1, ry, a, dx, fs, ex, ea, l, q⟩ => ?_) ht⟩
  subst ex
  obtain rfl : u = Value.ref a := ry
  exact getmeth_ok I1 ea hc hM l (PySem.W.callWith_K0 (first := [.ref a]) I1.kIn hM.kp (run_fnS (us := [.ref a]) (vs := [.ref a]) Fo hR hB (hP σ) I1 (.cons rfl .nil) q))
theorem run_makeW {qs : List (Addr × Obj)} {σ : L2.St} {H : Hp} {s0 : Shared} {Q : VK} {us : List Value} {vs : List V} (M : Mk X.K C f) (Fo : FnOk X.prog X.w X.K X.mg X.base CX k f fd ps sp) (hR : Room (k + 1) X.A) (hB : Binds X.K fd ps [])
    (hP : PassesAt CX X σ (E σ)) (I : Inv X qs σ H s0) (r : Vals vs us)
    (h : ∀ x dx, H x = none → H dx = none → dx ≠ x → sp (.ref x :: vs) (upd (upd H dx (.own x)) x (.ins C dx [])) (fun v H2 => v = .non ∧ Q (.ref x) H2) (E σ)) :
    wpAny (model X.prog X.w) X.A (call (.ref C) us) (EP X qs σ Q) X.xe s0 := by
  have q0 := h (s0.heap.objs.size + 1) s0.heap.objs.size (I.hok.fresh (Nat.le_succ _)) (I.hok.fresh (Nat.le_refl _)) (Nat.ne_of_lt (Nat.lt_succ_self _))
  have I2 := Inv.made (C := C) I
  have rr : Vals (V.ref (s0.heap.objs.size + 1) :: vs) (Value.ref (s0.heap.objs.size + 1) :: us) := .cons rfl r
  have hl : (Value.ref (s0.heap.objs.size + 1) :: us).length = ps.length := by
    rw [← rr.length]; exact Fo.len _ _ _ _ q0
  have b := hB _ (Value.ref (s0.heap.objs.size + 1) :: us) I2.kIn (by rw [List.append_nil]; exact hl)
  rw [List.append_nil] at b
  refine wpAny_call (make_map (f := f) I.kIn M.makes M.init (beq_iff_eq.mp M.fn) (codeAny_mono (Fo.run _ X.stack _ _ ⟨Value.ref (s0.heap.objs.size + 1) :: us, []⟩ _ _ _ (E σ) (hR.make C us []) (I2.env0.make C us []) b rr q0) fun rs s' hq => ?_))
  cases rs with
  | error e => exact hP qs _ _ e s' I2 hq
  | ok fl =>
    cases fl with
    | ret u =>
      obtain ⟨v, H', I3, rv, ev, q3⟩ := I2.after hq
      subst ev
      exact ⟨rv, V.ref (s0.heap.objs.size + 1), H', I3, rfl, q3⟩
    | next => exact hq.elim
    | brk => exact hq.elim
    | cont => exact hq.elim
theorem pe_makeW (M : Mk X.K C f) (Fo : FnOk X.prog X.w X.K X.mg X.base CX k f fd ps sp) (hR : Room (k + 1) X.A) (hg : Gl X x) (hm : X.mg x = some (.ref C)) (hB : Binds X.K fd ps []) (hP : ∀ σ, PassesAt CX X σ (E σ)) (hA : PA X (e :: es) t)
    (hdb : (x == ("__debug__" : Str)) = false := by decide) (he : starEach (e :: es) X.env = (false, eval e X.env) :: starEach es X.env := by rfl) (hpl : (backTo pos (starEach es X.env)).any (·.1) = false := by rfl) :
    PE X (.Call (.Name x p) (e :: es) [] pos) (tMakeW C sp E t) :=
  ⟨fun qs s0 σ H Q I h => wpAny_Call_Name_kw (ld_glob I hg hm (PySem.W.callWith_K (h₀ := X.base) I.ok.mod.kin M.kp (thn (hA.run pos qs s0 σ H _ I h) fun us s1 ⟨vs, H1, I1, r, q⟩ => ⟨I1.kIn, run_makeW M Fo hR hB (hP σ) I1 r q⟩) he hpl) hdb)⟩
theorem pe_makeW0 (M : Mk X.K C f) (Fo : FnOk X.prog X.w X.K X.mg X.base CX k f fd ps sp) (hR : Room (k + 1) X.A) (hg : Gl X x) (hm : X.mg x = some (.ref C)) (hB : Binds X.K fd ps []) (hP : ∀ σ, PassesAt CX X σ (E σ))
    (hdb : (x == ("__debug__" : Str)) = false := by decide) : PE X (.Call (.Name x p) [] [] pos) (tMakeW C sp E tNil) :=
  ⟨fun qs s0 σ H Q I h => wpAny_Call_Name_kw (ld_glob I hg hm (PySem.W.callWith_K0 I.kIn M.kp (run_makeW (us := []) M Fo hR hB (hP σ) I .nil h)) hdb)⟩
end
section
variable {X : Cx} {Γ : Gm} {W : WX} {k j n c : Nat} {ps : List Str} {fn : Fn} {x m : Str} {p pos apos : Pos} {e o : Expr} {es : List Expr} {a : Ax} {fo : Ex}
theorem fn_of1 {F : Hp} {μ : List Addr} {G H1 : Hp} {S1 : Sto} {d : D} {v : V} {ds : List D} {vs : List V} {Q : VK} {E : XK} (t : Sit Γ F μ G H1 S1) (r0 : VR Γ.K μ G d v) (r : VRs Γ.K μ G ds vs)
    (q : Wp Γ F E μ G (if ds.length + 1 = n then fn (d :: ds) S1 else .no) fun v μ' G' H' _ => ∀ vv, VR Γ.K μ' G' v vv → Q vv H') : spOf Γ n fn (v :: vs) H1 Q E := by
  split at q
  · rename_i hl; exact ⟨F, μ, G, d :: ds, S1, hl, .cons r0 r, t, q⟩
  · exact q.elim
theorem Has.meth (h : Has X.prog X.w X.K X.mg X.base Γ k x (some m) ps n fn) (hc : Cls X.K (Γ.ca c)) (hM : Meth X.K (Γ.ca c) m (He.fAd X.K (x, some m))) (hR : Room k X.A) (tk : Takes X W) (ho : VE X Γ W o fo) (hA : VA X Γ W (e :: es) a) {pl : Sem Bool}
    (hst : starEach (e :: es) X.env = (false, eval e X.env) :: starEach es X.env := by rfl) (hpl : (backTo pos (starEach es X.env)).any (·.1) = false := by rfl)
    (ht : eval (.Call (.Attribute o m apos) (e :: es) [] pos) X.env = (do
      let u ← eval o X.env
      standAt apos.atName
      let (f, first) ← holding [u] (getMethod u m pl)
      callWith pos f first (backTo pos (starEach (e :: es) X.env)) (backToKw pos (keywordEach [] X.env))) := by rfl) :
    VE X Γ W (.Call (.Attribute o m apos) (e :: es) [] pos) (eMet c m n fn fo a) := by
  obtain ⟨⟨fd, Fo, b⟩, kp⟩ := h
  refine PE.imp (pe_methW ho hc hM Fo hR b (passAt tk) hA hst hpl ht) fun σv H Q ⟨F, μ, G, σ, S, hσ, hs, h⟩ => ?_
  refine tOf.at hσ hs (Wp.bind h) fun v μ1 G1 H1 S1 vv l s t r q => ?_
  split at q
  · rename_i k fs hi
    split at q
    · rename_i hl
      obtain ⟨b, dx, fv, _, _, rfl, hb, h1, h2⟩ := ins_ok t r hi
      refine ⟨b, dx, fv, rfl, h1, h2.look0 hl, ?_⟩
      exact taOf.at (hσ.mono l s) t (Wp.bind q) fun ds μ2 G2 H2 S2 vs l2 s2 t2 r2 q2 => fn_of1 t2 (r.mono l2 s2) r2 q2
    · exact q.elim
  · exact q.elim
theorem Has.meth0 (h : Has X.prog X.w X.K X.mg X.base Γ k x (some m) ps n fn) (hc : Cls X.K (Γ.ca c)) (hM : Meth X.K (Γ.ca c) m (He.fAd X.K (x, some m))) (hR : Room k X.A) (tk : Takes X W) (ho : VE X Γ W o fo) {pl : Sem Bool}
    (ht : eval (.Call (.Attribute o m apos) [] [] pos) X.env = (do
      let u ← eval o X.env
      standAt apos.atName
      let (f, first) ← holding [u] (getMethod u m pl)
      callWith pos f first (backTo pos (starEach [] X.env)) (backToKw pos (keywordEach [] X.env))) := by rfl) :
    VE X Γ W (.Call (.Attribute o m apos) [] [] pos) (eMet c m n fn fo aNil) := by
  obtain ⟨⟨fd, Fo, b⟩, kp⟩ := h
  refine PE.imp (pe_methW0 ho hc hM Fo hR b (passAt tk) ht) fun σv H Q ⟨F, μ, G, σ, S, hσ, hs, h⟩ => ?_
  refine tOf.at hσ hs (Wp.bind h) fun v μ1 G1 H1 S1 vv l s t r q => ?_
  split at q
  · rename_i k fs hi
    split at q
    · rename_i hl
      obtain ⟨b, dx, fv, _, _, rfl, hb, h1, h2⟩ := ins_ok t r hi
      refine ⟨b, dx, fv, rfl, h1, h2.look0 hl, ?_⟩
      exact fn_of1 t r .nil q
    · exact q.elim
  · exact q.elim
/-- a new instance, as a cell -/
theorem made_of {F : Hp} {μ : List Addr} {G H1 : Hp} {S1 : Sto} {ds : List D} {vs : List V} {Q : VK} {E : XK} (t : Sit Γ F μ G H1 S1) (r : VRs Γ.K μ G ds vs)
    (q : Wp Γ F E μ G (if ds.length + 1 = n then ((fn (.cell S1.length :: ds) (S1 ++ [some (.ins c [])])).bind fun v S2 => match v with
      | .non => .ok (.cell S1.length) S2
      | _ => .no) else .no) fun v μ' G' H' _ => ∀ vv, VR Γ.K μ' G' v vv → Q vv H') :
    ∀ x dx, H1 x = none → H1 dx = none → dx ≠ x → spOf Γ n fn (.ref x :: vs) (upd (upd H1 dx (.own x)) x (.ins (Γ.ca c) dx [])) (fun v H2 => v = .non ∧ Q (.ref x) H2) E := by
  intro x dx hx hdx hne
  split at q
  · rename_i hl
    have s1 : Same H1 (upd (upd H1 dx (.own x)) x (.ins (Γ.ca c) dx [])) := (same_upd hdx).trans (same_upd (by rw [upd_ne (Ne.symm hne)]; exact hx))
    have t1 := t.allocC (.ins c []) hx s1 upd_same ⟨dx, [], upd_same, .nil⟩
    have q1 := (Wp.bind q).mono (Le.push μ x) (Same.refl G) (k' := fun v μ' G' H' _ => ∀ vv, VR Γ.K μ' G' v vv → vv = .non ∧ Q (.ref x) H') fun v μ' G' H' S2 l s t2 q2 vv rv => by
      split at q2
      · cases rv
        refine ⟨rfl, q2 _ _ _ (Le.refl _) (Same.refl _) t2 _ (.cell (l _ _ ?_))⟩
        rw [← t.len]; simp
      · exact q2.elim
    exact ⟨F, μ ++ [x], G, .cell S1.length :: ds, S1 ++ [some (.ins c [])], hl, .cons (.cell (by rw [← t.len]; simp)) (r.mono (Le.push _ _) (Same.refl _)), t1, q1⟩
  · exact q.elim
theorem Has.make {mI : Str} (h : Has X.prog X.w X.K X.mg X.base Γ j x (some mI) ps n fn) (M : Mk X.K (Γ.ca c) (He.fAd X.K (x, some mI))) (hm : X.mg x = some (.ref (Γ.ca c))) (hjk : j + 1 ≤ k) (hR : Room k X.A) (tk : Takes X W) (hA : VA X Γ W (e :: es) a) (hg : Gl X x := by rfl)
    (hdb : (x == ("__debug__" : Str)) = false := by decide) (he : starEach (e :: es) X.env = (false, eval e X.env) :: starEach es X.env := by rfl) (hpl : (backTo pos (starEach es X.env)).any (·.1) = false := by rfl) :
    VE X Γ W (.Call (.Name x p) (e :: es) [] pos) (eMake c n fn a) := by
  obtain ⟨⟨fd, Fo, b⟩, kp⟩ := h
  refine PE.imp (pe_makeW M Fo (hR.mono hjk) hg hm b (passAt tk) hA hdb he hpl) fun σv H Q ⟨F, μ, G, σ, S, hσ, hs, h⟩ => ?_
  exact taOf.at hσ hs (Wp.bind h) fun ds μ1 G1 H1 S1 vs l s t r q => made_of t r q
theorem Has.make0 {mI : Str} (h : Has X.prog X.w X.K X.mg X.base Γ j x (some mI) ps n fn) (M : Mk X.K (Γ.ca c) (He.fAd X.K (x, some mI))) (hm : X.mg x = some (.ref (Γ.ca c))) (hjk : j + 1 ≤ k) (hR : Room k X.A) (tk : Takes X W) (hg : Gl X x := by rfl)
    (hdb : (x == ("__debug__" : Str)) = false := by decide) : VE X Γ W (.Call (.Name x p) [] [] pos) (eMake c n fn aNil) := by
  obtain ⟨⟨fd, Fo, b⟩, kp⟩ := h
  refine PE.imp (pe_makeW0 M Fo (hR.mono hjk) hg hm b (passAt tk) hdb) fun σv H Q ⟨F, μ, G, σ, S, hσ, hs, h⟩ => ?_
  exact made_of hs .nil h
end
end Ev

/-! Ev, the rules, part 10: all, any, join, a list many times, range of three; what the new rules compute. -/
namespace Ev
open PySem PySem.Spec PyProof.Rows L2
def blsOf : List D → Option (List Bool)
  | [] => some []
  | .bl b :: r => (blsOf r).map (b :: ·)
  | _ => none
def strsOf : List D → Option (List Str)
  | [] => some []
  | .str b :: r => (strsOf r).map (b :: ·)
  | _ => none
@[simp] theorem blsOf_map (bs : List Bool) : blsOf (bs.map D.bl) = some bs := by
  induction bs with
  | nil => rfl
  | cons b r ih => simp [blsOf, ih]
@[simp] theorem strsOf_map (bs : List Str) : strsOf (bs.map D.str) = some bs := by
  induction bs with
  | nil => rfl
  | cons b r ih => simp [strsOf, ih]
theorem blsOf_some : ∀ {ds : List D} {bs : List Bool}, blsOf ds = some bs → ds = bs.map D.bl
  | [], bs, h => by cases h; rfl
  | .bl b :: r, bs, h => by
    unfold blsOf at h
    cases e : blsOf r with
    | none => rw [e] at h; cases h
    | some x => rw [e] at h; cases h; rw [blsOf_some e]; rfl
theorem strsOf_some : ∀ {ds : List D} {bs : List Str}, strsOf ds = some bs → ds = bs.map D.str
  | [], bs, h => by cases h; rfl
  | .str b :: r, bs, h => by
    unfold strsOf at h
    cases e : strsOf r with
    | none => rw [e] at h; cases h
    | some x => rw [e] at h; cases h; rw [strsOf_some e]; rfl
def gAll (xs : List D) (S : Sto) : R D := match xs with
  | [x] => match (lstOf S x).bind blsOf with
    | some bs => .ok (.bl (bs.all id)) S
    | none => .no
  | _ => .no
def gAny (xs : List D) (S : Sto) : R D := match xs with
  | [x] => match (lstOf S x).bind blsOf with
    | some bs => .ok (.bl (bs.any id)) S
    | none => .no
  | _ => .no
/-- sep.join(a list of texts) -/
def gJoin (x : D) (ys : List D) (S : Sto) : R D := match x, ys with
  | .str a, [y] => (match (lstOf S y).bind strsOf with
    | some zs => if (zs.map (·.length)).sum + zs.length * a.length ≤ 16777216 then .ok (.str (Txt.join a zs)) S else .no
    | none => .no)
  | _, _ => .no
/-- a list many times: one that never changes; one that may -/
noncomputable def gRep (x y : D) (S : Sto) : R D := match x, y with
  | .scr _, _ => .no
  | d, .int k => (match lstOf S d with
    | some ds => cif (-9223372036854775808 ≤ k ∧ k < 9223372036854775808 ∧ ds.length * k.toNat ≤ sizeLine) (.ok (.lst (List.replicate k.toNat ds).flatten) S) .no
    | none => .no)
  | _, _ => .no
noncomputable def gRepN (x y : D) (S : Sto) : R D := match x, y with
  | .scr _, _ => .no
  | d, .int k => (match lstOf S d with
    | some ds => cif (-9223372036854775808 ≤ k ∧ k < 9223372036854775808 ∧ ds.length * k.toNat ≤ sizeLine) (.ok (.cell S.length) (S ++ [some (.lst (List.replicate k.toNat ds).flatten)])) .no
    | none => .no)
  | _, _ => .no
section
variable {K : PySem.W.Frag} {μ : List Addr} {G : Hp}
theorem VRs.bls {bs : List Bool} {vs : List V} (h : VRs K μ G (bs.map D.bl) vs) : vs = bs.map V.bl := by
  induction bs generalizing vs with
  | nil => cases h; rfl
  | cons b r ih => cases h with
    | cons a t => cases a; rw [ih t]; rfl
theorem VRs.strs {bs : List Str} {vs : List V} (h : VRs K μ G (bs.map D.str) vs) : vs = bs.map V.str := by
  induction bs generalizing vs with
  | nil => cases h; rfl
  | cons b r ih => cases h with
    | cons a t => cases a; rw [ih t]; rfl
theorem VRs.app {ds es : List D} {vs ws : List V} (h : VRs K μ G ds vs) (h' : VRs K μ G es ws) : VRs K μ G (ds ++ es) (vs ++ ws) := h.append h'
theorem VRs.rep {ds : List D} {vs : List V} (h : VRs K μ G ds vs) : ∀ k : Nat, VRs K μ G (List.replicate k ds).flatten (List.replicate k vs).flatten
  | 0 => .nil
  | k + 1 => by
    rw [List.replicate_succ, List.replicate_succ, List.flatten_cons, List.flatten_cons]
    exact h.append (VRs.rep h k)
end
section
variable {X : Cx} {Γ : Gm} {W : WX} {e o a b c : Expr} {f fa fb fc fo : Ex} {fs : Ax} {p pos apos : Pos} {tg : Expr}
theorem cs_all : CaS Γ gAll (rAll Γ.K) := by
  intro W F μ G H S xs vs Q t rs q
  unfold gAll at q
  split at q
  · cases rs with
    | cons r1 r2 =>
      cases r2
      split at q
      · rename_i bs hd
        obtain ⟨ds, e1, e2⟩ := Option.bind_eq_some_iff.mp hd
        obtain ⟨a, vs, rfl, h1, h2⟩ := t.lst r1 e1
        rw [blsOf_some e2] at h2
        rw [h2.bls] at h1
        exact ⟨a, bs, rfl, h1, q.ok t _ (.bl _)⟩
      · exact q.elim
  · exact q.elim
theorem cs_any : CaS Γ gAny (rAny Γ.K) := by
  intro W F μ G H S xs vs Q t rs q
  unfold gAny at q
  split at q
  · cases rs with
    | cons r1 r2 =>
      cases r2
      split at q
      · rename_i bs hd
        obtain ⟨ds, e1, e2⟩ := Option.bind_eq_some_iff.mp hd
        obtain ⟨a, vs, rfl, h1, h2⟩ := t.lst r1 e1
        rw [blsOf_some e2] at h2
        rw [h2.bls] at h1
        exact ⟨a, bs, rfl, h1, q.ok t _ (.bl _)⟩
      · exact q.elim
  · exact q.elim
theorem ve_ball (hm : X.mg "all" = none) (ha : VA X Γ W [e] fs) (hg : Gl X "all" := by rfl) (hc : X.calm = true := by rfl) (hK : X.K = Γ.K := by rfl) (hs : starEach (e :: []) X.env = (false, eval e X.env) :: starEach [] X.env := by rfl) (hpl : (backTo pos (starEach [] X.env)).any (·.1) = false := by rfl) :
    VE X Γ W (.Call (.Name "all" p) [e] [] pos) (eCall gAll fs) := ve_cb (id := "all") (cr_all hc) (hK ▸ cs_all) hg hm (by decide +kernel) ha (by decide) (by decide) hs hpl
theorem ve_bany (hm : X.mg "any" = none) (ha : VA X Γ W [e] fs) (hg : Gl X "any" := by rfl) (hc : X.calm = true := by rfl) (hK : X.K = Γ.K := by rfl) (hs : starEach (e :: []) X.env = (false, eval e X.env) :: starEach [] X.env := by rfl) (hpl : (backTo pos (starEach [] X.env)).any (·.1) = false := by rfl) :
    VE X Γ W (.Call (.Name "any" p) [e] [] pos) (eCall gAny fs) := ve_cb (id := "any") (cr_any hc) (hK ▸ cs_any) hg hm (by decide +kernel) ha (by decide) (by decide) hs hpl
theorem ve_join (ho : VE X Γ W o fo) (ha : VA X Γ W [e] fs) (hK : X.K = Γ.K := by rfl) (hbase : attributeBase o "join" X.env (eval o X.env) = eval o X.env := by rfl)
    (hfew : ((backTo pos (starEach (e :: []) X.env)).all (fun x => !x.1) && (backToKw pos (keywordEach [] X.env)).all (fun x => x.1.isSome)
      && decide ((e :: ([] : List Expr)).length + ([] : List Keyword).length + (if ([] : List Keyword).isEmpty then 0 else 1) < 30)) = true := by rfl)
    (hline : (apos.endLine == pos.line) = true := by rfl) (hs : starEach (e :: []) X.env = (false, eval e X.env) :: starEach [] X.env := by rfl) (hplain : (backTo pos (starEach [] X.env)).any (·.1) = false := by rfl) :
    VE X Γ W (.Call (.Attribute o "join" apos) [e] [] pos) (eMeth "str" gJoin fo fs) := by
  refine ve_bm F.plainAttrs_str F.slot_str_join F.type_str_join mt_join ?_ ho ha hK hbase hfew hline hs hplain
  intro W F μ G H S x xs v vs Q t rx rs q
  unfold gJoin at q
  split at q
  · cases rs with
    | cons r1 r2 =>
      cases r2
      cases rx
      split at q
      · rename_i zs hd
        split at q
        · rename_i hz
          obtain ⟨ds, e1, e2⟩ := Option.bind_eq_some_iff.mp hd
          obtain ⟨a, vs, rfl, h1, h2⟩ := t.lst r1 e1
          rw [strsOf_some e2] at h2
          rw [h2.strs] at h1
          exact ⟨_, a, zs, rfl, rfl, .inl (hK ▸ h1), hz, q.ok t _ (.str _)⟩
        · exact q.elim
      · exact q.elim
  · exact q.elim
theorem lst_own {F : Hp} {μ : List Addr} {G H : Hp} {S : Sto} {d : D} {v : V} {ds : List D} (t : Sit Γ F μ G H S) (r : VR Γ.K μ G d v) (hd : ∀ ns, d ≠ .scr ns) (h : lstOf S d = some ds) : ∃ a vs, v = .ref a ∧ H a = some (.lst vs) ∧ VRs Γ.K μ G ds vs := by
  cases r with
  | lst h1 h2 => simp only [lstOf] at h; cases h; exact ⟨_, _, rfl, t.sub _ _ h1, h2⟩
  | cell hk =>
    simp only [lstOf] at h
    split at h
    · rename_i hs
      cases h
      obtain ⟨a, ha, vs, h1, h2⟩ := t.at_ _ _ hs
      rw [hk] at ha; cases ha
      exact ⟨_, vs, rfl, h1, h2⟩
    · cases h
  | scr h1 => exact absurd rfl (hd _)
  | _ => simp [lstOf] at h
end
section
variable {X : Cx} {Γ : Gm} {W : WX} {a b c : Expr} {fa fb fc : Ex} {p pos : Pos} {tg : Expr}
theorem os_rep : OpS Γ gRep rRep := by
  intro W F μ G H S x y vx vy Q t rx ry q
  unfold gRep at q
  split at q
  · exact q.elim
  · rename_i k hns
    split at q
    · rename_i ds hd
      by_cases hc : -9223372036854775808 ≤ k ∧ k < 9223372036854775808 ∧ ds.length * k.toNat ≤ sizeLine
      · rw [cif_pos hc] at q
        obtain ⟨a, vs, rfl, h1, h2⟩ := lst_own t rx (fun ns e => hns ns e) hd
        cases ry
        exact ⟨a, k, vs, rfl, rfl, h1, by omega, by omega, by rw [← h2.length]; exact hc.2.2, t.newL (h2.rep _) q⟩
      · rw [cif_neg hc] at q; exact q.elim
    · exact q.elim
  · exact q.elim
theorem os_repN : OpS Γ gRepN rRep := by
  intro W F μ G H S x y vx vy Q t rx ry q
  unfold gRepN at q
  split at q
  · exact q.elim
  · rename_i k hns
    split at q
    · rename_i ds hd
      by_cases hc : -9223372036854775808 ≤ k ∧ k < 9223372036854775808 ∧ ds.length * k.toNat ≤ sizeLine
      · rw [cif_pos hc] at q
        obtain ⟨a, vs, rfl, h1, h2⟩ := lst_own t rx (fun ns e => hns ns e) hd
        cases ry
        exact ⟨a, k, vs, rfl, rfl, h1, by omega, by omega, by rw [← h2.length]; exact hc.2.2, fun p np => new_cell t (h2.rep _) q np⟩
      · rw [cif_neg hc] at q; exact q.elim
    · exact q.elim
  · exact q.elim
theorem ve_rep (ha : VE X Γ W a fa) (hb : VE X Γ W b fb) : VE X Γ W (.BinOp a .Mult b pos) (op2 gRep fa fb) := ve_op op_rep os_rep ha hb
theorem ve_repN (ha : VE X Γ W a fa) (hb : VE X Γ W b fb) : VE X Γ W (.BinOp a .Mult b pos) (op2 gRepN fa fb) := ve_op op_rep os_repN ha hb
/-- i, i - 1, .. : n of them -/
def downD (lo : Int) (n : Nat) : List D := (List.range n).map fun i => .int (lo + (i : Nat) * (-1 : Int))
/-- range(i, j, -1) -/
noncomputable def iR3 (f g h : Ex) : Ix := fun σ S => (f σ S).bind fun d S1 => (g σ S1).bind fun e S2 => (h σ S2).bind fun c S3 => match d, e, c with
  | .int i, .int j, .int (-1) => cif (-4611686018427387904 ≤ i ∧ i < 4611686018427387904 ∧ -4611686018427387904 ≤ j ∧ j < 4611686018427387904) (.ok (still, downD i (i - j).toNat) S3) .no
  | _, _, _ => .no
theorem j_down {F : Hp} {μ : List Addr} {G : Hp} (lo : Int) (n : Nat) : JOk Γ F μ G (Itc lo (-1) n) still (downD lo n) := fun F' μ' G' H' S' l' s' t' hc i => by
  refine ⟨fun hi => by show n ≤ i; simpa [downD] using hi, fun d hd => ?_⟩
  unfold downD at hd
  rw [List.getElem?_map, Option.map_eq_some_iff] at hd
  obtain ⟨j, hj, rfl⟩ := hd
  have hi : i < n := by have := (List.getElem?_eq_some_iff.mp hj).1; simpa using this
  have ej : j = i := by rw [List.getElem?_range hi] at hj; cases hj; rfl
  subst ej
  refine ⟨hi, fun x H2 ⟨hH, hx⟩ => ?_⟩
  subst hH hx
  exact ⟨G', Same.refl _, t', .int _⟩
theorem vi_r3 (hm : X.mg "range" = none) (ha : VE X Γ W a fa) (hb : VE X Γ W b fb) (hcc : VE X Γ W c fc) (hg : Gl X "range" := by rfl) (hs : starEach [a, b, c] X.env = (false, eval a X.env) :: starEach [b, c] X.env := by rfl) (hs2 : starEach [b, c] X.env = (false, eval b X.env) :: starEach [c] X.env := by rfl)
    (hs3 : starEach [c] X.env = (false, eval c X.env) :: starEach [] X.env := by rfl) (hpl : (backTo pos (starEach [b, c] X.env)).any (·.1) = false := by rfl) :
    VI X Γ W tg (.Call (.Name "range" p) [a, b, c] [] pos) (iR3 fa fb fc) := by
  refine PI.imp (pi_range3 hg hm (pa_cons ha (pa_cons hb (pa_cons hcc pa_nil hs3) hs2) hs) hs hpl) fun σv H Q ⟨F, μ, G, σ, S, hσ, hs, h⟩ => ?_
  refine tOf.at hσ hs (Wp.bind h) fun v μ1 G1 H1 S1 vv l s t r q => ?_
  refine tOf.at (hσ.mono l s) t (Wp.bind q) fun w μ2 G2 H2 S2 ww l2 s2 t2 r2 q2 => ?_
  refine tOf.at ((hσ.mono l s).mono l2 s2) t2 (Wp.bind q2) fun u μ3 G3 H3 S3 uu l3 s3 t3 r3 q3 => ?_
  have r' := (r.mono l2 s2).mono l3 s3
  have r2' := r2.mono l3 s3
  split at q3
  · rename_i i j
    by_cases hj : -4611686018427387904 ≤ i ∧ i < 4611686018427387904 ∧ -4611686018427387904 ≤ j ∧ j < 4611686018427387904
    · rw [cif_pos hj] at q3
      cases r'; cases r2'; cases r3
      exact ⟨_, _, _, _, rfl, RgC.neg (by omega) (by omega) (by omega) (by omega), q3.ok t3 _ (j_down _ _)⟩
    · rw [cif_neg hj] at q3; exact q3.elim
  · exact q3.elim
end
section
variable {S : Sto} {σ : Env}
@[simp] theorem insOf_cell (c k : Nat) : insOf c (.cell k) S = match S[k]? with
    | some (some (.ins c' fs)) => if c' = c then some (k, fs) else none
    | _ => none := rfl
@[simp] theorem eFld_eq (c : Nat) (f : Str) (o : Ex) : eFld c f o σ S = (o σ S).bind fun d S1 => gFld c f d S1 := rfl
@[simp] theorem gFld_eq (c : Nat) (f : Str) (d : D) : gFld c f d S = match insOf c d S with
  | some (_, fs) => (match fs.lookup f with
    | some v => .ok v S
    | none => .no)
  | none => .no := rfl
@[simp] theorem sFld_eq (c : Nat) (f : Str) (o e : Ex) : sFld c f o e σ S = SO.of (e σ S) σ fun v S1 => SO.of (o σ S1) σ fun d S2 => match insOf c d S2 with
  | some (k, fs) => if fs.length < 1000 then .nx σ (S2.set k (some (.ins c (putD f v fs)))) else .no
  | none => .no := rfl
@[simp] theorem sFldAug_eq (c : Nat) (f : Str) (o e : Ex) : sFldAug c f o e σ S = SO.of (o σ S) σ fun d S1 => match insOf c d S1 with
  | some (_, fs) => (match fs.lookup f with
    | some (.int i) => SO.of (e σ S1) σ fun y S2 => (match y, insOf c d S2 with
      | .int j, some (k, fs2) => if fs2.length < 1000 then .nx σ (S2.set k (some (.ins c (putD f (.int (i + j)) fs2)))) else .no
      | _, _ => .no)
    | _ => .no)
  | none => .no := rfl
@[simp] theorem eMet_eq (c : Nat) (m : Str) (n : Nat) (fn : Fn) (o : Ex) (a : Ax) : eMet c m n fn o a σ S = (o σ S).bind fun d S1 => match insOf c d S1 with
  | some (_, fs) => if fs.lookup m = none then (a σ S1).bind fun ds S2 => (if ds.length + 1 = n then fn (d :: ds) S2 else .no) else .no
  | none => .no := rfl
@[simp] theorem eMake_eq (c n : Nat) (fn : Fn) (a : Ax) : eMake c n fn a σ S = (a σ S).bind fun ds S1 => if ds.length + 1 = n then ((fn (.cell S1.length :: ds) (S1 ++ [some (.ins c [])])).bind fun v S2 => match v with
  | .non => .ok (.cell S1.length) S2
  | _ => .no) else .no := rfl
@[simp] theorem putD_nil (f : Str) (d : D) : putD f d [] = [(f, d)] := rfl
@[simp] theorem putD_cons (f g : Str) (d x : D) (r : List (Str × D)) : putD f d ((g, x) :: r) = if g = f then (g, d) :: r else (g, x) :: putD f d r := rfl
@[simp] theorem gAll_map (bs : List Bool) : gAll [.lst (bs.map D.bl)] S = .ok (.bl (bs.all id)) S := by simp [gAll, lstOf]
@[simp] theorem gAny_map (bs : List Bool) : gAny [.lst (bs.map D.bl)] S = .ok (.bl (bs.any id)) S := by simp [gAny, lstOf]
theorem gJoin_map (a : Str) (zs : List Str) (h : (zs.map (·.length)).sum + zs.length * a.length ≤ 16777216) : gJoin (.str a) [.lst (zs.map D.str)] S = .ok (.str (Txt.join a zs)) S := by
  simp only [gJoin, lstOf, Option.bind_some, strsOf_map, h, if_true]
theorem gRep_one (d : D) (n : Nat) (h : n ≤ sizeLine) : gRep (.lst [d]) (.int (n : Int)) S = .ok (.lst (List.replicate n d)) S := by
  have hz : n ≤ 16777216 := by rw [← sizeLine_val]; exact h
  have e : (List.replicate n [d]).flatten = List.replicate n d := by
    induction n with
    | zero => rfl
    | succ n ih => simp [List.replicate_succ, ih (by omega) (by omega)]
  simp only [gRep, lstOf]
  rw [cif_pos ⟨by omega, by omega, by simpa using h⟩]
  simp [e]
theorem gRepN_one (d : D) (n : Nat) (h : n ≤ sizeLine) : gRepN (.lst [d]) (.int (n : Int)) S = .ok (.cell S.length) (S ++ [some (.lst (List.replicate n d))]) := by
  have hz : n ≤ 16777216 := by rw [← sizeLine_val]; exact h
  have e : (List.replicate n [d]).flatten = List.replicate n d := by
    induction n with
    | zero => rfl
    | succ n ih => simp [List.replicate_succ, ih (by omega) (by omega)]
  simp only [gRepN, lstOf]
  rw [cif_pos ⟨by omega, by omega, by simpa using h⟩]
  simp [e]
@[simp] theorem iR3_eq (f g h : Ex) : iR3 f g h σ S = (f σ S).bind fun d S1 => (g σ S1).bind fun e S2 => (h σ S2).bind fun c S3 => match d, e, c with
  | .int i, .int j, .int (-1) => cif (-4611686018427387904 ≤ i ∧ i < 4611686018427387904 ∧ -4611686018427387904 ≤ j ∧ j < 4611686018427387904) (.ok (still, downD i (i - j).toNat) S3) .no
  | _, _, _ => .no := rfl
end
end Ev

/-! what the law draws, the other way -/
namespace Ev
open PySem PySem.Spec PyProof.Rows L2
noncomputable def b_dr_draws_s1 : Sx :=
      (sAsg 3 (op2 gAdd (eSl gSl (eVar 0) oN (oS (eC (.int 63)))) (eLst (aCons (eVar 1) aNil))))
noncomputable def b_dr_draws_s2 : Sx :=
      (sAsg 4 (eNew aNil))
noncomputable def b_dr_draws_s4 : Sx :=
      (sAsg 5 (eCompN (iL (eVar 3)) (hName 10) tYes (op2 gDiv (eVar 10) (eC (.int 100000))) [10]))
noncomputable def b_dr_draws_l1 : Sx :=
      (sSeq (sAsg 7 (op2 gMod (eVar 6) (eCall gLen (aCons (eVar 5) aNil))))
      (sSeq (sIf (tTst (op2 gGe (eVar 6) (eVar 1))) (sExp (eMeth "list" gAppend (eVar 4) (aCons (op2 gMod (op2 gIdx (eVar 5) (eVar 7)) (eC (.int 2147483587))) aNil))) sNil)
      (sIx (op2 gDiv (op2 gIdx (eVar 5) (eVar 7)) (eC (.int 2147483587))) (eVar 5) (eVar 7))))
noncomputable def b_dr_draws_s5 : Sx :=
      (sFor (iR1 (op2 gAdd (eVar 1) (eVar 2))) (hName 6) (b_dr_draws_l1))
noncomputable def b_dr_draws_s6 : Sx :=
      (sRet (eVar 4))
noncomputable def b_dr_draws_i1 : Sx :=
      (sSeq (b_dr_draws_s4)
      (sSeq (b_dr_draws_s5)
      (b_dr_draws_s6)))
noncomputable def b_dr_draws_s3 : Sx :=
      (sIf (tTst (op2 gEq (op2 gMod (op2 gDiv (op2 gIdx (eVar 3) (eC (.int 0))) (eC (.int 50000))) (eC (.int 2))) (eC (.int 1)))) (b_dr_draws_i1) sNil)
noncomputable def b_dr_draws_l2 : Sx :=
      (sSeq (sAsg 8 (op2 gAdd (op2 gMul (op2 gMul (op2 gAdd (eVar 6) (eVar 1)) (op2 gAdd (eVar 6) (eVar 1))) (eC (.int 7919))) (eC (.int 104729))))
      (sSeq (sAsg 9 (op2 gMod (op2 gMul (op2 gAdd (op2 gMod (op2 gIdx (eVar 3) (op2 gMod (eVar 6) (eCall gLen (aCons (eVar 3) aNil)))) (eC (.int 2147483647))) (eVar 8)) (eC (.int 48271))) (eC (.int 2147483647))))
      (sSeq (sAsg 9 (op2 gMod (op2 gAdd (op2 gMul (eVar 9) (eVar 9)) (op2 gMul (eC (.int 69621)) (eVar 6))) (eC (.int 2147483629))))
      (sExp (eMeth "list" gAppend (eVar 4) (aCons (op2 gMod (op2 gMul (eVar 9) (eVar 9)) (eC (.int 2147483587))) aNil))))))
noncomputable def b_dr_draws_s7 : Sx :=
      (sFor (iR1 (eVar 2)) (hName 6) (b_dr_draws_l2))
noncomputable def b_dr_draws_s8 : Sx :=
      (sRet (eVar 4))
noncomputable def b_dr_draws : Sx :=
      (sSeq (b_dr_draws_s1)
      (sSeq (b_dr_draws_s2)
      (sSeq (b_dr_draws_s3)
      (sSeq (b_dr_draws_s7)
      (b_dr_draws_s8)))))
theorem draws_loop1 (t : Nat) : ∀ (ks : List Nat) (found lefts : List Int), lefts ≠ [] → found.length + ks.length ≤ 100000 → inR found → ∃ (found' lefts' : List Int), found'.length = found.length + (ks.filter fun k => decide (t ≤ k)).length ∧ inR found' ∧
    ∀ (S : Sto) (a c d k at_ x8 x9 x10 : Option D), ∃ k' at', forL still (hName 6) b_dr_draws_l1 (ks.map fun (k : Nat) => D.int (k : Int)) [a, some (.int (t : Int)), c, d, some (.cell S.length), some (.cell (S.length + 1)), k, at_, x8, x9, x10] (S ++ [some (.lst (found.map D.int)), some (.lst (lefts.map D.int))]) =
      .nx [a, some (.int (t : Int)), c, d, some (.cell S.length), some (.cell (S.length + 1)), k', at', x8, x9, x10] (S ++ [some (.lst (found'.map D.int)), some (.lst (lefts'.map D.int))])
  | [], found, lefts, _, _, hr => ⟨found, lefts, by simp, hr, fun S a c d k at_ x8 x9 x10 => ⟨k, at_, by simp⟩⟩
  | k :: ks, found, lefts, hl, hz, hr => by
    obtain ⟨j, y, e1, e2, e3, e4, e5⟩ := atI_mod lefts hl (k : Int)
    simp only [List.length_cons] at hz
    have hp : (0 : Int) < (lefts.length : Int) := by have := List.length_pos_iff.mpr hl; omega
    have hs : found.length < sizeLine := by rw [sizeLine_val]; omega
    by_cases hk : t ≤ k
    · obtain ⟨found', lefts', h1, h2, h3⟩ := draws_loop1 t ks (found ++ [y % 2147483587]) (lefts.set j (y / 2147483587)) (by simpa using hl) (by simp; omega) (inR_snoc hr (Int.emod_nonneg _ (by decide)) (Int.emod_lt_of_pos _ (by decide)))
      refine ⟨found', lefts', by rw [h1]; simp [hk]; omega, h2, fun S a c d k0 at0 x8 x9 x10 => ?_⟩
      obtain ⟨k', at', h⟩ := h3 S a c d (some (.int k)) (some (.int ((k : Int) % (lefts.length : Int)))) x8 x9 x10
      refine ⟨k', at', ?_⟩
      simp only [List.map_append, List.map_cons, List.map_nil, List.map_set] at h
      have ht : b_dr_draws_l1 [a, some (.int (t : Int)), c, d, some (.cell S.length), some (.cell (S.length + 1)), some (.int (k : Int)), at0, x8, x9, x10] (S ++ [some (.lst (found.map D.int)), some (.lst (lefts.map D.int))]) =
          .nx [a, some (.int (t : Int)), c, d, some (.cell S.length), some (.cell (S.length + 1)), some (.int (k : Int)), some (.int ((k : Int) % (lefts.length : Int))), x8, x9, x10] (S ++ [some (.lst (found.map D.int ++ [D.int (y % 2147483587)])), some (.lst ((lefts.map D.int).set j (D.int (y / 2147483587))))]) := by
        simp [b_dr_draws_l1, atI_map, e4, e5, hs, hp, List.length_pos_iff.mpr hl, hk]
      simp [ht, h]
    · obtain ⟨found', lefts', h1, h2, h3⟩ := draws_loop1 t ks found (lefts.set j (y / 2147483587)) (by simpa using hl) (by omega) hr
      refine ⟨found', lefts', by rw [h1]; simp [hk], h2, fun S a c d k0 at0 x8 x9 x10 => ?_⟩
      obtain ⟨k', at', h⟩ := h3 S a c d (some (.int k)) (some (.int ((k : Int) % (lefts.length : Int)))) x8 x9 x10
      refine ⟨k', at', ?_⟩
      simp only [List.map_set] at h
      have ht : b_dr_draws_l1 [a, some (.int (t : Int)), c, d, some (.cell S.length), some (.cell (S.length + 1)), some (.int (k : Int)), at0, x8, x9, x10] (S ++ [some (.lst (found.map D.int)), some (.lst (lefts.map D.int))]) =
          .nx [a, some (.int (t : Int)), c, d, some (.cell S.length), some (.cell (S.length + 1)), some (.int (k : Int)), some (.int ((k : Int) % (lefts.length : Int))), x8, x9, x10] (S ++ [some (.lst (found.map D.int)), some (.lst ((lefts.map D.int).set j (D.int (y / 2147483587))))]) := by
        simp [b_dr_draws_l1, atI_map, e4, e5, hs, hp, List.length_pos_iff.mpr hl, hk]
      simp [ht, h]
theorem draws_loop2 (t : Nat) (ht : t ≤ 10000) (cs : List Int) (hc : cs ≠ []) : ∀ (ks : List Nat) (found : List Int), (∀ k ∈ ks, k ≤ 10000) → found.length + ks.length ≤ 10000 → inR found → ∃ found' : List Int, found'.length = found.length + ks.length ∧ inR found' ∧
    ∀ (S : Sto) (a c x5 k x7 x8 x9 x10 : Option D), ∃ k' x8' x9', forL still (hName 6) b_dr_draws_l2 (ks.map fun (k : Nat) => D.int (k : Int)) [a, some (.int (t : Int)), c, some (.lst (cs.map D.int)), some (.cell S.length), x5, k, x7, x8, x9, x10] (S ++ [some (.lst (found.map D.int))]) =
      .nx [a, some (.int (t : Int)), c, some (.lst (cs.map D.int)), some (.cell S.length), x5, k', x7, x8', x9', x10] (S ++ [some (.lst (found'.map D.int))])
  | [], found, _, _, hr => ⟨found, by simp, hr, fun S a c x5 k x7 x8 x9 x10 => ⟨k, x8, x9, by simp⟩⟩
  | k :: ks, found, hk, hz, hr => by
    obtain ⟨j, y, e1, e2, e3, e4, e5⟩ := atI_mod cs hc (k : Int)
    simp only [List.length_cons] at hz
    have hkk := hk k (by simp)
    generalize hpl : ((k : Int) + (t : Int)) * ((k : Int) + (t : Int)) * 7919 + 104729 = pl
    have hkt : (-18446744073709551616 : Int) < (k : Int) + (t : Int) ∧ (k : Int) + (t : Int) < 18446744073709551616 := by omega
    generalize hm0 : (y % 2147483647 + pl) * 48271 % 2147483647 = m0
    have hm0b : (-18446744073709551616 : Int) < m0 ∧ m0 < 18446744073709551616 := by
      have h1 := Int.emod_nonneg ((y % 2147483647 + pl) * 48271) (show (2147483647 : Int) ≠ 0 by decide)
      have h2 := Int.emod_lt_of_pos ((y % 2147483647 + pl) * 48271) (show (0 : Int) < 2147483647 by decide)
      omega
    generalize hm : (m0 * m0 + 69621 * (k : Int)) % 2147483629 = m
    have hmb : (-18446744073709551616 : Int) < m ∧ m < 18446744073709551616 := by
      have h1 := Int.emod_nonneg (m0 * m0 + 69621 * (k : Int)) (show (2147483629 : Int) ≠ 0 by decide)
      have h2 := Int.emod_lt_of_pos (m0 * m0 + 69621 * (k : Int)) (show (0 : Int) < 2147483629 by decide)
      omega
    obtain ⟨found', h1, h2, h3⟩ := draws_loop2 t ht cs hc ks (found ++ [m * m % 2147483587]) (fun k hk' => hk k (by simp [hk'])) (by simp; omega) (inR_snoc hr (Int.emod_nonneg _ (by decide)) (Int.emod_lt_of_pos _ (by decide)))
    refine ⟨found', by rw [h1]; simp; omega, h2, fun S a c x5 k0 x7 x8 x9 x10 => ?_⟩
    obtain ⟨k', x8', x9', h⟩ := h3 S a c x5 (some (.int k)) x7 (some (.int pl)) (some (.int m)) x10
    have hs : found.length < sizeLine := by rw [sizeLine_val]; omega
    have hp : (0 : Int) < (cs.length : Int) := by have := List.length_pos_iff.mpr hc; omega
    simp only [List.map_append, List.map_cons, List.map_nil] at h
    have htt : b_dr_draws_l2 [a, some (.int (t : Int)), c, some (.lst (cs.map D.int)), some (.cell S.length), x5, some (.int (k : Int)), x7, x8, x9, x10] (S ++ [some (.lst (found.map D.int))]) =
        .nx [a, some (.int (t : Int)), c, some (.lst (cs.map D.int)), some (.cell S.length), x5, some (.int (k : Int)), x7, some (.int pl), some (.int m), x10] (S ++ [some (.lst (found.map D.int ++ [D.int (m * m % 2147483587)]))]) := by
      simp [b_dr_draws_l2, atI_map, e4, hs, hp, List.length_pos_iff.mpr hc, hkt, hpl, hm0, hm0b, hm, hmb]
    exact ⟨k', x8', x9', by simp [htt, h]⟩
theorem filter_from (t m : Nat) : ((List.range (t + m)).filter fun k => decide (t ≤ k)).length = m := by
  induction m with
  | zero =>
    rw [List.filter_eq_nil_iff.mpr]
    · rfl
    · intro a ha
      have := List.mem_range.mp ha
      simp; omega
  | succ m ih =>
    rw [← Nat.add_assoc, List.range_succ, List.filter_append, List.length_append, ih]
    simp
/-- there are such draws -/
theorem draws_ex (ns : List Int) (t m : Nat) (ht : t + m ≤ 5000) (hn : ns.length ≤ 63) : ∃ xs : List Int, xs.length = m ∧ inR xs ∧
    ∀ S : Sto, Ref S (.ok (.cell S.length) (S ++ [some (.lst (xs.map D.int))])) (runB 11 b_dr_draws [.scr ns, .int (t : Int), .int (m : Int)] S) := by
  have hcs : cutG (ns.map D.int) none (some 63) ++ [D.int (t : Int)] = (ns.take 63 ++ [(t : Int)]).map D.int := by
    rw [show (63 : Int) = ((63 : Nat) : Int) from rfl, cutG_to]; simp
  have hcl : (ns.take 63 ++ [(t : Int)]).length ≤ 64 := by simp; omega
  have hcn : ns.take 63 ++ [(t : Int)] ≠ [] := by simp
  have hcz : (cutG (ns.map D.int) none (some 63)).length + 1 ≤ sizeLine := by
    have := congrArg List.length hcs
    simp only [List.length_append, List.length_map, List.length_cons, List.length_nil] at this hcl
    rw [sizeLine_val]; omega
  generalize ns.take 63 ++ [(t : Int)] = cs at hcs hcl hcn
  obtain ⟨c0, cr, rfl⟩ : ∃ c0 cr, cs = c0 :: cr := by cases cs with | nil => exact absurd rfl hcn | cons a b => exact ⟨a, b, rfl⟩
  have hcond : ((c0 / 50000 % 2 == 1) = true) ∨ ((c0 / 50000 % 2 == 1) = false) := by cases (c0 / 50000 % 2 == 1) <;> simp
  have hcz2 : ((c0 :: cr).map D.int).length ≤ sizeLine := by rw [sizeLine_val, List.length_map]; omega
  have g1 : ∀ S : Sto, b_dr_draws_s1 [some (.scr ns), some (.int (t : Int)), some (.int (m : Int)), none, none, none, none, none, none, none, none] S = .nx [some (.scr ns), some (.int (t : Int)), some (.int (m : Int)), some (.lst ((c0 :: cr).map D.int)), none, none, none, none, none, none, none] S := fun S => by
    simp [b_dr_draws_s1, hcz, hcs]
  have g2 : ∀ S : Sto, b_dr_draws_s2 [some (.scr ns), some (.int (t : Int)), some (.int (m : Int)), some (.lst ((c0 :: cr).map D.int)), none, none, none, none, none, none, none] S = .nx [some (.scr ns), some (.int (t : Int)), some (.int (m : Int)), some (.lst ((c0 :: cr).map D.int)), some (.cell S.length), none, none, none, none, none, none] (S ++ [some (.lst [])]) := fun S => by
    simp [b_dr_draws_s2]
  rcases hcond with hb | hb
  · have hcomp : ∀ (S : Sto) (a b c d e f g h i k : Option D), compL still (hName 10) tYes (op2 gDiv (eVar 10) (eC (.int 100000))) [a, b, c, d, e, f, g, h, i, k, none] ((c0 :: cr).map D.int) [] S = .ok (((c0 :: cr).map (· / 100000)).map D.int) S := fun S a b c d e f g h i k => by
      rw [compL_map (h := hName 10) trivial (fun d => match d with | .int c => .int (c / 100000) | d => d) _ (fun d hd => by
        obtain ⟨c', _, rfl⟩ := List.mem_map.mp hd
        exact ⟨_, rfl, by simp⟩) hcz2]
      simp
    obtain ⟨found, lefts, h1, h2, h3⟩ := draws_loop1 t (List.range (t + m)) [] ((c0 :: cr).map (· / 100000)) (by simp) (by simp; omega) (fun x hx => by cases hx)
    rw [filter_from] at h1
    refine ⟨found, by simpa using h1, h2, fun S => ?_⟩
    obtain ⟨k', at', h⟩ := h3 S (some (.scr ns)) (some (.int (m : Int))) (some (.lst ((c0 :: cr).map D.int))) none none none none none
    simp only [List.map_nil] at h
    have hr1 : ((t : Int) + (m : Int)).toNat = t + m := by omega
    have hr2 : (-4611686018427387904 : Int) ≤ (t : Int) + (m : Int) ∧ (t : Int) + (m : Int) < 4611686018427387904 := by omega
    refine Ref.ok (v2 := .cell (S.length + 0)) (S2 := S ++ [some (.lst (found.map D.int)), some (.lst (lefts.map D.int))]) ?_ (Cl.fresh (j := 0) rfl (by simp only [hbC]; exact hbs_all.mpr fun d hd => by obtain ⟨x, _, rfl⟩ := List.mem_map.mp hd; rfl))
    have hco := hcomp (S ++ [some (.lst [])]) (some (.scr ns)) (some (.int (t : Int))) (some (.int (m : Int))) (some (.lst ((c0 :: cr).map D.int))) (some (.cell S.length)) none none none none none
    have g3 : b_dr_draws_s3 [some (.scr ns), some (.int (t : Int)), some (.int (m : Int)), some (.lst ((c0 :: cr).map D.int)), some (.cell S.length), none, none, none, none, none, none] (S ++ [some (.lst [])]) =
        b_dr_draws_i1 [some (.scr ns), some (.int (t : Int)), some (.int (m : Int)), some (.lst ((c0 :: cr).map D.int)), some (.cell S.length), none, none, none, none, none, none] (S ++ [some (.lst [])]) := by
      simp [b_dr_draws_s3, hb]
    have g1' := g1 S
    have g2' := g2 S
    generalize (c0 :: cr).map D.int = cds at g1' g2' g3 hco h
    generalize ((c0 :: cr).map (· / 100000)).map D.int = lds at hco h
    have g4 : b_dr_draws_s4 [some (.scr ns), some (.int (t : Int)), some (.int (m : Int)), some (.lst cds), some (.cell S.length), none, none, none, none, none, none] (S ++ [some (.lst [])]) =
        .nx [some (.scr ns), some (.int (t : Int)), some (.int (m : Int)), some (.lst cds), some (.cell S.length), some (.cell (S.length + 1)), none, none, none, none, none] (S ++ [some (.lst []), some (.lst lds)]) := by
      simp [b_dr_draws_s4, wipeE, hco]
    have g5 : b_dr_draws_s5 [some (.scr ns), some (.int (t : Int)), some (.int (m : Int)), some (.lst cds), some (.cell S.length), some (.cell (S.length + 1)), none, none, none, none, none] (S ++ [some (.lst []), some (.lst lds)]) =
        .nx [some (.scr ns), some (.int (t : Int)), some (.int (m : Int)), some (.lst cds), some (.cell S.length), some (.cell (S.length + 1)), k', at', none, none, none] (S ++ [some (.lst (found.map D.int)), some (.lst (lefts.map D.int))]) := by
      simp [b_dr_draws_s5, hr1, hr2, intsD_zero, h]
    simp [runB, b_dr_draws, g1', g2', g3, b_dr_draws_i1, g4, g5, b_dr_draws_s6]
  · obtain ⟨found, h1, h2, h3⟩ := draws_loop2 t (by omega) (c0 :: cr) (by simp) (List.range m) [] (fun k hk => by have := List.mem_range.mp hk; omega) (by simp; omega) (fun x hx => by cases hx)
    simp only [List.length_nil, List.length_range, Nat.zero_add] at h1
    refine ⟨found, h1, h2, fun S => ?_⟩
    obtain ⟨k2, x8, x9, hB⟩ := h3 S (some (.scr ns)) (some (.int (m : Int))) none none none none none none
    have hr2 : (-4611686018427387904 : Int) ≤ (m : Int) ∧ (m : Int) < 4611686018427387904 := by omega
    simp only [List.map_nil] at hB
    refine Ref.self ?_
    have g3 : b_dr_draws_s3 [some (.scr ns), some (.int (t : Int)), some (.int (m : Int)), some (.lst ((c0 :: cr).map D.int)), some (.cell S.length), none, none, none, none, none, none] (S ++ [some (.lst [])]) =
        .nx [some (.scr ns), some (.int (t : Int)), some (.int (m : Int)), some (.lst ((c0 :: cr).map D.int)), some (.cell S.length), none, none, none, none, none, none] (S ++ [some (.lst [])]) := by
      simp [b_dr_draws_s3, hb]
    have g1' := g1 S
    have g2' := g2 S
    generalize (c0 :: cr).map D.int = cds at g1' g2' g3 hB
    have g7 : b_dr_draws_s7 [some (.scr ns), some (.int (t : Int)), some (.int (m : Int)), some (.lst cds), some (.cell S.length), none, none, none, none, none, none] (S ++ [some (.lst [])]) =
        .nx [some (.scr ns), some (.int (t : Int)), some (.int (m : Int)), some (.lst cds), some (.cell S.length), none, k2, none, x8, x9, none] (S ++ [some (.lst (found.map D.int))]) := by
      simp [b_dr_draws_s7, hr2, intsD_zero, hB]
    simp [runB, b_dr_draws, g1', g2', g3, g7, b_dr_draws_s8]
/-- the numbers that the law draws -/
noncomputable def drawsI (p : List Int × Nat × Nat) : List Int := by
  classical exact if h : p.2.1 + p.2.2 ≤ 5000 ∧ p.1.length ≤ 63 then (draws_ex p.1 p.2.1 p.2.2 h.1 h.2).choose else []
theorem drawsI_spec (ns : List Int) (t m : Nat) (h1 : t + m ≤ 5000) (h3 : ns.length ≤ 63) : (drawsI (ns, t, m)).length = m ∧ inR (drawsI (ns, t, m)) ∧
    ∀ S : Sto, Ref S (.ok (.cell S.length) (S ++ [some (.lst ((drawsI (ns, t, m)).map D.int))])) (runB 11 b_dr_draws [.scr ns, .int (t : Int), .int (m : Int)] S) := by
  unfold drawsI
  rw [dif_pos ⟨h1, h3⟩]
  exact (draws_ex ns t m h1 h3).choose_spec
noncomputable def fn_dr_draws : Fn := fnOf (fun p : List Int × Nat × Nat => [.scr p.1, .int (p.2.1 : Int), .int (p.2.2 : Int)]) (fun p => p.2.1 + p.2.2 ≤ 5000 ∧ p.1.length ≤ 63) fun p S => .ok (.cell S.length) (S ++ [some (.lst ((drawsI p).map D.int))])
theorem draws_eq (ns : List Int) (t m : Nat) (h1 : t + m ≤ 5000) (h3 : ns.length ≤ 63) (S : Sto) : fn_dr_draws [.scr ns, .int (t : Int), .int (m : Int)] S = .ok (.cell S.length) (S ++ [some (.lst ((drawsI (ns, t, m)).map D.int))]) :=
  fnOf_eq (e := fun p : List Int × Nat × Nat => [.scr p.1, .int (p.2.1 : Int), .int (p.2.2 : Int)]) (a := (ns, t, m)) (fun a b h => by
    obtain ⟨a1, a2, a3⟩ := a
    obtain ⟨b1, b2, b3⟩ := b
    simp at h
    obtain ⟨e1, e2, e3⟩ := h
    have e2 : a2 = b2 := by omega
    have e3 : a3 = b3 := by omega
    rw [e1, e2, e3]) ⟨h1, h3⟩
theorem ref_dr_draws (ds : List D) (S : Sto) : Ref S (fn_dr_draws ds S) (runB 11 b_dr_draws ds S) :=
  fnOf_ref (fun p S ⟨h1, h3⟩ => (drawsI_spec p.1 p.2.1 p.2.2 h1 h3).2.2 S) ds S
noncomputable def b_dr_pop : Sx :=
      (sSeq (sIf (tTst (op2 gEq (eVar 0) (eLst aNil))) (sRet (eC (.int 0))) sNil)
      (sRet (eMeth "list" gPop (eVar 0) aNil)))
def intsOf : List D → Option (List Int)
  | [] => some []
  | .int b :: r => (intsOf r).map (b :: ·)
  | _ => none
@[simp] theorem intsOf_map (bs : List Int) : intsOf (bs.map D.int) = some bs := by
  induction bs with
  | nil => rfl
  | cons b r ih => simp [intsOf, ih]
theorem intsOf_some : ∀ {ds : List D} {bs : List Int}, intsOf ds = some bs → ds = bs.map D.int
  | [], bs, h => by cases h; rfl
  | .int b :: r, bs, h => by
    unfold intsOf at h
    cases e : intsOf r with
    | none => rw [e] at h; cases h
    | some x => rw [e] at h; cases h; rw [intsOf_some e]; rfl
/-- the last draw is taken away -/
def fn_dr_pop : Fn := fun ds S => match ds with
  | [.cell k] => (match S[k]? with
    | some (some (.lst xs)) => (match intsOf xs with
      | some is => .ok (.int (is.getLastD 0)) (S.set k (some (.lst (is.dropLast.map D.int))))
      | none => .no)
    | _ => .no)
  | _ => .no
theorem pop_eq {k : Nat} {is : List Int} {S : Sto} (h : S[k]? = some (some (.lst (is.map D.int)))) : fn_dr_pop [.cell k] S = .ok (.int (is.getLastD 0)) (S.set k (some (.lst (is.dropLast.map D.int)))) := by
  simp [fn_dr_pop, h]
theorem ints_py (is : List Int) (S : Sto) (n : Nat) : omap (py S n) (is.map D.int) = some (is.map PyData.int) := omap_map fun i _ => by cases n <;> rfl
theorem ref_dr_pop (ds : List D) (S : Sto) : Ref S (fn_dr_pop ds S) (runB 1 b_dr_pop ds S) := by
  unfold fn_dr_pop
  split
  · rename_i k
    split
    · rename_i xs hk
      split
      · rename_i is hi
        have hx := intsOf_some hi
        subst hx
        refine Ref.self ?_
        have hg := gEq_cell_nil hk (ints_py is S 199)
        cases e : is with
        | nil =>
          subst e
          simp at hg hk
          have hS : S.set k (some (.lst [])) = S := by
            apply List.ext_getElem?
            intro i
            rw [List.getElem?_set]
            by_cases ei : k = i
            · subst ei; rw [if_pos rfl, if_pos (List.getElem?_eq_some_iff.mp hk).1, hk]
            · rw [if_neg ei]
          simp [runB, b_dr_pop, hg, hS]
        | cons a r =>
          rw [← e]
          have hne : is ≠ [] := by rw [e]; simp
          have hg' : gEq (.cell k) (.lst []) S = .ok (.bl false) S := by rw [hg]; simp [hne]
          have hl : is[is.length - 1]? = some (is.getLast?.getD 0) := by
            rw [← List.getLast?_eq_getElem?, List.getLast?_eq_some_getLast hne]; rfl
          simp [runB, b_dr_pop, hg', hk, hl]
      · trivial
    · trivial
  · trivial
theorem glued_cps : ∀ (zs : List Str) (a : Array Nat), (zs.foldl (fun acc p => acc ++ ("" : Str).cps ++ p.cps) a).toList = a.toList ++ zs.flatMap fun z => z.cps.toList
  | [], a => by simp
  | z :: r, a => by
    rw [List.foldl_cons, glued_cps r]
    have e : (("" : Str).cps) = #[] := by decide +kernel
    simp [e]
theorem join_cps (zs : List Str) : (Txt.join "" zs).cps.toList = zs.flatMap fun z => z.cps.toList := by
  unfold Txt.join Builtin.Str.glued
  rw [glued_cps]
  cases zs with
  | nil => rfl
  | cons z r => simp
/-- a text of small letters -/
def lowS (n : Nat) (s : Str) : Prop := (∀ c ∈ s.cps.toList, 97 ≤ c ∧ c ≤ 122) ∧ s.cps.toList.length ≤ n
theorem lowS.str {n : Nat} {s : Str} (h : lowS n s) : PyData.strOk s = true := by
  unfold PyData.strOk
  rw [Array.all_eq_true']
  intro c hc
  have := h.1 c (by simpa using hc)
  simp; omega
theorem letters_low : ∀ c ∈ ("abcdefghijklmnopqrstuvwxyz" : Str).cps.toList, 97 ≤ c ∧ c ≤ 122 := by decide +kernel
theorem letter_at (i : Int) : ∃ c : Nat, atI ("abcdefghijklmnopqrstuvwxyz" : Str).cps.toList (i % 26) = some c ∧ 97 ≤ c ∧ c ≤ 122 := by
  obtain ⟨j, c, _, _, hj, ha, _⟩ := atI_mod ("abcdefghijklmnopqrstuvwxyz" : Str).cps.toList (by decide +kernel) i
  have e : (("abcdefghijklmnopqrstuvwxyz" : Str).cps.toList.length : Int) = 26 := by decide +kernel
  rw [e] at ha
  exact ⟨c, ha, letters_low c (List.mem_of_getElem? hj)⟩
noncomputable def b_dr_name_s1 : Sx :=
      (sAsg 2 (eC (.str "abcdefghijklmnopqrstuvwxyz")))
noncomputable def b_dr_name_s2 : Sx :=
      (sAsg 3 (eMeth "str" gJoin (eC (.str "")) (aCons (eComp (iR1 (op2 gMod (eVar 1) (eC (.int 11)))) (hName 5) tYes (op2 gIdx (eVar 2) (op2 gMod (op2 gAdd (op2 gDiv (eVar 1) (eC (.int 150))) (op2 gMul (eVar 5) (eVar 5))) (eC (.int 26)))) [5]) aNil)))
noncomputable def b_dr_name_s3 : Sx :=
      (sAsg 4 (op2 gMod (op2 gDiv (eVar 1) (eC (.int 11))) (op2 gAdd (eCall gLen (aCons (eVar 3) aNil)) (eC (.int 1)))))
noncomputable def b_dr_name_s4 : Sx :=
      (sRet (op2 gAdd (op2 gAdd (eSl gSl (eVar 3) oN (oS (eVar 4))) (op2 gIdx (eVar 2) (op2 gMod (op2 gAdd (eVar 0) (eVar 1)) (eC (.int 26))))) (eSl gSl (eVar 3) (oS (eVar 4)) oN)))
noncomputable def b_dr_name : Sx :=
      (sSeq (b_dr_name_s1)
      (sSeq (b_dr_name_s2)
      (sSeq (b_dr_name_s3)
      (b_dr_name_s4))))
noncomputable def letAt (i : Int) : Nat := (letter_at i).choose
theorem letAt_spec (i : Int) : atI ("abcdefghijklmnopqrstuvwxyz" : Str).cps.toList (i % 26) = some (letAt i) ∧ 97 ≤ letAt i ∧ letAt i ≤ 122 := (letter_at i).choose_spec
theorem flat_one {α : Type} (f : α → Nat) (xs : List α) : (xs.map fun x => (⟨#[f x]⟩ : Str)).flatMap (fun z => z.cps.toList) = xs.map f := by
  induction xs with
  | nil => rfl
  | cons x r ih => simp [ih]
theorem name_ex (k : Nat) (n : Int) (hk : k ≤ 100) (hn : 0 ≤ n ∧ n < 2147483587) : ∃ s : Str, lowS 11 s ∧ ∀ S : Sto, runB 6 b_dr_name [.int (k : Int), .int n] S = .ok (.str s) S := by
  have hal : ("abcdefghijklmnopqrstuvwxyz" : Str).length ≤ sizeLine := by decide +kernel
  generalize hz : ("abcdefghijklmnopqrstuvwxyz" : Str) = al at hal
  have hla : ∀ i : Int, atI al.cps.toList (i % 26) = some (letAt i) := fun i => by rw [← hz]; exact (letAt_spec i).1
  have h0 : 0 ≤ n % 11 := Int.emod_nonneg _ (by decide)
  have h1 : n % 11 < 11 := Int.emod_lt_of_pos _ (by decide)
  generalize hzs : ((List.range (n % 11).toNat).map fun (j : Nat) => (⟨#[letAt (n / 150 + (j : Int) * (j : Int))]⟩ : Str)) = zs
  have hzl : zs.length ≤ 10 := by rw [← hzs]; simp; omega
  have hzsum : (zs.map (·.length)).sum = zs.length := by
    rw [← hzs, List.map_map]
    have : ∀ l : List Nat, (l.map ((fun x : Str => x.length) ∘ fun (j : Nat) => (⟨#[letAt (n / 150 + (j : Int) * (j : Int))]⟩ : Str))).sum = l.length := fun l => by
      induction l with
      | nil => rfl
      | cons a r ih =>
        rw [List.map_cons, List.sum_cons, ih, List.length_cons]
        show 1 + r.length = _
        omega
    rw [this]; simp
  have hcps : (Txt.join "" zs).cps.toList = (List.range (n % 11).toNat).map fun (j : Nat) => letAt (n / 150 + (j : Int) * (j : Int)) := by
    rw [join_cps, ← hzs, flat_one]
  generalize hb : Txt.join "" zs = bs at hcps
  have hbl : bs.cps.toList.length ≤ 10 := by rw [hcps]; simp; omega
  have hblow : ∀ c ∈ bs.cps.toList, 97 ≤ c ∧ c ≤ 122 := by
    rw [hcps]
    intro c hc
    obtain ⟨j, _, rfl⟩ := List.mem_map.mp hc
    exact (letAt_spec _).2
  have hbs : bs.length ≤ sizeLine := by rw [str_len, sizeLine_val]; omega
  have hbsI : (0 : Int) < (bs.length : Int) + 1 := by omega
  generalize hat : n / 11 % ((bs.length : Int) + 1) = at_
  have hat0 : 0 ≤ at_ := by rw [← hat]; exact Int.emod_nonneg _ (by omega)
  have hjn : ∀ S : Sto, gJoin (.str "") [.lst (zs.map D.str)] S = .ok (.str bs) S := fun S => by
    rw [gJoin_map, hb]
    have e : ("" : Str).length = 0 := by decide +kernel
    rw [hzsum, e]; omega
  have hcomp : ∀ S : Sto, compL still (hName 5) tYes (op2 gIdx (eVar 2) (op2 gMod (op2 gAdd (op2 gDiv (eVar 1) (eC (.int 150))) (op2 gMul (eVar 5) (eVar 5))) (eC (.int 26)))) [some (.int (k : Int)), some (.int n), some (.str al), none, none, none] ((List.range (n % 11).toNat).map fun (k : Nat) => D.int (k : Int)) [] S = .ok (zs.map D.str) S := fun S => by
    rw [compL_map (h := hName 5) trivial (fun d => match d with | .int j => .str ⟨#[letAt (n / 150 + j * j)]⟩ | d => d) _ (fun d hd => by
      obtain ⟨j, hj, rfl⟩ := List.mem_map.mp hd
      have hj : j < (n % 11).toNat := by simpa using hj
      have hjb : (-18446744073709551616 : Int) < (j : Int) ∧ (j : Int) < 18446744073709551616 := by omega
      exact ⟨_, rfl, by simp [hal, hla, hjb]⟩) (by rw [sizeLine_val]; simp; omega), ← hzs]
    simp
  let c := letAt ((k : Int) + n)
  have hcut1 := cut_to bs hat0
  have hcut2 := cut_from bs hat0
  refine ⟨cutS bs none (some at_) ++ ⟨#[c]⟩ ++ cutS bs (some at_) none, ⟨fun d hd => ?_, ?_⟩, fun S => ?_⟩
  · rw [str_app, str_app] at hd
    simp only [List.mem_append] at hd
    rcases hd with (hd | hd) | hd
    · exact hblow d (cut_mem hd)
    · simp at hd; subst hd; exact (letAt_spec _).2
    · exact hblow d (cut_mem hd)
  · rw [str_app, str_app, hcut1, hcut2]
    simp
    simp at hbl
    omega
  · have e1 : (cutS bs none (some at_)).length + (⟨#[c]⟩ : Str).length ≤ sizeLine := by
      rw [str_len, hcut1, List.length_take, sizeLine_val]
      show _ + 1 ≤ _
      omega
    have e2 : (cutS bs none (some at_) ++ (⟨#[c]⟩ : Str)).length + (cutS bs (some at_) none).length ≤ sizeLine := by
      rw [str_len, str_len (cutS _ _ _), str_app, hcut1, hcut2, List.length_append, List.length_take, List.length_drop, sizeLine_val]
      simp
      simp at hbl
      omega
    have g1 : b_dr_name_s1 [some (.int (k : Int)), some (.int n), none, none, none, none] S = .nx [some (.int (k : Int)), some (.int n), some (.str al), none, none, none] S := by
      simp [b_dr_name_s1, hz]
    have hr : (-4611686018427387904 : Int) ≤ n % 11 ∧ n % 11 < 4611686018427387904 := by omega
    have hc := hcomp S
    have hjn' := hjn S
    have g2 : b_dr_name_s2 [some (.int (k : Int)), some (.int n), some (.str al), none, none, none] S = .nx [some (.int (k : Int)), some (.int n), some (.str al), some (.str bs), none, none] S := by
      simp [b_dr_name_s2, hr, intsD_zero, wipeE, hc, hjn']
    have g3 : b_dr_name_s3 [some (.int (k : Int)), some (.int n), some (.str al), some (.str bs), none, none] S = .nx [some (.int (k : Int)), some (.int n), some (.str al), some (.str bs), some (.int at_), none] S := by
      have hm : (0 : Int) < (bs.length : Int) + 1 ∧ (bs.length : Int) + 1 < 18446744073709551616 := by rw [str_len]; omega
      simp [b_dr_name_s3, hbs, hm, hat]
    have g4 : b_dr_name_s4 [some (.int (k : Int)), some (.int n), some (.str al), some (.str bs), some (.int at_), none] S = .rt (.str (cutS bs none (some at_) ++ ⟨#[c]⟩ ++ cutS bs (some at_) none)) S := by
      simp [b_dr_name_s4, hal, hla, hbs, e1, e2, c]
    simp [runB, b_dr_name, g1, g2, g3, g4]
noncomputable def nameD (p : Nat × Int) : Str := by
  classical exact if h : p.1 ≤ 100 ∧ 0 ≤ p.2 ∧ p.2 < 2147483587 then (name_ex p.1 p.2 h.1 h.2).choose else ""
theorem nameD_spec (k : Nat) (n : Int) (hk : k ≤ 100) (hn : 0 ≤ n ∧ n < 2147483587) : lowS 11 (nameD (k, n)) ∧ ∀ S : Sto, runB 6 b_dr_name [.int (k : Int), .int n] S = .ok (.str (nameD (k, n))) S := by
  unfold nameD
  rw [dif_pos ⟨hk, hn⟩]
  exact (name_ex k n hk hn).choose_spec
noncomputable def fn_dr_name : Fn := fnOf (fun p : Nat × Int => [.int (p.1 : Int), .int p.2]) (fun p => p.1 ≤ 100 ∧ 0 ≤ p.2 ∧ p.2 < 2147483587) fun p S => .ok (.str (nameD p)) S
theorem name_eq {k : Nat} {n : Int} (hk : k ≤ 100) (hn : 0 ≤ n ∧ n < 2147483587) (S : Sto) : fn_dr_name [.int (k : Int), .int n] S = .ok (.str (nameD (k, n))) S :=
  fnOf_eq (e := fun p : Nat × Int => [.int (p.1 : Int), .int p.2]) (a := (k, n)) (fun a b h => by
    obtain ⟨a1, a2⟩ := a
    obtain ⟨b1, b2⟩ := b
    simp at h
    have e : a1 = b1 := by omega
    rw [e, h.2]) ⟨hk, hn⟩
theorem ref_dr_name (ds : List D) (S : Sto) : Ref S (fn_dr_name ds S) (runB 6 b_dr_name ds S) := fnOf_ref (fun p S ⟨h1, h2⟩ => Ref.self ((nameD_spec p.1 p.2 h1 h2).2 S)) ds S
noncomputable def b_dr_names_s1 (f_dr_name : Fn) : Sx :=
      (sRet (eComp (iR1 (op2 gAdd (eC (.int 1)) (op2 gMod (op2 gDiv (eVar 0) (eC (.int 7))) (eC (.int 4))))) (hName 1) tYes (eFn 2 f_dr_name (aCons (eVar 1) (aCons (eVar 0) aNil))) [1]))
noncomputable def b_dr_names (f_dr_name : Fn) : Sx :=
      (b_dr_names_s1 f_dr_name)
/-- one to four names -/
noncomputable def namesD (n : Int) : List Str := (List.range (1 + n / 7 % 4).toNat).map fun k => nameD (k, n)
theorem namesD_ok {n : Int} (hn : 0 ≤ n ∧ n < 2147483587) : 1 ≤ (namesD n).length ∧ (namesD n).length ≤ 4 ∧ ∀ s ∈ namesD n, lowS 11 s := by
  have h1 := Int.emod_nonneg (n / 7) (show (4 : Int) ≠ 0 by decide)
  have h2 := Int.emod_lt_of_pos (n / 7) (show (0 : Int) < 4 by decide)
  refine ⟨by unfold namesD; simp; omega, by unfold namesD; simp; omega, fun s hs => ?_⟩
  obtain ⟨k, hk, rfl⟩ := List.mem_map.mp hs
  have hk : k < (1 + n / 7 % 4).toNat := by simpa using hk
  exact (nameD_spec k n (by omega) hn).1
noncomputable def fn_dr_names : Fn := fnOf (fun n : Int => [.int n]) (fun n => 0 ≤ n ∧ n < 2147483587) fun n S => .ok (.lst ((namesD n).map D.str)) S
theorem dnames_eq {n : Int} (hn : 0 ≤ n ∧ n < 2147483587) (S : Sto) : fn_dr_names [.int n] S = .ok (.lst ((namesD n).map D.str)) S := fnOf_eq (e := fun n : Int => [.int n]) (a := n) (fun a b h => by simpa using h) hn
theorem ref_dr_names (ds : List D) (S : Sto) : Ref S (fn_dr_names ds S) (runB 2 (b_dr_names fn_dr_name) ds S) := by
  refine fnOf_ref (fun n S hn => ?_) ds S
  have h1 := Int.emod_nonneg (n / 7) (show (4 : Int) ≠ 0 by decide)
  have h2 := Int.emod_lt_of_pos (n / 7) (show (0 : Int) < 4 by decide)
  have hr : (-4611686018427387904 : Int) ≤ 1 + n / 7 % 4 ∧ 1 + n / 7 % 4 < 4611686018427387904 := by omega
  have hcomp := compL_map (chk := still) (h := hName 1) (f := eFn 2 fn_dr_name (aCons (eVar 1) (aCons (eVar 0) aNil))) (σ := [some (.int n), none]) (S := S) trivial (fun d => match d with | .int k => .str (nameD (k.toNat, n)) | d => d)
    ((List.range (1 + n / 7 % 4).toNat).map fun (k : Nat) => D.int (k : Int)) (fun d hd => by
      obtain ⟨k, hk, rfl⟩ := List.mem_map.mp hd
      have hk : k < (1 + n / 7 % 4).toNat := by simpa using hk
      exact ⟨_, rfl, by simp [name_eq (k := k) (show k ≤ 100 by omega) hn]⟩) (by rw [sizeLine_val]; simp; omega)
  refine Ref.self ?_
  simp at hcomp
  simp [runB, b_dr_names, b_dr_names_s1, hr, intsD_zero, wipeE, hcomp, namesD]
noncomputable def b_dr_text_s1 : Sx :=
      (sAsg 1 (eLst (aCons (eC (.str "")) (aCons (eC (.str "x")) (aCons (eC (.str "any")) (aCons (eC (.str "\"")) (aCons (eC (.str "\\")) (aCons (eC (.str "\\q")) (aCons (eC (.str "a b")) (aCons (eC (.str "]")) aNil))))))))))
noncomputable def b_dr_text_s2 : Sx :=
      (sRet (op2 gIdx (eVar 1) (op2 gMod (eVar 0) (eCall gLen (aCons (eVar 1) aNil)))))
noncomputable def b_dr_text : Sx :=
      (sSeq (b_dr_text_s1)
      (b_dr_text_s2))
/-- the texts that are drawn -/
def eightT : List Str := ["", "x", "any", "\"", "\\", "\\q", "a b", "]"]
theorem eightT_ok : ∀ s ∈ eightT, PyData.strOk s = true := by decide +kernel
noncomputable def textD (n : Int) : Str := (eightT[(n % 8).toNat]?).getD ""
theorem textD_at (n : Int) : atI eightT (n % 8) = some (textD n) := by
  obtain ⟨j, x, e1, _, hj, ha, _⟩ := atI_mod eightT (by decide) n
  rw [show (eightT.length : Int) = 8 from rfl] at e1 ha
  rw [ha]; unfold textD
  rw [e1, show ((j : Int)).toNat = j by omega, hj]; rfl
theorem textD_mem (n : Int) : textD n ∈ eightT := by
  have := textD_at n
  unfold atI at this
  obtain ⟨j, _, hj⟩ := Option.bind_eq_some_iff.mp this
  exact List.mem_of_getElem? hj
noncomputable def fn_dr_text : Fn := fnOf (fun n : Int => [.int n]) (fun _ => True) fun n S => .ok (.str (textD n)) S
theorem text_eq (n : Int) (S : Sto) : fn_dr_text [.int n] S = .ok (.str (textD n)) S := fnOf_eq (e := fun n : Int => [.int n]) (a := n) (fun a b h => by simpa using h) trivial
theorem ref_dr_text (ds : List D) (S : Sto) : Ref S (fn_dr_text ds S) (runB 2 b_dr_text ds S) := by
  refine fnOf_ref (fun n S _ => ?_) ds S
  have g1 : b_dr_text_s1 [some (.int n), none] S = .nx [some (.int n), some (.lst (eightT.map D.str))] S := by simp [b_dr_text_s1, eightT]
  have hl : eightT.length = 8 := rfl
  have ha : atI (eightT.map D.str) (n % 8) = some (.str (textD n)) := by rw [atI_map, textD_at]; rfl
  have g2 : b_dr_text_s2 [some (.int n), some (.lst (eightT.map D.str))] S = .rt (.str (textD n)) S := by simp [b_dr_text_s2, hl, ha]
  exact Ref.self (by simp [runB, b_dr_text, g1, g2])
end Ev

/-! how deep a paper that is coming goes -/
namespace Ev
open PySem PySem.Spec PyProof.Rows L2
theorem Fo.app_dp : ∀ f g : Fo, (f.app g).dp = max f.dp g.dp
  | .nil, g => by simp [Fo.app, Fo.dp]
  | .tx _ r, g => by simp [Fo.app, Fo.dp, Fo.app_dp r g] <;> omega
  | .el _ k r, g => by simp [Fo.app, Fo.dp, Fo.app_dp r g] <;> omega
def htL : List (Str × Fo) → Nat
  | [] => 0
  | (_, f) :: r => max (r.length + 1 + f.dp) (htL r)
def Zp.ht (z : Zp) : Nat := max z.bot.dp (htL z.st)
theorem htL_add (g : Fo) : ∀ st : List (Str × Fo), htL (addSt g st) ≤ max (htL st) (st.length + g.dp)
  | [] => by simp [addSt, htL]
  | (m, f) :: r => by simp [addSt, htL, Fo.app_dp]; omega
theorem Zp.ht_step (z : Zp) (s : Sg) : (z.step s).ht ≤ max z.ht ((z.step s).st.length + 1) := by
  cases s with
  | op n => simp [Zp.step, Zp.ht, htL, Fo.dp]; omega
  | tx s =>
    obtain ⟨bot, st⟩ := z
    cases st with
    | nil => simp [Zp.step]; omega
    | cons p r =>
      obtain ⟨m, f⟩ := p
      simp [Zp.step, Zp.ht, addSt, htL, Fo.app_dp, Fo.dp]
      omega
  | cl =>
    obtain ⟨bot, st⟩ := z
    cases st with
    | nil => simp [Zp.step]; omega
    | cons p r =>
      obtain ⟨m, f⟩ := p
      have h := htL_add (.el m f .nil) r
      have hd : (Fo.el m f .nil).dp = f.dp + 1 := by simp [Fo.dp]
      have hb : (addBot (.el m f .nil) bot r).dp ≤ max bot.dp (r.length + f.dp + 1) := by
        cases r with
        | nil => simp [addBot, Fo.app_dp, hd] <;> omega
        | cons _ _ => simp [addBot]; omega
      simp only [Zp.step, Zp.ht, htL]
      rw [hd] at h
      omega
theorem upF_dp : ∀ (st : List (Str × Fo)) (acc bot : Fo), (upF acc st bot).dp ≤ max bot.dp (max (htL st) (st.length + acc.dp))
  | [], acc, bot => by simp [upF, Fo.app_dp]; omega
  | (n, f) :: r, acc, bot => by
    have := upF_dp r (.el n (f.app acc) .nil) bot
    have hd : (Fo.el n (f.app acc) .nil).dp = max f.dp acc.dp + 1 := by simp [Fo.dp, Fo.app_dp]
    simp only [upF, htL, List.length_cons]
    rw [hd] at this
    omega
theorem stumpP_dp {ss : List Sg} (h : ss ≠ []) (ho : okFrom z0 ss = true) {m : Nat} (hm : (z0.run ss).ht ≤ m) (hl : (z0.run ss).st.length ≤ m) : (stumpP ss).dp ≤ m := by
  obtain ⟨n, k, e1, e2⟩ := stumpP_all h ho
  have := upF_dp (z0.run ss).st .nil (z0.run ss).bot
  have e : upF .nil (z0.run ss).st (z0.run ss).bot = .el n k .nil := e2
  rw [e] at this
  rw [e1]
  simp only [Fo.dp, Pt.dp, Zp.ht] at *
  omega
end Ev

/-! signs and stump, the other way -/
namespace Ev
open PySem PySem.Spec PyProof.Rows L2
noncomputable def b_dr_stump_s1 : Sx :=
      (sAsg 1 (eNew aNil))
noncomputable def b_dr_stump_s2 : Sx :=
      (sAsg 2 (eNew (aCons (eVar 1) aNil)))
noncomputable def b_dr_stump_s4 : Sx :=
      (sAsg 4 (eNew aNil))
noncomputable def b_dr_stump_s5 : Sx :=
      (sExp (eMeth "list" gAppend (op2 gIdx (eVar 2) (op1 gNeg (eC (.int 1)))) (aCons (eTup (aCons (op2 gIdx (eVar 3) (eC (.int 1))) (aCons (eVar 4) aNil))) aNil)))
noncomputable def b_dr_stump_s6 : Sx :=
      (sExp (eMeth "list" gAppend (eVar 2) (aCons (eVar 4) aNil)))
noncomputable def b_dr_stump_i1 : Sx :=
      (sSeq (b_dr_stump_s4)
      (sSeq (b_dr_stump_s5)
      (b_dr_stump_s6)))
noncomputable def b_dr_stump_l1 : Sx :=
      (sIf (tTst (op2 gEq (op2 gIdx (eVar 3) (eC (.int 0))) (eC (.str "open")))) (b_dr_stump_i1) (sIf (tTst (op2 gEq (op2 gIdx (eVar 3) (eC (.int 0))) (eC (.str "text")))) (sExp (eMeth "list" gAppend (op2 gIdx (eVar 2) (op1 gNeg (eC (.int 1)))) (aCons (op2 gIdx (eVar 3) (eC (.int 1))) aNil))) (sExp (eMeth "list" gPop (eVar 2) aNil))))
noncomputable def b_dr_stump_s3 : Sx :=
      (sFor (iL (eVar 0)) (hName 3) (b_dr_stump_l1))
noncomputable def b_dr_stump_s7 : Sx :=
      (sRet (op2 gIdx (eVar 1) (eC (.int 0))))
noncomputable def b_dr_stump : Sx :=
      (sSeq (b_dr_stump_s1)
      (sSeq (b_dr_stump_s2)
      (sSeq (b_dr_stump_s3)
      (b_dr_stump_s7))))
theorem dst_turn {S J : Sto} {z : Zp} {t : Nat} {s : Sg} {x e : Option D} (h : StI S.length J z t) (hc : z.can s = true) (ht : t ≤ 1000000) :
    ∃ J' e', StI S.length J' (z.step s) (t + 1) ∧ b_dr_stump_l1 [x, some (.cell S.length), some (.cell (S.length + 1)), some s.d, e] (S ++ J) = .nx [x, some (.cell S.length), some (.cell (S.length + 1)), some s.d, e'] (S ++ J') := by
  obtain ⟨Jc, js, hch, hle, hlen, hp, hpile, hst⟩ := h.ex
  have hjl := hch.len
  obtain ⟨j, jr, ds, rfl, hj, hdt, hjn, hj0, hlink, happ⟩ := hch.top
  simp only [List.reverse_cons, List.map_append, List.map_cons, List.map_nil] at hpile
  simp only [List.length_cons, Nat.add_right_cancel_iff] at hjl
  have hj1 : j ≠ 1 := fun e => hch.ne1 (by simp [e])
  have hjJ : j < J.length := (List.getElem?_eq_some_iff.mp hj).1
  have h1J : 1 < J.length := (List.getElem?_eq_some_iff.mp hpile).1
  have hds : ds.length < sizeLine := by rw [sizeLine_val]; omega
  have hpl : (jr.length : Int) + 1 - 1 = (z.st.length : Int) := by omega
  have hpz : jr.length + 1 < sizeLine := by rw [sizeLine_val]; omega
  have hcan : z.can s = true := hc
  have hset : ∀ (l : Sto) (c : Option C) (i : Nat), i ≠ j → (l.set j c)[i]? = l[i]? := fun l c i h => List.getElem?_set_ne (Ne.symm h)
  have hset1 : ∀ (l : Sto) (c : Option C) (i : Nat), i ≠ 1 → (l.set 1 c)[i]? = l[i]? := fun l c i h => List.getElem?_set_ne (Ne.symm h)
  cases s with
  | op m =>
    have e1 : (J ++ [some (C.lst [])])[1]? = some (some (.lst (jr.reverse.map (fun j => D.cell (S.length + j)) ++ [.cell (S.length + j)]))) := by rw [List.getElem?_append_left h1J]; exact hpile
    have ej : (J ++ [some (C.lst [])])[j]? = some (some (.lst ds)) := by rw [List.getElem?_append_left hjJ]; exact hj
    refine ⟨((J ++ [some (C.lst [])]).set j (some (.lst (ds ++ [D.tup [.str m, .cell (S.length + J.length)]])))).set 1 (some (.lst ((jr.reverse.map (fun j => D.cell (S.length + j)) ++ [.cell (S.length + j)]) ++ [.cell (S.length + J.length)]))), some (.cell (S.length + J.length)), ⟨Jc ++ [none], J.length :: j :: jr, ?_, ?_, ?_, ?_, ?_, ?_⟩, ?_⟩
    · have hold := hlink [D.tup [.str m, .cell (S.length + J.length)]]
      have hlt := hch.lt
      have hfr := hch.free
      have hne := hch.ne1
      refine .cons (ds := []) ?_ ?_ (by omega) (fun z => by have := hlt _ z; omega) (by simp) .nil (hold.mono (by simp) (fun i hi => ?_) (fun i hi => ?_) fun i c e => ?_)
      · rw [hset1 _ _ _ (by omega), hset _ _ _ (by omega)]; simp
      · rw [← hlen]; simp
      · have h1 : i ≠ 1 := fun e => hne (by rw [← e]; exact hi)
        rw [hset1 _ _ _ h1, List.set_append_left _ _ hjJ, List.getElem?_append_left (by simpa using hlt i hi)]
      · rw [List.getElem?_append_left (by rw [hlen]; exact hlt i hi)]; exact hfr i hi
      · rw [List.getElem?_append_left (List.getElem?_eq_some_iff.mp e).1]; exact e
    · intro i c e
      have hi : i < Jc.length := by
        have := (List.getElem?_eq_some_iff.mp e).1
        simp at this
        rcases Nat.lt_or_ge i Jc.length with h | h
        · exact h
        · have : i = Jc.length := by omega
          subst this
          simp at e
      rw [List.getElem?_append_left hi] at e
      have n1 : i ≠ 1 := fun z => by rw [z, hp] at e; cases e
      have nj : i ≠ j := fun z => by rw [z, hch.free j (by simp)] at e; cases e
      rw [hset1 _ _ _ n1, hset _ _ _ nj, List.getElem?_append_left (by omega)]
      exact hle i c e
    · simp [hlen]
    · rw [List.getElem?_append_left (by omega)]; exact hp
    · rw [List.getElem?_set_self (by simp; omega)]; simp
    · simp [Zp.step]; omega
    · simp [b_dr_stump_l1, b_dr_stump_i1, b_dr_stump_s4, b_dr_stump_s5, b_dr_stump_s6, hpile, e1, ej, hset, hj1.symm, hds, hpz, Sg.d, Nat.add_assoc]
  | tx m =>
    cases hz : z.st with
    | nil => simp [Zp.can, canCome, hz] at hcan
    | cons p r =>
      have hn := happ [.str m] (.tx m .nil) (.cons (.str m) .nil)
      refine ⟨J.set j (some (.lst (ds ++ [.str m]))), e, ⟨Jc, j :: jr, ?_, ?_, ?_, hp, ?_, ?_⟩, ?_⟩
      · rw [hz] at hn
        simp only [Zp.step, hz]
        exact hn
      · intro i c e
        have nj : i ≠ j := fun z => by rw [z, hch.free j (by simp)] at e; cases e
        rw [hset _ _ _ nj]; exact hle i c e
      · simp [hlen]
      · rw [hset _ _ _ hj1.symm]; simpa using hpile
      · obtain ⟨p1, p2⟩ := p
        rw [hz] at hst
        simp only [Zp.step, hz, addSt, List.length_cons] at hst ⊢; omega
      · simp [b_dr_stump_l1, hpile, hpl, hj, hds, Sg.d]
  | cl =>
    cases hz : z.st with
    | nil => simp [Zp.can, canCome, hz] at hcan
    | cons p r =>
      obtain ⟨m, f⟩ := p
      rw [hz] at hch
      have hfr := hch.free
      have hne := hch.ne1
      cases hch with
      | cons q1 q2 q3 q4 q5 q6 q7 =>
        rename_i ds0
        rw [List.append_nil] at q1
        have hjc : j < Jc.length := by omega
        have hJc' : ∀ (i : Nat) (c : C), Jc[i]? = some (some c) → (Jc.set j (some (.lst ds0)))[i]? = some (some c) := fun i c e => by
          have nj : i ≠ j := fun z => by rw [z, q2] at e; cases e
          rw [hset _ _ _ nj]; exact e
        refine ⟨J.set 1 (some (.lst (jr.reverse.map fun j => D.cell (S.length + j)))), e, ⟨Jc.set j (some (.lst ds0)), jr, ?_, ?_, ?_, ?_, ?_, ?_⟩, ?_⟩
        · simp only [Zp.step, hz]
          refine (q7.mono (J' := J.set 1 (some (.lst (jr.reverse.map fun j => D.cell (S.length + j))))) (Jc' := Jc.set j (some (.lst ds0))) (Nat.le_succ t) (fun i hi => ?_) (fun i hi => ?_) hJc').absorb (.cons (.tup (.cons (.str _) (.cons (.cell ?_ (q6.mono hJc')) .nil))) .nil)
          · exact hset1 _ _ _ fun e => hne (by rw [← e]; simp [hi])
          · rw [hset _ _ _ (fun e => q4 (by rw [← e]; exact hi))]; exact hfr i (by simp [hi])
          · exact List.getElem?_set_self hjc
        · intro i c e
          by_cases nj : i = j
          · subst nj
            rw [List.getElem?_set_self hjc] at e
            cases e
            rw [hset1 _ _ _ hj1]; exact q1
          · rw [hset _ _ _ nj] at e
            have n1 : i ≠ 1 := fun z => by rw [z, hp] at e; cases e
            rw [hset1 _ _ _ n1]; exact hle i c e
        · simp [hlen]
        · rw [hset _ _ _ hj1.symm]; exact hp
        · rw [List.getElem?_set_self h1J]
        · rw [hz] at hst
          have : (addSt (.el m f .nil) r).length = r.length := by cases r <;> simp [addSt]
          simp only [Zp.step, hz, List.length_cons] at hst ⊢; omega
        · have hjp : jr.length + 1 - 1 = jr.length := by omega
          simp [b_dr_stump_l1, hpile, hpl, Sg.d]
theorem dst_loop {S : Sto} {x : Option D} : ∀ (ss : List Sg) (J : Sto) (z : Zp) (t : Nat) (b e : Option D), StI S.length J z t → okFrom z ss = true → t + ss.length ≤ 1000000 →
    ∃ J' b' e', StI S.length J' (z.run ss) (t + ss.length) ∧ forL still (hName 3) b_dr_stump_l1 (ss.map Sg.d) [x, some (.cell S.length), some (.cell (S.length + 1)), b, e] (S ++ J) =
      .nx [x, some (.cell S.length), some (.cell (S.length + 1)), b', e'] (S ++ J')
  | [], J, z, t, b, e, h, _, _ => ⟨J, b, e, h, by simp⟩
  | s :: r, J, z, t, b, e, h, ho, ht => by
    obtain ⟨h1, h2⟩ := okFrom_cons ho
    simp only [List.length_cons] at ht
    obtain ⟨J1, e1, hs1, he1⟩ := dst_turn (x := x) (e := e) h h1 (by omega)
    obtain ⟨J', b', e', hs, he⟩ := dst_loop (x := x) r J1 (z.step s) (t + 1) (some s.d) e1 hs1 h2 (by omega)
    refine ⟨J', b', e', ?_, ?_⟩
    · have : t + (s :: r).length = t + 1 + r.length := by simp; omega
      rw [this]; exact hs
    · simp [he1, he]
noncomputable def fn_dr_stump : Fn := fnOf (fun ss : List Sg => [sgs ss]) (fun ss => ss ≠ [] ∧ okFrom z0 ss = true ∧ ss.length ≤ 900000) fun ss S => .ok (stumpP ss).d S
theorem dst_eq {ss : List Sg} (h : ss ≠ []) (ho : okFrom z0 ss = true) (hz : ss.length ≤ 900000) (S : Sto) : fn_dr_stump [sgs ss] S = .ok (stumpP ss).d S := fnOf_eq (a := ss) sgs_inj ⟨h, ho, hz⟩
theorem ref_dr_stump (ds : List D) (S : Sto) : Ref S (fn_dr_stump ds S) (runB 5 b_dr_stump ds S) := by
  refine fnOf_ref (fun ss S ⟨h, ho, hz⟩ => ?_) ds S
  obtain ⟨n, k, e1, e2⟩ := stumpP_all h ho
  obtain ⟨J', b', e', hs, he⟩ := dst_loop (S := S) (x := some (sgs ss)) ss _ z0 0 none none (StI.start S.length) ho (by omega)
  obtain ⟨Jc, js, hch, hle, _, _, _, _⟩ := hs.ex
  obtain ⟨ds0, h0, hf⟩ := hch.fin hle .nil .nil
  have e2' : upF .nil (z0.run ss).st (z0.run ss).bot = .el n k .nil := e2
  rw [e2'] at hf
  simp only [Fo.ds] at hf
  cases hf with
  | cons hd hr =>
    cases hr
    rename_i d0
    refine Ref.ok (v2 := d0) (S2 := S ++ J') ?_ (Cl.fz (by rw [e1]; exact hd))
    simp [sgs] at he
    simp [runB, b_dr_stump, b_dr_stump_s1, b_dr_stump_s2, b_dr_stump_s3, b_dr_stump_s7, sgs, he, h0]
noncomputable def b_dr_signs_s1 : Sx :=
      (sAsg 3 (eNew aNil))
noncomputable def b_dr_signs_s2 : Sx :=
      (sAsg 4 (eC (.int 0)))
noncomputable def b_dr_signs_s4 : Sx :=
      (sExp (eMeth "list" gAppend (eVar 3) (aCons (eTup (aCons (eC (.str "open")) (aCons (op2 gIdx (eVar 1) (op2 gMod (op2 gDiv (eVar 5) (eC (.int 8))) (eCall gLen (aCons (eVar 1) aNil)))) aNil))) aNil)))
noncomputable def b_dr_signs_s5 : Sx :=
      (sAsg 4 (op2 gAdd (eVar 4) (eC (.int 1))))
noncomputable def b_dr_signs_i1 : Sx :=
      (sSeq (b_dr_signs_s4)
      (b_dr_signs_s5))
noncomputable def b_dr_signs_s6 : Sx :=
      (sExp (eMeth "list" gAppend (eVar 3) (aCons (eTup (aCons (eC (.str "close")) aNil)) aNil)))
noncomputable def b_dr_signs_s7 : Sx :=
      (sAsg 4 (op2 gSub (eVar 4) (eC (.int 1))))
noncomputable def b_dr_signs_i2 : Sx :=
      (sSeq (b_dr_signs_s6)
      (b_dr_signs_s7))
noncomputable def b_dr_signs_l1 (f_dr_text : Fn) : Sx :=
      (sSeq (sAsg 6 (op2 gMod (eVar 5) (eC (.int 8))))
      (sIf (tOr (tTst (op2 gEq (eVar 3) (eLst aNil))) (tAnd (tTst (op2 gLt (eVar 6) (eC (.int 4)))) (tTst (op2 gLt (eVar 4) (eVar 2))))) (b_dr_signs_i1) (sIf (tOr (tTst (op2 gLt (eVar 6) (eC (.int 6)))) (tTst (op2 gLt (eVar 4) (eC (.int 2))))) (sExp (eMeth "list" gAppend (eVar 3) (aCons (eTup (aCons (eC (.str "text")) (aCons (eFn 1 f_dr_text (aCons (op2 gMod (op2 gDiv (eVar 5) (eC (.int 8))) (eC (.int 3))) aNil)) aNil))) aNil))) (b_dr_signs_i2))))
noncomputable def b_dr_signs_s3 (f_dr_text : Fn) : Sx :=
      (sFor (iL (eVar 0)) (hName 5) (b_dr_signs_l1 f_dr_text))
noncomputable def b_dr_signs_s8 : Sx :=
      (sRet (eVar 3))
noncomputable def b_dr_signs (f_dr_text : Fn) : Sx :=
      (sSeq (b_dr_signs_s1)
      (sSeq (b_dr_signs_s2)
      (sSeq (b_dr_signs_s3 f_dr_text)
      (b_dr_signs_s8))))
def Sg.ofW (names : List Str) : Sg → Prop
  | .op n => n ∈ names
  | .tx s => s ∈ eightT
  | .cl => True
structure SwI (names : List Str) (m : Nat) (ss : List Sg) (d : Nat) : Prop where
  ok : okFrom z0 ss = true
  dep : (z0.run ss).st.length = d
  of : ∀ s ∈ ss, s.ofW names
  pos : ss ≠ [] → 1 ≤ d
  le : d ≤ max 1 m
  ht : (z0.run ss).ht ≤ max 1 m + 1
theorem Sg.ofW_ok {names : List Str} (hn : ∀ n ∈ names, PyData.strOk n = true) {s : Sg} (h : s.ofW names) : s.ok := by
  cases s with
  | op n => exact hn n h
  | tx n => exact eightT_ok n h
  | cl => trivial
theorem SwI.snoc {names : List Str} {m : Nat} {ss : List Sg} {d : Nat} {s : Sg} (h : SwI names m ss d) (hs : s.ofW names) (hc : (z0.run ss).can s = true) {d' : Nat} (hd : ((z0.run ss).step s).st.length = d') (h1 : 1 ≤ d') (h2 : d' ≤ max 1 m) : SwI names m (ss ++ [s]) d' := by
  refine ⟨?_, ?_, fun x hx => ?_, fun _ => h1, h2, ?_⟩
  · rw [okFrom_app, h.ok]; simp [okFrom, hc]
  · rw [run_app]; simp [Zp.run] at hd ⊢; exact hd
  · rcases List.mem_append.mp hx with hx | hx
    · exact h.of x hx
    · simp at hx; subst hx; exact hs
  · have q := Zp.ht_step (z0.run ss) s
    have := h.ht
    rw [hd] at q
    rw [run_app]
    show ((z0.run ss).step s).ht ≤ _
    omega
theorem dsigns_turn {names : List Str} (hnn : names ≠ []) (hnl : names.length ≤ 100) (hns : ∀ n ∈ names, PyData.strOk n = true) {m : Nat} {ss : List Sg} {d : Nat} (hI : SwI names m ss d) (hz : ss.length ≤ 1000) (c : Int) :
    ∃ (ss' : List Sg) (d' : Nat), SwI names m ss' d' ∧ ss'.length ≤ ss.length + 1 ∧ ss' ≠ [] ∧ ∀ (S : Sto) (a x6 : Option D), ∃ x6',
      b_dr_signs_l1 fn_dr_text [a, some (.lst (names.map D.str)), some (.int (m : Int)), some (.cell S.length), some (.int (d : Int)), some (.int c), x6] (S ++ [some (.lst (ss.map Sg.d))]) =
        .nx [a, some (.lst (names.map D.str)), some (.int (m : Int)), some (.cell S.length), some (.int (d' : Int)), some (.int c), x6'] (S ++ [some (.lst (ss'.map Sg.d))]) := by
  obtain ⟨jn, nm, _, _, hjn, han, _⟩ := atI_mod names hnn (c / 8)
  have hnm : nm ∈ names := List.mem_of_getElem? hjn
  have hlp : (0 : Int) < (names.length : Int) := by have := List.length_pos_iff.mpr hnn; omega
  have hlz : names.length ≤ sizeLine := by rw [sizeLine_val]; omega
  have hzs : ss.length < sizeLine := by rw [sizeLine_val]; omega
  have han' : atI (names.map D.str) (c / 8 % (names.length : Int)) = some (.str nm) := by rw [atI_map, han]; rfl
  have hnil : ∀ S : Sto, gEq (.cell S.length) (.lst []) (S ++ [some (.lst (ss.map Sg.d))]) = .ok (.bl (decide (ss = []))) (S ++ [some (.lst (ss.map Sg.d))]) := fun S => by
    rw [gEq_cell_nil (ds := ss.map Sg.d) (ps := ss.map Sg.pyd) (by simp) (sgs_py (fun s hs => Sg.ofW_ok hns (hI.of s hs)) _ 198)]
    simp
  have ht := text_eq (c / 8 % 3)
  have hpl := List.length_pos_iff.mpr hnn
  generalize hkind : c % 8 = kind
  by_cases hA : ss = [] ∨ (kind < 4 ∧ d < m)
  · have hi : ∀ (S : Sto) (a : Option D), b_dr_signs_i1 [a, some (.lst (names.map D.str)), some (.int (m : Int)), some (.cell S.length), some (.int (d : Int)), some (.int c), some (.int kind)] (S ++ [some (.lst (ss.map Sg.d))]) =
        .nx [a, some (.lst (names.map D.str)), some (.int (m : Int)), some (.cell S.length), some (.int ((d : Int) + 1)), some (.int c), some (.int kind)] (S ++ [some (.lst (ss.map Sg.d ++ [Sg.d (.op nm)]))]) := fun S a => by
      simp [b_dr_signs_i1, b_dr_signs_s4, b_dr_signs_s5, han', hlz, hlp, hpl, hzs, Sg.d]
    refine ⟨ss ++ [.op nm], d + 1, ?_, by simp, by simp, fun S a x6 => ⟨some (.int kind), ?_⟩⟩
    · refine hI.snoc (s := .op nm) hnm ?_ (by simp [Zp.step, hI.dep]) (by omega) ?_
      · rcases hA with h | ⟨_, h⟩
        · subst h; simp [Zp.can, canCome, z0, Zp.run, Zp.begun]
        · by_cases hss : ss = []
          · subst hss; simp [Zp.can, canCome, z0, Zp.run, Zp.begun]
          · have := hI.pos hss
            simp only [Zp.can, canCome, hI.dep, Bool.or_eq_true, decide_eq_true_eq]; left; omega
      · rcases hA with h | ⟨_, h⟩
        · subst h
          have := hI.dep
          simp [z0, Zp.run] at this
          omega
        · omega
    · rcases hA with h | ⟨h1, h2⟩
      · have hn := hnil S; simp [h] at hi hn; simp [b_dr_signs_l1, hkind, h, hn, hi]
      · by_cases hss : ss = []
        · have hn := hnil S; simp [hss] at hi hn; simp [b_dr_signs_l1, hkind, hss, hn, hi]
        · simp [b_dr_signs_l1, hkind, hnil, hss, h1, h2, hi]
  · have hss : ss ≠ [] := fun e => hA (.inl e)
    have hA2 : ¬ (kind < 4 ∧ d < m) := fun e => hA (.inr e)
    have hd1 := hI.pos hss
    have hlt2 : ((d : Int) < 2) = (d < 2) := by apply propext; omega
    by_cases hB : kind < 6 ∨ d < 2
    · refine ⟨ss ++ [.tx (textD (c / 8 % 3))], d, ?_, by simp, by simp, fun S a x6 => ⟨some (.int kind), ?_⟩⟩
      · refine hI.snoc (s := .tx _) (textD_mem _) (by simp only [Zp.can, canCome, hI.dep, decide_eq_true_eq]; omega) ?_ hd1 hI.le
        rw [← hI.dep]
        simp only [Zp.step]
        cases hz : (z0.run ss).st with
        | nil => simp [hz]
        | cons p r => obtain ⟨p1, p2⟩ := p; simp [addSt]
      · by_cases hk4 : kind < 4
        · have hdm : ¬ d < m := fun e => hA2 ⟨hk4, e⟩
          have hk6 : kind < 6 := by omega
          simp [b_dr_signs_l1, hkind, hnil, hss, hk4, hdm, hk6, ht, hzs, Sg.d]
        · rcases hB with h | h
          · simp [b_dr_signs_l1, hkind, hnil, hss, hk4, h, ht, hzs, Sg.d]
          · by_cases hk6 : kind < 6
            · simp [b_dr_signs_l1, hkind, hnil, hss, hk4, hk6, ht, hzs, Sg.d]
            · simp [b_dr_signs_l1, hkind, hnil, hss, hk4, hk6, hlt2, h, ht, hzs, Sg.d]
    · have hk6 : ¬ kind < 6 := fun e => hB (.inl e)
      have hd2 : ¬ d < 2 := fun e => hB (.inr e)
      have hk4 : ¬ kind < 4 := by omega
      refine ⟨ss ++ [.cl], d - 1, ?_, by simp, by simp, fun S a x6 => ⟨some (.int kind), ?_⟩⟩
      · refine hI.snoc (s := .cl) trivial (by simp only [Zp.can, canCome, hI.dep, decide_eq_true_eq]; omega) ?_ (by omega) (by have := hI.le; omega)
        rw [← hI.dep]
        simp only [Zp.step]
        cases hz : (z0.run ss).st with
        | nil => simp [hz]
        | cons p r =>
          obtain ⟨p1, p2⟩ := p
          cases r <;> simp [addSt]
      · have e : (d : Int) - 1 = ((d - 1 : Nat) : Int) := by omega
        simp [b_dr_signs_l1, hkind, hnil, hss, hk4, hk6, hlt2, hd2, b_dr_signs_i2, b_dr_signs_s6, b_dr_signs_s7, hzs, Sg.d, e]
theorem dsigns_loop {names : List Str} (hnn : names ≠ []) (hnl : names.length ≤ 100) (hns : ∀ n ∈ names, PyData.strOk n = true) {m : Nat} : ∀ (cs : List Int) (ss : List Sg) (d : Nat), SwI names m ss d → ss.length + cs.length ≤ 1000 →
    ∃ (ss' : List Sg) (d' : Nat), SwI names m ss' d' ∧ ss'.length ≤ ss.length + cs.length ∧ (ss ≠ [] ∨ cs ≠ [] → ss' ≠ []) ∧ ∀ (S : Sto) (a c x6 : Option D), ∃ c' x6',
      forL still (hName 5) (b_dr_signs_l1 fn_dr_text) (cs.map D.int) [a, some (.lst (names.map D.str)), some (.int (m : Int)), some (.cell S.length), some (.int (d : Int)), c, x6] (S ++ [some (.lst (ss.map Sg.d))]) =
        .nx [a, some (.lst (names.map D.str)), some (.int (m : Int)), some (.cell S.length), some (.int (d' : Int)), c', x6'] (S ++ [some (.lst (ss'.map Sg.d))])
  | [], ss, d, hI, hz => ⟨ss, d, hI, by simp, by simp, fun S a c x6 => ⟨c, x6, by simp⟩⟩
  | x :: cs, ss, d, hI, hz => by
    simp only [List.length_cons] at hz
    obtain ⟨s1, d1, i1, n1, ne1, h1⟩ := dsigns_turn hnn hnl hns hI (by omega) x
    obtain ⟨s2, d2, i2, n2, ne2, h2⟩ := dsigns_loop hnn hnl hns cs s1 d1 i1 (by omega)
    refine ⟨s2, d2, i2, by simp; omega, fun _ => ne2 (.inl ne1), fun S a c x6 => ?_⟩
    obtain ⟨y6, g1⟩ := h1 S a x6
    obtain ⟨c', z6, g2⟩ := h2 S a (some (.int x)) y6
    exact ⟨c', z6, by simp [g1, g2]⟩
def okNamesW (names : List Str) : Prop := names ≠ [] ∧ names.length ≤ 100 ∧ ∀ n ∈ names, PyData.strOk n = true
theorem dsigns_ex (cs : List Int) (names : List Str) (m : Nat) (hn : okNamesW names) (hc : cs.length ≤ 1000) : ∃ ss : List Sg, okFrom z0 ss = true ∧ (∀ s ∈ ss, s.ofW names) ∧ ss.length ≤ cs.length ∧ (cs ≠ [] → ss ≠ []) ∧ (ss ≠ [] → (stumpP ss).dp ≤ max 1 m + 1) ∧
    ∀ S : Sto, Ref S (.ok (sgs ss) S) (runB 7 (b_dr_signs fn_dr_text) [.lst (cs.map D.int), .lst (names.map D.str), .int (m : Int)] S) := by
  obtain ⟨ss, d, hI, h2, h3, h4⟩ := dsigns_loop hn.1 hn.2.1 hn.2.2 (m := m) cs [] 0 ⟨rfl, rfl, by simp, fun h => absurd rfl h, by omega, by simp [Zp.run, z0, Zp.ht, htL, Fo.dp]⟩ (by simpa using hc)
  refine ⟨ss, hI.ok, hI.of, by simpa using h2, fun e => h3 (.inr e), fun e => stumpP_dp e hI.ok hI.ht (by rw [hI.dep]; have := hI.le; omega), fun S => ?_⟩
  obtain ⟨c', x6', h⟩ := h4 S (some (.lst (cs.map D.int))) none none
  have g3 : b_dr_signs_s3 fn_dr_text [some (.lst (cs.map D.int)), some (.lst (names.map D.str)), some (.int (m : Int)), some (.cell S.length), some (.int 0), none, none] (S ++ [some (.lst [])]) =
      .nx [some (.lst (cs.map D.int)), some (.lst (names.map D.str)), some (.int (m : Int)), some (.cell S.length), some (.int (d : Int)), c', x6'] (S ++ [some (.lst (ss.map Sg.d))]) := by
    simp at h
    simp [b_dr_signs_s3, h]
  refine Ref.ok (v2 := .cell (S.length + 0)) (S2 := S ++ [some (.lst (ss.map Sg.d))]) ?_ (Cl.frz (j := 0) rfl (by simp only [Ev.hb]; exact hbs_sg _ _))
  simp [runB, b_dr_signs, b_dr_signs_s1, b_dr_signs_s2, g3, b_dr_signs_s8]
noncomputable def signsD (p : List Int × List Str × Nat) : List Sg := by
  classical exact if h : okNamesW p.2.1 ∧ p.1.length ≤ 1000 then (dsigns_ex p.1 p.2.1 p.2.2 h.1 h.2).choose else []
theorem signsD_spec (cs : List Int) (names : List Str) (m : Nat) (hn : okNamesW names) (hc : cs.length ≤ 1000) : okFrom z0 (signsD (cs, names, m)) = true ∧ (∀ s ∈ signsD (cs, names, m), s.ofW names) ∧ (signsD (cs, names, m)).length ≤ cs.length ∧ (cs ≠ [] → signsD (cs, names, m) ≠ []) ∧ (signsD (cs, names, m) ≠ [] → (stumpP (signsD (cs, names, m))).dp ≤ max 1 m + 1) ∧
    ∀ S : Sto, Ref S (.ok (sgs (signsD (cs, names, m))) S) (runB 7 (b_dr_signs fn_dr_text) [.lst (cs.map D.int), .lst (names.map D.str), .int (m : Int)] S) := by
  unfold signsD
  rw [dif_pos ⟨hn, hc⟩]
  exact (dsigns_ex cs names m hn hc).choose_spec
noncomputable def fn_dr_signs : Fn := fnOf (fun p : List Int × List Str × Nat => [.lst (p.1.map D.int), .lst (p.2.1.map D.str), .int (p.2.2 : Int)]) (fun p => okNamesW p.2.1 ∧ p.1.length ≤ 1000) fun p S => .ok (sgs (signsD p)) S
theorem dsigns_eq (cs : List Int) (names : List Str) (m : Nat) (hn : okNamesW names) (hc : cs.length ≤ 1000) (S : Sto) : fn_dr_signs [.lst (cs.map D.int), .lst (names.map D.str), .int (m : Int)] S = .ok (sgs (signsD (cs, names, m))) S :=
  fnOf_eq (e := fun p : List Int × List Str × Nat => [.lst (p.1.map D.int), .lst (p.2.1.map D.str), .int (p.2.2 : Int)]) (a := (cs, names, m)) (fun a b h => by
    obtain ⟨a1, a2, a3⟩ := a
    obtain ⟨b1, b2, b3⟩ := b
    simp only [List.cons.injEq, D.lst.injEq, D.int.injEq, and_true] at h
    have e3 : a3 = b3 := by omega
    rw [map_inj (fun a b h => by simpa using h) _ _ h.1, map_inj (fun a b h => by simpa using h) _ _ h.2.1, e3]) ⟨hn, hc⟩
theorem ref_dr_signs (ds : List D) (S : Sto) : Ref S (fn_dr_signs ds S) (runB 7 (b_dr_signs fn_dr_text) ds S) :=
  fnOf_ref (fun p S ⟨h1, h2⟩ => (signsD_spec p.1 p.2.1 p.2.2 h1 h2).2.2.2.2.2 S) ds S
end Ev

/-! the row of nodes that the law makes out of signs -/
namespace Ev
open PySem PySem.Spec PyProof.Rows L2
/-- a node: its name, the texts and nodes in it, the node around it -/
structure Nd where
  nm : Str
  tx : List Str
  kd : List Nat
  pa : Int
def Nd.d (x : Nd) : D := .tup [.str x.nm, .lst (x.tx.map D.str), .lst (x.kd.map fun (k : Nat) => D.int (k : Int)), .int x.pa]
def nent (b : Nat) : Nat → List Nd → List D
  | _, [] => []
  | i, x :: r => .tup [.str x.nm, .cell (b + (1 + 2 * i)), .cell (b + (2 + 2 * i)), .int x.pa] :: nent b (i + 1) r
def ncel : List Nd → Sto
  | [] => []
  | x :: r => some (.lst (x.tx.map D.str)) :: some (.lst (x.kd.map fun (k : Nat) => D.int (k : Int))) :: ncel r
def nJ (b : Nat) (ns : List Nd) : Sto := some (.lst (nent b 0 ns)) :: ncel ns
theorem nent_len (b : Nat) : ∀ (i : Nat) (ns : List Nd), (nent b i ns).length = ns.length
  | _, [] => rfl
  | i, x :: r => by simp [nent, nent_len b (i + 1) r]
theorem ncel_len : ∀ ns : List Nd, (ncel ns).length = 2 * ns.length
  | [] => rfl
  | x :: r => by simp [ncel, ncel_len r]; omega
theorem nent_get (b : Nat) : ∀ (i k : Nat) (ns : List Nd) (x : Nd), ns[k]? = some x → (nent b i ns)[k]? = some (.tup [.str x.nm, .cell (b + (1 + 2 * (i + k))), .cell (b + (2 + 2 * (i + k))), .int x.pa])
  | i, _, [], x, h => by simp at h
  | i, 0, y :: r, x, h => by simp at h; subst h; simp [nent]
  | i, k + 1, y :: r, x, h => by
    simp only [List.getElem?_cons_succ] at h
    have e : i + 1 + k = i + (k + 1) := by omega
    simp only [nent, List.getElem?_cons_succ, nent_get b (i + 1) k r x h, e]
theorem ncel_tx : ∀ (k : Nat) (ns : List Nd) (x : Nd), ns[k]? = some x → (ncel ns)[2 * k]? = some (some (.lst (x.tx.map D.str))) ∧ (ncel ns)[2 * k + 1]? = some (some (.lst (x.kd.map fun (k : Nat) => D.int (k : Int))))
  | _, [], x, h => by simp at h
  | 0, y :: r, x, h => by simp at h; subst h; simp [ncel]
  | k + 1, y :: r, x, h => by
    simp only [List.getElem?_cons_succ] at h
    have e : 2 * (k + 1) = 2 * k + 1 + 1 := by omega
    rw [e]
    simp only [ncel, List.getElem?_cons_succ]
    exact ncel_tx k r x h
theorem nent_set (b : Nat) : ∀ (i k : Nat) (ns : List Nd) (x y : Nd), ns[k]? = some x → y.nm = x.nm → y.pa = x.pa → nent b i (ns.set k y) = nent b i ns
  | i, _, [], x, y, h, _, _ => by simp at h
  | i, 0, z :: r, x, y, h, h1, h2 => by simp at h; subst h; simp [nent, h1, h2]
  | i, k + 1, z :: r, x, y, h, h1, h2 => by
    simp only [List.getElem?_cons_succ] at h
    simp [nent, nent_set b (i + 1) k r x y h h1 h2]
theorem ncel_set1 : ∀ (k : Nat) (ns : List Nd) (x y : Nd), ns[k]? = some x → y.kd = x.kd → ncel (ns.set k y) = (ncel ns).set (2 * k) (some (.lst (y.tx.map D.str)))
  | _, [], x, y, h, _ => by simp at h
  | 0, z :: r, x, y, h, h1 => by simp at h; subst h; simp [ncel, h1]
  | k + 1, z :: r, x, y, h, h1 => by
    simp only [List.getElem?_cons_succ] at h
    have e : 2 * (k + 1) = 2 * k + 1 + 1 := by omega
    rw [e]
    simp [ncel, ncel_set1 k r x y h h1]
theorem ncel_set2 : ∀ (k : Nat) (ns : List Nd) (x y : Nd), ns[k]? = some x → y.tx = x.tx → ncel (ns.set k y) = (ncel ns).set (2 * k + 1) (some (.lst (y.kd.map fun (k : Nat) => D.int (k : Int))))
  | _, [], x, y, h, _ => by simp at h
  | 0, z :: r, x, y, h, h1 => by simp at h; subst h; simp [ncel, h1]
  | k + 1, z :: r, x, y, h, h1 => by
    simp only [List.getElem?_cons_succ] at h
    have e : 2 * (k + 1) = 2 * k + 1 + 1 := by omega
    rw [e]
    simp [ncel, ncel_set2 k r x y h h1]
theorem nent_app (b : Nat) : ∀ (i : Nat) (ns ms : List Nd), nent b i (ns ++ ms) = nent b i ns ++ nent b (i + ns.length) ms
  | i, [], ms => by simp [nent]
  | i, x :: r, ms => by
    have e : i + 1 + r.length = i + (r.length + 1) := by omega
    simp [nent, nent_app b (i + 1) r ms, e]
theorem ncel_app : ∀ ns ms : List Nd, ncel (ns ++ ms) = ncel ns ++ ncel ms
  | [], ms => rfl
  | x :: r, ms => by simp [ncel, ncel_app r ms]
/-- the nodes so far, and the one that is open innermost -/
structure Nz where
  ns : List Nd
  at_ : Int
def Nd.kid (x : Nd) (k : Nat) : Nd := { x with kd := x.kd ++ [k] }
def Nd.txt (x : Nd) (s : Str) : Nd := { x with tx := x.tx ++ [s] }
def Nz.step (z : Nz) : Sg → Nz
  | .op n => ⟨(match z.at_ with
    | .ofNat k => (z.ns ++ [(⟨n, [], [], z.at_⟩ : Nd)]).modify k fun x => x.kid z.ns.length
    | _ => z.ns ++ [⟨n, [], [], z.at_⟩]), z.ns.length⟩
  | .tx s => ⟨z.ns.modify z.at_.toNat fun x => x.txt s, z.at_⟩
  | .cl => ⟨z.ns, ((z.ns[z.at_.toNat]?).map Nd.pa).getD (-1)⟩
def nz0 : Nz := ⟨[], -1⟩
def Nz.run (z : Nz) (ss : List Sg) : Nz := ss.foldl Nz.step z
def nodesL (ss : List Sg) : List Nd := (nz0.run ss).ns
/-- so many nodes are open -/
inductive Dep (ns : List Nd) : Int → Nat → Prop
  | base : Dep ns (-1) 0
  | cons {k : Nat} {x : Nd} {d : Nat} : ns[k]? = some x → Dep ns x.pa d → Dep ns (k : Int) (d + 1)
theorem Dep.mono {ns ms : List Nd} (h : ∀ (k : Nat) (x : Nd), ns[k]? = some x → ∃ y : Nd, ms[k]? = some y ∧ y.pa = x.pa) {i : Int} {d : Nat} (q : Dep ns i d) : Dep ms i d := by
  induction q with
  | base => exact .base
  | cons h1 h2 ih =>
    obtain ⟨y, e1, e2⟩ := h _ _ h1
    exact .cons e1 (by rw [e2]; exact ih)
theorem modify_set {ns : List Nd} {k : Nat} {x : Nd} (h : ns[k]? = some x) (f : Nd → Nd) : ns.modify k f = ns.set k (f x) := by
  apply List.ext_getElem?
  intro i
  rw [List.getElem?_modify, List.getElem?_set]
  by_cases e : k = i
  · subst e; have hl := (List.getElem?_eq_some_iff.mp h).1; rw [h]; simp [hl]
  · simp [e]
theorem modify_pa {ns : List Nd} (k : Nat) (f : Nd → Nd) (hf : ∀ x, (f x).pa = x.pa) (i : Nat) (x : Nd) (h : ns[i]? = some x) : ∃ y : Nd, (ns.modify k f)[i]? = some y ∧ y.pa = x.pa := by
  rw [List.getElem?_modify, h]
  by_cases e : k = i
  · simp [e, hf]
  · simp [e]
/-- so deep are some signs -/
def dStep (d : Nat) : Sg → Nat
  | .op _ => d + 1
  | .tx _ => d
  | .cl => d - 1
def dCan (d : Nat) : Sg → Bool
  | .op _ => true
  | _ => decide (0 < d)
def dOk : Nat → List Sg → Bool
  | _, [] => true
  | d, s :: r => dCan d s && dOk (dStep d s) r
theorem Dep.step {z : Nz} {d : Nat} (h : Dep z.ns z.at_ d) {s : Sg} (hc : dCan d s = true) : Dep (z.step s).ns (z.step s).at_ (dStep d s) := by
  obtain ⟨ns, at_⟩ := z
  cases s with
  | op n =>
    have hm : Dep (ns ++ [⟨n, [], [], at_⟩]) (ns.length : Int) (d + 1) := .cons (x := ⟨n, [], [], at_⟩) (by simp) (h.mono fun k x hk => ⟨x, by rw [List.getElem?_append_left (List.getElem?_eq_some_iff.mp hk).1]; exact hk, rfl⟩)
    cases at_ with
    | ofNat k => exact hm.mono (modify_pa k (fun x => x.kid ns.length) fun _ => rfl)
    | negSucc k => exact hm
  | tx s => exact h.mono (modify_pa at_.toNat (fun x => x.txt s) fun _ => rfl)
  | cl =>
    cases h with
    | base => simp [dCan] at hc
    | cons h1 h2 => simpa [Nz.step, h1, dStep] using h2
noncomputable def b_law_nodes_s1 : Sx :=
      (sAsg 1 (eNew aNil))
noncomputable def b_law_nodes_s2 : Sx :=
      (sAsg 2 (op1 gNeg (eC (.int 1))))
noncomputable def b_law_nodes_s4 : Sx :=
      (sExp (eMeth "list" gAppend (eVar 1) (aCons (eTup (aCons (op2 gIdx (eVar 3) (eC (.int 1))) (aCons (eNew aNil) (aCons (eNew aNil) (aCons (eVar 2) aNil))))) aNil)))
noncomputable def b_law_nodes_s5 : Sx :=
      (sIf (tTst (op2 gGt (eVar 2) (op1 gNeg (eC (.int 1))))) (sExp (eMeth "list" gAppend (op2 gIdx (op2 gIdx (eVar 1) (eVar 2)) (eC (.int 2))) (aCons (op2 gSub (eCall gLen (aCons (eVar 1) aNil)) (eC (.int 1))) aNil))) sNil)
noncomputable def b_law_nodes_s6 : Sx :=
      (sAsg 2 (op2 gSub (eCall gLen (aCons (eVar 1) aNil)) (eC (.int 1))))
noncomputable def b_law_nodes_i1 : Sx :=
      (sSeq (b_law_nodes_s4)
      (sSeq (b_law_nodes_s5)
      (b_law_nodes_s6)))
noncomputable def b_law_nodes_l1 : Sx :=
      (sIf (tTst (op2 gEq (op2 gIdx (eVar 3) (eC (.int 0))) (eC (.str "open")))) (b_law_nodes_i1) (sIf (tTst (op2 gEq (op2 gIdx (eVar 3) (eC (.int 0))) (eC (.str "text")))) (sExp (eMeth "list" gAppend (op2 gIdx (op2 gIdx (eVar 1) (eVar 2)) (eC (.int 1))) (aCons (op2 gIdx (eVar 3) (eC (.int 1))) aNil))) (sAsg 2 (op2 gIdx (op2 gIdx (eVar 1) (eVar 2)) (eC (.int 3))))))
noncomputable def b_law_nodes_s3 : Sx :=
      (sFor (iL (eVar 0)) (hName 3) (b_law_nodes_l1))
noncomputable def b_law_nodes_s7 : Sx :=
      (sRet (eVar 1))
noncomputable def b_law_nodes : Sx :=
      (sSeq (b_law_nodes_s1)
      (sSeq (b_law_nodes_s2)
      (sSeq (b_law_nodes_s3)
      (b_law_nodes_s7))))
theorem nodes_turn {S : Sto} {z : Nz} {d : Nat} {s : Sg} {x : Option D} (h : Dep z.ns z.at_ d) (hc : dCan d s = true) (hz : z.ns.length ≤ 900000) (htz : ∀ y ∈ z.ns, y.tx.length ≤ 900000 ∧ y.kd.length ≤ 900000) :
    b_law_nodes_l1 [x, some (.cell S.length), some (.int z.at_), some s.d] (S ++ nJ S.length z.ns) = .nx [x, some (.cell S.length), some (.int (z.step s).at_), some s.d] (S ++ nJ S.length (z.step s).ns) := by
  obtain ⟨ns, at_⟩ := z
  simp only at h hz htz
  have h0 : (nJ S.length ns)[0]? = some (some (.lst (nent S.length 0 ns))) := rfl
  have hnl := nent_len S.length 0 ns
  have hel := ncel_len ns
  have hJl : (nJ S.length ns).length = 2 * ns.length + 1 := by simp [nJ, hel]
  have hn1 : ns.length < sizeLine := by rw [sizeLine_val]; omega
  have hcell : ∀ (k : Nat) (y : Nd), ns[k]? = some y → atI (nent S.length 0 ns) (k : Int) = some (.tup [.str y.nm, .cell (S.length + (1 + 2 * k)), .cell (S.length + (2 + 2 * k)), .int y.pa]) ∧ (nJ S.length ns)[1 + 2 * k]? = some (some (.lst (y.tx.map D.str))) ∧ (nJ S.length ns)[2 + 2 * k]? = some (some (.lst (y.kd.map fun (k : Nat) => D.int (k : Int)))) ∧
      y.tx.length < sizeLine ∧ y.kd.length < sizeLine := fun k y hk => by
    obtain ⟨e1, e2⟩ := ncel_tx k ns y hk
    have hm := htz y (List.mem_of_getElem? hk)
    refine ⟨atI_nat (by have := nent_get S.length 0 k ns y hk; simpa using this), ?_, ?_, ?_, ?_⟩
    · rw [Nat.add_comm]; exact e1
    · rw [show 2 + 2 * k = (2 * k + 1) + 1 by omega]; exact e2
    · rw [sizeLine_val]; omega
    · rw [sizeLine_val]; omega
  cases s with
  | tx m =>
    cases h with
    | base => simp [dCan] at hc
    | cons h1 h2 =>
      rename_i k y d
      obtain ⟨q1, q2, q3, q4, q5⟩ := hcell k y h1
      have e : nJ S.length (ns.modify k fun y => y.txt m) = (nJ S.length ns).set (1 + 2 * k) (some (.lst (y.tx.map D.str ++ [.str m]))) := by
        rw [modify_set h1, nJ, nent_set S.length 0 k ns y (y.txt m) h1 rfl rfl, ncel_set1 k ns y (y.txt m) h1 rfl, nJ, Nat.add_comm 1, List.set_cons_succ]
        simp [Nd.txt]
      simp [b_law_nodes_l1, Sg.d, h0, q1, q2, q4, Nz.step, e]
  | cl =>
    cases h with
    | base => simp [dCan] at hc
    | cons h1 h2 =>
      rename_i k y d
      obtain ⟨q1, q2, q3, q4, q5⟩ := hcell k y h1
      simp [b_law_nodes_l1, Sg.d, h0, q1, Nz.step, h1]
  | op m =>
    have g4 : b_law_nodes_s4 [x, some (.cell S.length), some (.int at_), some (Sg.op m).d] (S ++ nJ S.length ns) = .nx [x, some (.cell S.length), some (.int at_), some (Sg.op m).d] (S ++ nJ S.length (ns ++ [⟨m, [], [], at_⟩])) := by
      have e : nJ S.length (ns ++ [⟨m, [], [], at_⟩]) = ((nJ S.length ns ++ [some (C.lst [])]) ++ [some (C.lst [])]).set 0 (some (C.lst (nent S.length 0 ns ++ [D.tup [.str m, .cell (S.length + (2 * ns.length + 1)), .cell (S.length + (2 * ns.length + 1 + 1)), .int at_]]))) := by
        simp [nJ, nent_app, ncel_app, nent, ncel, Nat.add_comm]
        omega
      rw [e]
      simp [b_law_nodes_s4, Sg.d, nJ, hel, hnl, hn1, Nat.add_assoc]
    have hat : (at_ = -1 ∨ ∃ (k : Nat) (y : Nd), at_ = (k : Int) ∧ ns[k]? = some y) := by
      cases h with
      | base => exact .inl rfl
      | cons h1 h2 => exact .inr ⟨_, _, rfl, h1⟩
    have hnl1 := nent_len S.length 0 (ns ++ [⟨m, [], [], at_⟩])
    have hel1 := ncel_len (ns ++ [⟨m, [], [], at_⟩])
    rw [List.length_append] at hnl1 hel1
    simp only [List.length_cons, List.length_nil] at hnl1 hel1
    have g5 : b_law_nodes_s5 [x, some (.cell S.length), some (.int at_), some (Sg.op m).d] (S ++ nJ S.length (ns ++ [⟨m, [], [], at_⟩])) = .nx [x, some (.cell S.length), some (.int at_), some (Sg.op m).d] (S ++ nJ S.length ((Nz.mk ns at_).step (.op m)).ns) := by
      rcases hat with rfl | ⟨k, y, rfl, hy⟩
      · have e : ((Nz.mk ns (-1)).step (.op m)).ns = ns ++ [⟨m, [], [], -1⟩] := rfl
        simp [b_law_nodes_s5, e]
      · have hy1 : (ns ++ [(⟨m, [], [], (k : Int)⟩ : Nd)])[k]? = some y := by rw [List.getElem?_append_left (List.getElem?_eq_some_iff.mp hy).1]; exact hy
        have e : nJ S.length ((Nz.mk ns (k : Int)).step (.op m)).ns = (nJ S.length (ns ++ [⟨m, [], [], (k : Int)⟩])).set (2 + 2 * k) (some (.lst ((y.kd.map fun (k : Nat) => D.int (k : Int)) ++ [.int (ns.length : Int)]))) := by
          show nJ S.length ((ns ++ [(⟨m, [], [], (k : Int)⟩ : Nd)]).modify k fun y => y.kid ns.length) = _
          rw [modify_set hy1, nJ, nent_set S.length 0 k _ y (y.kid ns.length) hy1 rfl rfl, ncel_set2 k _ y (y.kid ns.length) hy1 rfl, nJ, show 2 + 2 * k = (2 * k + 1) + 1 by omega, List.set_cons_succ]
          simp [Nd.kid]
        obtain ⟨q1, q2, q3, q4, q5⟩ := hcell k y hy
        have q1' : atI (nent S.length 0 (ns ++ [⟨m, [], [], (k : Int)⟩])) (k : Int) = some (.tup [.str y.nm, .cell (S.length + (1 + 2 * k)), .cell (S.length + (2 + 2 * k)), .int y.pa]) := atI_nat (by have := nent_get S.length 0 k _ y hy1; simpa using this)
        have q3' : (nJ S.length (ns ++ [⟨m, [], [], (k : Int)⟩]))[2 + 2 * k]? = some (some (.lst (y.kd.map fun (k : Nat) => D.int (k : Int)))) := by
          rw [show 2 + 2 * k = (2 * k + 1) + 1 by omega]; exact (ncel_tx k _ y hy1).2
        have h0' : (nJ S.length (ns ++ [⟨m, [], [], (k : Int)⟩]))[0]? = some (some (.lst (nent S.length 0 (ns ++ [⟨m, [], [], (k : Int)⟩])))) := rfl
        have hn1' : ns.length + 1 ≤ sizeLine := hn1
        have hk1 : (-1 : Int) < (k : Int) := by omega
        rw [e]
        simp [b_law_nodes_s5, h0', q1', q3', q5, hnl1, hn1', hk1]
    have g6 : b_law_nodes_s6 [x, some (.cell S.length), some (.int at_), some (Sg.op m).d] (S ++ nJ S.length ((Nz.mk ns at_).step (.op m)).ns) = .nx [x, some (.cell S.length), some (.int (ns.length : Int)), some (Sg.op m).d] (S ++ nJ S.length ((Nz.mk ns at_).step (.op m)).ns) := by
      have hl : ((Nz.mk ns at_).step (.op m)).ns.length = ns.length + 1 := by
        simp only [Nz.step]
        cases at_ <;> simp
      have hl1 := nent_len S.length 0 ((Nz.mk ns at_).step (.op m)).ns
      rw [hl] at hl1
      have h0' : (nJ S.length ((Nz.mk ns at_).step (.op m)).ns)[0]? = some (some (.lst (nent S.length 0 ((Nz.mk ns at_).step (.op m)).ns))) := rfl
      have hn1' : ns.length + 1 ≤ sizeLine := hn1
      simp [b_law_nodes_s6, h0', hl1, hn1']
    have ec : b_law_nodes_l1 [x, some (.cell S.length), some (.int at_), some (Sg.op m).d] (S ++ nJ S.length ns) = b_law_nodes_i1 [x, some (.cell S.length), some (.int at_), some (Sg.op m).d] (S ++ nJ S.length ns) := by
      simp [b_law_nodes_l1, Sg.d]
    rw [ec]
    simp [b_law_nodes_i1, g4, g5, g6]
    rfl
theorem Nz.step_len {z : Nz} {s : Sg} {t : Nat} (h1 : z.ns.length ≤ t) (h2 : ∀ y ∈ z.ns, y.tx.length ≤ t ∧ y.kd.length ≤ t) : (z.step s).ns.length ≤ t + 1 ∧ ∀ y ∈ (z.step s).ns, y.tx.length ≤ t + 1 ∧ y.kd.length ≤ t + 1 := by
  obtain ⟨ns, at_⟩ := z
  simp only at h1 h2
  have hmod : ∀ (ms : List Nd) (k : Nat) (f : Nd → Nd), (∀ y ∈ ms, y.tx.length ≤ t ∧ y.kd.length ≤ t) → (∀ y, (f y).tx.length ≤ y.tx.length + 1 ∧ (f y).kd.length ≤ y.kd.length + 1) → ∀ y ∈ ms.modify k f, y.tx.length ≤ t + 1 ∧ y.kd.length ≤ t + 1 := fun ms k f hm hf y hy => by
    obtain ⟨i, hi⟩ := List.getElem?_of_mem hy
    rw [List.getElem?_modify] at hi
    cases e : ms[i]? with
    | none => rw [e] at hi; simp at hi
    | some w =>
      rw [e] at hi
      have hw := hm w (List.mem_of_getElem? e)
      have hfw := hf w
      by_cases ek : k = i
      · simp [ek] at hi; subst hi; omega
      · simp [ek] at hi; subst hi; omega
  cases s with
  | op n =>
    have ha : ∀ y ∈ ns ++ [(⟨n, [], [], at_⟩ : Nd)], y.tx.length ≤ t ∧ y.kd.length ≤ t := fun y hy => by
      rcases List.mem_append.mp hy with hy | hy
      · exact h2 y hy
      · simp at hy; subst hy; simp
    cases at_ with
    | ofNat k => exact ⟨by simp [Nz.step]; omega, hmod _ k _ ha fun y => by simp [Nd.kid]⟩
    | negSucc k => exact ⟨by simp [Nz.step]; omega, fun y hy => by have := ha y hy; omega⟩
  | tx m => exact ⟨by simp [Nz.step]; omega, hmod ns at_.toNat _ h2 fun y => by simp [Nd.txt]⟩
  | cl => exact ⟨by simp [Nz.step]; omega, fun y hy => by have := h2 y hy; omega⟩
theorem nodes_loop {S : Sto} {x : Option D} : ∀ (ss : List Sg) (z : Nz) (d t : Nat) (b : Option D), Dep z.ns z.at_ d → dOk d ss = true → z.ns.length ≤ t → (∀ y ∈ z.ns, y.tx.length ≤ t ∧ y.kd.length ≤ t) → t + ss.length ≤ 900000 →
    ∃ b', forL still (hName 3) b_law_nodes_l1 (ss.map Sg.d) [x, some (.cell S.length), some (.int z.at_), b] (S ++ nJ S.length z.ns) = .nx [x, some (.cell S.length), some (.int (z.run ss).at_), b'] (S ++ nJ S.length (z.run ss).ns)
  | [], z, d, t, b, _, _, _, _, _ => ⟨b, by simp [Nz.run]⟩
  | s :: r, z, d, t, b, h, ho, h1, h2, ht => by
    simp only [List.length_cons] at ht
    simp only [dOk, Bool.and_eq_true] at ho
    have e := nodes_turn (S := S) (x := x) h ho.1 (by omega) fun y hy => by have := h2 y hy; omega
    obtain ⟨q1, q2⟩ := Nz.step_len (s := s) h1 h2
    obtain ⟨b', he⟩ := nodes_loop (S := S) (x := x) r (z.step s) (dStep d s) (t + 1) (some s.d) (h.step ho.1) ho.2 q1 q2 (by omega)
    refine ⟨b', ?_⟩
    simp only [List.map_cons, forL_still_cons, hName_eq]
    simp [e, he, Nz.run]
theorem nent_fz (n : Nat) (J : Sto) (i : Nat) (ns : List Nd) (h : ∀ (k : Nat) (y : Nd), ns[k]? = some y → J[1 + 2 * (i + k)]? = some (some (.lst (y.tx.map D.str))) ∧ J[2 + 2 * (i + k)]? = some (some (.lst (y.kd.map fun (k : Nat) => D.int (k : Int))))) : FzAll n J (nent n i ns) (ns.map Nd.d) := by
  induction ns generalizing i with
  | nil => exact .nil
  | cons y r ih =>
    obtain ⟨q1, q2⟩ := h 0 y rfl
    have a1 : FzAll n J (y.tx.map D.str) (y.tx.map D.str) := FzAll.same _ (hbs_all.mpr fun d hd => by obtain ⟨x, _, rfl⟩ := List.mem_map.mp hd; rfl)
    have a2 : FzAll n J (y.kd.map fun (k : Nat) => D.int (k : Int)) (y.kd.map fun (k : Nat) => D.int (k : Int)) := FzAll.same _ (hbs_all.mpr fun d hd => by obtain ⟨x, _, rfl⟩ := List.mem_map.mp hd; rfl)
    refine .cons (.tup (.cons (.str _) (.cons (.cell q1 a1) (.cons (.cell q2 a2) (.cons (.int _) .nil))))) (ih (i + 1) fun k y hk => ?_)
    have := h (k + 1) y hk
    rw [show i + 1 + k = i + (k + 1) by omega]
    exact this
theorem okFrom_dOk : ∀ (ss : List Sg) (z : Zp), okFrom z ss = true → dOk z.st.length ss = true
  | [], _, _ => rfl
  | s :: r, z, h => by
    obtain ⟨h1, h2⟩ := okFrom_cons h
    have ih := okFrom_dOk r (z.step s) h2
    obtain ⟨bot, st⟩ := z
    cases s with
    | op n => simpa [dOk, dCan, dStep, Zp.step] using ih
    | tx m =>
      cases st with
      | nil => simp [Zp.can, canCome] at h1
      | cons p r => obtain ⟨p1, p2⟩ := p; simpa [dOk, dCan, dStep, Zp.step, addSt] using ih
    | cl =>
      cases st with
      | nil => simp [Zp.can, canCome] at h1
      | cons p r =>
        obtain ⟨p1, p2⟩ := p
        have e : (addSt (Fo.el p1 p2 .nil) r).length = r.length := by cases r <;> simp [addSt]
        simpa [dOk, dCan, dStep, Zp.step, e] using ih
def nodesD (ss : List Sg) : D := .lst ((nodesL ss).map Nd.d)
noncomputable def fn_law_nodes : Fn := fnOf (fun ss : List Sg => [sgs ss]) (fun ss => dOk 0 ss = true ∧ ss.length ≤ 900000) fun ss S => .ok (nodesD ss) S
theorem nodes_eq {ss : List Sg} (ho : dOk 0 ss = true) (hz : ss.length ≤ 900000) (S : Sto) : fn_law_nodes [.lst (ss.map Sg.d)] S = .ok (nodesD ss) S := fnOf_eq (a := ss) sgs_inj ⟨ho, hz⟩
theorem ref_law_nodes (ds : List D) (S : Sto) : Ref S (fn_law_nodes ds S) (runB 4 b_law_nodes ds S) := by
  refine fnOf_ref (fun ss S ⟨ho, hz⟩ => ?_) ds S
  obtain ⟨b', he⟩ := nodes_loop (S := S) (x := some (sgs ss)) ss nz0 0 0 none .base ho (by simp [nz0]) (by simp [nz0]) (by omega)
  refine Ref.ok (v2 := .cell (S.length + 0)) (S2 := S ++ nJ S.length (nodesL ss)) ?_ (Cl.fz (e := nodesD ss) (.cell (ds := nent S.length 0 (nodesL ss)) rfl ?_))
  · have g3 : b_law_nodes_s3 [some (sgs ss), some (.cell S.length), some (.int (-1)), none] (S ++ [some (.lst [])]) = .nx [some (sgs ss), some (.cell S.length), some (.int (nz0.run ss).at_), b'] (S ++ nJ S.length (nodesL ss)) := by
      simp [nJ, nz0, nent, ncel, sgs] at he
      simp [b_law_nodes_s3, sgs, he, nodesL, nJ, nz0]
    simp [runB, b_law_nodes, b_law_nodes_s1, b_law_nodes_s2, g3, b_law_nodes_s7]
  · refine nent_fz _ _ 0 _ fun k y hk => ?_
    obtain ⟨q1, q2⟩ := ncel_tx k _ y hk
    rw [Nat.zero_add]
    exact ⟨by rw [Nat.add_comm 1]; exact q1, by rw [show 2 + 2 * k = (2 * k + 1) + 1 by omega]; exact q2⟩
/-- so many nodes as parts have been opened -/
theorem run_ns_len : ∀ (ss : List Sg) (z : Nz), (z.run ss).ns.length = z.ns.length + opens ss
  | [], z => by simp [Nz.run, opens]
  | s :: r, z => by
    have ih := run_ns_len r (z.step s)
    have e : (z.run (s :: r)) = (z.step s).run r := rfl
    rw [e, ih]
    cases s with
    | op n =>
      have : (z.step (.op n)).ns.length = z.ns.length + 1 := by
        simp only [Nz.step]
        cases z.at_ <;> simp
      rw [this]
      simp [opens]
      omega
    | tx m => simp [Nz.step, opens]
    | cl => simp [Nz.step, opens]
end Ev

/-! comparing signs and papers -/
namespace Ev
open PySem PySem.Spec PyProof.Rows L2
mutual
/-- data of texts, whole numbers, rows -/
def plD : PyData → Bool
  | .none => true
  | .int _ => true
  | .str _ => true
  | .tuple ps => plDs ps
  | .list ps => plDs ps
  | _ => false
def plDs : List PyData → Bool
  | [] => true
  | p :: r => plD p && plDs r
end
mutual
theorem eqv_pl : ∀ (p q : PyData), plD p = true → plD q = true → (PyData.eqv p q = true ↔ p = q)
  | p, q, hp, hq => by
    cases p <;> cases q <;> simp only [plD, Bool.false_eq_true] at hp hq <;> simp [PyData.eqv]
    · exact eqv_pls _ _ hp hq
    · exact eqv_pls _ _ hp hq
theorem eqv_pls : ∀ (ps qs : List PyData), plDs ps = true → plDs qs = true → (PyData.eqvAll ps qs = true ↔ ps = qs)
  | [], [], _, _ => by simp [PyData.eqvAll]
  | [], _ :: _, _, _ => by simp [PyData.eqvAll]
  | _ :: _, [], _, _ => by simp [PyData.eqvAll]
  | p :: r, q :: s, hp, hq => by
    simp only [plDs, Bool.and_eq_true] at hp hq
    simp only [PyData.eqvAll, Bool.and_eq_true, List.cons.injEq]
    rw [eqv_pl p q hp.1 hq.1, eqv_pls r s hp.2 hq.2]
end
theorem gEq_of {S : Sto} {x y : D} {p q : PyData} (hx : py S 200 x = some p) (hy : py S 200 y = some q) (lp : plD p = true) (lq : plD q = true) : ∃ b, gEq x y S = .ok (.bl b) S ∧ (b = true ↔ p = q) := ⟨PyData.eqv p q, by simp [gEq, hx, hy], eqv_pl p q lp lq⟩
theorem gEq_same {S : Sto} {x y : D} {p : PyData} (hx : py S 200 x = some p) (hy : py S 200 y = some p) (lp : plD p = true) : gEq x y S = .ok (.bl true) S ∧ gNe x y S = .ok (.bl false) S := by
  have := (eqv_pl p p lp lp).mpr rfl
  constructor
  · simp [gEq, hx, hy, this]
  · simp [gNe, hx, hy, this]
theorem Sg.pl (s : Sg) : plD s.pyd = true := by cases s <;> simp [Sg.pyd, plD, plDs]
theorem plDs_map {α : Type} {f : α → PyData} {xs : List α} (h : ∀ x ∈ xs, plD (f x) = true) : plDs (xs.map f) = true := by
  induction xs with
  | nil => rfl
  | cons x r ih =>
    simp only [List.map_cons, plDs, Bool.and_eq_true]
    exact ⟨h x (by simp), ih fun y hy => h y (by simp [hy])⟩
theorem sgs_pl (ss : List Sg) : plD (.list (ss.map Sg.pyd)) = true := by simp only [plD]; exact plDs_map fun s _ => s.pl
theorem sgs_py200 {ss : List Sg} (h : ∀ s ∈ ss, s.ok) (S : Sto) : py S 200 (sgs ss) = some (.list (ss.map Sg.pyd)) := by
  simp only [sgs, py, sgs_py h S 198, Option.map_some]
theorem sgs_py_cell {ss : List Sg} (h : ∀ s ∈ ss, s.ok) {S : Sto} {k : Nat} (hk : S[k]? = some (some (.lst (ss.map Sg.d)))) : py S 200 (.cell k) = some (.list (ss.map Sg.pyd)) := by
  simp only [py, hk, sgs_py h S 198, Option.map_some]
/-! papers -/
def Fo.ps : Fo → List PyData
  | .nil => []
  | .tx s r => .str s :: r.ps
  | .el n k r => .tuple [.str n, .list k.ps] :: r.ps
def Pt.pyd : Pt → PyData
  | .tx s => .str s
  | .el n k => .tuple [.str n, .list k.ps]
theorem Fo.pl : ∀ f : Fo, plDs f.ps = true
  | .nil => rfl
  | .tx s r => by simp [Fo.ps, plDs, plD, Fo.pl r]
  | .el n k r => by simp [Fo.ps, plDs, plD, Fo.pl r, Fo.pl k]
theorem Pt.pl (p : Pt) : plD p.pyd = true := by cases p <;> simp [Pt.pyd, plD, plDs, Fo.pl]
theorem Fo.py_ps : ∀ (f : Fo) (S : Sto) (n : Nat), (∀ s ∈ f.sg, s.ok) → 2 * f.dp ≤ n → omap (py S n) f.ds = some f.ps
  | .nil, S, n, _, _ => rfl
  | .tx s r, S, n, h, hd => by
    simp only [Fo.dp] at hd
    have h1 : PyData.strOk s = true := h (.tx s) (by simp [Fo.sg])
    have ih := Fo.py_ps r S n (fun x hx => h x (by simp [Fo.sg, hx])) (by omega)
    cases n <;> simp [Fo.ds, omap, py, h1, ih, Fo.ps]
  | .el m k r, S, n, h, hd => by
    simp only [Fo.dp] at hd
    have h1 : PyData.strOk m = true := h (.op m) (by simp [Fo.sg])
    have ih := Fo.py_ps r S n (fun x hx => h x (by simp [Fo.sg, hx])) (by omega)
    obtain ⟨n2, rfl⟩ : ∃ n2, n = n2 + 2 := ⟨n - 2, by omega⟩
    have ih2 := Fo.py_ps k S n2 (fun x hx => h x (by simp [Fo.sg, hx])) (by omega)
    simp [Fo.ds, omap, py, h1, ih, ih2, Fo.ps]
theorem Pt.py_pd (p : Pt) (S : Sto) (h : ∀ s ∈ p.sg, s.ok) (hd : p.dp ≤ 90) : py S 200 p.d = some p.pyd := by
  cases p with
  | tx s =>
    have h1 : PyData.strOk s = true := h (.tx s) (by simp [Pt.sg])
    simp [Pt.d, py, h1, Pt.pyd]
  | el n k =>
    simp only [Pt.dp] at hd
    have h1 : PyData.strOk n = true := h (.op n) (by simp [Pt.sg])
    have ih2 := Fo.py_ps k S 198 (fun x hx => h x (by simp [Pt.sg, hx])) (by omega)
    simp [Pt.d, py, omap, h1, ih2, Pt.pyd]
theorem sg_append_opens (a b : List Sg) : opens (a ++ b) = opens a + opens b := by simp [opens]
theorem Fo.dp_opens : ∀ f : Fo, f.dp ≤ opens f.sg + 1
  | .nil => by simp [Fo.dp]
  | .tx s r => by have := Fo.dp_opens r; simp [Fo.dp, Fo.sg, opens] at this ⊢; omega
  | .el n k r => by
    have h1 := Fo.dp_opens k
    have h2 := Fo.dp_opens r
    have e : opens (Fo.el n k r).sg = 1 + opens k.sg + opens r.sg := by simp [Fo.sg, opens]; omega
    rw [e]; simp only [Fo.dp]; omega
theorem Pt.dp_opens (p : Pt) : p.dp ≤ opens p.sg + 1 := by
  cases p with
  | tx s => simp [Pt.dp]
  | el n k =>
    have h1 := Fo.dp_opens k
    have e : opens (Pt.el n k).sg = 1 + opens k.sg := by simp [Pt.sg, opens]; omega
    rw [e]; simp only [Pt.dp]; omega
theorem Fo.many_opens : ∀ f : Fo, f.many = opens f.sg
  | .nil => rfl
  | .tx s r => by have := Fo.many_opens r; simp [Fo.many, Fo.sg, opens] at this ⊢; omega
  | .el n k r => by
    have h1 := Fo.many_opens k
    have h2 := Fo.many_opens r
    have e : opens (Fo.el n k r).sg = 1 + opens k.sg + opens r.sg := by simp [Fo.sg, opens]; omega
    rw [e]; simp only [Fo.many]; omega
theorem Pt.many_opens (p : Pt) : p.many = opens p.sg := by
  cases p with
  | tx s => rfl
  | el n k =>
    have h1 := Fo.many_opens k
    have e : opens (Pt.el n k).sg = 1 + opens k.sg := by simp [Pt.sg, opens]; omega
    rw [e]; simp only [Pt.many]; omega
/-! the signs that have made a paper -/
def stSg : List (Str × Fo) → List Sg
  | [] => []
  | (n, f) :: r => stSg r ++ .op n :: f.sg
def Zp.sg (z : Zp) : List Sg := z.bot.sg ++ stSg z.st
theorem Zp.step_sg {z : Zp} {s : Sg} (h : z.one) (hc : z.can s = true) : (z.step s).sg = z.sg ++ [s] := by
  obtain ⟨bot, st⟩ := z
  cases s with
  | op n => simp [Zp.step, Zp.sg, stSg, Fo.sg]
  | tx m =>
    cases st with
    | nil => simp [Zp.can, canCome] at hc
    | cons p r =>
      obtain ⟨n, f⟩ := p
      simp [Zp.step, Zp.sg, stSg, addSt, Fo.app_sg, Fo.sg]
  | cl =>
    cases st with
    | nil => simp [Zp.can, canCome] at hc
    | cons p r =>
      obtain ⟨n, f⟩ := p
      cases r with
      | nil => simp [Zp.step, Zp.sg, stSg, addSt, addBot, Fo.app_sg, Fo.sg]
      | cons q r =>
        obtain ⟨n2, f2⟩ := q
        simp [Zp.step, Zp.sg, stSg, addSt, addBot, Fo.app_sg, Fo.sg]
theorem Zp.run_sg : ∀ (ss : List Sg) (z : Zp), z.one → okFrom z ss = true → (z.run ss).sg = z.sg ++ ss
  | [], z, _, _ => by simp [Zp.run]
  | s :: r, z, h, ho => by
    obtain ⟨h1, h2⟩ := okFrom_cons ho
    have e : z.run (s :: r) = (z.step s).run r := rfl
    rw [e, Zp.run_sg r _ (Zp.one_step h h1).1 h2, Zp.step_sg h h1]
    simp
theorem run_dep : ∀ (ss : List Sg) (z : Zp), okFrom z ss = true → (z.run ss).st.length + closes ss = z.st.length + opens ss
  | [], z, _ => by simp [Zp.run, closes, opens]
  | s :: r, z, ho => by
    obtain ⟨h1, h2⟩ := okFrom_cons ho
    have ih := run_dep r (z.step s) h2
    have e : z.run (s :: r) = (z.step s).run r := rfl
    rw [e]
    obtain ⟨bot, st⟩ := z
    cases s with
    | op n => simp [Zp.step, closes, opens] at ih ⊢; omega
    | tx m =>
      cases st with
      | nil => simp [Zp.can, canCome] at h1
      | cons p r => obtain ⟨p1, p2⟩ := p; simp [Zp.step, addSt, closes, opens] at ih ⊢; omega
    | cl =>
      cases st with
      | nil => simp [Zp.can, canCome] at h1
      | cons p r =>
        obtain ⟨p1, p2⟩ := p
        have e : (addSt (Fo.el p1 p2 .nil) r).length = r.length := by cases r <;> simp [addSt]
        simp [Zp.step, e, closes, opens] at ih ⊢; omega
/-- closing all that is open -/
theorem run_close : ∀ (d : Nat) (z : Zp), z.st.length = d → okFrom z (List.replicate d .cl) = true ∧ (z.run (List.replicate d .cl)).st = []
  | 0, z, h => ⟨rfl, List.length_eq_zero_iff.mp h⟩
  | d + 1, z, h => by
    obtain ⟨bot, st⟩ := z
    cases st with
    | nil => simp at h
    | cons p r =>
      obtain ⟨n, f⟩ := p
      have e : (addSt (Fo.el n f .nil) r).length = r.length := by cases r <;> simp [addSt]
      have ih := run_close d (Zp.step ⟨bot, (n, f) :: r⟩ .cl) (by simp [Zp.step, e] at h ⊢; exact h)
      rw [List.replicate_succ]
      refine ⟨?_, ih.2⟩
      simp only [okFrom, ih.1, Bool.and_true]
      simp [Zp.can, canCome]
/-- a whole row of signs is the signs of its paper -/
theorem stump_whole {ss : List Sg} (hn : ss ≠ []) (ho : okFrom z0 ss = true) (hst : (z0.run ss).st = []) : (stumpP ss).sg = ss := by
  have hsg := Zp.run_sg ss z0 (.inl rfl) ho
  have hsg0 : z0.sg = [] := rfl
  rw [hsg0, List.nil_append] at hsg
  obtain ⟨n, k, e1, e2⟩ := stumpP_all hn ho
  rw [e1]
  have hb : (z0.run ss).bot = .el n k .nil := by
    have : (z0.run ss).all = (z0.run ss).bot := by
      simp only [Zp.all, hst, upF, Fo.app_nil]
    rw [← this, e2]
  rw [← hsg]
  simp [Zp.sg, hst, stSg, hb, Pt.sg, Fo.sg]
/-- the drawn signs, all closed -/
noncomputable def closed (ss : List Sg) : List Sg := ss ++ List.replicate (z0.run ss).st.length .cl
theorem closed_ok {ss : List Sg} (hn : ss ≠ []) (ho : okFrom z0 ss = true) : closed ss ≠ [] ∧ okFrom z0 (closed ss) = true ∧ (stumpP (closed ss)).sg = closed ss := by
  obtain ⟨h1, h2⟩ := run_close _ (z0.run ss) rfl
  have ho' : okFrom z0 (closed ss) = true := by unfold closed; rw [okFrom_app, ho, h1]; rfl
  have hn' : closed ss ≠ [] := by unfold closed; simp [hn]
  exact ⟨hn', ho', stump_whole hn' ho' (by unfold closed; rw [run_app]; exact h2)⟩
theorem Zp.step_all {z : Zp} (h : z.st ≠ []) : (z.step .cl).all = z.all := by
  obtain ⟨bot, st⟩ := z
  cases st with
  | nil => exact absurd rfl h
  | cons p r =>
    obtain ⟨n, f⟩ := p
    cases r with
    | nil => simp [Zp.step, Zp.all, upF, addSt, addBot, Fo.app_nil]
    | cons q r =>
      obtain ⟨m, g⟩ := q
      simp [Zp.step, Zp.all, upF, addSt, addBot, Fo.app_nil]
theorem Zp.close_all : ∀ (d : Nat) (z : Zp), z.st.length = d → (z.run (List.replicate d .cl)).all = z.all
  | 0, z, h => rfl
  | d + 1, z, h => by
    have hne : z.st ≠ [] := fun e => by rw [e] at h; cases h
    have hl : (z.step .cl).st.length = d := by
      obtain ⟨bot, st⟩ := z
      cases st with
      | nil => exact absurd rfl hne
      | cons p r =>
        obtain ⟨n, f⟩ := p
        have e : (addSt (Fo.el n f .nil) r).length = r.length := by cases r <;> simp [addSt]
        simp [Zp.step, e] at h ⊢; exact h
    rw [List.replicate_succ]
    have e : z.run (.cl :: List.replicate d .cl) = (z.step .cl).run (List.replicate d .cl) := rfl
    rw [e, Zp.close_all d _ hl, Zp.step_all hne]
/-- closing what is open makes the same paper -/
theorem stump_closed {ss : List Sg} (hn : ss ≠ []) (ho : okFrom z0 ss = true) : stumpP (closed ss) = stumpP ss ∧ (stumpP ss).sg = closed ss := by
  have e : stumpP (closed ss) = stumpP ss := by
    unfold stumpP closed
    rw [run_app, Zp.close_all _ _ rfl]
  exact ⟨e, by rw [← e]; exact (closed_ok hn ho).2.2⟩
end Ev

/-! the nodes of some signs stand to one another as the parts of their paper -/
namespace Ev
open PySem PySem.Spec PyProof.Rows L2
def Fo.txs : Fo → List Str
  | .nil => []
  | .tx s r => s :: r.txs
  | .el _ _ r => r.txs
def Fo.els : Fo → List Pt
  | .nil => []
  | .tx _ r => r.els
  | .el n k r => .el n k :: r.els
theorem Fo.app_txs : ∀ f g : Fo, (f.app g).txs = f.txs ++ g.txs
  | .nil, g => rfl
  | .tx s r, g => by simp [Fo.app, Fo.txs, Fo.app_txs r g]
  | .el n k r, g => by simp [Fo.app, Fo.txs, Fo.app_txs r g]
/-- the parts in a row are these nodes, none of them open -/
def LikeF (ns : List Nd) (o : List Nat) : Fo → List Nat → Prop
  | .nil, kd => kd = []
  | .tx _ r, kd => LikeF ns o r kd
  | .el n k r, kd => ∃ j kr, kd = j :: kr ∧ (j ∉ o ∧ ∃ x : Nd, ns[j]? = some x ∧ x.nm = n ∧ x.tx = k.txs ∧ LikeF ns o k x.kd) ∧ LikeF ns o r kr
def LikeE (ns : List Nd) (o : List Nat) (j : Nat) (n : Str) (k : Fo) : Prop := j ∉ o ∧ ∃ x : Nd, ns[j]? = some x ∧ x.nm = n ∧ x.tx = k.txs ∧ LikeF ns o k x.kd
theorem LikeF.mono {ns ms : List Nd} {o o' : List Nat} (h : ∀ (j : Nat) (x : Nd), ns[j]? = some x → j ∉ o → ms[j]? = some x ∧ j ∉ o') : ∀ (f : Fo) (kd : List Nat), LikeF ns o f kd → LikeF ms o' f kd
  | .nil, kd, q => q
  | .tx _ r, kd, q => LikeF.mono h r kd q
  | .el n k r, kd, ⟨j, kr, e, ⟨hj, x, h1, h2, h3, h4⟩, q⟩ => ⟨j, kr, e, ⟨(h j x h1 hj).2, x, (h j x h1 hj).1, h2, h3, LikeF.mono h k x.kd h4⟩, LikeF.mono h r kr q⟩
theorem LikeF.app {ns : List Nd} {o : List Nat} : ∀ (f g : Fo) (a b : List Nat), LikeF ns o f a → LikeF ns o g b → LikeF ns o (f.app g) (a ++ b)
  | .nil, g, a, b, h, h' => by simp only [LikeF] at h; subst h; exact h'
  | .tx _ r, g, a, b, h, h' => LikeF.app r g a b h h'
  | .el n k r, g, a, b, ⟨j, kr, e, q, h⟩, h' => ⟨j, kr ++ b, by simp [e], q, LikeF.app r g kr b h h'⟩
def hdI : List Nat → Int
  | [] => -1
  | i :: _ => (i : Int)
/-- the open nodes, from the innermost; the last child of the innermost is lk -/
inductive ChL (ns : List Nd) (O : List Nat) : List Nat → List (Str × Fo) → List Nat → Prop
  | nil {lk : List Nat} : ChL ns O [] [] lk
  | cons {i : Nat} {is : List Nat} {n : Str} {f : Fo} {r : List (Str × Fo)} {lk kd : List Nat} {x : Nd} : ns[i]? = some x → x.nm = n → x.tx = f.txs → x.kd = kd ++ lk → LikeF ns O f kd → x.pa = hdI is → (r = [] → i = 0) → ChL ns O is r [i] → ChL ns O (i :: is) ((n, f) :: r) lk
theorem ChL.mono {ns ms : List Nd} {O O' is : List Nat} {st : List (Str × Fo)} {lk : List Nat} (h : ChL ns O is st lk) (h1 : ∀ j ∈ is, ms[j]? = ns[j]?) (h2 : ∀ (j : Nat) (x : Nd), ns[j]? = some x → j ∉ O → ms[j]? = some x ∧ j ∉ O') : ChL ms O' is st lk := by
  induction h with
  | nil => exact .nil
  | cons a1 a2 a3 a4 a5 a6 a7 _ ih => exact .cons (by rw [h1 _ (by simp)]; exact a1) a2 a3 a4 (a5.mono h2) a6 a7 (ih fun j hj => h1 j (by simp [hj]))
theorem ChL.lt {ns : List Nd} {O is : List Nat} {st : List (Str × Fo)} {lk : List Nat} (h : ChL ns O is st lk) : ∀ j ∈ is, j < ns.length := by
  induction h with
  | nil => intro j hj; cases hj
  | cons a1 _ _ _ _ _ _ _ ih =>
    intro j hj
    rcases List.mem_cons.mp hj with rfl | hj
    · exact (List.getElem?_eq_some_iff.mp a1).1
    · exact ih j hj
theorem ChL.nil_st {ns : List Nd} {O is : List Nat} {lk : List Nat} (h : ChL ns O is [] lk) : is = [] := by cases h; rfl
theorem ChL.up {ns : List Nd} {O is : List Nat} {st : List (Str × Fo)} {lk : List Nat} (h : ChL ns O is st lk) (hO : O = []) : ∀ acc : Fo, LikeF ns [] acc lk → acc.txs = [] → st ≠ [] → ∃ n k, upF acc st .nil = .el n k .nil ∧ LikeE ns [] 0 n k := by
  subst hO
  induction h with
  | nil => intro _ _ _ h; exact absurd rfl h
  | cons a1 a2 a3 a4 a5 a6 a7 h8 ih =>
    rename_i i is n f r lk kd x
    intro acc ha ht _
    have hE : LikeE ns [] i n (f.app acc) := ⟨by simp, x, a1, a2, by rw [a3, Fo.app_txs, ht, List.append_nil], by rw [a4]; exact LikeF.app f acc kd lk a5 ha⟩
    by_cases hr : r = []
    · subst hr
      have := a7 rfl
      subst this
      exact ⟨n, f.app acc, rfl, hE⟩
    · exact ih (.el n (f.app acc) .nil) ⟨i, [], rfl, hE, rfl⟩ rfl hr
/-- the tie between the paper that is coming and the nodes so far -/
structure NzI (z : Zp) (w : Nz) : Prop where
  ex : ∃ is : List Nat, is.Nodup ∧ ChL w.ns is is z.st [] ∧ w.at_ = hdI is
  b0 : z.st = [] → (z.bot = .nil ∧ w.ns = []) ∨ ∃ n k, z.bot = .el n k .nil ∧ LikeE w.ns [] 0 n k
  b1 : z.st ≠ [] → z.bot = .nil
theorem NzI.start : NzI z0 nz0 := ⟨⟨[], .nil, .nil, rfl⟩, fun _ => .inl ⟨rfl, rfl⟩, fun h => absurd rfl h⟩
theorem modify_ne {ns : List Nd} {k i : Nat} (f : Nd → Nd) (h : i ≠ k) : (ns.modify k f)[i]? = ns[i]? := by
  rw [List.getElem?_modify]
  simp [Ne.symm h]
theorem modify_at {ns : List Nd} {k : Nat} {x : Nd} (f : Nd → Nd) (h : ns[k]? = some x) : (ns.modify k f)[k]? = some (f x) := by
  rw [List.getElem?_modify, h]
  simp
theorem NzI.step {z : Zp} {w : Nz} {s : Sg} (h : NzI z w) (hc : z.can s = true) : NzI (z.step s) (w.step s) := by
  obtain ⟨⟨is, nd, hch, hat⟩, b0, b1⟩ := h
  obtain ⟨bot, st⟩ := z
  obtain ⟨ns, at_⟩ := w
  simp only at hch hat b0 b1
  cases s with
  | op n =>
    have hlt := hch.lt
    have hnew : ns.length ∉ is := fun hm => by have := hlt _ hm; omega
    have happ : ∀ (j : Nat) (x : Nd), ns[j]? = some x → (ns ++ [(⟨n, [], [], at_⟩ : Nd)])[j]? = some x := fun j x e => by
      rw [List.getElem?_append_left (List.getElem?_eq_some_iff.mp e).1]; exact e
    have hO : ∀ (j : Nat) (x : Nd), ns[j]? = some x → j ∉ is → (ns ++ [(⟨n, [], [], at_⟩ : Nd)])[j]? = some x ∧ j ∉ ns.length :: is := fun j x e hj => ⟨happ j x e, by
      have := (List.getElem?_eq_some_iff.mp e).1
      simp only [List.mem_cons, not_or]
      exact ⟨by omega, hj⟩⟩
    cases hch with
    | nil =>
      have e : at_ = -1 := hat
      subst e
      refine ⟨⟨[ns.length], by simp, ?_, rfl⟩, fun h => by simp [Zp.step] at h, fun _ => ?_⟩
      · refine .cons (x := ⟨n, [], [], -1⟩) (kd := []) ?_ rfl rfl rfl rfl rfl (fun _ => ?_) .nil
        · show (ns ++ [(⟨n, [], [], -1⟩ : Nd)])[ns.length]? = _
          simp
        · rcases b0 rfl with ⟨_, e⟩ | ⟨m, k, e, _⟩
          · rw [e]; rfl
          · subst e; simp [Zp.can, canCome, Zp.begun] at hc
      · rcases b0 rfl with ⟨e, _⟩ | ⟨m, k, e, _⟩
        · exact e
        · subst e; simp [Zp.can, canCome, Zp.begun] at hc
    | cons a1 a2 a3 a4 a5 a6 a7 a8 =>
      rename_i i is m f r kd x
      have e : at_ = Int.ofNat i := hat
      subst e
      have hil : i < ns.length := (List.getElem?_eq_some_iff.mp a1).1
      simp only [List.nodup_cons] at nd
      have hns : (Nz.step ⟨ns, Int.ofNat i⟩ (.op n)).ns = (ns ++ [(⟨n, [], [], Int.ofNat i⟩ : Nd)]).modify i fun x => x.kid ns.length := rfl
      have hO' : ∀ (j : Nat) (x : Nd), ns[j]? = some x → j ∉ i :: is → ((ns ++ [(⟨n, [], [], Int.ofNat i⟩ : Nd)]).modify i fun x => x.kid ns.length)[j]? = some x ∧ j ∉ ns.length :: i :: is := fun j x e hj => by
        obtain ⟨h1, h2⟩ := hO j x e hj
        refine ⟨?_, h2⟩
        rw [modify_ne _ (fun z => hj (by rw [z]; simp))]
        exact h1
      refine ⟨⟨ns.length :: i :: is, ?_, ?_, rfl⟩, fun h => by simp [Zp.step] at h, fun _ => b1 (by simp)⟩
      · simp only [List.nodup_cons]; exact ⟨hnew, nd⟩
      · rw [hns]
        refine .cons (x := ⟨n, [], [], Int.ofNat i⟩) (kd := []) ?_ rfl rfl rfl rfl rfl (fun h => by cases h) (.cons (x := x.kid ns.length) (kd := kd) (modify_at _ (happ i x a1)) a2 a3 ?_ (a5.mono hO') a6 a7 (a8.mono (fun j hj => ?_) hO'))
        · rw [modify_ne _ (by omega)]; simp
        · simp only [Nd.kid, a4, List.append_nil]
        · rw [modify_ne _ (fun z => nd.1 (by rw [← z]; exact hj))]
          rw [List.getElem?_append_left (by have := hlt j (by simp [hj]); exact this)]
  | tx t =>
    cases hch with
    | nil => simp [Zp.can, canCome] at hc
    | cons a1 a2 a3 a4 a5 a6 a7 a8 =>
      rename_i i is m f r kd x
      have e : at_ = Int.ofNat i := hat
      subst e
      simp only [List.nodup_cons] at nd
      have hO' : ∀ (j : Nat) (x : Nd), ns[j]? = some x → j ∉ i :: is → (ns.modify i fun x => x.txt t)[j]? = some x ∧ j ∉ i :: is := fun j x e hj => by
        refine ⟨?_, hj⟩
        rw [modify_ne _ (fun z => hj (by rw [z]; simp))]
        exact e
      refine ⟨⟨i :: is, by simp only [List.nodup_cons]; exact nd, ?_, rfl⟩, fun h => by simp [Zp.step, addSt] at h, fun _ => b1 (by simp)⟩
      show ChL (ns.modify i fun x => x.txt t) (i :: is) (i :: is) ((m, f.app (.tx t .nil)) :: r) []
      refine .cons (x := x.txt t) (kd := kd) (modify_at _ a1) a2 ?_ a4 ?_ a6 a7 (a8.mono (fun j hj => ?_) hO')
      · simp only [Nd.txt, a3, Fo.app_txs]; rfl
      · have := LikeF.app f (.tx t .nil) kd [] (a5.mono hO') rfl
        simpa using this
      · rw [modify_ne _ (fun z => nd.1 (by rw [← z]; exact hj))]
  | cl =>
    cases hch with
    | nil => simp [Zp.can, canCome] at hc
    | cons a1 a2 a3 a4 a5 a6 a7 a8 =>
      rename_i i is m f r kd x
      have e : at_ = Int.ofNat i := hat
      subst e
      simp only [List.nodup_cons] at nd
      rw [List.append_nil] at a4
      have hat2 : (Nz.step ⟨ns, Int.ofNat i⟩ .cl).at_ = hdI is := by
        show ((ns[i]?).map Nd.pa).getD (-1) = _
        rw [a1]; exact a6
      have hO' : ∀ (j : Nat) (x : Nd), ns[j]? = some x → j ∉ i :: is → ns[j]? = some x ∧ j ∉ is := fun j x e hj => ⟨e, fun z => hj (by simp [z])⟩
      have hO0 : ∀ (j : Nat) (x : Nd), ns[j]? = some x → j ∉ i :: is → ns[j]? = some x ∧ j ∉ [] := fun j x e hj => ⟨e, by simp⟩
      have hE : LikeE ns is i m f := ⟨nd.1, x, a1, a2, a3, by rw [a4]; exact a5.mono hO'⟩
      cases a8 with
      | nil =>
        refine ⟨⟨[], .nil, .nil, hat2⟩, fun _ => .inr ⟨m, f, ?_, ?_⟩, fun h => absurd rfl h⟩
        · have := b1 (by simp)
          subst this
          rfl
        · have := a7 rfl
          subst this
          exact ⟨by simp, x, a1, a2, a3, by rw [a4]; exact a5.mono hO0⟩
      | cons c1 c2 c3 c4 c5 c6 c7 c8 =>
        rename_i p is m2 g r kd2 y
        refine ⟨⟨p :: is, nd.2, ?_, hat2⟩, fun h => by simp [Zp.step, addSt] at h, fun _ => b1 (by simp)⟩
        show ChL ns (p :: is) (p :: is) ((m2, g.app (.el m f .nil)) :: r) []
        refine .cons (x := y) (kd := kd2 ++ [i]) c1 c2 ?_ (by simpa using c4) ?_ c6 c7 (c8.mono (fun j hj => rfl) hO')
        · rw [Fo.app_txs, c3]; simp [Fo.txs]
        · exact LikeF.app g _ kd2 [i] (c5.mono hO') ⟨i, [], rfl, hE, rfl⟩
theorem NzI.run : ∀ (ss : List Sg) (z : Zp) (w : Nz), NzI z w → okFrom z ss = true → NzI (z.run ss) (w.run ss)
  | [], z, w, h, _ => h
  | s :: r, z, w, h, ho => by
    obtain ⟨h1, h2⟩ := okFrom_cons ho
    exact NzI.run r _ _ (h.step h1) h2
theorem nodes_like {ss : List Sg} (hn : ss ≠ []) (ho : okFrom z0 ss = true) : ∃ n k, stumpP ss = .el n k ∧ LikeE (nodesL ss) [] 0 n k := by
  obtain ⟨n, k, e1, e2⟩ := stumpP_all hn ho
  obtain ⟨⟨is, nd, hch, hat⟩, b0, b1⟩ := NzI.run ss z0 nz0 .start ho
  refine ⟨n, k, e1, ?_⟩
  by_cases hst : (z0.run ss).st = []
  · have he : (z0.run ss).all = (z0.run ss).bot := by simp only [Zp.all, hst, upF, Fo.app_nil]
    rw [he] at e2
    rcases b0 hst with ⟨q, _⟩ | ⟨m, f, q, h⟩
    · rw [q] at e2; cases e2
    · rw [q] at e2; cases e2; exact h
  · have hz : (z0.run ss).all = upF .nil (z0.run ss).st .nil := by rw [Zp.all, b1 hst]
    obtain ⟨m, f, q, h⟩ := (hch.mono (O' := []) (fun _ _ => rfl) fun j x e _ => ⟨e, by simp⟩).up rfl .nil rfl rfl hst
    rw [hz, q] at e2
    cases e2
    exact h
theorem strs_py {ts : List Str} (h : ∀ t ∈ ts, PyData.strOk t = true) (S : Sto) : py S 200 (.lst (ts.map D.str)) = some (.list (ts.map PyData.str)) := by
  have : omap (py S 199) (ts.map D.str) = some (ts.map PyData.str) := omap_map fun t ht => by simp [py, h t ht]
  simp only [py, this, Option.map_some]
theorem strs_pl (ts : List Str) : plD (.list (ts.map PyData.str)) = true := by simp only [plD]; exact plDs_map fun t _ => rfl
def isS : D → Bool
  | .str _ => true
  | _ => false
@[simp] theorem isS_str (x : Str) : isS (.str x) = true := rfl
@[simp] theorem isS_tup (x : List D) : isS (.tup x) = false := rfl
theorem fo_mem : ∀ (f : Fo) (d : D), d ∈ f.ds → (∃ s, d = .str s) ∨ ∃ xs, d = .tup xs
  | .nil, d, h => by simp [Fo.ds] at h
  | .tx s r, d, h => by
    simp only [Fo.ds, List.mem_cons] at h
    rcases h with h | h
    · exact .inl ⟨s, h⟩
    · exact fo_mem r d h
  | .el n k r, d, h => by
    simp only [Fo.ds, List.mem_cons] at h
    rcases h with h | h
    · exact .inr ⟨_, h⟩
    · exact fo_mem r d h
theorem filter_strs : ∀ f : Fo, f.ds.filter isS = f.txs.map D.str
  | .nil => rfl
  | .tx s r => by simp [Fo.ds, Fo.txs, List.filter_cons, filter_strs r]
  | .el n k r => by simp [Fo.ds, Fo.txs, List.filter_cons, filter_strs r]
theorem filter_els : ∀ f : Fo, (f.ds.filter fun d => !isS d) = f.els.map Pt.d
  | .nil => rfl
  | .tx s r => by simp [Fo.ds, Fo.els, filter_els r]
  | .el n k r => by simp [Fo.ds, Fo.els, filter_els r, Pt.d]
theorem txs_ok : ∀ f : Fo, (∀ s ∈ f.sg, s.ok) → ∀ t ∈ f.txs, PyData.strOk t = true
  | .nil, _, t, h => by simp [Fo.txs] at h
  | .tx s r, ho, t, h => by
    rcases List.mem_cons.mp h with rfl | h
    · exact ho (.tx t) (by simp [Fo.sg])
    · exact txs_ok r (fun x hx => ho x (by simp [Fo.sg, hx])) t h
  | .el n k r, ho, t, h => txs_ok r (fun x hx => ho x (by simp [Fo.sg, hx])) t h
theorem ds_sg_len : ∀ f : Fo, f.ds.length ≤ f.sg.length ∧ f.els.length ≤ f.sg.length
  | .nil => by simp [Fo.ds, Fo.els]
  | .tx s r => by have := ds_sg_len r; simp [Fo.ds, Fo.sg, Fo.els]; omega
  | .el n k r => by have := ds_sg_len r; simp [Fo.ds, Fo.sg, Fo.els]; omega
end Ev

/-! wishes, what they ask of a paper -/
namespace Ev
open PySem PySem.Spec PyProof.Rows L2
mutual
/-- a wish -/
inductive Wi where
  | any | text (s : Str) | has (l : Sl) | both (l : Wl) | one (l : Wl)
/-- a row of wishes -/
inductive Wl where
  | nil | cons (w : Wi) (r : Wl)
/-- a row of steps -/
inductive Sl where
  | nil | cons (own : Bool) (n : Str) (w : Wi) (r : Sl)
end
def wayS (own : Bool) : Str := if own = true then "own" else "inner"
mutual
def Wi.d : Wi → D
  | .any => .tup [.str "any"]
  | .text s => .tup [.str "text", .str s]
  | .has l => .tup [.str "has", .lst l.ds]
  | .both l => .tup [.str "both", .lst l.ds]
  | .one l => .tup [.str "one", .lst l.ds]
def Wl.ds : Wl → List D
  | .nil => []
  | .cons w r => w.d :: r.ds
def Sl.ds : Sl → List D
  | .nil => []
  | .cons o n w r => .tup [.str (wayS o), .str n, w.d] :: r.ds
end
mutual
/-- how deep -/
def Wi.dp : Wi → Nat
  | .any => 1
  | .text _ => 1
  | .has l => l.dp + 1
  | .both l => l.dp + 1
  | .one l => l.dp + 1
def Wl.dp : Wl → Nat
  | .nil => 1
  | .cons w r => max w.dp r.dp
def Sl.dp : Sl → Nat
  | .nil => 1
  | .cons _ _ w r => max (w.dp + 1) r.dp
end
theorem wayS_inj : ∀ a b : Bool, wayS a = wayS b → a = b := by
  have h : ("own" : Str) ≠ "inner" := by decide +kernel
  intro a b e
  cases a <;> cases b <;> simp [wayS] at e ⊢
  · exact h e.symm
  · exact h e
mutual
theorem Wi.inj : ∀ a b : Wi, a.d = b.d → a = b
  | a, b, h => by
    have n1 : ("any" : Str) ≠ "text" := by decide +kernel
    have n2 : ("has" : Str) ≠ "text" := by decide +kernel
    have n3 : ("both" : Str) ≠ "text" := by decide +kernel
    have n4 : ("one" : Str) ≠ "text" := by decide +kernel
    have n5 : ("has" : Str) ≠ "both" := by decide +kernel
    have n6 : ("has" : Str) ≠ "one" := by decide +kernel
    have n7 : ("both" : Str) ≠ "one" := by decide +kernel
    cases a <;> cases b <;> simp only [Wi.d, D.tup.injEq, List.cons.injEq, D.str.injEq, D.lst.injEq, and_true, reduceCtorEq, and_false, false_and] at h
    · rfl
    · rw [h.2]
    · rw [Sl.inj _ _ h.2]
    · exact absurd h.1 n5
    · exact absurd h.1 n6
    · exact absurd h.1.symm n5
    · rw [Wl.inj _ _ h.2]
    · exact absurd h.1 n7
    · exact absurd h.1.symm n6
    · exact absurd h.1.symm n7
    · rw [Wl.inj _ _ h.2]
theorem Wl.inj : ∀ a b : Wl, a.ds = b.ds → a = b
  | .nil, .nil, _ => rfl
  | .nil, .cons _ _, h => by simp [Wl.ds] at h
  | .cons _ _, .nil, h => by simp [Wl.ds] at h
  | .cons w r, .cons w' r', h => by
    simp only [Wl.ds, List.cons.injEq] at h
    rw [Wi.inj w w' h.1, Wl.inj r r' h.2]
theorem Sl.inj : ∀ a b : Sl, a.ds = b.ds → a = b
  | .nil, .nil, _ => rfl
  | .nil, .cons _ _ _ _, h => by simp [Sl.ds] at h
  | .cons _ _ _ _, .nil, h => by simp [Sl.ds] at h
  | .cons o n w r, .cons o' n' w' r', h => by
    simp only [Sl.ds, List.cons.injEq, D.tup.injEq, D.str.injEq, and_true] at h
    obtain ⟨⟨h1, h2, h3⟩, h4⟩ := h
    rw [wayS_inj _ _ h1, h2, Wi.inj w w' h3, Sl.inj r r' h4]
end
/-! what a wish asks -/
/-- all parts within, in the order of the paper -/
def Fo.deep : Fo → List Pt
  | .nil => []
  | .tx _ r => r.deep
  | .el n k r => .el n k :: (k.deep ++ r.deep)
def Pt.kids : Pt → Fo
  | .tx _ => .nil
  | .el _ k => k
def Pt.nm : Pt → Str
  | .tx _ => ""
  | .el n _ => n
def Pt.below (p : Pt) (own : Bool) : List Pt := if own = true then p.kids.els else p.kids.deep
def called (n : Str) (p : Pt) : Bool := decide (n = "*") || decide (n = p.nm)
/-- a text among texts -/
def hasT (x : Str) (ts : List Str) : Bool := decide (x ∈ ts)
mutual
def Wi.holds : Wi → Pt → Bool
  | .any, _ => true
  | .text s, p => hasT s p.kids.txs
  | .has l, p => l.leads p
  | .both l, p => l.all p
  | .one l, p => l.some_ p
def Wl.all : Wl → Pt → Bool
  | .nil, _ => true
  | .cons w r, p => w.holds p && r.all p
def Wl.some_ : Wl → Pt → Bool
  | .nil, _ => false
  | .cons w r, p => w.holds p || r.some_ p
def Sl.leads : Sl → Pt → Bool
  | .nil, _ => true
  | .cons o n w r, p => (p.below o).any fun q => called n q && w.holds q && r.leads q
end
/-! how the law draws them -/
/-- the last draw, and the draws ahead of it -/
def popI (is : List Int) : Int × List Int := (is.getLastD 0, is.dropLast)
def wlN (f : List Int → Wi × List Int) : Nat → List Int → Wl × List Int
  | 0, is => (.nil, is)
  | m + 1, is => let p := f is; let q := wlN f m p.2; (.cons p.1 q.1, q.2)
/-- the name that a draw says -/
noncomputable def stepNm (names : List Str) (n : Int) : Str := (((names ++ [("*" : Str)])[(n / 2 % (names.length + 1)).toNat]?)).getD "*"
noncomputable def slN (names : List Str) (f : List Int → Wi × List Int) : Nat → List Int → Sl × List Int
  | 0, is => (.nil, is)
  | m + 1, is => let n := (popI is).1; let p := f (popI is).2; let q := slN names f m p.2; (.cons (decide (n % 2 = 1)) (stepNm names n) p.1 q.1, q.2)
def manyS (n : Int) : Nat := match n % 4 with
  | 2 => 2
  | 3 => 3
  | _ => 1
def manyW (n : Int) : Nat := match n % 4 with
  | 0 => 2
  | 1 => 1
  | 3 => 3
  | _ => 0
noncomputable def stepsD (names : List Str) (f : List Int → Wi × List Int) (is : List Int) : Sl × List Int := slN names f (manyS (popI is).1) (popI is).2
noncomputable def wishD (names : List Str) : Nat → List Int → Wi × List Int
  | 0, is => let n := (popI is).1
    if n % 8 = 2 ∨ n % 8 = 3 then (.text (textD (n / 8)), (popI is).2) else (.any, (popI is).2)
  | d + 1, is => let n := (popI is).1
    if n % 8 = 2 ∨ n % 8 = 3 then (.text (textD (n / 8)), (popI is).2)
    else if n % 8 < 2 then (.any, (popI is).2)
    else if n % 8 < 6 then let p := stepsD names (wishD names d) (popI is).2; (.has p.1, p.2)
    else let p := wlN (wishD names d) (manyW (n / 8)) (popI is).2; (if n % 8 = 6 then (.both p.1, p.2) else (.one p.1, p.2))
/-- the list that comes back never changes from here on; old cells may have changed -/
theorem Cl.frzD {S S' J : Sto} {j : Nat} {ds : List D} (hl : S'.length = S.length) (hS : ∀ (k : Nat) (c : C), S'[k]? = some (some c) → S[k]? = some (some c) ∨ hbC S.length c = true) (hj : J[j]? = some (some (.lst ds))) (hv : hb S.length (.lst ds) = true) : Cl S (.cell (S'.length + j)) (S' ++ J) (.lst ds) S' :=
  fun Γ F μ0 G0 H0 μ G H vv t0 l s t r => by
    have hk : (S' ++ J)[S'.length + j]? = some (some (.lst ds)) := by rw [List.getElem?_append_right (by omega)]; simpa using hj
    obtain ⟨a, G', ha, sg, t', r'⟩ := t.freeze hk
    rw [List.set_append_right _ _ (by omega)] at t'
    have e : vv = .ref a := by
      cases r with
      | cell e => rw [ha] at e; cases e; rfl
    subst e
    refine ⟨μ.take S'.length, G', l.take (by rw [hl, t0.len]; exact Nat.le_refl _), sg, t'.drop fun k c h => ?_, r'.down (n := S.length) (fun k a hk e => by rw [hl]; exact take_down k a hk e) hv⟩
    rcases hS k c h with h | h
    · rw [hl]; exact t0.hbs k c h
    · rw [hl]; exact h
/-- one old cell has another row of plain things -/
theorem set_kept {S : Sto} {c : Nat} {ds : List D} (hd : hbs S.length ds = true) (k : Nat) (x : C) (h : (S.set c (some (.lst ds)))[k]? = some (some x)) : S[k]? = some (some x) ∨ hbC S.length x = true := by
  rw [List.getElem?_set] at h
  by_cases e : c = k
  · rw [if_pos e] at h
    split at h
    · cases h; right; simpa [hbC] using hd
    · cases h
  · rw [if_neg e] at h; exact .inl h
theorem ints_hb (n : Nat) (is : List Int) : hbs n (is.map D.int) = true := hbs_all.mpr fun d hd => by obtain ⟨x, _, rfl⟩ := List.mem_map.mp hd; rfl
mutual
theorem Wi.hb (n : Nat) : ∀ w : Wi, hb n w.d = true
  | .any => by simp [Wi.d, Ev.hb, Ev.hbs]
  | .text s => by simp [Wi.d, Ev.hb, Ev.hbs]
  | .has l => by simp [Wi.d, Ev.hb, Ev.hbs, Sl.hbs n l]
  | .both l => by simp [Wi.d, Ev.hb, Ev.hbs, Wl.hbs n l]
  | .one l => by simp [Wi.d, Ev.hb, Ev.hbs, Wl.hbs n l]
theorem Wl.hbs (n : Nat) : ∀ l : Wl, hbs n l.ds = true
  | .nil => rfl
  | .cons w r => by simp [Wl.ds, Ev.hbs, Wi.hb n w, Wl.hbs n r]
theorem Sl.hbs (n : Nat) : ∀ l : Sl, hbs n l.ds = true
  | .nil => rfl
  | .cons o m w r => by simp [Sl.ds, Ev.hbs, Ev.hb, Wi.hb n w, Sl.hbs n r]
end
noncomputable def b_dr_wish_s1 (f_dr_pop : Fn) : Sx :=
      (sAsg 3 (eFn 1 f_dr_pop (aCons (eVar 0) aNil)))
noncomputable def b_dr_wish_s2 : Sx :=
      (sAsg 4 (op2 gMod (eVar 3) (eC (.int 8))))
noncomputable def b_dr_wish_s3 (f_dr_text : Fn) : Sx :=
      (sIf (tOr (tTst (op2 gEq (eVar 4) (eC (.int 2)))) (tTst (op2 gEq (eVar 4) (eC (.int 3))))) (sRet (eTup (aCons (eC (.str "text")) (aCons (eFn 1 f_dr_text (aCons (op2 gDiv (eVar 3) (eC (.int 8))) aNil)) aNil)))) sNil)
noncomputable def b_dr_wish_s4 : Sx :=
      (sIf (tOr (tTst (op2 gLt (eVar 4) (eC (.int 2)))) (tTst (op2 gEq (eVar 2) (eC (.int 0))))) (sRet (eTup (aCons (eC (.str "any")) aNil))) sNil)
noncomputable def b_dr_wish_s5 (f_dr_steps : Fn) : Sx :=
      (sIf (tTst (op2 gLt (eVar 4) (eC (.int 6)))) (sRet (eTup (aCons (eC (.str "has")) (aCons (eFn 3 f_dr_steps (aCons (eVar 0) (aCons (eVar 1) (aCons (op2 gSub (eVar 2) (eC (.int 1))) aNil)))) aNil)))) sNil)
noncomputable def b_dr_wish_s6 : Sx :=
      (sAsg 5 (op2 gIdx (eLst (aCons (eC (.int 2)) (aCons (eC (.int 1)) (aCons (eC (.int 0)) (aCons (eC (.int 3)) aNil))))) (op2 gMod (op2 gDiv (eVar 3) (eC (.int 8))) (eC (.int 4)))))
noncomputable def b_dr_wish_s7 (f_dr_wish : Fn) : Sx :=
      (sRet (eTup (aCons (op2 gIdx (eLst (aCons (eC (.str "both")) (aCons (eC (.str "one")) aNil))) (op2 gSub (eVar 4) (eC (.int 6)))) (aCons (eComp (iR1 (eVar 5)) (hName 6) tYes (eFn 3 f_dr_wish (aCons (eVar 0) (aCons (eVar 1) (aCons (op2 gSub (eVar 2) (eC (.int 1))) aNil)))) [6]) aNil))))
noncomputable def b_dr_wish (f_dr_pop : Fn) (f_dr_text : Fn) (f_dr_steps : Fn) (f_dr_wish : Fn) : Sx :=
      (sSeq (b_dr_wish_s1 f_dr_pop)
      (sSeq (b_dr_wish_s2)
      (sSeq (b_dr_wish_s3 f_dr_text)
      (sSeq (b_dr_wish_s4)
      (sSeq (b_dr_wish_s5 f_dr_steps)
      (sSeq (b_dr_wish_s6)
      (b_dr_wish_s7 f_dr_wish)))))))
noncomputable def b_dr_steps_s1 : Sx :=
      (sAsg 3 (eNew aNil))
noncomputable def b_dr_steps_l1 (f_dr_pop : Fn) (f_dr_wish : Fn) : Sx :=
      (sSeq (sAsg 5 (eFn 1 f_dr_pop (aCons (eVar 0) aNil)))
      (sSeq (sAsg 6 (op2 gIdx (op2 gAdd (eVar 1) (eLst (aCons (eC (.str "*")) aNil))) (op2 gMod (op2 gDiv (eVar 5) (eC (.int 2))) (op2 gAdd (eCall gLen (aCons (eVar 1) aNil)) (eC (.int 1))))))
      (sExp (eMeth "list" gAppend (eVar 3) (aCons (eTup (aCons (op2 gIdx (eLst (aCons (eC (.str "inner")) (aCons (eC (.str "own")) aNil))) (op2 gMod (eVar 5) (eC (.int 2)))) (aCons (eVar 6) (aCons (eFn 3 f_dr_wish (aCons (eVar 0) (aCons (eVar 1) (aCons (eVar 2) aNil)))) aNil)))) aNil)))))
noncomputable def b_dr_steps_s2 (f_dr_pop : Fn) (f_dr_wish : Fn) : Sx :=
      (sFor (iR1 (op2 gIdx (eLst (aCons (eC (.int 1)) (aCons (eC (.int 1)) (aCons (eC (.int 2)) (aCons (eC (.int 3)) aNil))))) (op2 gMod (eFn 1 f_dr_pop (aCons (eVar 0) aNil)) (eC (.int 4))))) (hName 4) (b_dr_steps_l1 f_dr_pop f_dr_wish))
noncomputable def b_dr_steps_s3 : Sx :=
      (sRet (eVar 3))
noncomputable def b_dr_steps (f_dr_pop : Fn) (f_dr_wish : Fn) : Sx :=
      (sSeq (b_dr_steps_s1)
      (sSeq (b_dr_steps_s2 f_dr_pop f_dr_wish)
      (b_dr_steps_s3)))
/-- what is drawn out of the cell's draws, and what is left of them -/
noncomputable def drawF (f : List Str → Nat → List Int → D × List Int) (lim : Nat → Prop) : Fn := fun ds S => match ds with
  | [.cell c, .lst ns, .int d] => (match S[c]? with
    | some (some (.lst xs)) => (match intsOf xs, strsOf ns with
      | some is, some names => cif (okNamesW names ∧ 0 ≤ d ∧ lim d.toNat) (.ok (f names d.toNat is).1 (S.set c (some (.lst ((f names d.toNat is).2.map D.int))))) .no
      | _, _ => .no)
    | _ => .no)
  | _ => .no
noncomputable def fn_dr_wish (k : Nat) : Fn := drawF (fun names d is => ((wishD names d is).1.d, (wishD names d is).2)) fun d => 2 * d + 1 ≤ k
noncomputable def fn_dr_steps (k : Nat) : Fn := drawF (fun names d is => (.lst (stepsD names (wishD names d) is).1.ds, (stepsD names (wishD names d) is).2)) fun d => 2 * d + 2 ≤ k
theorem drawF_eq {f : List Str → Nat → List Int → D × List Int} {lim : Nat → Prop} {c d : Nat} {names : List Str} {is : List Int} {S : Sto} (hs : S[c]? = some (some (.lst (is.map D.int)))) (hn : okNamesW names) (hl : lim d) :
    drawF f lim [.cell c, .lst (names.map D.str), .int (d : Int)] S = .ok (f names d is).1 (S.set c (some (.lst ((f names d is).2.map D.int)))) := by
  simp only [drawF, hs, intsOf_map, strsOf_map]
  rw [cif_pos ⟨hn, by omega, by simpa using hl⟩]
  simp
theorem drawF_no {f : List Str → Nat → List Int → D × List Int} {lim : Nat → Prop} (h : ∀ d, ¬ lim d) (ds : List D) (S : Sto) : drawF f lim ds S = .no := by
  unfold drawF
  split
  · split
    · split
      · rw [cif_neg fun q => h _ q.2.2]
      · rfl
    · rfl
  · rfl
theorem fn_dr_wish_0 (ds : List D) (S : Sto) : fn_dr_wish 0 ds S = .no := drawF_no (fun d h => by omega) ds S
theorem fn_dr_steps_0 (ds : List D) (S : Sto) : fn_dr_steps 0 ds S = .no := drawF_no (fun d h => by omega) ds S
theorem drawF_ref {f : List Str → Nat → List Int → D × List Int} {lim : Nat → Prop} {n : Nat} {body : Sx}
    (h : ∀ (c d : Nat) (names : List Str) (is : List Int) (S : Sto), S[c]? = some (some (.lst (is.map D.int))) → okNamesW names → lim d → Ref S (.ok (f names d is).1 (S.set c (some (.lst ((f names d is).2.map D.int))))) (runB n body [.cell c, .lst (names.map D.str), .int (d : Int)] S)) (ds : List D) (S : Sto) :
    Ref S (drawF f lim ds S) (runB n body ds S) := by
  unfold drawF
  split
  · rename_i c ns d
    split
    · rename_i xs hx
      split
      · rename_i is names hi hn
        by_cases hc : okNamesW names ∧ 0 ≤ d ∧ lim d.toNat
        · rw [cif_pos hc]
          have e1 := intsOf_some hi
          have e2 := strsOf_some hn
          subst e1 e2
          obtain ⟨m, rfl⟩ := Int.eq_ofNat_of_zero_le hc.2.1
          exact h c m names is S hx hc.1 (by simpa using hc.2.2)
        · rw [cif_neg hc]; trivial
      · trivial
    · trivial
  · trivial
theorem mod4 (m : Int) : m % 4 = 0 ∨ m % 4 = 1 ∨ m % 4 = 2 ∨ m % 4 = 3 := by omega
theorem manyW_at (m : Int) : atI [D.int 2, .int 1, .int 0, .int 3] (m % 4) = some (.int (manyW m : Nat)) := by
  unfold manyW
  rcases mod4 m with h | h | h | h <;> rw [h] <;> rfl
theorem manyS_at (m : Int) : atI [D.int 1, .int 1, .int 2, .int 3] (m % 4) = some (.int (manyS m : Nat)) := by
  unfold manyS
  rcases mod4 m with h | h | h | h <;> rw [h] <;> rfl
theorem manyW_le (m : Int) : manyW m ≤ 3 := by unfold manyW; split <;> omega
theorem manyS_le (m : Int) : 1 ≤ manyS m ∧ manyS m ≤ 3 := by unfold manyS; split <;> omega
theorem get_set {S : Sto} {c : Nat} {x : Option C} (h : ∃ y, S[c]? = some y) : (S.set c x)[c]? = some x := by
  obtain ⟨y, h⟩ := h
  exact List.getElem?_set_self (List.getElem?_eq_some_iff.mp h).1
theorem wish_many (k d : Nat) (hk : 2 * d + 1 ≤ k) (names : List Str) (hn : okNamesW names) (c : Nat) (x2 x3 x4 x5 : Option D) : ∀ (items : List D) (is : List Int) (acc : List D) (S : Sto) (x6 : Option D), S[c]? = some (some (.lst (is.map D.int))) → x2 = some (.int ((d : Int) + 1)) → acc.length + items.length ≤ 100 →
    compL still (hName 6) tYes (eFn 3 (fn_dr_wish k) (aCons (eVar 0) (aCons (eVar 1) (aCons (op2 gSub (eVar 2) (eC (.int 1))) aNil)))) [some (.cell c), some (.lst (names.map D.str)), x2, x3, x4, x5, x6] items acc S =
      .ok (acc ++ (wlN (wishD names d) items.length is).1.ds) (S.set c (some (.lst ((wlN (wishD names d) items.length is).2.map D.int))))
  | [], is, acc, S, x6, hs, hx, hz => by
    have hS : S.set c (some (.lst (is.map D.int))) = S := by
      apply List.ext_getElem?
      intro i
      rw [List.getElem?_set]
      by_cases ei : c = i
      · subst ei; rw [if_pos rfl, if_pos (List.getElem?_eq_some_iff.mp hs).1, hs]
      · rw [if_neg ei]
    simp [wlN, Wl.ds, hS]
  | it :: r, is, acc, S, x6, hs, hx, hz => by
    simp only [List.length_cons] at hz
    subst hx
    have hw := drawF_eq (f := fun names d is => ((wishD names d is).1.d, (wishD names d is).2)) (lim := fun d => 2 * d + 1 ≤ k) hs hn hk
    have ih := wish_many k d hk names hn c (some (.int ((d : Int) + 1))) x3 x4 x5 r (wishD names d is).2 (acc ++ [(wishD names d is).1.d]) (S.set c (some (.lst ((wishD names d is).2.map D.int)))) x6 (get_set ⟨_, hs⟩) rfl (by simp; omega)
    have hsz : acc.length < sizeLine := by rw [sizeLine_val]; omega
    have hw' : fn_dr_wish k [.cell c, .lst (names.map D.str), .int (d : Int)] S = .ok (wishD names d is).1.d (S.set c (some (.lst ((wishD names d is).2.map D.int)))) := hw
    simp [wlN, Wl.ds]
    simp at ih
    simp [hw', hsz, ih]
theorem pop_at {S : Sto} {c : Nat} {is : List Int} (h : S[c]? = some (some (.lst (is.map D.int)))) : fn_dr_pop [.cell c] S = .ok (.int (popI is).1) (S.set c (some (.lst ((popI is).2.map D.int)))) := pop_eq h
theorem ref_dr_wish (k : Nat) (ds : List D) (S : Sto) : Ref S (fn_dr_wish (k + 1) ds S) (runB 7 (b_dr_wish fn_dr_pop fn_dr_text (fn_dr_steps k) (fn_dr_wish k)) ds S) := by
  refine drawF_ref (fun c d names is S hs hn hk => ?_) ds S
  have hp := pop_at hs
  have hs1 : (S.set c (some (C.lst ((popI is).2.map D.int))))[c]? = some (some (.lst ((popI is).2.map D.int))) := get_set ⟨_, hs⟩
  generalize hn1 : (popI is).1 = n at hp
  generalize hi1 : (popI is).2 = is1 at hp hs1
  have g1 : b_dr_wish_s1 fn_dr_pop [some (.cell c), some (.lst (names.map D.str)), some (.int (d : Int)), none, none, none, none] S = .nx [some (.cell c), some (.lst (names.map D.str)), some (.int (d : Int)), some (.int n), none, none, none] (S.set c (some (.lst (is1.map D.int)))) := by
    simp [b_dr_wish_s1, hp]
  have g2 : ∀ S, b_dr_wish_s2 [some (.cell c), some (.lst (names.map D.str)), some (.int (d : Int)), some (.int n), none, none, none] S = .nx [some (.cell c), some (.lst (names.map D.str)), some (.int (d : Int)), some (.int n), some (.int (n % 8)), none, none] S := fun S => by
    simp [b_dr_wish_s2]
  have ht := text_eq (n / 8)
  have k0 := Int.emod_nonneg n (show (8 : Int) ≠ 0 by decide)
  have k8 := Int.emod_lt_of_pos n (show (0 : Int) < 8 by decide)
  by_cases hA : n % 8 = 2 ∨ n % 8 = 3
  · have e : wishD names d is = (.text (textD (n / 8)), is1) := by
      cases d <;> simp [wishD, hn1, hi1, hA]
    have g3 : b_dr_wish_s3 fn_dr_text [some (.cell c), some (.lst (names.map D.str)), some (.int (d : Int)), some (.int n), some (.int (n % 8)), none, none] (S.set c (some (.lst (is1.map D.int)))) = .rt (.tup [.str "text", .str (textD (n / 8))]) (S.set c (some (.lst (is1.map D.int)))) := by
      rcases hA with h | h <;> simp [b_dr_wish_s3, h, ht]
    rw [e]
    exact Ref.self (by simp [runB, b_dr_wish, g1, g2, g3, Wi.d])
  · have h2 : ¬ n % 8 = 2 := fun e => hA (.inl e)
    have h3 : ¬ n % 8 = 3 := fun e => hA (.inr e)
    have g3 : ∀ S, b_dr_wish_s3 fn_dr_text [some (.cell c), some (.lst (names.map D.str)), some (.int (d : Int)), some (.int n), some (.int (n % 8)), none, none] S = .nx [some (.cell c), some (.lst (names.map D.str)), some (.int (d : Int)), some (.int n), some (.int (n % 8)), none, none] S := fun S => by
      simp [b_dr_wish_s3, h2, h3]
    by_cases hB : n % 8 < 2 ∨ d = 0
    · have e : wishD names d is = (.any, is1) := by
        cases d with
        | zero => simp [wishD, hn1, hi1, hA]
        | succ d => simp [wishD, hn1, hi1, hA]; intro h; rcases hB with h' | h' <;> omega
      have g4 : b_dr_wish_s4 [some (.cell c), some (.lst (names.map D.str)), some (.int (d : Int)), some (.int n), some (.int (n % 8)), none, none] (S.set c (some (.lst (is1.map D.int)))) = .rt (.tup [.str "any"]) (S.set c (some (.lst (is1.map D.int)))) := by
        by_cases h : n % 8 < 2
        · simp [b_dr_wish_s4, h]
        · have hd : d = 0 := by rcases hB with h' | h'; exact absurd h' h; exact h'
          subst hd
          simp [b_dr_wish_s4, h]
      rw [e]
      exact Ref.self (by simp [runB, b_dr_wish, g1, g2, g3, g4, Wi.d])
    · have hb2 : ¬ n % 8 < 2 := fun e => hB (.inl e)
      obtain ⟨d, rfl⟩ : ∃ e, d = e + 1 := ⟨d - 1, by have : d ≠ 0 := fun e => hB (.inr e); omega⟩
      have hd1 : ((d + 1 : Nat) : Int) = (d : Int) + 1 := by omega
      simp only [hd1] at g1 g2 g3
      have g4 : ∀ S, b_dr_wish_s4 [some (.cell c), some (.lst (names.map D.str)), some (.int ((d : Int) + 1)), some (.int n), some (.int (n % 8)), none, none] S = .nx [some (.cell c), some (.lst (names.map D.str)), some (.int ((d : Int) + 1)), some (.int n), some (.int (n % 8)), none, none] S := fun S => by
        have : ¬ ((d : Int) + 1 = 0) := by omega
        simp [b_dr_wish_s4, hb2, this]
      by_cases hC : n % 8 < 6
      · have e : wishD names (d + 1) is = (.has (stepsD names (wishD names d) is1).1, (stepsD names (wishD names d) is1).2) := by
          simp [wishD, hn1, hi1, hA, hb2, hC]
        have hst : fn_dr_steps k [.cell c, .lst (names.map D.str), .int (d : Int)] (S.set c (some (.lst (is1.map D.int)))) = _ := drawF_eq hs1 hn (show 2 * d + 2 ≤ k by omega)
        have g5 : b_dr_wish_s5 (fn_dr_steps k) [some (.cell c), some (.lst (names.map D.str)), some (.int ((d : Int) + 1)), some (.int n), some (.int (n % 8)), none, none] (S.set c (some (.lst (is1.map D.int)))) = .rt (Wi.has (stepsD names (wishD names d) is1).1).d (S.set c (some (.lst ((stepsD names (wishD names d) is1).2.map D.int)))) := by
          simp at hst
          simp [b_dr_wish_s5, hC, hst, Wi.d]
        rw [e]
        exact Ref.self (by simp [runB, b_dr_wish, g1, g2, g3, g4, g5])
      · have g5 : ∀ S, b_dr_wish_s5 (fn_dr_steps k) [some (.cell c), some (.lst (names.map D.str)), some (.int ((d : Int) + 1)), some (.int n), some (.int (n % 8)), none, none] S = .nx [some (.cell c), some (.lst (names.map D.str)), some (.int ((d : Int) + 1)), some (.int n), some (.int (n % 8)), none, none] S := fun S => by
          simp [b_dr_wish_s5, hC]
        have hm := manyW_at (n / 8)
        have hml := manyW_le (n / 8)
        generalize hmw : manyW (n / 8) = m at hm hml
        have g6 : ∀ S, b_dr_wish_s6 [some (.cell c), some (.lst (names.map D.str)), some (.int ((d : Int) + 1)), some (.int n), some (.int (n % 8)), none, none] S = .nx [some (.cell c), some (.lst (names.map D.str)), some (.int ((d : Int) + 1)), some (.int n), some (.int (n % 8)), some (.int (m : Int)), none] S := fun S => by
          simp [b_dr_wish_s6, hm]
        have hco := wish_many k d (by omega) names hn c (some (.int ((d : Int) + 1))) (some (.int n)) (some (.int (n % 8))) (some (.int (m : Int))) ((List.range m).map fun (k : Nat) => D.int (k : Int)) is1 [] (S.set c (some (.lst (is1.map D.int)))) none hs1 rfl (by simp; omega)
        simp only [List.length_map, List.length_range] at hco
        have hr : (-4611686018427387904 : Int) ≤ (m : Int) ∧ (m : Int) < 4611686018427387904 := by omega
        have g7 : b_dr_wish_s7 (fn_dr_wish k) [some (.cell c), some (.lst (names.map D.str)), some (.int ((d : Int) + 1)), some (.int n), some (.int (n % 8)), some (.int (m : Int)), none] (S.set c (some (.lst (is1.map D.int)))) =
            .rt (if n % 8 = 6 then Wi.both (wlN (wishD names d) m is1).1 else Wi.one (wlN (wishD names d) m is1).1).d (S.set c (some (.lst ((wlN (wishD names d) m is1).2.map D.int)))) := by
          have h67 : n % 8 = 6 ∨ n % 8 = 7 := by omega
          simp at hco
          rcases h67 with h | h
          · rw [h] at hco
            simp [b_dr_wish_s7, h, hr, intsD_zero, wipeE, hco, Wi.d]
          · rw [h] at hco
            simp [b_dr_wish_s7, h, hr, intsD_zero, wipeE, hco, Wi.d]
        have e : wishD names (d + 1) is = (if n % 8 = 6 then Wi.both (wlN (wishD names d) m is1).1 else Wi.one (wlN (wishD names d) m is1).1, (wlN (wishD names d) m is1).2) := by
          simp only [wishD, hn1, hi1, if_neg hA, if_neg hb2, if_neg hC, hmw]
          split <;> rfl
        rw [e]
        exact Ref.self (by simp [runB, b_dr_wish, g1, g2, g3, g4, g5, g6, g7])
theorem app_at {S S' : Sto} (h : S'.length = S.length) (x : Option C) : (S' ++ [x])[S.length]? = some x := by rw [← h]; simp
theorem app_put {S S' : Sto} (h : S'.length = S.length) (x y : Option C) : (S' ++ [x]).set S.length y = S' ++ [y] := by rw [← h]; simp
theorem app_old {S' : Sto} {c : Nat} {y : Option C} (h : S'[c]? = some y) (x : Option C) : (S' ++ [x])[c]? = some y := by rw [List.getElem?_append_left (List.getElem?_eq_some_iff.mp h).1]; exact h
theorem app_set {S' : Sto} {c : Nat} {y : Option C} (h : S'[c]? = some y) (x z : Option C) : (S' ++ [x]).set c z = S'.set c z ++ [x] := List.set_append_left _ _ (List.getElem?_eq_some_iff.mp h).1
theorem stepNm_at (names : List Str) (n : Int) : atI (names.map D.str ++ [D.str "*"]) (n / 2 % ((names.length : Int) + 1)) = some (.str (stepNm names n)) := by
  obtain ⟨j, x, e1, _, hj, ha, _⟩ := atI_mod (names ++ [("*" : Str)]) (by simp) (n / 2)
  rw [show ((names ++ [("*" : Str)]).length : Int) = (names.length : Int) + 1 by simp] at e1 ha
  have e : names.map D.str ++ [D.str "*"] = (names ++ [("*" : Str)]).map D.str := by simp
  rw [e, atI_map, ha]
  unfold stepNm
  rw [e1, show ((j : Int)).toNat = j by omega, hj]; rfl
theorem stepNm_mem (names : List Str) (n : Int) : stepNm names n ∈ names ∨ stepNm names n = "*" := by
  have := stepNm_at names n
  rw [show names.map D.str ++ [D.str "*"] = (names ++ [("*" : Str)]).map D.str by simp, atI_map] at this
  obtain ⟨x, hx, e⟩ := Option.map_eq_some_iff.mp this
  simp at e
  unfold atI at hx
  obtain ⟨j, _, hj⟩ := Option.bind_eq_some_iff.mp hx
  have := List.mem_of_getElem? hj
  rw [e] at this
  simpa using this
theorem way_at (n : Int) : atI [D.str "inner", .str "own"] (n % 2) = some (.str (wayS (decide (n % 2 = 1)))) := by
  have h : n % 2 = 0 ∨ n % 2 = 1 := by omega
  rcases h with h | h <;> rw [h] <;> rfl
theorem steps_turn (k d : Nat) (hk : 2 * d + 1 ≤ k) {names : List Str} (hn : okNamesW names) {c : Nat} {S : Sto} (hs : ∃ y, S[c]? = some y) (is : List Int) (acc : List D) (hz : acc.length ≤ 100) (x4 x5 x6 : Option D) :
    b_dr_steps_l1 fn_dr_pop (fn_dr_wish k) [some (.cell c), some (.lst (names.map D.str)), some (.int (d : Int)), some (.cell S.length), x4, x5, x6] (S.set c (some (.lst (is.map D.int))) ++ [some (.lst acc)]) =
      .nx [some (.cell c), some (.lst (names.map D.str)), some (.int (d : Int)), some (.cell S.length), x4, some (.int (popI is).1), some (.str (stepNm names (popI is).1))]
        (S.set c (some (.lst ((wishD names d (popI is).2).2.map D.int))) ++ [some (.lst (acc ++ [.tup [.str (wayS (decide ((popI is).1 % 2 = 1))), .str (stepNm names (popI is).1), (wishD names d (popI is).2).1.d]]))]) := by
  have h0 : (S.set c (some (C.lst (is.map D.int))))[c]? = some (some (.lst (is.map D.int))) := get_set hs
  have hp := pop_at (app_old h0 (some (.lst acc)))
  rw [app_set h0, List.set_set] at hp
  generalize (popI is).1 = n at hp ⊢
  generalize (popI is).2 = is1 at hp ⊢
  have h1 : (S.set c (some (C.lst (is1.map D.int))))[c]? = some (some (.lst (is1.map D.int))) := get_set hs
  have hw : fn_dr_wish k [.cell c, .lst (names.map D.str), .int (d : Int)] (S.set c (some (.lst (is1.map D.int))) ++ [some (.lst acc)]) = _ := drawF_eq (app_old h1 (some (.lst acc))) hn hk
  rw [app_set h1, List.set_set] at hw
  have h2 := app_at (S := S) (S' := S.set c (some (.lst ((wishD names d is1).2.map D.int)))) (by simp) (some (.lst acc))
  have h3 := app_at (S := S) (S' := S.set c (some (.lst (is1.map D.int)))) (by simp) (some (.lst acc))
  have h4 := fun y => app_put (S := S) (S' := S.set c (some (.lst ((wishD names d is1).2.map D.int)))) (by simp) (some (.lst acc)) y
  have hnm := stepNm_at names n
  have hwy := way_at n
  have hl : names.length + 1 ≤ sizeLine := by have := hn.2.1; rw [sizeLine_val]; omega
  have hl' : names.length ≤ sizeLine := by omega
  have hp' : (0 : Int) < (names.length : Int) + 1 ∧ (names.length : Int) + 1 < 18446744073709551616 := by have := hn.2.1; omega
  have hzz : acc.length < sizeLine := by rw [sizeLine_val]; omega
  generalize hT1 : S.set c (some (C.lst (is1.map D.int))) = T1 at hp hw h3
  generalize hT2 : S.set c (some (C.lst ((wishD names d is1).2.map D.int))) = T2 at hw h2 h4 ⊢
  simp [b_dr_steps_l1, hp, hnm, hwy, hl, hl', hp', hw, h2, h3, h4, hzz]
theorem steps_loop (k d : Nat) (hk : 2 * d + 1 ≤ k) {names : List Str} (hn : okNamesW names) {c : Nat} {S : Sto} (hs : ∃ y, S[c]? = some y) : ∀ (items : List D) (is : List Int) (acc : List D) (x4 x5 x6 : Option D), acc.length + items.length ≤ 100 → ∃ x4' x5' x6',
    forL still (hName 4) (b_dr_steps_l1 fn_dr_pop (fn_dr_wish k)) items [some (.cell c), some (.lst (names.map D.str)), some (.int (d : Int)), some (.cell S.length), x4, x5, x6] (S.set c (some (.lst (is.map D.int))) ++ [some (.lst acc)]) =
      .nx [some (.cell c), some (.lst (names.map D.str)), some (.int (d : Int)), some (.cell S.length), x4', x5', x6']
        (S.set c (some (.lst ((slN names (wishD names d) items.length is).2.map D.int))) ++ [some (.lst (acc ++ (slN names (wishD names d) items.length is).1.ds))])
  | [], is, acc, x4, x5, x6, hz => ⟨x4, x5, x6, by simp [slN, Sl.ds]⟩
  | it :: r, is, acc, x4, x5, x6, hz => by
    simp only [List.length_cons] at hz
    have ht := steps_turn k d hk hn hs is acc (by omega) (some it) x5 x6
    obtain ⟨x4', x5', x6', ih⟩ := steps_loop k d hk hn hs r (wishD names d (popI is).2).2 (acc ++ [.tup [.str (wayS (decide ((popI is).1 % 2 = 1))), .str (stepNm names (popI is).1), (wishD names d (popI is).2).1.d]]) (some it) (some (.int (popI is).1)) (some (.str (stepNm names (popI is).1))) (by simp; omega)
    refine ⟨x4', x5', x6', ?_⟩
    rw [forL_still_cons]
    simp only [hName_eq, List.set_cons_succ, List.set_cons_zero]
    simp only [slN, Sl.ds, List.length_cons]
    simp [ht]
    simp at ih
    simp [ih]
theorem ref_dr_steps (k : Nat) (ds : List D) (S : Sto) : Ref S (fn_dr_steps (k + 1) ds S) (runB 7 (b_dr_steps fn_dr_pop (fn_dr_wish k)) ds S) := by
  refine drawF_ref (fun c d names is S hs hn hk => ?_) ds S
  have hp := pop_at (app_old hs (some (.lst [])))
  rw [app_set hs] at hp
  have hm := manyS_at (popI is).1
  have hml := manyS_le (popI is).1
  obtain ⟨x4, x5, x6, hl⟩ := steps_loop k d (by omega) hn (S := S) ⟨_, hs⟩ ((List.range (manyS (popI is).1)).map fun (k : Nat) => D.int (k : Int)) (popI is).2 [] none none none (by simp; omega)
  simp only [List.length_map, List.length_range, List.nil_append] at hl
  have e : stepsD names (wishD names d) is = slN names (wishD names d) (manyS (popI is).1) (popI is).2 := rfl
  simp only [e]
  generalize manyS (popI is).1 = m at hm hml hl e ⊢
  generalize hsl : slN names (wishD names d) m (popI is).2 = sl at hl ⊢
  generalize (popI is).1 = n at hp hm
  have hr : (-4611686018427387904 : Int) ≤ (m : Int) ∧ (m : Int) < 4611686018427387904 := by omega
  have g2 : b_dr_steps_s2 fn_dr_pop (fn_dr_wish k) [some (.cell c), some (.lst (names.map D.str)), some (.int (d : Int)), some (.cell S.length), none, none, none] (S ++ [some (.lst [])]) =
      .nx [some (.cell c), some (.lst (names.map D.str)), some (.int (d : Int)), some (.cell S.length), x4, x5, x6] (S.set c (some (.lst (sl.2.map D.int))) ++ [some (.lst sl.1.ds)]) := by
    simp [b_dr_steps_s2, hp, hm, hr, intsD_zero, hl]
  refine Ref.ok (v2 := .cell ((S.set c (some (.lst (sl.2.map D.int)))).length + 0)) (S2 := S.set c (some (.lst (sl.2.map D.int))) ++ [some (.lst sl.1.ds)]) ?_ (Cl.frzD (by simp) (set_kept (ints_hb _ _)) (j := 0) rfl (by simp only [Ev.hb]; exact Sl.hbs _ _))
  simp [runB, b_dr_steps, b_dr_steps_s1, g2, b_dr_steps_s3]
end Ev

/-! copies of wishes and papers -/
namespace Ev
open PySem PySem.Spec PyProof.Rows L2
mutual
/-- how long its rows are -/
def Wi.wd : Wi → Nat
  | .any => 0
  | .text _ => 0
  | .has l => max l.ds.length l.wd
  | .both l => max l.ds.length l.wd
  | .one l => max l.ds.length l.wd
def Wl.wd : Wl → Nat
  | .nil => 0
  | .cons w r => max w.wd r.wd
def Sl.wd : Sl → Nat
  | .nil => 0
  | .cons _ _ w r => max w.wd r.wd
end
noncomputable def b_dr_copy_wish_s1 (f_dr_copy_steps : Fn) : Sx :=
      (sIf (tTst (op2 gEq (op2 gIdx (eVar 0) (eC (.int 0))) (eC (.str "has")))) (sRet (eTup (aCons (eC (.str "has")) (aCons (eFn 1 f_dr_copy_steps (aCons (op2 gIdx (eVar 0) (eC (.int 1))) aNil)) aNil)))) sNil)
noncomputable def b_dr_copy_wish_s2 (f_dr_copy_wish : Fn) : Sx :=
      (sIf (tTst (op2 (gIn false) (op2 gIdx (eVar 0) (eC (.int 0))) (eTup (aCons (eC (.str "both")) (aCons (eC (.str "one")) aNil))))) (sRet (eTup (aCons (op2 gIdx (eVar 0) (eC (.int 0))) (aCons (eComp (iL (op2 gIdx (eVar 0) (eC (.int 1)))) (hName 1) tYes (eFn 1 f_dr_copy_wish (aCons (eVar 1) aNil)) [1]) aNil)))) sNil)
noncomputable def b_dr_copy_wish_s3 : Sx :=
      (sRet (eVar 0))
noncomputable def b_dr_copy_wish (f_dr_copy_steps : Fn) (f_dr_copy_wish : Fn) : Sx :=
      (sSeq (b_dr_copy_wish_s1 f_dr_copy_steps)
      (sSeq (b_dr_copy_wish_s2 f_dr_copy_wish)
      (b_dr_copy_wish_s3)))
noncomputable def b_dr_copy_steps_s1 (f_dr_copy_wish : Fn) : Sx :=
      (sRet (eComp (iL (eVar 0)) (hTup 3 (hCons (hName 1) (hCons (hName 2) (hCons (hName 3) hNil)))) tYes (eTup (aCons (eVar 1) (aCons (eVar 2) (aCons (eFn 1 f_dr_copy_wish (aCons (eVar 3) aNil)) aNil)))) [1, 2, 3]))
noncomputable def b_dr_copy_steps (f_dr_copy_wish : Fn) : Sx :=
      (b_dr_copy_steps_s1 f_dr_copy_wish)
noncomputable def fn_dr_copy_wish (k : Nat) : Fn := fnOf (fun w : Wi => [w.d]) (fun w => w.dp ≤ k ∧ w.wd ≤ 1000) fun w S => .ok w.d S
noncomputable def fn_dr_copy_steps (k : Nat) : Fn := fnOf (fun l : Sl => [.lst l.ds]) (fun l => l.dp ≤ k ∧ l.ds.length ≤ 1000 ∧ l.wd ≤ 1000) fun l S => .ok (.lst l.ds) S
theorem Wi.dp_pos : ∀ w : Wi, 1 ≤ w.dp := fun w => by cases w <;> simp [Wi.dp]
theorem Wl.dp_pos : ∀ w : Wl, 1 ≤ w.dp
  | .nil => by simp [Wl.dp]
  | .cons w r => by have := Wl.dp_pos r; simp only [Wl.dp]; omega
theorem Sl.dp_pos : ∀ w : Sl, 1 ≤ w.dp
  | .nil => by simp [Sl.dp]
  | .cons _ _ w r => by have := Sl.dp_pos r; simp only [Sl.dp]; omega
theorem fn_dr_copy_wish_0 (ds : List D) (S : Sto) : fn_dr_copy_wish 0 ds S = .no := fnOf_no (fun w h => by have := w.dp_pos; omega) ds
theorem fn_dr_copy_steps_0 (ds : List D) (S : Sto) : fn_dr_copy_steps 0 ds S = .no := fnOf_no (fun w h => by have := w.dp_pos; omega) ds
theorem Sl.inj1 : ∀ a b : Sl, [D.lst a.ds] = [D.lst b.ds] → a = b := fun a b h => Sl.inj a b (by simpa using h)
theorem copy_wish_eq {k : Nat} (w : Wi) (h1 : w.dp ≤ k) (h2 : w.wd ≤ 1000) (S : Sto) : fn_dr_copy_wish k [w.d] S = .ok w.d S := fnOf_eq (a := w) (Ev.inj1 Wi.inj) ⟨h1, h2⟩
theorem copy_steps_eq {k : Nat} (l : Sl) (h1 : l.dp ≤ k) (h2 : l.ds.length ≤ 1000) (h3 : l.wd ≤ 1000) (S : Sto) : fn_dr_copy_steps k [.lst l.ds] S = .ok (.lst l.ds) S := fnOf_eq (a := l) Sl.inj1 ⟨h1, h2, h3⟩
theorem copy_ws (k : Nat) (x : Option D) : ∀ (l : Wl) (acc : List D) (S : Sto) (y : Option D), l.dp ≤ k → l.wd ≤ 1000 → acc.length + l.ds.length ≤ 2000 →
    compL still (hName 1) tYes (eFn 1 (fn_dr_copy_wish k) (aCons (eVar 1) aNil)) [x, y] l.ds acc S = .ok (acc ++ l.ds) S
  | .nil, acc, S, y, _, _, _ => by simp [Wl.ds]
  | .cons w r, acc, S, y, h1, h2, h3 => by
    simp only [Wl.dp, Wl.wd, Wl.ds, List.length_cons] at h1 h2 h3
    have ih := copy_ws k x r (acc ++ [w.d]) S y (by omega) (by omega) (by simp; omega)
    have hw := copy_wish_eq (k := k) w (by omega) (by omega) S
    have hs : acc.length < sizeLine := by rw [sizeLine_val]; omega
    simp [Wl.ds, hw, hs]
    simp at ih
    simp [ih]
theorem copy_ss (k : Nat) (x : Option D) : ∀ (l : Sl) (acc : List D) (S : Sto) (a b c : Option D), l.dp ≤ k + 1 → l.wd ≤ 1000 → acc.length + l.ds.length ≤ 2000 →
    compL still (hTup 3 (hCons (hName 1) (hCons (hName 2) (hCons (hName 3) hNil)))) tYes (eTup (aCons (eVar 1) (aCons (eVar 2) (aCons (eFn 1 (fn_dr_copy_wish k) (aCons (eVar 3) aNil)) aNil)))) [x, a, b, c] l.ds acc S = .ok (acc ++ l.ds) S
  | .nil, acc, S, a, b, c, _, _, _ => by simp [Sl.ds]
  | .cons o n w r, acc, S, a, b, c, h1, h2, h3 => by
    simp only [Sl.dp, Sl.wd, Sl.ds, List.length_cons] at h1 h2 h3
    have ih := copy_ss k x r (acc ++ [.tup [.str (wayS o), .str n, w.d]]) S a b c (by omega) (by omega) (by simp; omega)
    have hw := copy_wish_eq (k := k) w (by omega) (by omega) S
    have hs : acc.length < sizeLine := by rw [sizeLine_val]; omega
    simp [Sl.ds, hw, hs]
    simp at ih
    simp [ih]
theorem ref_dr_copy_steps (k : Nat) (ds : List D) (S : Sto) : Ref S (fn_dr_copy_steps (k + 1) ds S) (runB 4 (b_dr_copy_steps (fn_dr_copy_wish k)) ds S) := by
  refine fnOf_ref (fun l S ⟨h1, h2, h3⟩ => ?_) ds S
  have h := copy_ss k (some (.lst l.ds)) l [] S none none none h1 h3 (by simp; omega)
  refine Ref.self ?_
  simp at h
  simp [runB, b_dr_copy_steps, b_dr_copy_steps_s1, wipeE, h]
@[simp] theorem eq_any_has (S : Sto) : gEq (.str "any") (.str "has") S = .ok (.bl false) S := by rw [gEq_str (by decide +kernel) (by decide +kernel), show (("any" : Str) == "has") = false by decide +kernel]
@[simp] theorem eq_text_has (S : Sto) : gEq (.str "text") (.str "has") S = .ok (.bl false) S := by rw [gEq_str (by decide +kernel) (by decide +kernel), show (("text" : Str) == "has") = false by decide +kernel]
@[simp] theorem eq_has_has (S : Sto) : gEq (.str "has") (.str "has") S = .ok (.bl true) S := by rw [gEq_str (by decide +kernel) (by decide +kernel)]; rfl
@[simp] theorem eq_both_has (S : Sto) : gEq (.str "both") (.str "has") S = .ok (.bl false) S := by rw [gEq_str (by decide +kernel) (by decide +kernel), show (("both" : Str) == "has") = false by decide +kernel]
@[simp] theorem eq_one_has (S : Sto) : gEq (.str "one") (.str "has") S = .ok (.bl false) S := by rw [gEq_str (by decide +kernel) (by decide +kernel), show (("one" : Str) == "has") = false by decide +kernel]
theorem strs_py0 {ts : List Str} (h : ∀ t ∈ ts, PyData.strOk t = true) (S : Sto) (n : Nat) : omap (py S n) (ts.map D.str) = some (ts.map PyData.str) := omap_map fun t ht => by cases n <;> simp [py, h t ht]
theorem any_eqv_str (ts : List Str) (x : Str) : ((ts.map PyData.str).any fun z => PyData.eqv z (.str x)) = decide (x ∈ ts) := by
  induction ts with
  | nil => simp
  | cons t r ih =>
    rw [List.map_cons, List.any_cons, ih]
    simp only [PyData.eqv, List.mem_cons]
    by_cases e : t = x
    · subst e; simp
    · have e' : ¬ x = t := fun q => e q.symm
      simp [e, e']
/-- a text among texts of a tuple, of a list -/
theorem gIn_tup {x : Str} {ts : List Str} (hx : PyData.strOk x = true) (ht : ∀ t ∈ ts, PyData.strOk t = true) (S : Sto) : gIn false (.str x) (.tup (ts.map D.str)) S = .ok (.bl (decide (x ∈ ts))) S := by
  have hf : (ts.map D.str).all flatD = true := by rw [List.all_eq_true]; intro d hd; obtain ⟨t, _, rfl⟩ := List.mem_map.mp hd; rfl
  have hp : py S 0 (.str x) = some (.str x) := by simp [py, hx]
  have hx' : flatD (.str x) = true := rfl
  simp only [gIn, hf, hx', hp, strs_py0 ht S 0, Bool.and_self, if_true, any_eqv_str]
  simp
theorem kinds_ok : ∀ t ∈ (["any", "text", "has", "both", "one"] : List Str), PyData.strOk t = true := by decide +kernel
theorem bo_in {x : Str} (hx : PyData.strOk x = true) (S : Sto) : gIn false (.str x) (.tup [.str "both", .str "one"]) S = .ok (.bl (decide (x ∈ (["both", "one"] : List Str)))) S :=
  gIn_tup (ts := ["both", "one"]) hx (by decide +kernel) S
theorem ref_dr_copy_wish (k : Nat) (ds : List D) (S : Sto) : Ref S (fn_dr_copy_wish (k + 1) ds S) (runB 2 (b_dr_copy_wish (fn_dr_copy_steps k) (fn_dr_copy_wish k)) ds S) := by
  refine fnOf_ref (fun w S ⟨h1, h2⟩ => ?_) ds S
  refine Ref.self ?_
  cases w with
  | any =>
    have h := bo_in (x := "any") (by decide +kernel) S
    rw [show decide (("any" : Str) ∈ (["both", "one"] : List Str)) = false by decide +kernel] at h
    simp [runB, b_dr_copy_wish, b_dr_copy_wish_s1, b_dr_copy_wish_s2, b_dr_copy_wish_s3, Wi.d, h]
  | text s =>
    have h := bo_in (x := "text") (by decide +kernel) S
    rw [show decide (("text" : Str) ∈ (["both", "one"] : List Str)) = false by decide +kernel] at h
    simp [runB, b_dr_copy_wish, b_dr_copy_wish_s1, b_dr_copy_wish_s2, b_dr_copy_wish_s3, Wi.d, h]
  | has l =>
    simp only [Wi.dp, Wi.wd] at h1 h2
    have h := copy_steps_eq (k := k) l (by omega) (by omega) (by omega) S
    simp [runB, b_dr_copy_wish, b_dr_copy_wish_s1, Wi.d, h]
  | both l =>
    simp only [Wi.dp, Wi.wd] at h1 h2
    have h := bo_in (x := "both") (by decide +kernel) S
    rw [show decide (("both" : Str) ∈ (["both", "one"] : List Str)) = true by decide +kernel] at h
    have hc := copy_ws k (some (Wi.both l).d) l [] S none (by omega) (by omega) (by simp; omega)
    simp [Wi.d] at hc
    simp [runB, b_dr_copy_wish, b_dr_copy_wish_s1, b_dr_copy_wish_s2, Wi.d, h, wipeE, hc]
  | one l =>
    simp only [Wi.dp, Wi.wd] at h1 h2
    have h := bo_in (x := "one") (by decide +kernel) S
    rw [show decide (("one" : Str) ∈ (["both", "one"] : List Str)) = true by decide +kernel] at h
    have hc := copy_ws k (some (Wi.one l).d) l [] S none (by omega) (by omega) (by simp; omega)
    simp [Wi.d] at hc
    simp [runB, b_dr_copy_wish, b_dr_copy_wish_s1, b_dr_copy_wish_s2, Wi.d, h, wipeE, hc]
noncomputable def b_dr_copy_row_s1 (f_dr_copy_row : Fn) : Sx :=
      (sRet (eComp (iL (eVar 0)) (hName 1) tYes (eIf (tTst (op1 (gIsT "str") (eVar 1))) (eVar 1) (eTup (aCons (op2 gIdx (eVar 1) (eC (.int 0))) (aCons (eFn 1 f_dr_copy_row (aCons (op2 gIdx (eVar 1) (eC (.int 1))) aNil)) aNil)))) [1]))
noncomputable def b_dr_copy_row (f_dr_copy_row : Fn) : Sx :=
      (b_dr_copy_row_s1 f_dr_copy_row)
def Fo.wd : Fo → Nat
  | .nil => 0
  | .tx _ r => r.wd
  | .el _ k r => max (max k.ds.length k.wd) r.wd
noncomputable def fn_dr_copy_row (k : Nat) : Fn := fnOf (fun f : Fo => [.lst f.ds]) (fun f => f.dp + 1 ≤ k ∧ f.ds.length ≤ 1000 ∧ f.wd ≤ 1000) fun f S => .ok (.lst f.ds) S
theorem Fo.inj1 : ∀ a b : Fo, [D.lst a.ds] = [D.lst b.ds] → a = b := fun a b h => Fo.inj a b (by simpa using h)
theorem copy_row_eq {k : Nat} (f : Fo) (h1 : f.dp + 1 ≤ k) (h2 : f.ds.length ≤ 1000) (h3 : f.wd ≤ 1000) (S : Sto) : fn_dr_copy_row k [.lst f.ds] S = .ok (.lst f.ds) S := fnOf_eq (a := f) Fo.inj1 ⟨h1, h2, h3⟩
theorem fn_dr_copy_row_0 (ds : List D) (S : Sto) : fn_dr_copy_row 0 ds S = .no := fnOf_no (fun f h => by omega) ds
theorem copy_rs (k : Nat) (x : Option D) : ∀ (f : Fo) (acc : List D) (S : Sto) (y : Option D), f.dp ≤ k → f.wd ≤ 1000 → acc.length + f.ds.length ≤ 2000 →
    compL still (hName 1) tYes (eIf (tTst (op1 (gIsT "str") (eVar 1))) (eVar 1) (eTup (aCons (op2 gIdx (eVar 1) (eC (.int 0))) (aCons (eFn 1 (fn_dr_copy_row k) (aCons (op2 gIdx (eVar 1) (eC (.int 1))) aNil)) aNil)))) [x, y] f.ds acc S = .ok (acc ++ f.ds) S
  | .nil, acc, S, y, _, _, _ => by simp [Fo.ds]
  | .tx s r, acc, S, y, h1, h2, h3 => by
    simp only [Fo.dp, Fo.wd, Fo.ds, List.length_cons] at h1 h2 h3
    have ih := copy_rs k x r (acc ++ [.str s]) S y (by omega) (by omega) (by simp; omega)
    have hs : acc.length < sizeLine := by rw [sizeLine_val]; omega
    simp [Fo.ds, hs]
    simp at ih
    simp [ih]
  | .el n q r, acc, S, y, h1, h2, h3 => by
    simp only [Fo.dp, Fo.wd, Fo.ds, List.length_cons] at h1 h2 h3
    have ih := copy_rs k x r (acc ++ [.tup [.str n, .lst q.ds]]) S y (by omega) (by omega) (by simp; omega)
    have hw := copy_row_eq (k := k) q (by omega) (by omega) (by omega) S
    have hs : acc.length < sizeLine := by rw [sizeLine_val]; omega
    simp [Fo.ds, hw, hs]
    simp at ih
    simp [ih]
theorem ref_dr_copy_row (k : Nat) (ds : List D) (S : Sto) : Ref S (fn_dr_copy_row (k + 1) ds S) (runB 2 (b_dr_copy_row (fn_dr_copy_row k)) ds S) := by
  refine fnOf_ref (fun f S ⟨h1, h2, h3⟩ => ?_) ds S
  have h := copy_rs k (some (.lst f.ds)) f [] S none (by omega) h3 (by simp; omega)
  refine Ref.self ?_
  simp at h
  simp [runB, b_dr_copy_row, b_dr_copy_row_s1, wipeE, h]
noncomputable def b_dr_within_s1 : Sx :=
      (sAsg 1 (eLst aNil))
noncomputable def b_dr_within_l1 (f_dr_within : Fn) : Sx :=
      (sIf (tNot (tTst (op1 (gIsT "str") (eVar 2)))) (sAsg 1 (op2 gAdd (op2 gAdd (eVar 1) (eLst (aCons (eVar 2) aNil))) (eFn 1 f_dr_within (aCons (eVar 2) aNil)))) sNil)
noncomputable def b_dr_within_s2 (f_dr_within : Fn) : Sx :=
      (sFor (iL (op2 gIdx (eVar 0) (eC (.int 1)))) (hName 2) (b_dr_within_l1 f_dr_within))
noncomputable def b_dr_within_s3 : Sx :=
      (sRet (eVar 1))
noncomputable def b_dr_within (f_dr_within : Fn) : Sx :=
      (sSeq (b_dr_within_s1)
      (sSeq (b_dr_within_s2 f_dr_within)
      (b_dr_within_s3)))
noncomputable def fn_dr_within (k : Nat) : Fn := fnOf (fun p : Pt => [p.d]) (fun p => (∃ n f, p = .el n f) ∧ p.dp ≤ k ∧ p.sg.length ≤ 1000) fun p S => .ok (.lst (p.kids.deep.map Pt.d)) S
theorem within_eq {k : Nat} (n : Str) (f : Fo) (h1 : f.dp + 1 ≤ k) (h2 : f.sg.length + 2 ≤ 1000) (S : Sto) : fn_dr_within k [.tup [.str n, .lst f.ds]] S = .ok (.lst (f.deep.map Pt.d)) S := fnOf_eq (a := Pt.el n f) (Ev.inj1 Pt.inj) ⟨⟨n, f, rfl⟩, h1, by simp [Pt.sg]; omega⟩
theorem fn_dr_within_0 (ds : List D) (S : Sto) : fn_dr_within 0 ds S = .no := fnOf_no (fun p h => by obtain ⟨⟨n, f, e⟩, h, _⟩ := h; rw [e] at h; simp [Pt.dp] at h) ds
theorem deep_len : ∀ f : Fo, f.deep.length ≤ f.sg.length
  | .nil => by simp [Fo.deep]
  | .tx s r => by have := deep_len r; simp [Fo.deep, Fo.sg]; omega
  | .el n k r => by have := deep_len r; have := deep_len k; simp [Fo.deep, Fo.sg]; omega
theorem within_loop (k : Nat) (x : Option D) (S : Sto) : ∀ (f : Fo) (acc : List D) (y : Option D), f.dp ≤ k → acc.length + f.sg.length ≤ 1000 → ∃ y', forL still (hName 2) (b_dr_within_l1 (fn_dr_within k)) f.ds [x, some (.lst acc), y] S = .nx [x, some (.lst (acc ++ f.deep.map Pt.d)), y'] S
  | .nil, acc, y, _, _ => ⟨y, by simp [Fo.ds, Fo.deep]⟩
  | .tx s r, acc, y, h1, h2 => by
    simp only [Fo.dp, Fo.sg, List.length_cons] at h1 h2
    obtain ⟨y', ih⟩ := within_loop k x S r acc (some (.str s)) (by omega) (by omega)
    have ht : b_dr_within_l1 (fn_dr_within k) [x, some (.lst acc), some (.str s)] S = .nx [x, some (.lst acc), some (.str s)] S := by simp [b_dr_within_l1]
    exact ⟨y', by simp [Fo.ds, Fo.deep, ht, ih]⟩
  | .el n q r, acc, y, h1, h2 => by
    simp only [Fo.dp, Fo.sg, List.length_cons, List.length_append] at h1 h2
    have hq := deep_len q
    obtain ⟨y', ih⟩ := within_loop k x S r (acc ++ .tup [.str n, .lst q.ds] :: q.deep.map Pt.d) (some (.tup [.str n, .lst q.ds])) (by omega) (by simp; omega)
    have hw := within_eq (k := k) n q (by omega) (by omega) S
    have z1 : acc.length + 1 ≤ sizeLine := by rw [sizeLine_val]; omega
    have z2 : acc.length + 1 + q.deep.length ≤ sizeLine := by rw [sizeLine_val]; omega
    have ht : b_dr_within_l1 (fn_dr_within k) [x, some (.lst acc), some (.tup [.str n, .lst q.ds])] S = .nx [x, some (.lst (acc ++ .tup [.str n, .lst q.ds] :: q.deep.map Pt.d)), some (.tup [.str n, .lst q.ds])] S := by
      simp [b_dr_within_l1, hw, z1, z2]
    refine ⟨y', ?_⟩
    simp [Fo.ds, Fo.deep, ht, ih, Pt.d]
theorem ref_dr_within (k : Nat) (ds : List D) (S : Sto) : Ref S (fn_dr_within (k + 1) ds S) (runB 3 (b_dr_within (fn_dr_within k)) ds S) := by
  refine fnOf_ref (fun p S ⟨⟨n, f, e⟩, h1, h2⟩ => ?_) ds S
  subst e
  simp only [Pt.dp, Pt.sg, List.length_cons, List.length_append, List.length_nil] at h1 h2
  obtain ⟨y', h⟩ := within_loop k (some (Pt.el n f).d) S f [] none (by omega) (by simp; omega)
  simp [Pt.d] at h
  exact Ref.self (by simp [runB, b_dr_within, b_dr_within_s1, b_dr_within_s2, b_dr_within_s3, Pt.d, h, Pt.kids])
end Ev

/-! what the law holds a wish to ask of a part -/
namespace Ev
open PySem PySem.Spec PyProof.Rows L2
mutual
/-- how many calls deep -/
def Wi.lv : Wi → Nat
  | .any => 1
  | .text _ => 1
  | .has l => l.lv + 1
  | .both l => l.lv + 1
  | .one l => l.lv + 1
def Wl.lv : Wl → Nat
  | .nil => 1
  | .cons w r => max w.lv r.lv
def Sl.lv : Sl → Nat
  | .nil => 1
  | .cons _ _ w r => max w.lv r.lv + 1
end
mutual
/-- its texts can be compared -/
def Wi.okS : Wi → Prop
  | .any => True
  | .text s => PyData.strOk s = true
  | .has l => l.okS
  | .both l => l.okS
  | .one l => l.okS
def Wl.okS : Wl → Prop
  | .nil => True
  | .cons w r => w.okS ∧ r.okS
def Sl.okS : Sl → Prop
  | .nil => True
  | .cons _ n w r => PyData.strOk n = true ∧ w.okS ∧ r.okS
end
/-- a part that may be asked -/
structure PtOk (p : Pt) : Prop where
  el : ∃ n f, p = .el n f
  dp : p.dp ≤ 25
  sz : p.sg.length ≤ 1000
  ok : ∀ s ∈ p.sg, s.ok
theorem deep_good : ∀ (f : Fo) (K m : Nat), f.dp ≤ K → f.sg.length ≤ m → (∀ s ∈ f.sg, s.ok) → ∀ q ∈ f.deep, (∃ n k, q = .el n k) ∧ q.dp ≤ K ∧ q.sg.length ≤ m ∧ ∀ s ∈ q.sg, s.ok
  | .nil, K, m, _, _, _, q, hq => by simp [Fo.deep] at hq
  | .tx s r, K, m, h1, h2, h3, q, hq => by
    simp only [Fo.dp, Fo.sg, List.length_cons] at h1 h2
    exact deep_good r K m (by omega) (by omega) (fun x hx => h3 x (by simp [Fo.sg, hx])) q hq
  | .el n k r, K, m, h1, h2, h3, q, hq => by
    simp only [Fo.dp, Fo.sg, List.length_cons, List.length_append] at h1 h2
    simp only [Fo.deep, List.mem_cons, List.mem_append] at hq
    rcases hq with hq | hq | hq
    · subst hq
      refine ⟨⟨n, k, rfl⟩, by simp only [Pt.dp]; omega, by simp [Pt.sg]; omega, fun x hx => h3 x ?_⟩
      simp [Pt.sg, Fo.sg] at hx ⊢
      rcases hx with hx | hx | hx
      · exact .inl hx
      · exact .inr (.inl hx)
      · exact .inr (.inr (.inl hx))
    · exact deep_good k K m (by omega) (by omega) (fun x hx => h3 x (by simp [Fo.sg, hx])) q hq
    · exact deep_good r K m (by omega) (by omega) (fun x hx => h3 x (by simp [Fo.sg, hx])) q hq
theorem els_sub : ∀ (f : Fo) (q : Pt), q ∈ f.els → q ∈ f.deep
  | .nil, q, h => by simp [Fo.els] at h
  | .tx _ r, q, h => els_sub r q h
  | .el n k r, q, h => by
    simp only [Fo.els, List.mem_cons] at h
    simp only [Fo.deep, List.mem_cons, List.mem_append]
    rcases h with h | h
    · exact .inl h
    · exact .inr (.inr (els_sub r q h))
theorem PtOk.below {p : Pt} (h : PtOk p) (own : Bool) : ∀ q ∈ p.below own, PtOk q := fun q hq => by
  obtain ⟨n, f, rfl⟩ := h.el
  have h1 := h.dp
  have h2 := h.sz
  simp only [Pt.dp, Pt.sg, List.length_cons, List.length_append, List.length_nil] at h1 h2
  have hq' : q ∈ f.deep := by
    unfold Pt.below at hq
    split at hq
    · exact els_sub f q hq
    · exact hq
  obtain ⟨a, b, c, d⟩ := deep_good f 25 1000 (by omega) (by omega) (fun x hx => h.ok x (by simp [Pt.sg, hx])) q hq'
  exact ⟨a, b, c, d⟩
noncomputable def b_dr_below_s1 : Sx :=
      (sIf (tTst (op2 gEq (eVar 1) (eC (.str "own")))) (sRet (eComp (iL (op2 gIdx (eVar 0) (eC (.int 1)))) (hName 2) (tNot (tTst (op1 (gIsT "str") (eVar 2)))) (eVar 2) [2])) sNil)
noncomputable def b_dr_below_s2 (f_dr_within : Fn) : Sx :=
      (sRet (eFn 1 f_dr_within (aCons (eVar 0) aNil)))
noncomputable def b_dr_below (f_dr_within : Fn) : Sx :=
      (sSeq (b_dr_below_s1)
      (b_dr_below_s2 f_dr_within))
noncomputable def fn_dr_below : Fn := fnOf (fun a : Pt × Bool => [a.1.d, .str (wayS a.2)]) (fun a => PtOk a.1) fun a S => .ok (.lst ((a.1.below a.2).map Pt.d)) S
theorem below_inj : ∀ a b : Pt × Bool, [a.1.d, D.str (wayS a.2)] = [b.1.d, D.str (wayS b.2)] → a = b := fun a b h => by
  obtain ⟨a1, a2⟩ := a
  obtain ⟨b1, b2⟩ := b
  simp only [List.cons.injEq, D.str.injEq, and_true] at h
  rw [Pt.inj _ _ h.1, wayS_inj _ _ h.2]
theorem below_eq {p : Pt} (h : PtOk p) (o : Bool) (S : Sto) : fn_dr_below [p.d, .str (wayS o)] S = .ok (.lst ((p.below o).map Pt.d)) S := fnOf_eq (a := (p, o)) below_inj h
@[simp] theorem eq_own_own (S : Sto) : gEq (.str "own") (.str "own") S = .ok (.bl true) S := by rw [gEq_str (by decide +kernel) (by decide +kernel)]; rfl
@[simp] theorem eq_inner_own (S : Sto) : gEq (.str "inner") (.str "own") S = .ok (.bl false) S := by rw [gEq_str (by decide +kernel) (by decide +kernel), show (("inner" : Str) == "own") = false by decide +kernel]
theorem ref_dr_below (ds : List D) (S : Sto) : Ref S (fn_dr_below ds S) (runB 3 (b_dr_below (fn_dr_within 50)) ds S) := by
  refine fnOf_ref (fun a S h => ?_) ds S
  obtain ⟨p, o⟩ := a
  obtain ⟨n, f, e⟩ := h.el
  have hdp := h.dp
  have hsz := h.sz
  simp only at e hdp hsz
  subst e
  simp only [Pt.dp, Pt.sg, List.length_cons, List.length_append, List.length_nil] at hdp hsz
  refine Ref.self ?_
  cases o with
  | true =>
    have hz := (ds_sg_len f).1
    have c1 := compL_filter (chk := still) (h := hName 2) (t := tNot (tTst (op1 (gIsT "str") (eVar 2)))) (f := eVar 2) (σ := [some (Pt.el n f).d, some (.str "own"), none]) (S := S) trivial (fun d => !isS d) id f.ds (fun d hd => by
      refine ⟨_, rfl, ?_, fun _ => by simp⟩
      rcases fo_mem f d hd with ⟨s, rfl⟩ | ⟨xs, rfl⟩ <;> simp) (by rw [sizeLine_val]; omega)
    rw [filter_els, List.map_id] at c1
    simp [Pt.d] at c1
    simp [runB, b_dr_below, b_dr_below_s1, wayS, Pt.d, wipeE, c1, Pt.below, Pt.kids]
  | false =>
    have hw := within_eq (k := 50) n f (by omega) (by omega) S
    simp [runB, b_dr_below, b_dr_below_s1, b_dr_below_s2, wayS, Pt.d, hw, Pt.below, Pt.kids]
mutual
def Wi.pyd : Wi → PyData
  | .any => .tuple [.str "any"]
  | .text s => .tuple [.str "text", .str s]
  | .has l => .tuple [.str "has", .list l.ps]
  | .both l => .tuple [.str "both", .list l.ps]
  | .one l => .tuple [.str "one", .list l.ps]
def Wl.ps : Wl → List PyData
  | .nil => []
  | .cons w r => w.pyd :: r.ps
def Sl.ps : Sl → List PyData
  | .nil => []
  | .cons o n w r => .tuple [.str (wayS o), .str n, w.pyd] :: r.ps
end
mutual
theorem Wi.pl : ∀ w : Wi, plD w.pyd = true
  | .any => rfl
  | .text s => rfl
  | .has l => by simp [Wi.pyd, plD, plDs, Sl.pl l]
  | .both l => by simp [Wi.pyd, plD, plDs, Wl.pl l]
  | .one l => by simp [Wi.pyd, plD, plDs, Wl.pl l]
theorem Wl.pl : ∀ l : Wl, plDs l.ps = true
  | .nil => rfl
  | .cons w r => by simp [Wl.ps, plDs, Wi.pl w, Wl.pl r]
theorem Sl.pl : ∀ l : Sl, plDs l.ps = true
  | .nil => rfl
  | .cons o n w r => by simp [Sl.ps, plDs, plD, Wi.pl w, Sl.pl r]
end
theorem wayS_ok (o : Bool) : PyData.strOk (wayS o) = true := by cases o <;> decide +kernel
mutual
theorem Wi.py : ∀ (w : Wi) (S : Sto) (n : Nat), w.okS → 3 * w.lv ≤ n → Ev.py S n w.d = some w.pyd
  | .any, S, n, _, h => by
    simp only [Wi.lv] at h
    obtain ⟨m, rfl⟩ : ∃ m, n = m + 1 := ⟨n - 1, by omega⟩
    have k1 : PyData.strOk "any" = true := by decide +kernel
    simp [Wi.d, Ev.py, omap, Wi.pyd, k1]
  | .text s, S, n, ho, h => by
    simp only [Wi.lv] at h
    obtain ⟨m, rfl⟩ : ∃ m, n = m + 1 := ⟨n - 1, by omega⟩
    have k1 : PyData.strOk "text" = true := by decide +kernel
    have k2 : PyData.strOk s = true := ho
    simp [Wi.d, Ev.py, omap, Wi.pyd, k1, k2]
  | .has l, S, n, ho, h => by
    simp only [Wi.lv] at h
    obtain ⟨m, rfl⟩ : ∃ m, n = m + 2 := ⟨n - 2, by omega⟩
    have k1 : PyData.strOk "has" = true := by decide +kernel
    have ih := Sl.py l S m ho (by omega)
    simp [Wi.d, Ev.py, omap, Wi.pyd, k1, ih]
  | .both l, S, n, ho, h => by
    simp only [Wi.lv] at h
    obtain ⟨m, rfl⟩ : ∃ m, n = m + 2 := ⟨n - 2, by omega⟩
    have k1 : PyData.strOk "both" = true := by decide +kernel
    have ih := Wl.py l S m ho (by omega)
    simp [Wi.d, Ev.py, omap, Wi.pyd, k1, ih]
  | .one l, S, n, ho, h => by
    simp only [Wi.lv] at h
    obtain ⟨m, rfl⟩ : ∃ m, n = m + 2 := ⟨n - 2, by omega⟩
    have k1 : PyData.strOk "one" = true := by decide +kernel
    have ih := Wl.py l S m ho (by omega)
    simp [Wi.d, Ev.py, omap, Wi.pyd, k1, ih]
theorem Wl.py : ∀ (l : Wl) (S : Sto) (n : Nat), l.okS → 3 * l.lv ≤ n → omap (Ev.py S n) l.ds = some l.ps
  | .nil, S, n, _, _ => rfl
  | .cons w r, S, n, ho, h => by
    simp only [Wl.lv] at h
    have i1 := Wi.py w S n ho.1 (by omega)
    have i2 := Wl.py r S n ho.2 (by omega)
    simp [Wl.ds, omap, i1, i2, Wl.ps]
theorem Sl.py : ∀ (l : Sl) (S : Sto) (n : Nat), l.okS → 3 * l.lv ≤ n → omap (Ev.py S n) l.ds = some l.ps
  | .nil, S, n, _, _ => rfl
  | .cons o s w r, S, n, ho, h => by
    simp only [Sl.lv] at h
    obtain ⟨m, rfl⟩ : ∃ m, n = m + 1 := ⟨n - 1, by omega⟩
    have i1 := Wi.py w S m ho.2.1 (by omega)
    have i2 := Sl.py r S (m + 1) ho.2.2 (by omega)
    simp [Sl.ds, omap, Ev.py, wayS_ok o, ho.1, i1, i2, Sl.ps]
end
noncomputable def b_dr_holds_s1 : Sx :=
      (sIf (tTst (op2 gEq (op2 gIdx (eVar 1) (eC (.int 0))) (eC (.str "any")))) (sRet (eC (.bl true))) sNil)
noncomputable def b_dr_holds_s2 : Sx :=
      (sIf (tTst (op2 gEq (op2 gIdx (eVar 1) (eC (.int 0))) (eC (.str "text")))) (sRet (op2 (gIn false) (op2 gIdx (eVar 1) (eC (.int 1))) (op2 gIdx (eVar 0) (eC (.int 1))))) sNil)
noncomputable def b_dr_holds_s3 (f_dr_leads : Fn) : Sx :=
      (sIf (tTst (op2 gEq (op2 gIdx (eVar 1) (eC (.int 0))) (eC (.str "has")))) (sRet (eFn 2 f_dr_leads (aCons (eVar 0) (aCons (op2 gIdx (eVar 1) (eC (.int 1))) aNil)))) sNil)
noncomputable def b_dr_holds_s4 (f_dr_holds : Fn) : Sx :=
      (sAsg 2 (eComp (iL (op2 gIdx (eVar 1) (eC (.int 1)))) (hName 3) (tTst (eFn 2 f_dr_holds (aCons (eVar 0) (aCons (eVar 3) aNil)))) (eVar 3) [3]))
noncomputable def b_dr_holds_s5 : Sx :=
      (sIf (tTst (op2 gEq (op2 gIdx (eVar 1) (eC (.int 0))) (eC (.str "both")))) (sRet (op2 gEq (eCall gLen (aCons (eVar 2) aNil)) (eCall gLen (aCons (op2 gIdx (eVar 1) (eC (.int 1))) aNil)))) sNil)
noncomputable def b_dr_holds_s6 : Sx :=
      (sRet (op2 gGt (eCall gLen (aCons (eVar 2) aNil)) (eC (.int 0))))
noncomputable def b_dr_holds (f_dr_leads : Fn) (f_dr_holds : Fn) : Sx :=
      (sSeq (b_dr_holds_s1)
      (sSeq (b_dr_holds_s2)
      (sSeq (b_dr_holds_s3 f_dr_leads)
      (sSeq (b_dr_holds_s4 f_dr_holds)
      (sSeq (b_dr_holds_s5)
      (b_dr_holds_s6))))))
noncomputable def b_dr_leads_s1 : Sx :=
      (sIf (tTst (op2 gEq (eVar 1) (eLst aNil))) (sRet (eC (.bl true))) sNil)
noncomputable def b_dr_leads_s2 : Sx :=
      (sTgt (hTup 3 (hCons (hName 2) (hCons (hName 3) (hCons (hName 4) hNil)))) (op2 gIdx (eVar 1) (eC (.int 0))))
noncomputable def b_dr_leads_l1 (f_dr_holds : Fn) (f_dr_leads : Fn) : Sx :=
      (sIf (tAnd (tTst (op2 (gIn false) (eVar 3) (eTup (aCons (eC (.str "*")) (aCons (op2 gIdx (eVar 5) (eC (.int 0))) aNil))))) (tAnd (tTst (eFn 2 f_dr_holds (aCons (eVar 5) (aCons (eVar 4) aNil)))) (tTst (eFn 2 f_dr_leads (aCons (eVar 5) (aCons (eSl gSl (eVar 1) (oS (eC (.int 1))) oN) aNil)))))) (sRet (eC (.bl true))) sNil)
noncomputable def b_dr_leads_s3 (f_dr_below : Fn) (f_dr_holds : Fn) (f_dr_leads : Fn) : Sx :=
      (sFor (iL (eFn 2 f_dr_below (aCons (eVar 0) (aCons (eVar 2) aNil)))) (hName 5) (b_dr_leads_l1 f_dr_holds f_dr_leads))
noncomputable def b_dr_leads_s4 : Sx :=
      (sRet (eC (.bl false)))
noncomputable def b_dr_leads (f_dr_below : Fn) (f_dr_holds : Fn) (f_dr_leads : Fn) : Sx :=
      (sSeq (b_dr_leads_s1)
      (sSeq (b_dr_leads_s2)
      (sSeq (b_dr_leads_s3 f_dr_below f_dr_holds f_dr_leads)
      (b_dr_leads_s4))))
noncomputable def fn_dr_holds (k : Nat) : Fn := fnOf (fun a : Pt × Wi => [a.1.d, a.2.d]) (fun a => PtOk a.1 ∧ a.2.okS ∧ (a.2.wd ≤ 1000 ∧ a.2.lv ≤ 60) ∧ a.2.lv ≤ k) fun a S => .ok (.bl (a.2.holds a.1)) S
noncomputable def fn_dr_leads (k : Nat) : Fn := fnOf (fun a : Pt × Sl => [a.1.d, .lst a.2.ds]) (fun a => PtOk a.1 ∧ a.2.okS ∧ (a.2.wd ≤ 1000 ∧ a.2.lv ≤ 60) ∧ a.2.ds.length ≤ 1000 ∧ a.2.lv ≤ k) fun a S => .ok (.bl (a.2.leads a.1)) S
theorem Wi.lv_pos (w : Wi) : 1 ≤ w.lv := by cases w <;> simp [Wi.lv]
theorem Sl.lv_pos (w : Sl) : 1 ≤ w.lv := by cases w <;> simp [Sl.lv]
theorem fn_dr_holds_0 (ds : List D) (S : Sto) : fn_dr_holds 0 ds S = .no := fnOf_no (fun a h => by have := a.2.lv_pos; have := h.2.2.2; omega) ds
theorem fn_dr_leads_0 (ds : List D) (S : Sto) : fn_dr_leads 0 ds S = .no := fnOf_no (fun a h => by have := a.2.lv_pos; have := h.2.2.2.2; omega) ds
theorem holds_eq {k : Nat} {p : Pt} {w : Wi} (h : PtOk p) (h1 : w.okS) (h2 : w.wd ≤ 1000 ∧ w.lv ≤ 60) (h3 : w.lv ≤ k) (S : Sto) : fn_dr_holds k [p.d, w.d] S = .ok (.bl (w.holds p)) S :=
  fnOf_eq (a := (p, w)) (fun a b q => by
    obtain ⟨a1, a2⟩ := a
    obtain ⟨b1, b2⟩ := b
    simp only [List.cons.injEq, and_true] at q
    rw [Pt.inj _ _ q.1, Wi.inj _ _ q.2]) ⟨h, h1, h2, h3⟩
theorem leads_eq {k : Nat} {p : Pt} {l : Sl} (h : PtOk p) (h1 : l.okS) (h2 : l.wd ≤ 1000 ∧ l.lv ≤ 60) (h3 : l.ds.length ≤ 1000) (h4 : l.lv ≤ k) (S : Sto) : fn_dr_leads k [p.d, .lst l.ds] S = .ok (.bl (l.leads p)) S :=
  fnOf_eq (a := (p, l)) (fun a b q => by
    obtain ⟨a1, a2⟩ := a
    obtain ⟨b1, b2⟩ := b
    simp only [List.cons.injEq, D.lst.injEq, and_true] at q
    rw [Pt.inj _ _ q.1, Sl.inj _ _ q.2]) ⟨h, h1, h2, h3, h4⟩
/-- a text among the parts of a part -/
theorem eqv_in (x : Str) : ∀ f : Fo, (f.ps.any fun z => PyData.eqv z (.str x)) = decide (x ∈ f.txs)
  | .nil => by simp [Fo.ps, Fo.txs]
  | .tx s r => by
    simp only [Fo.ps, Fo.txs, List.any_cons, eqv_in x r, PyData.eqv, List.mem_cons]
    by_cases e : s = x
    · subst e; simp
    · have e' : ¬ x = s := fun q => e q.symm
      simp [e, e']
  | .el n k r => by
    show ((PyData.tuple [.str n, .list k.ps] :: r.ps).any fun z => PyData.eqv z (.str x)) = decide (x ∈ r.txs)
    rw [List.any_cons, eqv_in x r]
    simp only [PyData.eqv, Bool.false_or]
theorem gIn_fo {x : Str} {f : Fo} (hx : PyData.strOk x = true) (hf : ∀ s ∈ f.sg, s.ok) (hd : f.dp ≤ 30) (S : Sto) : gIn false (.str x) (.lst f.ds) S = .ok (.bl (hasT x f.txs)) S := by
  have hp : py S 60 (.str x) = some (.str x) := by simp [py, hx]
  have hq := Fo.py_ps f S 60 hf (by omega)
  simp only [gIn, lstOf', lstOf, hp, hq, eqv_in]
  rfl
@[simp] theorem eqk_any_any (S : Sto) : gEq (.str "any") (.str "any") S = .ok (.bl true) S := by rw [gEq_str (by decide +kernel) (by decide +kernel)]; rfl
@[simp] theorem eqk_any_text (S : Sto) : gEq (.str "any") (.str "text") S = .ok (.bl false) S := by rw [gEq_str (by decide +kernel) (by decide +kernel), show (("any" : Str) == "text") = false by decide +kernel]
@[simp] theorem eqk_any_both (S : Sto) : gEq (.str "any") (.str "both") S = .ok (.bl false) S := by rw [gEq_str (by decide +kernel) (by decide +kernel), show (("any" : Str) == "both") = false by decide +kernel]
@[simp] theorem eqk_any_one (S : Sto) : gEq (.str "any") (.str "one") S = .ok (.bl false) S := by rw [gEq_str (by decide +kernel) (by decide +kernel), show (("any" : Str) == "one") = false by decide +kernel]
@[simp] theorem eqk_text_any (S : Sto) : gEq (.str "text") (.str "any") S = .ok (.bl false) S := by rw [gEq_str (by decide +kernel) (by decide +kernel), show (("text" : Str) == "any") = false by decide +kernel]
@[simp] theorem eqk_text_both (S : Sto) : gEq (.str "text") (.str "both") S = .ok (.bl false) S := by rw [gEq_str (by decide +kernel) (by decide +kernel), show (("text" : Str) == "both") = false by decide +kernel]
@[simp] theorem eqk_text_one (S : Sto) : gEq (.str "text") (.str "one") S = .ok (.bl false) S := by rw [gEq_str (by decide +kernel) (by decide +kernel), show (("text" : Str) == "one") = false by decide +kernel]
@[simp] theorem eqk_has_any (S : Sto) : gEq (.str "has") (.str "any") S = .ok (.bl false) S := by rw [gEq_str (by decide +kernel) (by decide +kernel), show (("has" : Str) == "any") = false by decide +kernel]
@[simp] theorem eqk_has_text (S : Sto) : gEq (.str "has") (.str "text") S = .ok (.bl false) S := by rw [gEq_str (by decide +kernel) (by decide +kernel), show (("has" : Str) == "text") = false by decide +kernel]
@[simp] theorem eqk_has_both (S : Sto) : gEq (.str "has") (.str "both") S = .ok (.bl false) S := by rw [gEq_str (by decide +kernel) (by decide +kernel), show (("has" : Str) == "both") = false by decide +kernel]
@[simp] theorem eqk_has_one (S : Sto) : gEq (.str "has") (.str "one") S = .ok (.bl false) S := by rw [gEq_str (by decide +kernel) (by decide +kernel), show (("has" : Str) == "one") = false by decide +kernel]
@[simp] theorem eqk_both_any (S : Sto) : gEq (.str "both") (.str "any") S = .ok (.bl false) S := by rw [gEq_str (by decide +kernel) (by decide +kernel), show (("both" : Str) == "any") = false by decide +kernel]
@[simp] theorem eqk_both_text (S : Sto) : gEq (.str "both") (.str "text") S = .ok (.bl false) S := by rw [gEq_str (by decide +kernel) (by decide +kernel), show (("both" : Str) == "text") = false by decide +kernel]
@[simp] theorem eqk_both_both (S : Sto) : gEq (.str "both") (.str "both") S = .ok (.bl true) S := by rw [gEq_str (by decide +kernel) (by decide +kernel)]; rfl
@[simp] theorem eqk_both_one (S : Sto) : gEq (.str "both") (.str "one") S = .ok (.bl false) S := by rw [gEq_str (by decide +kernel) (by decide +kernel), show (("both" : Str) == "one") = false by decide +kernel]
@[simp] theorem eqk_one_any (S : Sto) : gEq (.str "one") (.str "any") S = .ok (.bl false) S := by rw [gEq_str (by decide +kernel) (by decide +kernel), show (("one" : Str) == "any") = false by decide +kernel]
@[simp] theorem eqk_one_text (S : Sto) : gEq (.str "one") (.str "text") S = .ok (.bl false) S := by rw [gEq_str (by decide +kernel) (by decide +kernel), show (("one" : Str) == "text") = false by decide +kernel]
@[simp] theorem eqk_one_both (S : Sto) : gEq (.str "one") (.str "both") S = .ok (.bl false) S := by rw [gEq_str (by decide +kernel) (by decide +kernel), show (("one" : Str) == "both") = false by decide +kernel]
@[simp] theorem eqk_one_one (S : Sto) : gEq (.str "one") (.str "one") S = .ok (.bl true) S := by rw [gEq_str (by decide +kernel) (by decide +kernel)]; rfl
theorem Wl.len_eq : ∀ l : Wl, l.ds.length = l.ds.length := fun _ => rfl
/-- the wishes that hold -/
def Wl.good (p : Pt) : Wl → List Wi
  | .nil => []
  | .cons w r => if w.holds p = true then w :: r.good p else r.good p
theorem Wl.good_le (p : Pt) : ∀ l : Wl, (l.good p).length ≤ l.ds.length ∧ ((l.good p).length = l.ds.length ↔ l.all p = true) ∧ (0 < (l.good p).length ↔ l.some_ p = true)
  | .nil => by simp [Wl.good, Wl.ds, Wl.all, Wl.some_]
  | .cons w r => by
    obtain ⟨h1, h2, h3⟩ := Wl.good_le p r
    simp only [Wl.good, Wl.ds, Wl.all, Wl.some_]
    cases hw : w.holds p with
    | true =>
      simp only [if_true, List.length_cons, Bool.true_and, Bool.true_or]
      exact ⟨by omega, by rw [← h2]; omega, by simp⟩
    | false =>
      simp only [Bool.false_eq_true, if_false, List.length_cons, Bool.false_and, Bool.false_or]
      exact ⟨by omega, ⟨fun h => by omega, fun h => by cases h⟩, h3⟩
theorem holds_ws (k : Nat) {p : Pt} (hp : PtOk p) (x y : Option D) : ∀ (l : Wl) (acc : List D) (S : Sto) (z : Option D), l.okS → (l.wd ≤ 1000 ∧ l.lv ≤ 60) → l.lv ≤ k → acc.length + l.ds.length ≤ 2000 →
    compL still (hName 3) (tTst (eFn 2 (fn_dr_holds k) (aCons (eVar 0) (aCons (eVar 3) aNil)))) (eVar 3) [some p.d, x, y, z] l.ds acc S = .ok (acc ++ (l.good p).map Wi.d) S
  | .nil, acc, S, z, _, _, _, _ => by simp [Wl.ds, Wl.good]
  | .cons w r, acc, S, z, h1, h2, h3, h4 => by
    simp only [Wl.okS, Wl.wd, Wl.lv, Wl.ds, List.length_cons] at h1 h2 h3 h4
    have hw := holds_eq (k := k) hp h1.1 (by omega) (by omega) S
    have hs : acc.length < sizeLine := by rw [sizeLine_val]; omega
    cases e : w.holds p with
    | true =>
      have ih := holds_ws k hp x y r (acc ++ [w.d]) S z h1.2 (by omega) (by omega) (by simp; omega)
      rw [e] at hw
      simp at ih
      simp [Wl.ds, Wl.good, hw, hs, e, ih]
    | false =>
      have ih := holds_ws k hp x y r acc S z h1.2 (by omega) (by omega) (by omega)
      rw [e] at hw
      simp [Wl.ds, Wl.good, hw, hs, e, ih]
theorem ref_dr_holds (k : Nat) (ds : List D) (S : Sto) : Ref S (fn_dr_holds (k + 1) ds S) (runB 4 (b_dr_holds (fn_dr_leads k) (fn_dr_holds k)) ds S) := by
  refine fnOf_ref (fun a S ⟨hp, h1, h2, h3⟩ => ?_) ds S
  obtain ⟨p, w⟩ := a
  simp only at hp h1 h2 h3
  refine Ref.self ?_
  cases w with
  | any => simp [runB, b_dr_holds, b_dr_holds_s1, Wi.d, Wi.holds]
  | text s =>
    obtain ⟨n, f, rfl⟩ := hp.el
    have hd := hp.dp
    simp only [Pt.dp] at hd
    have hi := gIn_fo (x := s) (f := f) h1 (fun x hx => hp.ok x (by simp [Pt.sg, hx])) (by omega) S
    simp [runB, b_dr_holds, b_dr_holds_s1, b_dr_holds_s2, Wi.d, Wi.holds, Pt.d, hi, Pt.kids]
  | has l =>
    simp only [Wi.okS, Wi.wd, Wi.lv] at h1 h2 h3
    have hl := leads_eq (k := k) hp h1 (by omega) (by omega) (by omega) S
    simp [runB, b_dr_holds, b_dr_holds_s1, b_dr_holds_s2, b_dr_holds_s3, Wi.d, Wi.holds, hl]
  | both l =>
    simp only [Wi.okS, Wi.wd, Wi.lv] at h1 h2 h3
    have hc := holds_ws k hp (some (Wi.both l).d) none l [] S none h1 (by omega) (by omega) (by simp; omega)
    obtain ⟨g1, g2, g3⟩ := Wl.good_le p l
    have z1 : (l.good p).length ≤ sizeLine := by rw [sizeLine_val]; omega
    have z2 : l.ds.length ≤ sizeLine := by rw [sizeLine_val]; omega
    have e : (((l.good p).length : Int) == (l.ds.length : Int)) = l.all p := by
      cases ha : l.all p with
      | true => have := g2.mpr ha; simp [this]
      | false =>
        have : ¬ (l.good p).length = l.ds.length := fun q => by rw [g2.mp q] at ha; cases ha
        simp; omega
    simp [Wi.d] at hc
    simp [runB, b_dr_holds, b_dr_holds_s1, b_dr_holds_s2, b_dr_holds_s3, b_dr_holds_s4, b_dr_holds_s5, Wi.d, Wi.holds, wipeE, hc, z1, z2, e]
  | one l =>
    simp only [Wi.okS, Wi.wd, Wi.lv] at h1 h2 h3
    have hc := holds_ws k hp (some (Wi.one l).d) none l [] S none h1 (by omega) (by omega) (by simp; omega)
    obtain ⟨g1, g2, g3⟩ := Wl.good_le p l
    have z1 : (l.good p).length ≤ sizeLine := by rw [sizeLine_val]; omega
    have e : decide (0 < (l.good p).length) = l.some_ p := by
      cases ha : l.some_ p with
      | true => exact decide_eq_true (g3.mpr ha)
      | false => exact decide_eq_false fun q => by rw [g3.mp q] at ha; cases ha
    simp [Wi.d] at hc
    simp [runB, b_dr_holds, b_dr_holds_s1, b_dr_holds_s2, b_dr_holds_s3, b_dr_holds_s4, b_dr_holds_s5, b_dr_holds_s6, Wi.d, Wi.holds, wipeE, hc, z1, e]
theorem called_in {n : Str} {q : Pt} (hn : PyData.strOk n = true) (hq : PyData.strOk q.nm = true) (S : Sto) : gIn false (.str n) (.tup [.str "*", .str q.nm]) S = .ok (.bl (called n q)) S := by
  have h := gIn_tup (x := n) (ts := ["*", q.nm]) hn (by
    intro t ht
    simp at ht
    rcases ht with rfl | rfl
    · decide +kernel
    · exact hq) S
  have e : decide (n ∈ (["*", q.nm] : List Str)) = called n q := by
    unfold called
    by_cases h1 : n = "*"
    · simp [h1]
    · by_cases h2 : n = q.nm
      · simp [← h2]
      · simp [h1, h2]
  rw [e] at h
  exact h
theorem PtOk.nmOk {p : Pt} (h : PtOk p) : PyData.strOk p.nm = true := by
  obtain ⟨n, f, rfl⟩ := h.el
  exact h.ok (.op n) (by simp [Pt.sg])
theorem leads_loop (k : Nat) {n : Str} {w : Wi} {r : Sl} (hn : PyData.strOk n = true) (h1 : w.okS) (h2 : r.okS) (z1 : w.wd ≤ 1000 ∧ w.lv ≤ 60) (z2 : r.wd ≤ 1000 ∧ r.lv ≤ 60) (z3 : r.ds.length ≤ 1000) (l1 : w.lv ≤ k) (l2 : r.lv ≤ k) (x a : Option D) (d0 : D) (S : Sto) : ∀ (qs : List Pt) (y : Option D), (∀ q ∈ qs, PtOk q) →
    ∃ y', forL still (hName 5) (b_dr_leads_l1 (fn_dr_holds k) (fn_dr_leads k)) (qs.map Pt.d) [x, some (.lst (d0 :: r.ds)), a, some (.str n), some w.d, y] S =
      cond (qs.any fun q => called n q && w.holds q && r.leads q) (.rt (.bl true) S) (.nx [x, some (.lst (d0 :: r.ds)), a, some (.str n), some w.d, y'] S)
  | [], y, _ => ⟨y, by simp⟩
  | q :: qs, y, hq => by
    have hp := hq q (by simp)
    obtain ⟨y', ih⟩ := leads_loop k hn h1 h2 z1 z2 z3 l1 l2 x a d0 S qs (some q.d) fun q' h => hq q' (by simp [h])
    have hc := called_in hn hp.nmOk S
    have hw := holds_eq (k := k) hp h1 z1 l1 S
    have hr := leads_eq (k := k) hp h2 z2 z3 l2 S
    have hd : ∃ f : List D, q.d = .tup [.str q.nm, .lst f] := by
      obtain ⟨m, f, rfl⟩ := hp.el
      exact ⟨f.ds, rfl⟩
    obtain ⟨fd, hd⟩ := hd
    have hcut : cutG (d0 :: r.ds) (some 1) none = r.ds := by
      have := cutG_from (d0 :: r.ds) 1
      simpa using this
    rw [hd] at hw hr ih
    refine ⟨y', ?_⟩
    have ht : b_dr_leads_l1 (fn_dr_holds k) (fn_dr_leads k) [x, some (.lst (d0 :: r.ds)), a, some (.str n), some w.d, some (.tup [.str q.nm, .lst fd])] S =
        cond (called n q && w.holds q && r.leads q) (.rt (.bl true) S) (.nx [x, some (.lst (d0 :: r.ds)), a, some (.str n), some w.d, some (.tup [.str q.nm, .lst fd])] S) := by
      cases e1 : called n q with
      | false => rw [e1] at hc; simp [b_dr_leads_l1, hc]
      | true =>
        rw [e1] at hc
        cases e2 : w.holds q with
        | false => rw [e2] at hw; simp [b_dr_leads_l1, hc, hw]
        | true =>
          rw [e2] at hw
          cases e3 : r.leads q with
          | false => rw [e3] at hr; simp [b_dr_leads_l1, hc, hw, hcut, hr]
          | true => rw [e3] at hr; simp [b_dr_leads_l1, hc, hw, hcut, hr]
    rw [List.map_cons, forL_still_cons, hd]
    simp only [hName_eq, List.set_cons_succ, List.set_cons_zero, List.any_cons, List.length_cons, List.length_nil]
    generalize (called n q && w.holds q && r.leads q) = b at ht ⊢
    cases b with
    | true => simp at ht; simp [ht]
    | false => simp at ht; simp [ht, ih]
theorem ref_dr_leads (k : Nat) (ds : List D) (S : Sto) : Ref S (fn_dr_leads (k + 1) ds S) (runB 6 (b_dr_leads fn_dr_below (fn_dr_holds k) (fn_dr_leads k)) ds S) := by
  refine fnOf_ref (fun a S ⟨hp, h1, h2, h3, h4⟩ => ?_) ds S
  obtain ⟨p, l⟩ := a
  simp only at hp h1 h2 h3 h4
  refine Ref.self ?_
  cases l with
  | nil =>
    have hnil : gEq (.lst []) (.lst []) S = .ok (.bl true) S := (gEq_same (p := .list []) rfl rfl rfl).1
    simp [runB, b_dr_leads, b_dr_leads_s1, Sl.ds, Sl.leads, hnil]
  | cons o n w r =>
    simp only [Sl.okS, Sl.wd, Sl.lv, Sl.ds, List.length_cons] at h1 h2 h3 h4
    obtain ⟨hn, hw, hr⟩ := h1
    have hb := below_eq hp o S
    obtain ⟨y', hl⟩ := leads_loop k hn hw hr (by omega) (by omega) (by omega) (by omega) (by omega) (some p.d) (some (.str (wayS o))) (.tup [.str (wayS o), .str n, w.d]) S (p.below o) none (hp.below o)
    have hpy := Sl.py (.cons o n w r) S 199 ⟨hn, hw, hr⟩ (by simp only [Sl.lv]; omega)
    have hpy2 : Ev.py S 200 (.lst (Sl.cons o n w r).ds) = some (.list (Sl.cons o n w r).ps) := by
      simp only [Ev.py, hpy, Option.map_some]
    obtain ⟨b, e1, e2⟩ := gEq_of hpy2 (y := .lst []) (q := .list []) rfl (by simp only [plD]; exact Sl.pl _) rfl
    have hb0 : b = false := by
      cases b with
      | false => rfl
      | true => have := e2.mp rfl; simp [Sl.ps] at this
    rw [hb0] at e1
    simp only [Sl.ds] at e1
    have g1 : b_dr_leads_s1 [some p.d, some (.lst (.tup [.str (wayS o), .str n, w.d] :: r.ds)), none, none, none, none] S = .nx [some p.d, some (.lst (.tup [.str (wayS o), .str n, w.d] :: r.ds)), none, none, none, none] S := by
      simp [b_dr_leads_s1, e1]
    have g2 : b_dr_leads_s2 [some p.d, some (.lst (.tup [.str (wayS o), .str n, w.d] :: r.ds)), none, none, none, none] S = .nx [some p.d, some (.lst (.tup [.str (wayS o), .str n, w.d] :: r.ds)), some (.str (wayS o)), some (.str n), some w.d, none] S := by
      simp [b_dr_leads_s2]
    have g3 : b_dr_leads_s3 fn_dr_below (fn_dr_holds k) (fn_dr_leads k) [some p.d, some (.lst (.tup [.str (wayS o), .str n, w.d] :: r.ds)), some (.str (wayS o)), some (.str n), some w.d, none] S =
        cond ((p.below o).any fun q => called n q && w.holds q && r.leads q) (.rt (.bl true) S) (.nx [some p.d, some (.lst (.tup [.str (wayS o), .str n, w.d] :: r.ds)), some (.str (wayS o)), some (.str n), some w.d, y'] S) := by
      rw [← hl]
      simp [b_dr_leads_s3, hb]
    simp only [Sl.leads, Sl.ds]
    generalize ((p.below o).any fun q => called n q && w.holds q && r.leads q) = b at g3 ⊢
    cases b with
    | true => simp at g3; simp [runB, b_dr_leads, g1, g2, g3]
    | false => simp at g3; simp [runB, b_dr_leads, g1, g2, g3, b_dr_leads_s4]
end Ev

/-! a paper's tuples side by side -/
namespace Ev
open PySem PySem.Spec PyProof.Rows L2
/-! promises by data tied to the store -/
noncomputable def fnRel {α : Type} (rel : α → List D → Sto → Prop) (r : α → Sto → R D) : Fn := fun ds S => by
  classical exact if h : ∃ a, rel a ds S then r h.choose S else .no
theorem fnRel_eq {α : Type} {rel : α → List D → Sto → Prop} {r : α → Sto → R D} {ds : List D} {S : Sto} (u : ∀ a b, rel a ds S → rel b ds S → r a S = r b S) {a : α} (h : rel a ds S) : fnRel rel r ds S = r a S := by
  have e : ∃ a, rel a ds S := ⟨a, h⟩
  unfold fnRel
  rw [dif_pos e]
  exact u _ _ e.choose_spec h
theorem fnRel_ref {α : Type} {rel : α → List D → Sto → Prop} {r : α → Sto → R D} {n : Nat} {body : Sx} (h : ∀ a ds S, rel a ds S → Ref S (r a S) (runB n body ds S)) (ds : List D) (S : Sto) : Ref S (fnRel rel r ds S) (runB n body ds S) := by
  unfold fnRel
  split
  · rename_i e; exact h _ _ _ e.choose_spec
  · trivial
theorem fnRel_no {α : Type} {rel : α → List D → Sto → Prop} {r : α → Sto → R D} {ds : List D} {S : Sto} (h : ∀ a, ¬ rel a ds S) : fnRel rel r ds S = .no := by
  unfold fnRel
  rw [dif_neg fun ⟨a, q⟩ => h a q]
/-! comprehensions over rows of things -/
theorem compL_on {α : Type} {chk : Sto → Prop} {h : Hx} {t : Tx} {f : Ex} {σ : Env} {S : Sto} (hc : chk S) (e : α → D) (p : α → Bool) (g : α → D) : ∀ (xs : List α) (acc : List D),
    (∀ x ∈ xs, ∃ σ1, h (e x) σ = some σ1 ∧ t σ1 S = .ok (p x) S ∧ (p x = true → f σ1 S = .ok (g x) S)) → acc.length + xs.length ≤ sizeLine → compL chk h t f σ (xs.map e) acc S = .ok (acc ++ (xs.filter p).map g) S
  | [], acc, _, _ => by simp [compL, hc]
  | d :: r, acc, hi, hz => by
    obtain ⟨σ1, h1, h2, h3⟩ := hi d (by simp)
    simp only [List.length_cons] at hz
    rw [List.map_cons, compL, if_pos hc]
    simp only [h1, h2]
    by_cases hp : p d = true
    · simp only [hp, if_true, h3 hp]
      rw [if_pos (by omega), compL_on hc e p g r (acc ++ [g d]) (fun d hd => hi d (by simp [hd])) (by simp; omega)]
      simp [hp]
    · simp only [hp, if_false, Bool.false_eq_true]
      rw [compL_on hc e p g r acc (fun d hd => hi d (by simp [hd])) (by omega)]
      simp [hp]
theorem compL_all {α : Type} {chk : Sto → Prop} {h : Hx} {f : Ex} {σ : Env} {S : Sto} (hc : chk S) (e : α → D) (g : α → D) (xs : List α)
    (hi : ∀ x ∈ xs, ∃ σ1, h (e x) σ = some σ1 ∧ f σ1 S = .ok (g x) S) (hz : xs.length ≤ sizeLine) : compL chk h tYes f σ (xs.map e) [] S = .ok (xs.map g) S := by
  have := compL_on (t := tYes) (f := f) (h := h) (σ := σ) hc e (fun _ => true) g xs [] (fun d hd => by obtain ⟨σ1, a, b⟩ := hi d hd; exact ⟨σ1, a, rfl, fun _ => b⟩) (by simpa using hz)
  rw [List.filter_eq_self.mpr (fun _ _ => rfl), List.nil_append] at this
  exact this
theorem range_map {α β : Type} (xs : List α) (G : Nat → β) (H : α → β) (h : ∀ k x, xs[k]? = some x → G k = H x) : (List.range xs.length).map G = xs.map H := by
  apply List.ext_getElem
  · simp
  · intro i h1 h2
    simp at h1 h2
    simp [h i xs[i] (by simp [h1])]
theorem intsD_len (n : Nat) : intsD 0 n = (List.range n).map fun (k : Nat) => D.int (k : Int) := intsD_zero n
theorem forL_append {chk : Sto → Prop} {h : Hx} {body : Sx} : ∀ {xs ys : List D} {σ : Env} {S : Sto} {σ' : Env} {S' : Sto}, (∀ σ S σ' S', body σ S ≠ .bk σ' S') → forL chk h body xs σ S = .nx σ' S' → forL chk h body (xs ++ ys) σ S = forL chk h body ys σ' S'
  | [], ys, σ, S, σ', S', hb, e => by
    rw [forL] at e
    split at e
    · cases e; rfl
    · cases e
  | x :: xs, ys, σ, S, σ', S', hb, e => by
    rw [forL] at e
    rw [List.cons_append, forL]
    split at e
    · rename_i hc
      rw [if_pos hc]
      cases h1 : h x σ with
      | none => rw [h1] at e; cases e
      | some σ1 =>
        rw [h1] at e
        simp only at e ⊢
        cases h2 : body σ1 S with
        | no => rw [h2] at e; cases e
        | nx σ2 S2 => rw [h2] at e; exact forL_append hb e
        | ct σ2 S2 => rw [h2] at e; exact forL_append hb e
        | bk σ2 S2 => exact absurd h2 (hb _ _ _ _)
        | rt v S2 => rw [h2] at e; cases e
        | ex c a σ2 S2 => rw [h2] at e; cases e
    · cases e
theorem map_injI {α : Type} {e : α → D} (h : ∀ a b, e a = e b → a = b) : ∀ {xs ys : List α}, xs.map e = ys.map e → xs = ys
  | [], [], _ => rfl
  | [], _ :: _, q => by simp at q
  | _ :: _, [], q => by simp at q
  | x :: xs, y :: ys, q => by
    simp only [List.map_cons, List.cons.injEq] at q
    rw [h _ _ q.1, map_injI h q.2]
/-! the rows of Flat -/
def Pt.pre (p : Pt) : List Pt := p :: p.kids.deep
/-- for each tuple the number of the one around it: par outside, n the first one's number -/
def arF : Fo → Nat → Nat → List Nat
  | .nil, _, _ => []
  | .tx _ r, par, n => arF r par n
  | .el _ k r, par, n => par :: (arF k n (n + 1) ++ arF r par (n + 1 + k.deep.length))
theorem arF_len : ∀ (f : Fo) (par n : Nat), (arF f par n).length = f.deep.length
  | .nil, _, _ => rfl
  | .tx _ r, par, n => arF_len r par n
  | .el _ k r, par, n => by simp [arF, Fo.deep, arF_len k, arF_len r]
theorem arF_lt : ∀ (f : Fo) (par n i m : Nat), par < n → (arF f par n)[i]? = some m → m < n + i
  | .nil, _, _, _, _, _, h => by simp [arF] at h
  | .tx _ r, par, n, i, m, hp, h => arF_lt r par n i m hp h
  | .el _ k r, par, n, i, m, hp, h => by
    simp only [arF] at h
    cases i with
    | zero => simp at h; omega
    | succ i =>
      rw [List.getElem?_cons_succ] at h
      by_cases hi : i < (arF k n (n + 1)).length
      · rw [List.getElem?_append_left hi] at h
        have := arF_lt k n (n + 1) i m (by omega) h
        omega
      · rw [List.getElem?_append_right (by omega)] at h
        have := arF_lt r par (n + 1 + k.deep.length) _ m (by omega) h
        rw [arF_len] at this hi
        omega
def natI (m : Nat) : Int := (m : Int)
def Pt.ards (p : Pt) : List Int := -1 :: (arF p.kids 0 1).map natI
structure FlatAt (S : Sto) (k a b : Nat) (xs : List Pt) (ys : List Int) : Prop where
  i : S[k]? = some (some (.ins 0 [("parts", .cell a), ("around", .cell b)]))
  p : S[a]? = some (some (.lst (xs.map Pt.d)))
  r : S[b]? = some (some (.lst (ys.map D.int)))
  ab : a ≠ b
theorem FlatAt.mono {S : Sto} {k a b : Nat} {xs : List Pt} {ys : List Int} (h : FlatAt S k a b xs ys) (J : Sto) : FlatAt (S ++ J) k a b xs ys := ⟨get_old h.i, get_old h.p, get_old h.r, h.ab⟩
theorem FlatAt.uniq {S : Sto} {k a b a' b' : Nat} {xs xs' : List Pt} {ys ys' : List Int} (h : FlatAt S k a b xs ys) (h' : FlatAt S k a' b' xs' ys') : a = a' ∧ b = b' ∧ xs = xs' ∧ ys = ys' := by
  have e := h.i.symm.trans h'.i
  simp at e
  obtain ⟨rfl, rfl⟩ := e
  have e1 := h.p.symm.trans h'.p
  have e2 := h.r.symm.trans h'.r
  simp only [Option.some.injEq, C.lst.injEq] at e1 e2
  exact ⟨rfl, rfl, map_injI Pt.inj e1, map_injI (fun a b q => by simpa using q) e2⟩
def put2 (S : Sto) (a b : Nat) (xs : List Pt) (ys : List Int) : Sto := (S.set a (some (.lst (xs.map Pt.d)))).set b (some (.lst (ys.map D.int)))
theorem set_same {S : Sto} {k : Nat} {x : Option C} (h : S[k]? = some x) : S.set k x = S := by
  apply List.ext_getElem?
  intro i
  rw [List.getElem?_set]
  by_cases e : k = i
  · subst e; rw [if_pos rfl, if_pos (List.getElem?_eq_some_iff.mp h).1, h]
  · rw [if_neg e]
theorem FlatAt.same {S : Sto} {k a b : Nat} {xs : List Pt} {ys : List Int} (h : FlatAt S k a b xs ys) : put2 S a b xs ys = S := by
  unfold put2
  rw [set_same h.p, set_same h.r]
theorem FlatAt.ka {S : Sto} {k a b : Nat} {xs : List Pt} {ys : List Int} (h : FlatAt S k a b xs ys) : k ≠ a ∧ k ≠ b := by
  constructor
  · rintro rfl; have := h.i.symm.trans h.p; simp at this
  · rintro rfl; have := h.i.symm.trans h.r; simp at this
theorem set_ne {S : Sto} {k j : Nat} {x y : Option C} (h : S[k]? = some y) (n : k ≠ j) : (S.set j x)[k]? = some y := by rw [List.getElem?_set_ne (Ne.symm n)]; exact h
theorem FlatAt.put {S : Sto} {k a b : Nat} {xs : List Pt} {ys : List Int} (h : FlatAt S k a b xs ys) (xs' : List Pt) (ys' : List Int) : FlatAt (put2 S a b xs' ys') k a b xs' ys' :=
  ⟨set_ne (set_ne h.i h.ka.1) h.ka.2, set_ne (get_set ⟨_, h.p⟩) h.ab, get_set ⟨_, set_ne h.r (Ne.symm h.ab)⟩, h.ab⟩
theorem put2_put2 {S : Sto} {a b : Nat} (h : a ≠ b) (xs xs' : List Pt) (ys ys' : List Int) : put2 (put2 S a b xs ys) a b xs' ys' = put2 S a b xs' ys' := by
  unfold put2
  rw [List.set_comm _ _ (Ne.symm h), List.set_set, List.set_set]
theorem lk_ne {m x : Str} {d : D} {r : List (Str × D)} (h : (m == x) = false) : List.lookup m ((x, d) :: r) = r.lookup m := by simp [List.lookup, h]
theorem lk_eq {m x : Str} {d : D} {r : List (Str × D)} (h : (m == x) = true) : List.lookup m ((x, d) :: r) = some d := by simp [List.lookup, h]
@[simp] theorem flat_parts (x y : D) : List.lookup ("parts" : Str) [("parts", x), ("around", y)] = some x := lk_eq (by decide +kernel)
@[simp] theorem flat_around (x y : D) : List.lookup ("around" : Str) [("parts", x), ("around", y)] = some y := (lk_ne (by decide +kernel)).trans (lk_eq (by decide +kernel))
@[simp] theorem flat_lay (x y : D) : List.lookup ("lay" : Str) [("parts", x), ("around", y)] = none := (lk_ne (by decide +kernel)).trans ((lk_ne (by decide +kernel)).trans rfl)
@[simp] theorem flat_below (x y : D) : List.lookup ("below" : Str) [("parts", x), ("around", y)] = none := (lk_ne (by decide +kernel)).trans ((lk_ne (by decide +kernel)).trans rfl)
@[simp] theorem flat_above (x y : D) : List.lookup ("above" : Str) [("parts", x), ("around", y)] = none := (lk_ne (by decide +kernel)).trans ((lk_ne (by decide +kernel)).trans rfl)
@[simp] theorem flat_truths (x y : D) : List.lookup ("truths" : Str) [("parts", x), ("around", y)] = none := (lk_ne (by decide +kernel)).trans ((lk_ne (by decide +kernel)).trans rfl)
@[simp] theorem flat_suits (x y : D) : List.lookup ("suits" : Str) [("parts", x), ("around", y)] = none := (lk_ne (by decide +kernel)).trans ((lk_ne (by decide +kernel)).trans rfl)
@[simp] theorem flat_leads (x y : D) : List.lookup ("leads" : Str) [("parts", x), ("around", y)] = none := (lk_ne (by decide +kernel)).trans ((lk_ne (by decide +kernel)).trans rfl)
@[simp] theorem flat_ends (x y : D) : List.lookup ("ends" : Str) [("parts", x), ("around", y)] = none := (lk_ne (by decide +kernel)).trans ((lk_ne (by decide +kernel)).trans rfl)
noncomputable def b_Flat_lay_s1 : Sx :=
      (sAsg 3 (eCall gLen (aCons (eFld 0 "parts" (eVar 0)) aNil)))
noncomputable def b_Flat_lay_s2 : Sx :=
      (sExp (eMeth "list" gAppend (eFld 0 "parts" (eVar 0)) (aCons (eVar 1) aNil)))
noncomputable def b_Flat_lay_s3 : Sx :=
      (sExp (eMeth "list" gAppend (eFld 0 "around" (eVar 0)) (aCons (eVar 2) aNil)))
noncomputable def b_Flat_lay_l1 (f_Flat_lay : Fn) : Sx :=
      (sIf (tNot (tTst (op1 (gIsT "str") (eVar 4)))) (sExp (eMet 0 "lay" 3 f_Flat_lay (eVar 0) (aCons (eVar 4) (aCons (eVar 3) aNil)))) sNil)
noncomputable def b_Flat_lay_s4 (f_Flat_lay : Fn) : Sx :=
      (sFor (iL (op2 gIdx (eVar 1) (eC (.int 1)))) (hName 4) (b_Flat_lay_l1 f_Flat_lay))
noncomputable def b_Flat_lay (f_Flat_lay : Fn) : Sx :=
      (sSeq (b_Flat_lay_s1)
      (sSeq (b_Flat_lay_s2)
      (sSeq (b_Flat_lay_s3)
      (b_Flat_lay_s4 f_Flat_lay))))
structure LayA where
  k : Nat
  a : Nat
  b : Nat
  xs : List Pt
  ys : List Int
  p : Pt
  ar : Int
def lay_rel (lv : Nat) (q : LayA) (ds : List D) (S : Sto) : Prop := ds = [.cell q.k, q.p.d, .int q.ar] ∧ FlatAt S q.k q.a q.b q.xs q.ys ∧ q.xs.length = q.ys.length ∧ (∃ n f, q.p = .el n f) ∧ q.p.dp ≤ lv ∧ q.xs.length + q.p.sg.length ≤ 1000
def lay_r (q : LayA) (S : Sto) : R D := .ok .non (put2 S q.a q.b (q.xs ++ q.p.pre) (q.ys ++ q.ar :: (arF q.p.kids q.xs.length (q.xs.length + 1)).map natI))
noncomputable def fn_Flat_lay (lv : Nat) : Fn := fnRel (lay_rel lv) lay_r
theorem fn_Flat_lay_0 (ds : List D) (S : Sto) : fn_Flat_lay 0 ds S = .no := fnRel_no fun q ⟨_, _, _, ⟨n, f, e⟩, h, _⟩ => by rw [e] at h; simp [Pt.dp] at h
theorem lay_eq {lv k a b : Nat} {xs : List Pt} {ys : List Int} {n : Str} {f : Fo} {ar : Int} {S : Sto} (h : FlatAt S k a b xs ys) (hl : xs.length = ys.length) (hd : f.dp + 1 ≤ lv) (hz : xs.length + f.sg.length + 2 ≤ 1000) :
    fn_Flat_lay lv [.cell k, (Pt.el n f).d, .int ar] S = .ok .non (put2 S a b (xs ++ .el n f :: f.deep) (ys ++ ar :: (arF f xs.length (xs.length + 1)).map natI)) :=
  fnRel_eq (rel := lay_rel lv) (r := lay_r) (a := ⟨k, a, b, xs, ys, .el n f, ar⟩) (fun q q' h1 h2 => by
    obtain ⟨e1, u1, _⟩ := h1
    obtain ⟨e2, u2, _⟩ := h2
    rw [e1] at e2
    simp only [List.cons.injEq, D.cell.injEq, D.int.injEq, and_true] at e2
    obtain ⟨e3, e4, e5⟩ := e2
    have e4 := Pt.inj _ _ e4
    rw [← e3] at u2
    obtain ⟨r1, r2, r3, r4⟩ := u1.uniq u2
    unfold lay_r
    rw [e4, e5, r1, r2, r3, r4]) ⟨rfl, h, hl, ⟨n, f, rfl⟩, hd, by simp [Pt.sg]; omega⟩
theorem lay_loop (lv : Nat) {k a b : Nat} (x ar : Option D) (n : Nat) : ∀ (f : Fo) (xs : List Pt) (ys : List Int) (S : Sto) (y : Option D), FlatAt S k a b xs ys → xs.length = ys.length → f.dp ≤ lv → xs.length + f.sg.length ≤ 1000 →
    ∃ y', forL still (hName 4) (b_Flat_lay_l1 (fn_Flat_lay lv)) f.ds [some (.cell k), x, ar, some (.int (n : Int)), y] S = .nx [some (.cell k), x, ar, some (.int (n : Int)), y'] (put2 S a b (xs ++ f.deep) (ys ++ (arF f n xs.length).map natI))
  | .nil, xs, ys, S, y, h, hl, hd, hz => ⟨y, by simp [Fo.ds, Fo.deep, arF, h.same]⟩
  | .tx s r, xs, ys, S, y, h, hl, hd, hz => by
    simp only [Fo.dp, Fo.sg, List.length_cons] at hd hz
    obtain ⟨y', ih⟩ := lay_loop lv x ar n r xs ys S (some (.str s)) h hl (by omega) (by omega)
    exact ⟨y', by simp [Fo.ds, Fo.deep, arF, b_Flat_lay_l1]; simpa [b_Flat_lay_l1] using ih⟩
  | .el m q r, xs, ys, S, y, h, hl, hd, hz => by
    simp only [Fo.dp, Fo.sg, List.length_cons, List.length_append] at hd hz
    have hq := deep_len q
    have hw := lay_eq (lv := lv) (n := m) (f := q) (ar := (n : Int)) h hl (by omega) (by omega)
    have h2 := h.put (xs ++ .el m q :: q.deep) (ys ++ (n : Int) :: (arF q xs.length (xs.length + 1)).map natI)
    obtain ⟨y', ih⟩ := lay_loop lv x ar n r _ _ _ (some (Pt.el m q).d) h2 (by simp [arF_len, hl]) (by omega) (by simp; omega)
    rw [put2_put2 h.ab] at ih
    have ht : b_Flat_lay_l1 (fn_Flat_lay lv) [some (.cell k), x, ar, some (.int (n : Int)), some (Pt.el m q).d] S = .nx [some (.cell k), x, ar, some (.int (n : Int)), some (Pt.el m q).d] (put2 S a b (xs ++ .el m q :: q.deep) (ys ++ (n : Int) :: (arF q xs.length (xs.length + 1)).map natI)) := by
      simp only [Pt.d] at hw ⊢
      simp [b_Flat_lay_l1, h.i, hw]
    refine ⟨y', ?_⟩
    have hds : (Fo.el m q r).ds = (Pt.el m q).d :: r.ds := rfl
    rw [hds, forL_still_cons]
    simp only [hName_eq, List.set_cons_succ, List.set_cons_zero, ht]
    rw [ih]
    simp [Fo.deep, arF, natI]
    rw [show xs.length + (q.deep.length + 1) = xs.length + 1 + q.deep.length by omega]
theorem ref_Flat_lay (k : Nat) (ds : List D) (S : Sto) : Ref S (fn_Flat_lay (k + 1) ds S) (runB 5 (b_Flat_lay (fn_Flat_lay k)) ds S) := by
  refine fnRel_ref (fun q ds S ⟨e, h, hl, ⟨n, f, ep⟩, hd, hz⟩ => ?_) ds S
  obtain ⟨c, a, b, xs, ys, p, ar⟩ := q
  simp only at e h hl ep hd hz
  subst e ep
  simp only [Pt.dp, Pt.sg, List.length_cons, List.length_append, List.length_nil] at hd hz
  have h1 := h.put (xs ++ [.el n f]) (ys ++ [ar])
  obtain ⟨y', lp⟩ := lay_loop k (some (Pt.el n f).d) (some (.int ar)) xs.length f _ _ _ none h1 (by simp [hl]) (by omega) (by simp; omega)
  rw [put2_put2 h.ab] at lp
  have g1 : b_Flat_lay_s1 [some (.cell c), some (Pt.el n f).d, some (.int ar), none, none] S = .nx [some (.cell c), some (Pt.el n f).d, some (.int ar), some (.int (xs.length : Int)), none] S := by
    simp [b_Flat_lay_s1, h.i, h.p]
  have z1 : xs.length < sizeLine := by rw [sizeLine_val]; omega
  have z2 : ys.length < sizeLine := by rw [sizeLine_val]; omega
  have g2 : b_Flat_lay_s2 [some (.cell c), some (Pt.el n f).d, some (.int ar), some (.int (xs.length : Int)), none] S = .nx [some (.cell c), some (Pt.el n f).d, some (.int ar), some (.int (xs.length : Int)), none] (S.set a (some (.lst (xs.map Pt.d ++ [(Pt.el n f).d])))) := by
    simp [b_Flat_lay_s2, h.i, h.p, z1]
  have k1 : ∀ x, (S.set a x)[c]? = some (some (.ins 0 [("parts", .cell a), ("around", .cell b)])) := fun x => set_ne h.i h.ka.1
  have k2 : ∀ x, (S.set a x)[b]? = some (some (.lst (ys.map D.int))) := fun x => set_ne h.r (Ne.symm h.ab)
  have g3 : b_Flat_lay_s3 [some (.cell c), some (Pt.el n f).d, some (.int ar), some (.int (xs.length : Int)), none] (S.set a (some (.lst (xs.map Pt.d ++ [(Pt.el n f).d])))) = .nx [some (.cell c), some (Pt.el n f).d, some (.int ar), some (.int (xs.length : Int)), none] (put2 S a b (xs ++ [.el n f]) (ys ++ [ar])) := by
    simp [b_Flat_lay_s3, k1, k2, z2, put2]
  have g4 : b_Flat_lay_s4 (fn_Flat_lay k) [some (.cell c), some (Pt.el n f).d, some (.int ar), some (.int (xs.length : Int)), none] (put2 S a b (xs ++ [.el n f]) (ys ++ [ar])) = .nx [some (.cell c), some (Pt.el n f).d, some (.int ar), some (.int (xs.length : Int)), y'] (put2 S a b (xs ++ [.el n f] ++ f.deep) (ys ++ [ar] ++ (arF f xs.length (xs ++ [Pt.el n f]).length).map natI)) := by
    simp only [Pt.d] at lp ⊢
    simp [b_Flat_lay_s4]
    simpa using lp
  refine Ref.self ?_
  simp [runB, b_Flat_lay, g1, g2, g3, g4, Pt.pre, Pt.kids]
end Ev

/-! who stands below -/
namespace Ev
open PySem PySem.Spec PyProof.Rows L2
/-! the law of the loop -/
def stepB (good : Nat → Bool) (inner : Bool) (ar : Nat → Nat) (F : Nat → Bool) (j : Nat) : Nat → Bool := if good j || (inner && F j) then fun i => if i = ar j then true else F i else F
/-- n + m - 1, .., n -/
def downN (n m : Nat) : List Nat := ((List.range m).map (n + ·)).reverse
theorem downN_add (n a b : Nat) : downN n (a + b) = downN (n + a) b ++ downN n a := by
  unfold downN
  rw [List.range_add, List.map_append, List.reverse_append, List.map_map]
  congr 3
  funext x
  simp
  omega
theorem downN_one (n : Nat) : downN n 1 = [n] := rfl
def Fo.anyB (f : Fo) (own : Bool) (g : Pt → Bool) : Bool := (if own = true then f.els else f.deep).any g
theorem below_any (q : Pt) (own : Bool) (g : Pt → Bool) : (q.below own).any g = q.kids.anyB own g := rfl
theorem fold_forest (g : Pt → Bool) (own : Bool) : ∀ (f : Fo) (par n : Nat) (ar : Nat → Nat) (good F : Nat → Bool),
    (∀ i q, f.deep[i]? = some q → good (n + i) = g q) → (∀ i m, (arF f par n)[i]? = some m → ar (n + i) = m) → par < n → (∀ i, n ≤ i → i < n + f.deep.length → F i = false) →
    (∀ i q, f.deep[i]? = some q → (downN n f.deep.length).foldl (stepB good (!own) ar) F (n + i) = (q.below own).any g) ∧
    (downN n f.deep.length).foldl (stepB good (!own) ar) F par = (F par || f.anyB own g) ∧
    ∀ i, i ≠ par → (i < n ∨ n + f.deep.length ≤ i) → (downN n f.deep.length).foldl (stepB good (!own) ar) F i = F i
  | .nil, par, n, ar, good, F, h1, h2, h3, h4 => by
    refine ⟨fun i q h => by simp [Fo.deep] at h, ?_, fun i _ _ => rfl⟩
    cases own <;> simp [Fo.deep, downN, Fo.anyB, Fo.els]
  | .tx s r, par, n, ar, good, F, h1, h2, h3, h4 => fold_forest g own r par n ar good F h1 h2 h3 h4
  | .el m k r, par, n, ar, good, F, h1, h2, h3, h4 => by
    have hlen : (Fo.el m k r).deep.length = 1 + k.deep.length + r.deep.length := by simp [Fo.deep]; omega
    have hd : (Fo.el m k r).deep = .el m k :: (k.deep ++ r.deep) := rfl
    rw [hlen, downN_add, downN_add, downN_one, List.foldl_append, List.foldl_append]
    rw [hlen] at h4
    -- the brothers behind
    obtain ⟨r1, r2, r3⟩ := fold_forest g own r par (n + (1 + k.deep.length)) ar good F
      (fun i q h => by
        have := h1 (1 + k.deep.length + i) q (by rw [hd, show 1 + k.deep.length + i = (k.deep.length + i) + 1 by omega, List.getElem?_cons_succ, List.getElem?_append_right (by omega)]; simpa using h)
        rw [← this]; congr 1; omega)
      (fun i q h => by
        have := h2 (1 + k.deep.length + i) q (by
          show (par :: (arF k n (n + 1) ++ arF r par (n + 1 + k.deep.length)))[1 + k.deep.length + i]? = _
          rw [show 1 + k.deep.length + i = (k.deep.length + i) + 1 by omega, List.getElem?_cons_succ, List.getElem?_append_right (by rw [arF_len]; omega), arF_len]
          rw [show k.deep.length + i - k.deep.length = i by omega, show n + 1 + k.deep.length = n + (1 + k.deep.length) by omega]
          exact h)
        rw [← this]; congr 1; omega)
      (by omega) (fun i h h' => h4 i (by omega) (by omega))
    generalize (downN (n + (1 + k.deep.length)) r.deep.length).foldl (stepB good (!own) ar) F = F1 at r1 r2 r3
    -- the parts within
    obtain ⟨k1, k2, k3⟩ := fold_forest g own k n (n + 1) ar good F1
      (fun i q h => by
        have := h1 (1 + i) q (by rw [hd, show 1 + i = i + 1 by omega, List.getElem?_cons_succ, List.getElem?_append_left (List.getElem?_eq_some_iff.mp h).1]; exact h)
        rw [← this]; congr 1; omega)
      (fun i q h => by
        have := h2 (1 + i) q (by
          show (par :: (arF k n (n + 1) ++ arF r par (n + 1 + k.deep.length)))[1 + i]? = _
          rw [show 1 + i = i + 1 by omega, List.getElem?_cons_succ, List.getElem?_append_left (List.getElem?_eq_some_iff.mp h).1]; exact h)
        rw [← this]; congr 1; omega)
      (by omega) (fun i h h' => by rw [r3 i (by omega) (.inl (by omega))]; exact h4 i (by omega) (by omega))
    generalize (downN (n + 1) k.deep.length).foldl (stepB good (!own) ar) F1 = F2 at k1 k2 k3
    have gn : good n = g (.el m k) := by have := h1 0 (.el m k) (by rw [hd]; rfl); simpa using this
    have an : ar n = par := by
      have := h2 0 par (by show (par :: (arF k n (n + 1) ++ arF r par (n + 1 + k.deep.length)))[0]? = _; rfl)
      simpa using this
    have f1n : F1 n = false := by rw [r3 n (by omega) (.inl (by omega))]; exact h4 n (by omega) (by omega)
    have f2n : F2 n = k.anyB own g := by rw [k2, f1n, Bool.false_or]
    have f2p : F2 par = (F par || r.anyB own g) := by rw [k3 par (by omega) (.inl (by omega)), r2]
    have val : ∀ i, [n].foldl (stepB good (!own) ar) F2 i = if i = par then (F2 i || (g (.el m k) || (!own && k.anyB own g))) else F2 i := fun i => by
      simp only [List.foldl_cons, List.foldl_nil, stepB, gn, f2n, an]
      cases hb : (g (.el m k) || (!own && k.anyB own g)) with
      | true => simp only [if_true, Bool.or_true]
      | false =>
        simp only [Bool.false_eq_true, if_false, Bool.or_false]
        split <;> rfl
    have anyE : (Fo.el m k r).anyB own g = (g (.el m k) || (!own && k.anyB own g) || r.anyB own g) := by
      cases own <;> simp [Fo.anyB, Fo.els, Fo.deep, Bool.or_assoc]
    refine ⟨fun i q h => ?_, ?_, fun i hi hr => ?_⟩
    · rw [val, if_neg (by omega)]
      rw [hd] at h
      cases i with
      | zero =>
        simp only [List.getElem?_cons_zero, Option.some.injEq] at h
        subst h
        simp only [Nat.add_zero, f2n, below_any, Pt.kids]
      | succ i =>
        rw [List.getElem?_cons_succ] at h
        by_cases hik : i < k.deep.length
        · rw [List.getElem?_append_left hik] at h
          have := k1 i q h
          rw [show n + (i + 1) = n + 1 + i by omega]
          exact this
        · rw [List.getElem?_append_right (by omega)] at h
          have := r1 _ q h
          rw [show n + (1 + k.deep.length) + (i - k.deep.length) = n + (i + 1) by omega] at this
          rw [k3 _ (by omega) (.inr (by omega))]
          exact this
    · rw [val, if_pos rfl, f2p, anyE]
      cases F par <;> cases r.anyB own g <;> simp
    · rw [val, if_neg hi, k3 i (by omega) (by omega), r3 i hi (by omega)]
/-- good ones by number; what is found of them -/
def foundB (p : Pt) (good : Nat → Bool) (own : Bool) : Nat → Bool := (downN 1 (p.pre.length - 1)).foldl (stepB good (!own) fun j => ((arF p.kids 0 1)[j - 1]?).getD 0) fun _ => false
theorem foundB_pt (p : Pt) (g : Pt → Bool) (good : Nat → Bool) (own : Bool) (hg : ∀ i q, p.pre[i]? = some q → good i = g q) (i : Nat) (q : Pt) (h : p.pre[i]? = some q) : foundB p good own i = (q.below own).any g := by
  obtain ⟨r1, r2, r3⟩ := fold_forest g own p.kids 0 1 (fun j => ((arF p.kids 0 1)[j - 1]?).getD 0) good (fun _ => false)
    (fun i q h => hg (1 + i) q (by rw [show 1 + i = i + 1 by omega]; exact h))
    (fun i m h => by simp only [show 1 + i - 1 = i by omega, h, Option.getD_some]) (by omega) (fun _ _ _ => rfl)
  have hl : p.pre.length - 1 = p.kids.deep.length := by simp [Pt.pre]
  unfold foundB
  rw [hl]
  cases i with
  | zero =>
    simp only [Pt.pre, List.getElem?_cons_zero, Option.some.injEq] at h
    subst h
    rw [r2, Bool.false_or, below_any]
  | succ i =>
    have h' : p.kids.deep[i]? = some q := h
    have := r1 i q h'
    rw [show i + 1 = 1 + i by omega]
    exact this
def blsN (N : Nat) (F : Nat → Bool) : List D := (List.range N).map fun i => D.bl (F i)
@[simp] theorem blsN_len (N : Nat) (F : Nat → Bool) : (blsN N F).length = N := by simp [blsN]
theorem blsN_get {N : Nat} {F : Nat → Bool} {i : Nat} (h : i < N) : (blsN N F)[i]? = some (.bl (F i)) := by simp [blsN, h]
theorem blsN_set {N : Nat} {F : Nat → Bool} {j : Nat} (b : Bool) : (blsN N F).set j (.bl b) = blsN N fun i => if i = j then b else F i := by
  apply List.ext_getElem?
  intro i
  rw [List.getElem?_set]
  by_cases hi : i < N
  · rw [blsN_get hi]
    by_cases e : j = i
    · subst e; rw [if_pos rfl, blsN_get hi]; simp [hi]
    · rw [if_neg e, blsN_get hi, if_neg (Ne.symm e)]
  · rw [List.getElem?_eq_none (l := blsN N _) (by simp; omega), List.getElem?_eq_none (l := blsN N _) (by simp; omega)]
    simp
    intro e
    subst e
    omega
theorem ixN_nat {n j : Nat} (h : j < n) : ixN n (j : Int) = some j := by
  unfold ixN
  rw [if_pos (by omega)]
  simp [h]
noncomputable def b_Flat_below_s1 : Sx :=
      (sAsg 3 (op2 gRepN (eLst (aCons (eC (.bl false)) aNil)) (eCall gLen (aCons (eFld 0 "parts" (eVar 0)) aNil))))
noncomputable def b_Flat_below_l1 : Sx :=
      (sIf (tOr (tTst (op2 gIdx (eVar 1) (eVar 4))) (tAnd (tTst (op2 gEq (eVar 2) (eC (.str "inner")))) (tTst (op2 gIdx (eVar 3) (eVar 4))))) (sIx (eC (.bl true)) (eVar 3) (op2 gIdx (eFld 0 "around" (eVar 0)) (eVar 4))) sNil)
noncomputable def b_Flat_below_s2 : Sx :=
      (sFor (iR3 (op2 gSub (eCall gLen (aCons (eFld 0 "parts" (eVar 0)) aNil)) (eC (.int 1))) (eC (.int 0)) (op1 gNeg (eC (.int 1)))) (hName 4) (b_Flat_below_l1))
noncomputable def b_Flat_below_s3 : Sx :=
      (sRet (eVar 3))
noncomputable def b_Flat_below : Sx :=
      (sSeq (b_Flat_below_s1)
      (sSeq (b_Flat_below_s2)
      (b_Flat_below_s3)))
structure FlatB where
  k : Nat
  a : Nat
  b : Nat
  p : Pt
  good : List Bool
  own : Bool
def below_rel (q : FlatB) (ds : List D) (S : Sto) : Prop := ds = [.cell q.k, .lst (q.good.map D.bl), .str (wayS q.own)] ∧ FlatAt S q.k q.a q.b q.p.pre q.p.ards ∧ q.good.length = q.p.pre.length ∧ q.p.pre.length ≤ 1000
noncomputable def below_r (q : FlatB) (S : Sto) : R D := .ok (.lst (blsN q.p.pre.length (foundB q.p (fun i => q.good.getD i false) q.own))) S
noncomputable def fn_Flat_below : Fn := fnRel below_rel below_r
@[simp] theorem eq_own_inner (S : Sto) : gEq (.str "own") (.str "inner") S = .ok (.bl false) S := by rw [gEq_str (by decide +kernel) (by decide +kernel), show (("own" : Str) == "inner") = false by decide +kernel]
@[simp] theorem eq_inner_inner (S : Sto) : gEq (.str "inner") (.str "inner") S = .ok (.bl true) S := by rw [gEq_str (by decide +kernel) (by decide +kernel)]; rfl
theorem eq_way_inner (o : Bool) (S : Sto) : gEq (.str (wayS o)) (.str "inner") S = .ok (.bl (!o)) S := by cases o <;> simp [wayS]
theorem below_loop {S : Sto} {k a b : Nat} {p : Pt} {good : List Bool} {own : Bool} (h : FlatAt S k a b p.pre p.ards) (hl : good.length = p.pre.length) : ∀ (js : List Nat) (F : Nat → Bool) (y : Option D), (∀ j ∈ js, 1 ≤ j ∧ j < p.pre.length) →
    ∃ y', forL still (hName 4) b_Flat_below_l1 (js.map fun (j : Nat) => D.int (j : Int)) [some (.cell k), some (.lst (good.map D.bl)), some (.str (wayS own)), some (.cell S.length), y] (S ++ [some (.lst (blsN p.pre.length F))]) =
      .nx [some (.cell k), some (.lst (good.map D.bl)), some (.str (wayS own)), some (.cell S.length), y'] (S ++ [some (.lst (blsN p.pre.length (js.foldl (stepB (fun i => good.getD i false) (!own) fun j => ((arF p.kids 0 1)[j - 1]?).getD 0) F)))])
  | [], F, y, _ => ⟨y, by simp⟩
  | j :: js, F, y, hj => by
    obtain ⟨j1, j2⟩ := hj j (by simp)
    have hlen : p.pre.length = p.kids.deep.length + 1 := by simp [Pt.pre]
    have ga : atI (good.map D.bl) (j : Int) = some (.bl (good.getD j false)) := atI_get (by
      rw [List.getElem?_map, List.getElem?_eq_getElem (by omega), List.getD_eq_getElem?_getD, List.getElem?_eq_getElem (by omega)]; rfl)
    have gf : atI (blsN p.pre.length F) (j : Int) = some (.bl (F j)) := atI_get (blsN_get j2)
    have hm : ∃ m, (arF p.kids 0 1)[j - 1]? = some m ∧ m < p.pre.length := by
      have hx : j - 1 < (arF p.kids 0 1).length := by rw [arF_len]; omega
      refine ⟨(arF p.kids 0 1)[j - 1], List.getElem?_eq_getElem hx, ?_⟩
      have := arF_lt p.kids 0 1 (j - 1) _ (by omega) (List.getElem?_eq_getElem hx)
      omega
    obtain ⟨m, hm1, hm2⟩ := hm
    have gr : atI (p.ards.map D.int) (j : Int) = some (.int (m : Int)) := atI_get (by
      obtain ⟨i, rfl⟩ : ∃ i, j = i + 1 := ⟨j - 1, by omega⟩
      simp only [Nat.add_sub_cancel] at hm1
      simp [Pt.ards, hm1, natI])
    have gb := (h.mono [some (.lst (blsN p.pre.length F))]).r
    have gi := (h.mono [some (.lst (blsN p.pre.length F))]).i
    obtain ⟨y', ih⟩ := below_loop (own := own) h hl js (stepB (fun i => good.getD i false) (!own) (fun j => ((arF p.kids 0 1)[j - 1]?).getD 0) F j) (some (.int (j : Int))) fun x hx => hj x (by simp [hx])
    refine ⟨y', ?_⟩
    have hF1 : stepB (fun i => good.getD i false) (!own) (fun j => ((arF p.kids 0 1)[j - 1]?).getD 0) F j = if (good.getD j false || (!own && F j)) = true then (fun i => if i = m then true else F i) else F := by
      simp only [stepB, hm1, Option.getD_some]
    rw [List.foldl_cons]
    generalize stepB (fun i => good.getD i false) (!own) (fun j => ((arF p.kids 0 1)[j - 1]?).getD 0) F j = F' at hF1 ih ⊢
    have ht : b_Flat_below_l1 [some (.cell k), some (.lst (good.map D.bl)), some (.str (wayS own)), some (.cell S.length), some (.int (j : Int))] (S ++ [some (.lst (blsN p.pre.length F))]) =
        .nx [some (.cell k), some (.lst (good.map D.bl)), some (.str (wayS own)), some (.cell S.length), some (.int (j : Int))] (S ++ [some (.lst (blsN p.pre.length F'))]) := by
      have hix := ixN_nat hm2
      generalize good.getD j false = gj at ga hF1
      cases gj with
      | true =>
        simp only [Bool.true_or, if_true] at hF1
        subst hF1
        simp only [b_Flat_below_l1]
        simp [ga, gi, gb, gr, hix, blsN_set]
      | false =>
        generalize F j = fj at gf hF1
        cases fj with
        | true =>
          cases own with
          | true =>
            simp at hF1
            subst hF1
            simp [b_Flat_below_l1, ga, gf, wayS]
          | false =>
            simp only [Bool.not_false, Bool.true_and, Bool.or_true, if_true] at hF1
            subst hF1
            simp [b_Flat_below_l1, ga, gf, gi, gb, gr, hix, blsN_set, wayS]
        | false =>
          simp at hF1
          subst hF1
          cases own <;> simp [b_Flat_below_l1, ga, gf, wayS]
    rw [List.map_cons, forL_still_cons]
    simp only [hName_eq, List.set_cons_succ, List.set_cons_zero, ht, ih]
theorem ref_Flat_below (ds : List D) (S : Sto) : Ref S (fn_Flat_below ds S) (runB 5 b_Flat_below ds S) := by
  refine fnRel_ref (fun q ds S ⟨e, h, hl, hz⟩ => ?_) ds S
  obtain ⟨k, a, b, p, good, own⟩ := q
  simp only at e h hl hz
  subst e
  have hlen : p.pre.length = p.kids.deep.length + 1 := by simp [Pt.pre]
  obtain ⟨y', lp⟩ := below_loop (own := own) h hl (downN 1 (p.pre.length - 1)) (fun _ => false) none (fun j hj => by
    simp only [downN, List.mem_reverse, List.mem_map, List.mem_range] at hj
    obtain ⟨i, hi, rfl⟩ := hj
    omega)
  have hrep := gRepN_one (S := S) (D.bl false) p.pre.length (by rw [sizeLine_val]; omega)
  have hb0 : List.replicate p.pre.length (D.bl false) = blsN p.pre.length fun _ => false := by
    unfold blsN
    rw [List.map_const', List.length_range]
  rw [hb0] at hrep
  have g1 : b_Flat_below_s1 [some (.cell k), some (.lst (good.map D.bl)), some (.str (wayS own)), none, none] S = .nx [some (.cell k), some (.lst (good.map D.bl)), some (.str (wayS own)), some (.cell S.length), none] (S ++ [some (.lst (blsN p.pre.length fun _ => false))]) := by
    simp [b_Flat_below_s1, h.i, h.p, hrep]
  have hi := (h.mono [some (.lst (blsN p.pre.length fun _ => false))])
  have hdown : downD ((p.pre.length : Int) - 1) (p.pre.length - 1) = (downN 1 (p.pre.length - 1)).map fun (j : Nat) => D.int (j : Int) := by
    unfold downD downN
    rw [hlen]
    simp only [Nat.add_sub_cancel]
    apply List.ext_getElem
    · simp
    · intro i h1 h2
      simp at h1 h2
      simp
      omega
  have hcount : ((p.pre.length : Int) - 1 - 0).toNat = p.pre.length - 1 := by omega
  have hr : (-4611686018427387904 : Int) ≤ (p.pre.length : Int) - 1 ∧ (p.pre.length : Int) - 1 < 4611686018427387904 := by omega
  have g2 : b_Flat_below_s2 [some (.cell k), some (.lst (good.map D.bl)), some (.str (wayS own)), some (.cell S.length), none] (S ++ [some (.lst (blsN p.pre.length fun _ => false))]) = .nx [some (.cell k), some (.lst (good.map D.bl)), some (.str (wayS own)), some (.cell S.length), y'] (S ++ [some (.lst (blsN p.pre.length (foundB p (fun i => good.getD i false) own)))]) := by
    simp [b_Flat_below_s2, hi.i, hi.p, hr]
    rw [← hdown] at lp
    simpa [foundB] using lp
  refine Ref.ok (v2 := .cell (S.length + 0)) (S2 := S ++ [some (.lst (blsN p.pre.length (foundB p (fun i => good.getD i false) own)))]) ?_ (Cl.frz (j := 0) rfl (by simp only [Ev.hb]; exact hbs_all.mpr fun d hd => by obtain ⟨x, _, rfl⟩ := List.mem_map.mp hd; rfl))
  simp [runB, b_Flat_below, g1, g2, b_Flat_below_s3]
end Ev

/-! what holds, part by part -/
namespace Ev
open PySem PySem.Spec PyProof.Rows L2
mutual
def Wi.lf : Wi → Nat
  | .any => 1
  | .text _ => 1
  | .has l => l.lf + 1
  | .both l => l.lf + 1
  | .one l => l.lf + 1
def Wl.lf : Wl → Nat
  | .nil => 1
  | .cons w r => max w.lf r.lf
def Sl.lf : Sl → Nat
  | .nil => 1
  | .cons _ _ w r => max (w.lf + 2) r.lf
end
theorem Wi.lf_pos (w : Wi) : 1 ≤ w.lf := by cases w <;> simp [Wi.lf]
theorem Sl.lf_pos : ∀ w : Sl, 1 ≤ w.lf
  | .nil => by simp [Sl.lf]
  | .cons _ _ w r => by have := Sl.lf_pos r; simp only [Sl.lf]; omega
def Wl.toL : Wl → List Wi
  | .nil => []
  | .cons w r => w :: r.toL
theorem Wl.ds_toL : ∀ l : Wl, l.ds = l.toL.map Wi.d
  | .nil => rfl
  | .cons w r => by simp [Wl.ds, Wl.toL, Wl.ds_toL r]
theorem Wl.all_toL (p : Pt) : ∀ l : Wl, l.all p = l.toL.all fun w => w.holds p
  | .nil => rfl
  | .cons w r => by simp [Wl.all, Wl.toL, Wl.all_toL p r]
theorem Wl.some_toL (p : Pt) : ∀ l : Wl, l.some_ p = l.toL.any fun w => w.holds p
  | .nil => rfl
  | .cons w r => by simp [Wl.some_, Wl.toL, Wl.some_toL p r]
theorem Wl.mem_ok : ∀ (l : Wl), l.okS → ∀ w ∈ l.toL, w.okS
  | .nil, _, w, h => by simp [Wl.toL] at h
  | .cons v r, ho, w, h => by
    simp only [Wl.toL, List.mem_cons] at h
    rcases h with rfl | h
    · exact ho.1
    · exact Wl.mem_ok r ho.2 w h
theorem Wl.mem_lf : ∀ (l : Wl), ∀ w ∈ l.toL, w.lf ≤ l.lf
  | .nil, w, h => by simp [Wl.toL] at h
  | .cons v r, w, h => by
    simp only [Wl.toL, List.mem_cons] at h
    simp only [Wl.lf]
    rcases h with rfl | h
    · omega
    · have := Wl.mem_lf r w h; omega
theorem Wl.mem_wd : ∀ (l : Wl), ∀ w ∈ l.toL, w.wd ≤ l.wd
  | .nil, w, h => by simp [Wl.toL] at h
  | .cons v r, w, h => by
    simp only [Wl.toL, List.mem_cons] at h
    simp only [Wl.wd]
    rcases h with rfl | h
    · omega
    · have := Wl.mem_wd r w h; omega
def rowB (xs : List Pt) (g : Pt → Bool) : D := .lst (xs.map fun q => .bl (g q))
theorem blsN_row (p : Pt) (g : Pt → Bool) (F : Nat → Bool) (h : ∀ i q, p.pre[i]? = some q → F i = g q) : D.lst (blsN p.pre.length F) = rowB p.pre g := by
  unfold rowB blsN
  rw [range_map p.pre (fun i => D.bl (F i)) (fun q => D.bl (g q)) fun i q hq => by rw [h i q hq]]
theorem below_row {S : Sto} {k a b : Nat} {p : Pt} (h : FlatAt S k a b p.pre p.ards) (hz : p.pre.length ≤ 1000) (g : Pt → Bool) (own : Bool) : fn_Flat_below [.cell k, rowB p.pre g, .str (wayS own)] S = .ok (rowB p.pre fun q => (q.below own).any g) S := by
  have e : rowB p.pre g = .lst ((p.pre.map g).map D.bl) := by simp [rowB]
  have := fnRel_eq (rel := below_rel) (r := below_r) (ds := [.cell k, rowB p.pre g, .str (wayS own)]) (S := S)
    (fun q q' h1 h2 => by
      obtain ⟨e1, u1, _⟩ := h1
      obtain ⟨e2, u2, _⟩ := h2
      rw [e1] at e2
      simp only [List.cons.injEq, D.cell.injEq, D.lst.injEq, D.str.injEq, and_true] at e2
      obtain ⟨e3, e4, e5⟩ := e2
      rw [← e3] at u2
      obtain ⟨_, _, r3, _⟩ := u1.uniq u2
      simp only [Pt.pre, List.cons.injEq] at r3
      unfold below_r
      rw [r3.1, wayS_inj _ _ e5, map_injI (fun a b q => by simpa using q) e4])
    (a := ⟨k, a, b, p, p.pre.map g, own⟩) ⟨by rw [e], h, by simp, hz⟩
  unfold fn_Flat_below
  rw [this]
  simp only [below_r]
  rw [blsN_row p (fun q => (q.below own).any g) _ fun i q hq => foundB_pt p g _ own (fun j x hx => by
    rw [List.getD_eq_getElem?_getD, List.getElem?_map, hx]; rfl) i q hq]
noncomputable def b_Flat_truths_s1 : Sx :=
      (sIf (tTst (op2 gEq (op2 gIdx (eVar 1) (eC (.int 0))) (eC (.str "any")))) (sRet (eComp (iL (eFld 0 "parts" (eVar 0))) (hName 3) tYes (eC (.bl true)) [3])) sNil)
noncomputable def b_Flat_truths_s2 : Sx :=
      (sIf (tTst (op2 gEq (op2 gIdx (eVar 1) (eC (.int 0))) (eC (.str "text")))) (sRet (eComp (iL (eFld 0 "parts" (eVar 0))) (hName 3) tYes (op2 (gIn false) (op2 gIdx (eVar 1) (eC (.int 1))) (op2 gIdx (eVar 3) (eC (.int 1)))) [3])) sNil)
noncomputable def b_Flat_truths_s3 (f_Flat_leads : Fn) : Sx :=
      (sIf (tTst (op2 gEq (op2 gIdx (eVar 1) (eC (.int 0))) (eC (.str "has")))) (sRet (eMet 0 "leads" 2 f_Flat_leads (eVar 0) (aCons (op2 gIdx (eVar 1) (eC (.int 1))) aNil))) sNil)
noncomputable def b_Flat_truths_s4 (f_Flat_truths : Fn) : Sx :=
      (sAsg 2 (eComp (iL (op2 gIdx (eVar 1) (eC (.int 1)))) (hName 4) tYes (eMet 0 "truths" 2 f_Flat_truths (eVar 0) (aCons (eVar 4) aNil)) [4]))
noncomputable def b_Flat_truths_s5 : Sx :=
      (sIf (tTst (op2 gEq (op2 gIdx (eVar 1) (eC (.int 0))) (eC (.str "both")))) (sRet (eComp (iR1 (eCall gLen (aCons (eFld 0 "parts" (eVar 0)) aNil))) (hName 5) tYes (eCall gAll (aCons (eComp (iL (eVar 2)) (hName 6) tYes (op2 gIdx (eVar 6) (eVar 5)) [6]) aNil)) [5])) sNil)
noncomputable def b_Flat_truths_s6 : Sx :=
      (sRet (eComp (iR1 (eCall gLen (aCons (eFld 0 "parts" (eVar 0)) aNil))) (hName 5) tYes (eCall gAny (aCons (eComp (iL (eVar 2)) (hName 6) tYes (op2 gIdx (eVar 6) (eVar 5)) [6]) aNil)) [5]))
noncomputable def b_Flat_truths (f_Flat_leads : Fn) (f_Flat_truths : Fn) : Sx :=
      (sSeq (b_Flat_truths_s1)
      (sSeq (b_Flat_truths_s2)
      (sSeq (b_Flat_truths_s3 f_Flat_leads)
      (sSeq (b_Flat_truths_s4 f_Flat_truths)
      (sSeq (b_Flat_truths_s5)
      (b_Flat_truths_s6))))))
noncomputable def b_Flat_suits_s1 (f_Flat_truths : Fn) : Sx :=
      (sAsg 2 (eMet 0 "truths" 2 f_Flat_truths (eVar 0) (aCons (op2 gIdx (eVar 1) (eC (.int 2))) aNil)))
noncomputable def b_Flat_suits_s2 : Sx :=
      (sRet (eComp (iEnum (eFld 0 "parts" (eVar 0))) (hTup 2 (hCons (hName 3) (hCons (hName 4) hNil))) tYes (eAnd (op2 gIdx (eVar 2) (eVar 3)) (op2 (gIn false) (op2 gIdx (eVar 1) (eC (.int 1))) (eLst (aCons (eC (.str "*")) (aCons (op2 gIdx (eVar 4) (eC (.int 0))) aNil))))) [3, 4]))
noncomputable def b_Flat_suits (f_Flat_truths : Fn) : Sx :=
      (sSeq (b_Flat_suits_s1 f_Flat_truths)
      (b_Flat_suits_s2))
noncomputable def b_Flat_leads_s1 : Sx :=
      (sAsg 2 (eComp (iL (eFld 0 "parts" (eVar 0))) (hName 5) tYes (eC (.bl true)) [5]))
noncomputable def b_Flat_leads_l1 (f_Flat_suits : Fn) (f_Flat_below : Fn) : Sx :=
      (sSeq (sAsg 4 (eMet 0 "suits" 2 f_Flat_suits (eVar 0) (aCons (eVar 3) aNil)))
      (sAsg 2 (eMet 0 "below" 3 f_Flat_below (eVar 0) (aCons (eComp (iR1 (eCall gLen (aCons (eVar 4) aNil))) (hName 6) tYes (eAnd (op2 gIdx (eVar 4) (eVar 6)) (op2 gIdx (eVar 2) (eVar 6))) [6]) (aCons (op2 gIdx (eVar 3) (eC (.int 0))) aNil)))))
noncomputable def b_Flat_leads_s2 (f_Flat_suits : Fn) (f_Flat_below : Fn) : Sx :=
      (sFor (iRev (eVar 1)) (hName 3) (b_Flat_leads_l1 f_Flat_suits f_Flat_below))
noncomputable def b_Flat_leads_s3 : Sx :=
      (sRet (eVar 2))
noncomputable def b_Flat_leads (f_Flat_suits : Fn) (f_Flat_below : Fn) : Sx :=
      (sSeq (b_Flat_leads_s1)
      (sSeq (b_Flat_leads_s2 f_Flat_suits f_Flat_below)
      (b_Flat_leads_s3)))
/-- a paper that can be asked, laid side by side -/
def FlatP (S : Sto) (k : Nat) (p : Pt) : Prop := PtOk p ∧ ∃ a b, FlatAt S k a b p.pre p.ards
theorem FlatP.uniq {S : Sto} {k : Nat} {p p' : Pt} (h : FlatP S k p) (h' : FlatP S k p') : p = p' := by
  obtain ⟨_, a, b, h⟩ := h
  obtain ⟨_, a', b', h'⟩ := h'
  have := (h.uniq h').2.2.1
  simp only [Pt.pre, List.cons.injEq] at this
  exact this.1
theorem PtOk.pre {p : Pt} (h : PtOk p) : ∀ q ∈ p.pre, PtOk q := fun q hq => by
  simp only [Pt.pre, List.mem_cons] at hq
  rcases hq with rfl | hq
  · exact h
  · have := h.below false q (by simpa [Pt.below] using hq); exact this
theorem PtOk.pre_len {p : Pt} (h : PtOk p) : p.pre.length ≤ 1000 := by
  obtain ⟨n, f, rfl⟩ := h.el
  have h2 := h.sz
  have := deep_len f
  simp only [Pt.sg, List.length_cons, List.length_append, List.length_nil] at h2
  simp [Pt.pre, Pt.kids]
  omega
def okW (w : Wi) : Prop := w.okS ∧ w.wd ≤ 1000
def okL (l : Sl) : Prop := l.okS ∧ l.wd ≤ 1000 ∧ l.ds.length ≤ 1000
def truths_rel (lv : Nat) (q : Nat × Pt × Wi) (ds : List D) (S : Sto) : Prop := ds = [.cell q.1, q.2.2.d] ∧ FlatP S q.1 q.2.1 ∧ okW q.2.2 ∧ q.2.2.lf ≤ lv
def truths_r (q : Nat × Pt × Wi) (S : Sto) : R D := .ok (rowB q.2.1.pre fun x => q.2.2.holds x) S
noncomputable def fn_Flat_truths (lv : Nat) : Fn := fnRel (truths_rel lv) truths_r
def leads_rel (lv : Nat) (q : Nat × Pt × Sl) (ds : List D) (S : Sto) : Prop := ds = [.cell q.1, .lst q.2.2.ds] ∧ FlatP S q.1 q.2.1 ∧ okL q.2.2 ∧ q.2.2.lf ≤ lv
def leads_r (q : Nat × Pt × Sl) (S : Sto) : R D := .ok (rowB q.2.1.pre fun x => q.2.2.leads x) S
noncomputable def fn_Flat_leads (lv : Nat) : Fn := fnRel (leads_rel lv) leads_r
def suits_rel (lv : Nat) (q : Nat × Pt × Bool × Str × Wi) (ds : List D) (S : Sto) : Prop := ds = [.cell q.1, .tup [.str (wayS q.2.2.1), .str q.2.2.2.1, q.2.2.2.2.d]] ∧ FlatP S q.1 q.2.1 ∧ PyData.strOk q.2.2.2.1 = true ∧ okW q.2.2.2.2 ∧ q.2.2.2.2.lf + 1 ≤ lv
def suits_r (q : Nat × Pt × Bool × Str × Wi) (S : Sto) : R D := .ok (rowB q.2.1.pre fun x => called q.2.2.2.1 x && q.2.2.2.2.holds x) S
noncomputable def fn_Flat_suits (lv : Nat) : Fn := fnRel (suits_rel lv) suits_r
theorem fn_Flat_truths_0 (ds : List D) (S : Sto) : fn_Flat_truths 0 ds S = .no := fnRel_no fun q ⟨_, _, _, h⟩ => by have := q.2.2.lf_pos; omega
theorem fn_Flat_leads_0 (ds : List D) (S : Sto) : fn_Flat_leads 0 ds S = .no := fnRel_no fun q ⟨_, _, _, h⟩ => by have := q.2.2.lf_pos; omega
theorem fn_Flat_suits_0 (ds : List D) (S : Sto) : fn_Flat_suits 0 ds S = .no := fnRel_no fun q ⟨_, _, _, _, h⟩ => by omega
theorem truths_eq {lv k : Nat} {p : Pt} {w : Wi} {S : Sto} (h : FlatP S k p) (hw : okW w) (hl : w.lf ≤ lv) : fn_Flat_truths lv [.cell k, w.d] S = .ok (rowB p.pre fun x => w.holds x) S :=
  fnRel_eq (rel := truths_rel lv) (r := truths_r) (a := (k, p, w)) (fun q q' h1 h2 => by
    obtain ⟨e1, u1, _⟩ := h1
    obtain ⟨e2, u2, _⟩ := h2
    rw [e1] at e2
    simp only [List.cons.injEq, D.cell.injEq, and_true] at e2
    rw [← e2.1] at u2
    unfold truths_r
    rw [u1.uniq u2, Wi.inj _ _ e2.2]) ⟨rfl, h, hw, hl⟩
theorem leadsF_eq {lv k : Nat} {p : Pt} {l : Sl} {S : Sto} (h : FlatP S k p) (hw : okL l) (hl : l.lf ≤ lv) : fn_Flat_leads lv [.cell k, .lst l.ds] S = .ok (rowB p.pre fun x => l.leads x) S :=
  fnRel_eq (rel := leads_rel lv) (r := leads_r) (a := (k, p, l)) (fun q q' h1 h2 => by
    obtain ⟨e1, u1, _⟩ := h1
    obtain ⟨e2, u2, _⟩ := h2
    rw [e1] at e2
    simp only [List.cons.injEq, D.cell.injEq, D.lst.injEq, and_true] at e2
    rw [← e2.1] at u2
    unfold leads_r
    rw [u1.uniq u2, Sl.inj _ _ e2.2]) ⟨rfl, h, hw, hl⟩
theorem suits_eq {lv k : Nat} {p : Pt} {o : Bool} {n : Str} {w : Wi} {S : Sto} (h : FlatP S k p) (hn : PyData.strOk n = true) (hw : okW w) (hl : w.lf + 1 ≤ lv) : fn_Flat_suits lv [.cell k, .tup [.str (wayS o), .str n, w.d]] S = .ok (rowB p.pre fun x => called n x && w.holds x) S :=
  fnRel_eq (rel := suits_rel lv) (r := suits_r) (a := (k, p, o, n, w)) (fun q q' h1 h2 => by
    obtain ⟨e1, u1, _⟩ := h1
    obtain ⟨e2, u2, _⟩ := h2
    rw [e1] at e2
    simp only [List.cons.injEq, D.cell.injEq, D.tup.injEq, D.str.injEq, and_true] at e2
    rw [← e2.1] at u2
    unfold suits_r
    rw [u1.uniq u2, e2.2.2.1, Wi.inj _ _ e2.2.2.2]) ⟨rfl, h, hn, hw, hl⟩
theorem bool_map (bs : List Bool) : bs.map D.bl = bs.map D.bl := rfl
theorem row_at {xs : List Pt} {i : Nat} {q : Pt} (h : xs[i]? = some q) (g : Pt → Bool) (S : Sto) : gIdx (rowB xs g) (.int (i : Int)) S = .ok (.bl (g q)) S := by
  have : atI (xs.map fun q => D.bl (g q)) (i : Int) = some (.bl (g q)) := atI_get (by rw [List.getElem?_map, h]; rfl)
  simp [rowB, this]
theorem ref_Flat_truths (lv : Nat) (ds : List D) (S : Sto) : Ref S (fn_Flat_truths (lv + 1) ds S) (runB 7 (b_Flat_truths (fn_Flat_leads lv) (fn_Flat_truths lv)) ds S) := by
  refine fnRel_ref (fun q ds S ⟨e, h, hw, hl⟩ => ?_) ds S
  obtain ⟨k, p, w⟩ := q
  simp only at e h hw hl
  subst e
  obtain ⟨hp, a, b, hf⟩ := h
  have hz := hp.pre_len
  have hz2 : p.pre.length ≤ sizeLine := by rw [sizeLine_val]; omega
  refine Ref.self ?_
  have hall : ∀ (σ : Env) (f : Ex) (g : Pt → D) (x : Nat), (∀ q ∈ p.pre, f (σ.set x (some q.d)) S = .ok (g q) S) → compL (fun S => S[a]? = some (some (.lst (p.pre.map Pt.d)))) (hName x) tYes f σ (p.pre.map Pt.d) [] S = .ok (p.pre.map g) S :=
    fun σ f g x hq => compL_all hf.p Pt.d g p.pre (fun q h => ⟨_, rfl, hq q h⟩) hz2
  have many : ∀ (l : Wl) (gg : List D → Sto → R D) (G : List Bool → Bool), (∀ (bs : List Bool) S, gg [.lst (bs.map D.bl)] S = .ok (.bl (G bs)) S) → l.ds.length ≤ 1000 → ∀ σ : Env, σ[2]? = some (some (.lst (l.toL.map fun v => rowB p.pre fun x => v.holds x))) → 6 < σ.length →
      compL still (hName 5) tYes (eCall gg (aCons (eComp (iL (eVar 2)) (hName 6) tYes (op2 gIdx (eVar 6) (eVar 5)) [6]) aNil)) σ (intsD 0 p.pre.length) [] S = .ok (p.pre.map fun x => .bl (G (l.toL.map fun v => v.holds x))) S := by
    intro l gg G hgg hlen σ hσ hσl
    rw [intsD_len]
    have hz3 : l.toL.length ≤ sizeLine := by
      have e : l.ds.length = l.toL.length := by rw [Wl.ds_toL]; simp
      rw [sizeLine_val]; omega
    rw [compL_all (S := S) (chk := still) trivial (fun (i : Nat) => D.int (i : Int)) (fun i => .bl (G (l.toL.map fun v => v.holds (p.pre.getD i p)))) (List.range p.pre.length) (fun i hi => ⟨_, rfl, ?_⟩) (by simpa using hz2)]
    · rw [range_map p.pre _ (fun x => D.bl (G (l.toL.map fun v => v.holds x))) fun i x hx => by rw [List.getD_eq_getElem?_getD, hx]; rfl]
    · have hil : i < p.pre.length := by simpa using hi
      have hx : p.pre[i]? = some (p.pre.getD i p) := by rw [List.getD_eq_getElem?_getD, List.getElem?_eq_getElem hil]; rfl
      generalize p.pre.getD i p = x at hx
      have h2 : (σ.set 5 (some (D.int (i : Int))))[2]? = some (some (.lst (l.toL.map fun v => rowB p.pre fun x => v.holds x))) := by rw [List.getElem?_set_ne (by omega)]; exact hσ
      have h5 : ∀ y, (((σ.set 5 (some (D.int (i : Int)))).set 6 none).set 6 y)[5]? = some (some (.int (i : Int))) := fun y => by
        rw [List.getElem?_set_ne (by omega), List.getElem?_set_ne (by omega), List.getElem?_set_self (by omega)]
      have h6 : ∀ y, (((σ.set 5 (some (D.int (i : Int)))).set 6 none).set 6 y)[6]? = some y := fun y => by
        rw [List.getElem?_set_self (by simp; omega)]
      have hc := compL_all (S := S) (chk := still) (h := hName 6) (f := op2 gIdx (eVar 6) (eVar 5)) (σ := (σ.set 5 (some (D.int (i : Int)))).set 6 none) trivial (fun v : Wi => rowB p.pre fun x => v.holds x) (fun v => .bl (v.holds x)) l.toL (fun v hv => ⟨_, rfl, by
        rw [op2_eq, eVar_eq, h6]
        simp only [R.ok_bind, eVar_eq, h5]
        exact row_at hx _ S⟩) hz3
      rw [show (l.toL.map fun v => D.bl (v.holds x)) = (l.toL.map fun v => v.holds x).map D.bl by simp] at hc
      have hgg' := hgg (l.toL.map fun v => v.holds x) S
      simp only [eCall_eq, aCons_eq, eComp_eq, iL_eq, eVar_eq, h2, R.ok_bind, itL_lst, wipeE_cons, wipeE_nil, hc, aNil_eq, hgg']
  cases w with
  | any =>
    have hc := hall [some (.cell k), some (.tup [.str "any"]), none, none, none, none, none] (eC (.bl true)) (fun _ => .bl true) 3 (fun q hq => by simp)
    simp [runB, b_Flat_truths, b_Flat_truths_s1, Wi.d, hf.i, hf.p, wipeE, hc, rowB, Wi.holds]
  | text s =>
    have hc := hall [some (.cell k), some (.tup [.str "text", .str s]), none, none, none, none, none] (op2 (gIn false) (op2 gIdx (eVar 1) (eC (.int 1))) (op2 gIdx (eVar 3) (eC (.int 1)))) (fun q => .bl (hasT s q.kids.txs)) 3 (fun q hq => by
      have ho := hp.pre q hq
      obtain ⟨n, f, rfl⟩ := ho.el
      have hd := ho.dp
      simp only [Pt.dp] at hd
      have hi := gIn_fo (x := s) (f := f) hw.1 (fun x hx => ho.ok x (by simp [Pt.sg, hx])) (by omega) S
      simp [Pt.d, hi, Pt.kids])
    simp [runB, b_Flat_truths, b_Flat_truths_s1, b_Flat_truths_s2, Wi.d, hf.i, hf.p, wipeE, hc, rowB, Wi.holds]
  | has l =>
    have hle := leadsF_eq (lv := lv) (l := l) ⟨hp, a, b, hf⟩ ⟨hw.1, by have := hw.2; simp only [Wi.wd] at this; omega, by have := hw.2; simp only [Wi.wd] at this; omega⟩ (by simp only [Wi.lf] at hl; omega)
    simp [runB, b_Flat_truths, b_Flat_truths_s1, b_Flat_truths_s2, b_Flat_truths_s3, Wi.d, hf.i, hle, Wi.holds]
  | both l =>
    have hwd := hw.2
    simp only [Wi.wd, Wi.lf] at hwd hl
    have hrows := compL_all (S := S) (chk := still) (h := hName 4) (f := eMet 0 "truths" 2 (fn_Flat_truths lv) (eVar 0) (aCons (eVar 4) aNil)) (σ := [some (.cell k), some (Wi.both l).d, none, none, none, none, none]) trivial Wi.d (fun v => rowB p.pre fun x => v.holds x) l.toL (fun v hv => ⟨_, rfl, by
      have := truths_eq (lv := lv) (w := v) (S := S) ⟨hp, a, b, hf⟩ ⟨l.mem_ok hw.1 v hv, by have := l.mem_wd v hv; omega⟩ (by have := l.mem_lf v hv; omega)
      simp [hf.i, this]⟩) (by
        have e : l.ds.length = l.toL.length := by rw [Wl.ds_toL]; simp
        rw [sizeLine_val]; omega)
    rw [← Wl.ds_toL] at hrows
    have hmn := many l gAll (fun bs => bs.all id) (fun bs S => gAll_map bs) (by omega) [some (.cell k), some (Wi.both l).d, some (.lst (l.toL.map fun v => rowB p.pre fun x => v.holds x)), none, none, none, none] rfl (by simp)
    simp only [Wi.d] at hrows hmn
    have hr : (p.pre.length : Int) < 4611686018427387904 := by omega
    simp [runB, b_Flat_truths, b_Flat_truths_s1, b_Flat_truths_s2, b_Flat_truths_s3, b_Flat_truths_s4, b_Flat_truths_s5, Wi.d, hf.i, hf.p, wipeE, hrows, hr, hmn, hz2]
    simp [rowB, Wi.holds, Wl.all_toL, Wl.some_toL, List.all_map, List.any_map, Function.comp_def]
  | one l =>
    have hwd := hw.2
    simp only [Wi.wd, Wi.lf] at hwd hl
    have hrows := compL_all (S := S) (chk := still) (h := hName 4) (f := eMet 0 "truths" 2 (fn_Flat_truths lv) (eVar 0) (aCons (eVar 4) aNil)) (σ := [some (.cell k), some (Wi.one l).d, none, none, none, none, none]) trivial Wi.d (fun v => rowB p.pre fun x => v.holds x) l.toL (fun v hv => ⟨_, rfl, by
      have := truths_eq (lv := lv) (w := v) (S := S) ⟨hp, a, b, hf⟩ ⟨l.mem_ok hw.1 v hv, by have := l.mem_wd v hv; omega⟩ (by have := l.mem_lf v hv; omega)
      simp [hf.i, this]⟩) (by
        have e : l.ds.length = l.toL.length := by rw [Wl.ds_toL]; simp
        rw [sizeLine_val]; omega)
    rw [← Wl.ds_toL] at hrows
    have hmn := many l gAny (fun bs => bs.any id) (fun bs S => gAny_map bs) (by omega) [some (.cell k), some (Wi.one l).d, some (.lst (l.toL.map fun v => rowB p.pre fun x => v.holds x)), none, none, none, none] rfl (by simp)
    simp only [Wi.d] at hrows hmn
    have hr : (p.pre.length : Int) < 4611686018427387904 := by omega
    simp [runB, b_Flat_truths, b_Flat_truths_s1, b_Flat_truths_s2, b_Flat_truths_s3, b_Flat_truths_s4, b_Flat_truths_s5, b_Flat_truths_s6, Wi.d, hf.i, hf.p, wipeE, hrows, hr, hmn, hz2]
    simp [rowB, Wi.holds, Wl.all_toL, Wl.some_toL, List.all_map, List.any_map, Function.comp_def]
theorem pairs_zip {α : Type} (e : α → D) : ∀ (xs : List α) (k : Nat), pairsFrom k (xs.map e) = (xs.zipIdx k).map fun p => .tup [.int (p.2 : Int), e p.1]
  | [], _ => rfl
  | x :: r, k => by simp [pairsFrom, pairs_zip e r (k + 1)]
theorem zip_fst {α β : Type} (xs : List α) (H : α → β) (k : Nat) : ((xs.zipIdx k).map fun p => H p.1) = xs.map H := by
  induction xs generalizing k with
  | nil => rfl
  | cons x r ih => simp [ih (k + 1)]
theorem called_inL {n : Str} {q : Pt} (hn : PyData.strOk n = true) (hq : PyData.strOk q.nm = true) (S : Sto) : gIn false (.str n) (.lst [.str "*", .str q.nm]) S = .ok (.bl (called n q)) S := by
  have hp : py S 60 (.str n) = some (.str n) := by simp [py, hn]
  have k1 : PyData.strOk "*" = true := by decide +kernel
  have e : ([PyData.str "*", PyData.str q.nm].any fun z => PyData.eqv z (.str n)) = called n q := by
    have := any_eqv_str ["*", q.nm] n
    simp only [List.map_cons, List.map_nil] at this
    rw [this]
    unfold called
    by_cases h1 : n = "*"
    · simp [h1]
    · by_cases h2 : n = q.nm
      · simp [← h2]
      · simp [h1, h2]
  simp only [gIn, lstOf', lstOf, hp]
  simp [omap, py, k1, hq, e]
theorem ref_Flat_suits (lv : Nat) (ds : List D) (S : Sto) : Ref S (fn_Flat_suits (lv + 1) ds S) (runB 5 (b_Flat_suits (fn_Flat_truths lv)) ds S) := by
  refine fnRel_ref (fun q ds S ⟨e, h, hn, hw, hl⟩ => ?_) ds S
  obtain ⟨k, p, o, n, w⟩ := q
  simp only at e h hn hw hl
  subst e
  have ht := truths_eq (lv := lv) h hw (by omega)
  obtain ⟨hp, a, b, hf⟩ := h
  have hz := hp.pre_len
  have hc := compL_all (S := S) (chk := fun S => S[a]? = some (some (.lst (p.pre.map Pt.d)))) (h := hTup 2 (hCons (hName 3) (hCons (hName 4) hNil))) (f := eAnd (op2 gIdx (eVar 2) (eVar 3)) (op2 (gIn false) (op2 gIdx (eVar 1) (eC (.int 1))) (eLst (aCons (eC (.str "*")) (aCons (op2 gIdx (eVar 4) (eC (.int 0))) aNil)))))
    (σ := [some (.cell k), some (.tup [.str (wayS o), .str n, w.d]), some (rowB p.pre fun x => w.holds x), none, none]) hf.p (fun (z : Pt × Nat) => D.tup [.int (z.2 : Int), z.1.d]) (fun z => .bl (called n z.1 && w.holds z.1)) p.pre.zipIdx (fun z hz => ⟨_, rfl, by
      obtain ⟨x, i⟩ := z
      have hx := List.mk_mem_zipIdx_iff_getElem?.mp hz
      have ho := hp.pre x (List.mem_of_getElem? hx)
      have hr := row_at hx (fun x => w.holds x) S
      have hci := called_inL hn ho.nmOk S
      obtain ⟨m, f, rfl⟩ := ho.el
      cases e : w.holds (.el m f) with
      | true => rw [e] at hr; simp [Pt.nm] at hci; simp [hr, Pt.d, hci]
      | false => rw [e] at hr; simp [hr, Pt.d]⟩) (by rw [sizeLine_val]; simp; omega)
  rw [← pairs_zip, zip_fst p.pre (fun x => D.bl (called n x && w.holds x))] at hc
  have g1 : b_Flat_suits_s1 (fn_Flat_truths lv) [some (.cell k), some (.tup [.str (wayS o), .str n, w.d]), none, none, none] S = .nx [some (.cell k), some (.tup [.str (wayS o), .str n, w.d]), some (rowB p.pre fun x => w.holds x), none, none] S := by
    simp [b_Flat_suits_s1, hf.i, ht]
  refine Ref.self ?_
  simp [runB, b_Flat_suits, g1, b_Flat_suits_s2, hf.i, hf.p, wipeE, hc]
  rfl
theorem leads_nobk (f g : Fn) (σ : Env) (S : Sto) (σ' : Env) (S' : Sto) : b_Flat_leads_l1 f g σ S ≠ .bk σ' S' := by
  unfold b_Flat_leads_l1
  intro h
  simp only [sSeq_eq, sAsg_eq] at h
  generalize (eMet 0 "suits" 2 f (eVar 0) (aCons (eVar 3) aNil)) σ S = r at h
  cases r with
  | no => simp at h
  | ex _ _ _ => simp at h
  | ok v S1 =>
    simp only [SO.of_ok] at h
    generalize (eMet 0 "below" 3 g (eVar 0) _) (σ.set 4 (some v)) S1 = r2 at h
    cases r2 <;> simp at h
/-- steps from the end -/
theorem leads_steps (lv k : Nat) {p : Pt} {S : Sto} (h : FlatP S k p) (x : Option D) : ∀ (l : Sl) (y3 y4 : Option D), l.okS → l.wd ≤ 1000 → l.lf ≤ lv + 1 →
    ∃ y3' y4', forL still (hName 3) (b_Flat_leads_l1 (fn_Flat_suits lv) fn_Flat_below) l.ds.reverse [some (.cell k), x, some (rowB p.pre fun _ => true), y3, y4, none, none] S = .nx [some (.cell k), x, some (rowB p.pre fun q => l.leads q), y3', y4', none, none] S
  | .nil, y3, y4, _, _, _ => ⟨y3, y4, by simp [Sl.ds, Sl.leads]⟩
  | .cons o n w r, y3, y4, h1, h2, h3 => by
    simp only [Sl.okS, Sl.wd, Sl.lf] at h1 h2 h3
    obtain ⟨y3', y4', ih⟩ := leads_steps lv k h x r y3 y4 h1.2.2 (by omega) (by omega)
    have hs := suits_eq (lv := lv) (o := o) h h1.1 ⟨h1.2.1, by omega⟩ (by omega)
    obtain ⟨hp, a, b, hf⟩ := h
    have hz := hp.pre_len
    have hz2 : p.pre.length ≤ sizeLine := by rw [sizeLine_val]; omega
    have hb := below_row hf hz (fun q => called n q && w.holds q && r.leads q) o
    have hc := compL_all (S := S) (chk := still) (h := hName 6) (f := eAnd (op2 gIdx (eVar 4) (eVar 6)) (op2 gIdx (eVar 2) (eVar 6))) (σ := [some (.cell k), x, some (rowB p.pre fun q => r.leads q), some (.tup [.str (wayS o), .str n, w.d]), some (rowB p.pre fun x => called n x && w.holds x), none, none]) trivial (fun (i : Nat) => D.int (i : Int)) (fun i => .bl ((called n (p.pre.getD i p) && w.holds (p.pre.getD i p)) && r.leads (p.pre.getD i p))) (List.range p.pre.length) (fun i hi => ⟨_, rfl, by
      have hil : i < p.pre.length := by simpa using hi
      have hx : p.pre[i]? = some (p.pre.getD i p) := by rw [List.getD_eq_getElem?_getD, List.getElem?_eq_getElem hil]; rfl
      generalize p.pre.getD i p = q at hx
      have r1 := row_at hx (fun x => called n x && w.holds x) S
      have r2 := row_at hx (fun x => r.leads x) S
      generalize (called n q && w.holds q) = bb at r1 ⊢
      generalize r.leads q = bc at r2 ⊢
      cases bb <;> simp [r1, r2]⟩) (by simpa using hz2)
    rw [range_map p.pre (fun i => .bl ((called n (p.pre.getD i p) && w.holds (p.pre.getD i p)) && r.leads (p.pre.getD i p))) (fun x => D.bl (called n x && w.holds x && r.leads x)) fun i x hx => by simp only [List.getD_eq_getElem?_getD, hx, Option.getD_some]] at hc
    have hlen : gLen [rowB p.pre fun x => called n x && w.holds x] S = .ok (.int (p.pre.length : Int)) S := by simp [rowB]
    have hr : (p.pre.length : Int) < 4611686018427387904 := by omega
    have hcb : D.lst (p.pre.map fun x => D.bl (called n x && w.holds x && r.leads x)) = rowB p.pre fun q => called n q && w.holds q && r.leads q := rfl
    refine ⟨some (.tup [.str (wayS o), .str n, w.d]), some (rowB p.pre fun x => called n x && w.holds x), ?_⟩
    have hds : (Sl.cons o n w r).ds.reverse = r.ds.reverse ++ [.tup [.str (wayS o), .str n, w.d]] := by simp [Sl.ds]
    rw [hds, forL_append (σ' := [some (.cell k), x, some (rowB p.pre fun q => r.leads q), y3', y4', none, none]) (S' := S) (fun σ S σ' S' => leads_nobk _ _ σ S σ' S') ih, forL_still_cons]
    simp only [hName_eq, List.set_cons_succ, List.set_cons_zero]
    have ht : b_Flat_leads_l1 (fn_Flat_suits lv) fn_Flat_below [some (.cell k), x, some (rowB p.pre fun q => r.leads q), some (.tup [.str (wayS o), .str n, w.d]), y4', none, none] S =
        .nx [some (.cell k), x, some (rowB p.pre fun q => (q.below o).any fun q => called n q && w.holds q && r.leads q), some (.tup [.str (wayS o), .str n, w.d]), some (rowB p.pre fun x => called n x && w.holds x), none, none] S := by
      simp [b_Flat_leads_l1, hf.i, hs, hlen, hr, intsD_len, wipeE, hc, hcb, hb]
    rw [ht]
    simp [Sl.leads]
theorem ref_Flat_leads (lv : Nat) (ds : List D) (S : Sto) : Ref S (fn_Flat_leads (lv + 1) ds S) (runB 7 (b_Flat_leads (fn_Flat_suits lv) fn_Flat_below) ds S) := by
  refine fnRel_ref (fun q ds S ⟨e, h, hw, hl⟩ => ?_) ds S
  obtain ⟨k, p, l⟩ := q
  simp only at e h hw hl
  subst e
  obtain ⟨y3, y4, hlp⟩ := leads_steps lv k h (some (.lst l.ds)) l none none hw.1 hw.2.1 hl
  obtain ⟨hp, a, b, hf⟩ := h
  have hz := hp.pre_len
  have hz2 : p.pre.length ≤ sizeLine := by rw [sizeLine_val]; omega
  have hc := compL_all (S := S) (chk := fun S => S[a]? = some (some (.lst (p.pre.map Pt.d)))) (h := hName 5) (f := eC (.bl true)) (σ := [some (.cell k), some (.lst l.ds), none, none, none, none, none]) hf.p Pt.d (fun _ => .bl true) p.pre (fun q _ => ⟨_, rfl, rfl⟩) hz2
  have hrow : D.lst (p.pre.map fun _ => D.bl true) = rowB p.pre fun _ => true := rfl
  have g1 : b_Flat_leads_s1 [some (.cell k), some (.lst l.ds), none, none, none, none, none] S = .nx [some (.cell k), some (.lst l.ds), some (rowB p.pre fun _ => true), none, none, none, none] S := by
    rw [← hrow]
    simp only [b_Flat_leads_s1, sAsg_eq, eComp_eq, iL_eq, eFld_eq, eVar_eq, List.getElem?_cons_zero, R.ok_bind, gFld_eq, insOf_cell, hf.i, if_true, flat_parts, itL_cell, hf.p, wipeE_cons, wipeE_nil, List.set_cons_succ, List.set_cons_zero, hc, SO.of_ok]
  refine Ref.self ?_
  simp [runB, b_Flat_leads, g1, b_Flat_leads_s2, b_Flat_leads_s3, hlp]
end Ev

/-! how large drawn wishes are -/
namespace Ev
open PySem PySem.Spec PyProof.Rows L2
structure WiB (m : Nat) (w : Wi) : Prop where
  ok : w.okS
  wd : w.wd ≤ 5
  dp : w.dp ≤ m
  lv : w.lv ≤ m
  lf : w.lf ≤ m
structure WlB (m : Nat) (w : Wl) : Prop where
  ok : w.okS
  wd : w.wd ≤ 5
  dp : w.dp ≤ m
  lv : w.lv ≤ m
  lf : w.lf ≤ m
structure SlB (m : Nat) (w : Sl) : Prop where
  ok : w.okS
  wd : w.wd ≤ 5
  dp : w.dp ≤ m
  lv : w.lv ≤ m
  lf : w.lf ≤ m
theorem WiB.mono {m k : Nat} {w : Wi} (h : WiB m w) (l : m ≤ k) : WiB k w := ⟨h.ok, h.wd, by have := h.dp; omega, by have := h.lv; omega, by have := h.lf; omega⟩
theorem SlB.mono {m k : Nat} {w : Sl} (h : SlB m w) (l : m ≤ k) : SlB k w := ⟨h.ok, h.wd, by have := h.dp; omega, by have := h.lv; omega, by have := h.lf; omega⟩
theorem wlN_B {f : List Int → Wi × List Int} {m : Nat} (hm : 1 ≤ m) (hf : ∀ is, WiB m (f is).1) : ∀ (n : Nat) (is : List Int), WlB m (wlN f n is).1 ∧ (wlN f n is).1.ds.length = n
  | 0, is => ⟨⟨trivial, by simp [wlN, Wl.wd], by simpa [wlN, Wl.dp] using hm, by simpa [wlN, Wl.lv] using hm, by simpa [wlN, Wl.lf] using hm⟩, rfl⟩
  | n + 1, is => by
    obtain ⟨a, b⟩ := wlN_B hm hf n (f is).2
    have c := hf is
    have h1 := a.wd; have h2 := a.dp; have h3 := a.lv; have h4 := a.lf
    have k1 := c.wd; have k2 := c.dp; have k3 := c.lv; have k4 := c.lf
    exact ⟨⟨⟨c.ok, a.ok⟩, by simp only [wlN, Wl.wd]; omega, by simp only [wlN, Wl.dp]; omega, by simp only [wlN, Wl.lv]; omega, by simp only [wlN, Wl.lf]; omega⟩, by simp only [wlN, Wl.ds, List.length_cons, b]⟩
theorem slN_B {names : List Str} (hn : ∀ s ∈ names, PyData.strOk s = true) {f : List Int → Wi × List Int} {m : Nat} (hm : 1 ≤ m) (hf : ∀ is, WiB m (f is).1) : ∀ (n : Nat) (is : List Int), SlB (m + 2 + n) (slN names f n is).1 ∧ (slN names f n is).1.ds.length = n
  | 0, is => ⟨⟨trivial, by simp [slN, Sl.wd], by simp [slN, Sl.dp], by simp [slN, Sl.lv], by simp [slN, Sl.lf]⟩, rfl⟩
  | n + 1, is => by
    obtain ⟨a, b⟩ := slN_B hn hm hf n (f (popI is).2).2
    have c := hf (popI is).2
    have h1 := a.wd; have h2 := a.dp; have h3 := a.lv; have h4 := a.lf
    have k1 := c.wd; have k2 := c.dp; have k3 := c.lv; have k4 := c.lf
    have hs : PyData.strOk (stepNm names (popI is).1) = true := by
      rcases stepNm_mem names (popI is).1 with h | h
      · exact hn _ h
      · rw [h]; decide +kernel
    exact ⟨⟨⟨hs, c.ok, a.ok⟩, by simp only [slN, Sl.wd]; omega, by simp only [slN, Sl.dp]; omega, by simp only [slN, Sl.lv]; omega, by simp only [slN, Sl.lf]; omega⟩, by simp only [slN, Sl.ds, List.length_cons, b]⟩
theorem stepsD_B {names : List Str} (hn : ∀ s ∈ names, PyData.strOk s = true) {f : List Int → Wi × List Int} {m : Nat} (hm : 1 ≤ m) (hf : ∀ is, WiB m (f is).1) (is : List Int) : SlB (m + 5) (stepsD names f is).1 ∧ 1 ≤ (stepsD names f is).1.ds.length ∧ (stepsD names f is).1.ds.length ≤ 3 := by
  obtain ⟨a, b⟩ := slN_B hn hm hf (manyS (popI is).1) (popI is).2
  have h := manyS_le (popI is).1
  refine ⟨SlB.mono a (by omega), ?_, ?_⟩
  · show 1 ≤ (slN names f (manyS (popI is).1) (popI is).2).1.ds.length; omega
  · show (slN names f (manyS (popI is).1) (popI is).2).1.ds.length ≤ 3; omega
theorem wishD_B {names : List Str} (hn : ∀ s ∈ names, PyData.strOk s = true) : ∀ (d : Nat) (is : List Int), WiB (1 + 6 * d) (wishD names d is).1
  | 0, is => by
    simp only [wishD]
    split
    · exact ⟨eightT_ok _ (textD_mem _), by simp [Wi.wd], by simp [Wi.dp], by simp [Wi.lv], by simp [Wi.lf]⟩
    · exact ⟨trivial, by simp [Wi.wd], by simp [Wi.dp], by simp [Wi.lv], by simp [Wi.lf]⟩
  | d + 1, is => by
    simp only [wishD]
    have ih := wishD_B hn d
    split
    · exact ⟨eightT_ok _ (textD_mem _), by simp [Wi.wd], by simp [Wi.dp], by simp [Wi.lv], by simp [Wi.lf]⟩
    · split
      · exact ⟨trivial, by simp [Wi.wd], by simp [Wi.dp], by simp [Wi.lv], by simp [Wi.lf]⟩
      · split
        · obtain ⟨a, b, c⟩ := stepsD_B hn (by omega) ih (popI is).2
          have h1 := a.wd; have h2 := a.dp; have h3 := a.lv; have h4 := a.lf
          exact ⟨a.ok, by simp only [Wi.wd]; omega, by simp only [Wi.dp]; omega, by simp only [Wi.lv]; omega, by simp only [Wi.lf]; omega⟩
        · obtain ⟨a, b⟩ := wlN_B (show 1 ≤ 1 + 6 * d by omega) ih (manyW ((popI is).1 / 8)) (popI is).2
          have hm := manyW_le ((popI is).1 / 8)
          have h1 := a.wd; have h2 := a.dp; have h3 := a.lv; have h4 := a.lf
          split
          · exact ⟨a.ok, by simp only [Wi.wd]; omega, by simp only [Wi.dp]; omega, by simp only [Wi.lv]; omega, by simp only [Wi.lf]; omega⟩
          · exact ⟨a.ok, by simp only [Wi.wd]; omega, by simp only [Wi.dp]; omega, by simp only [Wi.lv]; omega, by simp only [Wi.lf]; omega⟩
theorem wish_in {is : List Int} (h : inR is) : inR (popI is).2 ∧ 0 ≤ (popI is).1 ∧ (popI is).1 < 2147483587 := by
  refine ⟨fun x hx => h x (List.dropLast_sublist is |>.subset hx), ?_⟩
  unfold popI
  rcases List.eq_nil_or_concat is with e | ⟨r, x, e⟩
  · subst e; simp
  · subst e
    have := h x (by simp)
    simpa using this
end Ev

/-! a new Flat -/
namespace Ev
open PySem PySem.Spec PyProof.Rows L2
noncomputable def b_Flat___init___s1 : Sx :=
      (sFld 0 "parts" (eVar 0) (eNew aNil))
noncomputable def b_Flat___init___s2 : Sx :=
      (sFld 0 "around" (eVar 0) (eNew aNil))
noncomputable def b_Flat___init___s3 (f_Flat_lay : Fn) : Sx :=
      (sExp (eMet 0 "lay" 3 f_Flat_lay (eVar 0) (aCons (eVar 1) (aCons (op1 gNeg (eC (.int 1))) aNil))))
noncomputable def b_Flat___init__ (f_Flat_lay : Fn) : Sx :=
      (sSeq (b_Flat___init___s1)
      (sSeq (b_Flat___init___s2)
      (b_Flat___init___s3 f_Flat_lay)))
def init_rel (q : Nat × Pt) (ds : List D) (S : Sto) : Prop := ds = [.cell q.1, q.2.d] ∧ S[q.1]? = some (some (.ins 0 [])) ∧ PtOk q.2
def init_r (q : Nat × Pt) (S : Sto) : R D := .ok .non (S.set q.1 (some (.ins 0 [("parts", .cell S.length), ("around", .cell (S.length + 1))])) ++ [some (.lst (q.2.pre.map Pt.d)), some (.lst (q.2.ards.map D.int))])
noncomputable def fn_Flat___init__ : Fn := fnRel init_rel init_r
theorem init_eq {k : Nat} {p : Pt} {S : Sto} (h : S[k]? = some (some (.ins 0 []))) (hp : PtOk p) : fn_Flat___init__ [.cell k, p.d] S = .ok .non (S.set k (some (.ins 0 [("parts", .cell S.length), ("around", .cell (S.length + 1))])) ++ [some (.lst (p.pre.map Pt.d)), some (.lst (p.ards.map D.int))]) :=
  fnRel_eq (rel := init_rel) (r := init_r) (a := (k, p)) (fun q q' h1 h2 => by
    obtain ⟨e1, _⟩ := h1
    obtain ⟨e2, _⟩ := h2
    rw [e1] at e2
    simp only [List.cons.injEq, D.cell.injEq, and_true] at e2
    unfold init_r
    rw [e2.1, Pt.inj _ _ e2.2]) ⟨rfl, h, hp⟩
theorem ref_Flat___init__ (ds : List D) (S : Sto) : Ref S (fn_Flat___init__ ds S) (runB 2 (b_Flat___init__ (fn_Flat_lay 30)) ds S) := by
  refine fnRel_ref (fun q ds S ⟨e, h, hp⟩ => ?_) ds S
  obtain ⟨k, p⟩ := q
  simp only at e h hp
  subst e
  have hk : k < S.length := (List.getElem?_eq_some_iff.mp h).1
  have n1 : ("parts" : Str) ≠ "around" := by decide +kernel
  have n2 : ¬ ("around" : Str) = "parts" := by decide +kernel
  have g1 : b_Flat___init___s1 [some (.cell k), some p.d] S = .nx [some (.cell k), some p.d] (S.set k (some (.ins 0 [("parts", .cell S.length)])) ++ [some (.lst [])]) := by
    have h' : (S ++ [some (C.lst [])])[k]? = some (some (.ins 0 [])) := get_old h
    simp [b_Flat___init___s1, h', set_old hk]
  have h1 : (S.set k (some (.ins 0 [("parts", .cell S.length)])) ++ [some (.lst [])] ++ [some (C.lst [])])[k]? = some (some (.ins 0 [("parts", .cell S.length)])) := get_old (get_old (get_set ⟨_, h⟩))
  have g2 : b_Flat___init___s2 [some (.cell k), some p.d] (S.set k (some (.ins 0 [("parts", .cell S.length)])) ++ [some (.lst [])]) = .nx [some (.cell k), some p.d] (S.set k (some (.ins 0 [("parts", .cell S.length), ("around", .cell (S.length + 1))])) ++ [some (.lst []), some (.lst [])]) := by
    simp only [List.append_assoc, List.cons_append, List.nil_append] at h1
    simp [b_Flat___init___s2, h1, n1]
    rw [List.set_append_left _ _ (by simpa using hk), List.set_set]
  obtain ⟨n, f, rfl⟩ := hp.el
  have hd := hp.dp
  have hz := hp.sz
  simp only [Pt.dp, Pt.sg, List.length_cons, List.length_append, List.length_nil] at hd hz
  have hF : FlatAt (S.set k (some (.ins 0 [("parts", .cell S.length), ("around", .cell (S.length + 1))])) ++ [some (.lst []), some (.lst [])]) k S.length (S.length + 1) [] [] :=
    ⟨get_old (get_set ⟨_, h⟩), by rw [List.getElem?_append_right (by simp)]; simp, by rw [List.getElem?_append_right (by simp)]; simp, by omega⟩
  have hl := lay_eq (lv := 30) (n := n) (f := f) (ar := -1) hF rfl (by omega) (by simp; omega)
  have hput : put2 (S.set k (some (.ins 0 [("parts", .cell S.length), ("around", .cell (S.length + 1))])) ++ [some (.lst []), some (.lst [])]) S.length (S.length + 1) ([] ++ .el n f :: f.deep) ([] ++ (-1) :: (arF f ([] : List Pt).length (([] : List Pt).length + 1)).map natI) =
      S.set k (some (.ins 0 [("parts", .cell S.length), ("around", .cell (S.length + 1))])) ++ [some (.lst ((Pt.el n f).pre.map Pt.d)), some (.lst ((Pt.el n f).ards.map D.int))] := by
    unfold put2
    rw [List.set_append_right _ _ (by simp), List.set_append_right _ _ (by simp)]
    simp [Pt.pre, Pt.ards, Pt.kids]
  rw [hput] at hl
  have g3 : b_Flat___init___s3 (fn_Flat_lay 30) [some (.cell k), some (Pt.el n f).d] (S.set k (some (.ins 0 [("parts", .cell S.length), ("around", .cell (S.length + 1))])) ++ [some (.lst []), some (.lst [])]) =
      .nx [some (.cell k), some (Pt.el n f).d] (S.set k (some (.ins 0 [("parts", .cell S.length), ("around", .cell (S.length + 1))])) ++ [some (.lst ((Pt.el n f).pre.map Pt.d)), some (.lst ((Pt.el n f).ards.map D.int))]) := by
    have h3 := hF.i
    simp [b_Flat___init___s3, h3, hl]
  refine Ref.self ?_
  simp [runB, b_Flat___init__, g1, g2, g3]
theorem init_new {p : Pt} {S : Sto} (hp : PtOk p) : fn_Flat___init__ [.cell S.length, p.d] (S ++ [some (.ins 0 [])]) = .ok .non (S ++ [some (.ins 0 [("parts", .cell (S.length + 1)), ("around", .cell (S.length + 2))]), some (.lst (p.pre.map Pt.d)), some (.lst (p.ards.map D.int))]) := by
  have hi := init_eq (k := S.length) (p := p) (S := S ++ [some (.ins 0 [])]) (by simp) hp
  rw [hi]
  simp
end Ev

/-! who stands above; the answers -/
namespace Ev
open PySem PySem.Spec PyProof.Rows L2
/-- each tuple with those around it, from the inside -/
def chF : Fo → List Pt → List (List Pt)
  | .nil, _ => []
  | .tx _ r, anc => chF r anc
  | .el n k r, anc => (.el n k :: anc) :: (chF k (.el n k :: anc) ++ chF r anc)
def Pt.chs (p : Pt) : List (List Pt) := [p] :: chF p.kids [p]
theorem chF_head : ∀ (f : Fo) (anc : List Pt) (d : Pt), (chF f anc).map (fun c => c.headD d) = f.deep
  | .nil, _, _ => rfl
  | .tx _ r, anc, d => chF_head r anc d
  | .el n k r, anc, d => by simp only [chF, Fo.deep, List.map_cons, List.map_append, List.headD_cons, chF_head k, chF_head r]
theorem chs_head (p : Pt) : p.chs.map (fun c => c.headD p) = p.pre := by simp only [Pt.chs, Pt.pre, List.map_cons, List.headD_cons, chF_head]
theorem chF_len (f : Fo) (anc : List Pt) : (chF f anc).length = f.deep.length := by rw [← chF_head f anc (.tx ""), List.length_map]
theorem chs_len (p : Pt) : p.chs.length = p.pre.length := by rw [← chs_head p, List.length_map]
theorem chF_par : ∀ (f : Fo) (par n : Nat) (anc : List Pt) (L : List (List Pt)), L[par]? = some anc → (∀ i c, (chF f anc)[i]? = some c → L[n + i]? = some c) →
    ∀ i m, (arF f par n)[i]? = some m → ∃ x t, L[m]? = some t ∧ L[n + i]? = some (x :: t)
  | .nil, par, n, anc, L, h1, h2, i, m, h => by simp [arF] at h
  | .tx _ r, par, n, anc, L, h1, h2, i, m, h => chF_par r par n anc L h1 h2 i m h
  | .el nm k r, par, n, anc, L, h1, h2, i, m, h => by
    have hn := h2 0 (.el nm k :: anc) rfl
    cases i with
    | zero =>
      simp only [arF, List.getElem?_cons_zero, Option.some.injEq] at h
      subst h
      exact ⟨_, _, h1, hn⟩
    | succ i =>
      simp only [arF, List.getElem?_cons_succ] at h
      by_cases hi : i < (arF k n (n + 1)).length
      · rw [List.getElem?_append_left hi] at h
        have := chF_par k n (n + 1) (.el nm k :: anc) L hn (fun j c hc => by
          have := h2 (j + 1) c (by
            simp only [chF, List.getElem?_cons_succ]
            rw [List.getElem?_append_left (List.getElem?_eq_some_iff.mp hc).1]; exact hc)
          rw [show n + 1 + j = n + (j + 1) by omega]; exact this) i m h
        rw [show n + (i + 1) = n + 1 + i by omega]; exact this
      · rw [List.getElem?_append_right (by omega), arF_len] at h
        rw [arF_len] at hi
        have := chF_par r par (n + 1 + k.deep.length) anc L h1 (fun j c hc => by
          have := h2 (k.deep.length + j + 1) c (by
            simp only [chF, List.getElem?_cons_succ]
            rw [List.getElem?_append_right (by rw [chF_len]; omega), chF_len]
            simpa using hc)
          rw [show n + 1 + k.deep.length + j = n + (k.deep.length + j + 1) by omega]; exact this) _ m h
        rw [show n + 1 + k.deep.length + (i - k.deep.length) = n + (i + 1) by omega] at this; exact this
theorem chs_par (p : Pt) (i m : Nat) (h : (arF p.kids 0 1)[i]? = some m) : m ≤ i ∧ ∃ x t, p.chs[m]? = some t ∧ p.chs[i + 1]? = some (x :: t) := by
  refine ⟨by have := arF_lt p.kids 0 1 i m (by omega) h; omega, ?_⟩
  have := chF_par p.kids 0 1 [p] p.chs rfl (fun j c hc => by rw [show 1 + j = j + 1 by omega]; exact hc) i m h
  rw [show 1 + i = i + 1 by omega] at this
  exact this
def tailsAny (G : List Pt → Bool) : List Pt → Bool
  | [] => false
  | x :: t => G (x :: t) || tailsAny G t
def aboveC (G : List Pt → Bool) (own : Bool) : List Pt → Bool
  | [] => false
  | _ :: t => if own = true then (!t.isEmpty) && G t else tailsAny G t
def stepA (good : Nat → Bool) (inner : Bool) (ar : Nat → Nat) (F : Nat → Bool) (j : Nat) : Nat → Bool := fun i => if i = j then good (ar j) || (inner && F (ar j)) else F i
def aboveB (p : Pt) (good : Nat → Bool) (own : Bool) (n : Nat) : Nat → Bool := (List.range' 1 n).foldl (stepA good (!own) fun j => ((arF p.kids 0 1)[j - 1]?).getD 0) fun _ => false
theorem aboveB_ch (p : Pt) (G : List Pt → Bool) (good : Nat → Bool) (own : Bool) (hg : ∀ i c, p.chs[i]? = some c → good i = G c) : ∀ (n : Nat), n < p.chs.length → ∀ (i : Nat) (c : List Pt), p.chs[i]? = some c → aboveB p good own n i = if i ≤ n then aboveC G own c else false
  | 0, hn, i, c, h => by
    simp only [aboveB, List.range'_zero, List.foldl_nil]
    by_cases hi : i ≤ 0
    · have : i = 0 := by omega
      subst this
      simp only [Pt.chs, List.getElem?_cons_zero, Option.some.injEq] at h
      subst h
      cases own <;> simp [aboveC, tailsAny]
    · rw [if_neg hi]
  | n + 1, hn, i, c, h => by
    have ih := aboveB_ch p G good own hg n (by omega)
    have hlen : p.chs.length = (arF p.kids 0 1).length + 1 := by rw [arF_len]; simp [Pt.chs, chF_len]
    have hx : n < (arF p.kids 0 1).length := by omega
    have hm := List.getElem?_eq_getElem hx
    generalize (arF p.kids 0 1)[n] = m at hm
    obtain ⟨hle, x, t, h1, h2⟩ := chs_par p n m hm
    have e : aboveB p good own (n + 1) = stepA good (!own) (fun j => ((arF p.kids 0 1)[j - 1]?).getD 0) (aboveB p good own n) (n + 1) := by
      unfold aboveB
      rw [List.range'_1_concat, List.foldl_append]
      simp [Nat.add_comm]
    rw [e]
    simp only [stepA, Nat.add_sub_cancel, hm, Option.getD_some]
    by_cases hi : i = n + 1
    · subst hi
      rw [if_pos rfl, if_pos (Nat.le_refl _)]
      rw [h2] at h
      cases h
      have ht : t ≠ [] := by
        intro et; subst et
        cases m with
        | zero => simp [Pt.chs] at h1
        | succ m' =>
          have hx' : m' < (arF p.kids 0 1).length := by omega
          obtain ⟨_, x', t', _, h4⟩ := chs_par p m' _ (List.getElem?_eq_getElem hx')
          rw [h4] at h1; cases h1
      have hi2 := ih m t h1
      rw [if_pos (by omega)] at hi2
      rw [hg m t h1, hi2]
      cases own with
      | true => cases t with
        | nil => exact absurd rfl ht
        | cons y t' => simp [aboveC]
      | false => cases t with
        | nil => exact absurd rfl ht
        | cons y t' => simp [aboveC, tailsAny]
    · rw [if_neg hi, ih i c h]
      by_cases h3 : i ≤ n
      · rw [if_pos h3, if_pos (by omega)]
      · rw [if_neg h3, if_neg (by omega)]
noncomputable def b_Flat_above_s1 : Sx :=
      (sAsg 3 (op2 gRepN (eLst (aCons (eC (.bl false)) aNil)) (eCall gLen (aCons (eFld 0 "parts" (eVar 0)) aNil))))
noncomputable def b_Flat_above_l1 : Sx :=
      (sSeq (sAsg 5 (op2 gIdx (eFld 0 "around" (eVar 0)) (eVar 4)))
      (sIx (eOr (op2 gIdx (eVar 1) (eVar 5)) (eAnd (op2 gEq (eVar 2) (eC (.str "inner"))) (op2 gIdx (eVar 3) (eVar 5)))) (eVar 3) (eVar 4)))
noncomputable def b_Flat_above_s2 : Sx :=
      (sFor (iR2 (eC (.int 1)) (eCall gLen (aCons (eFld 0 "parts" (eVar 0)) aNil))) (hName 4) (b_Flat_above_l1))
noncomputable def b_Flat_above_s3 : Sx :=
      (sRet (eVar 3))
noncomputable def b_Flat_above : Sx :=
      (sSeq (b_Flat_above_s1)
      (sSeq (b_Flat_above_s2)
      (b_Flat_above_s3)))
def above_rel (q : FlatB) (ds : List D) (S : Sto) : Prop := ds = [.cell q.k, .lst (q.good.map D.bl), .str (wayS q.own)] ∧ FlatAt S q.k q.a q.b q.p.pre q.p.ards ∧ q.good.length = q.p.pre.length ∧ q.p.pre.length ≤ 1000
noncomputable def above_r (q : FlatB) (S : Sto) : R D := .ok (.lst (blsN q.p.pre.length (aboveB q.p (fun i => q.good.getD i false) q.own (q.p.pre.length - 1)))) S
noncomputable def fn_Flat_above : Fn := fnRel above_rel above_r
theorem above_loop {S : Sto} {k a b : Nat} {p : Pt} {good : List Bool} {own : Bool} (h : FlatAt S k a b p.pre p.ards) (hl : good.length = p.pre.length) : ∀ (js : List Nat) (F : Nat → Bool) (y z : Option D), (∀ j ∈ js, 1 ≤ j ∧ j < p.pre.length) →
    ∃ y' z', forL still (hName 4) b_Flat_above_l1 (js.map fun (j : Nat) => D.int (j : Int)) [some (.cell k), some (.lst (good.map D.bl)), some (.str (wayS own)), some (.cell S.length), y, z] (S ++ [some (.lst (blsN p.pre.length F))]) =
      .nx [some (.cell k), some (.lst (good.map D.bl)), some (.str (wayS own)), some (.cell S.length), y', z'] (S ++ [some (.lst (blsN p.pre.length (js.foldl (stepA (fun i => good.getD i false) (!own) fun j => ((arF p.kids 0 1)[j - 1]?).getD 0) F)))])
  | [], F, y, z, _ => ⟨y, z, by simp⟩
  | j :: js, F, y, z, hj => by
    obtain ⟨j1, j2⟩ := hj j (by simp)
    have hlen : p.pre.length = p.kids.deep.length + 1 := by simp [Pt.pre]
    have hm : ∃ m, (arF p.kids 0 1)[j - 1]? = some m ∧ m < p.pre.length := by
      have hx : j - 1 < (arF p.kids 0 1).length := by rw [arF_len]; omega
      refine ⟨(arF p.kids 0 1)[j - 1], List.getElem?_eq_getElem hx, ?_⟩
      have := arF_lt p.kids 0 1 (j - 1) _ (by omega) (List.getElem?_eq_getElem hx)
      omega
    obtain ⟨m, hm1, hm2⟩ := hm
    have ga : atI (good.map D.bl) (m : Int) = some (.bl (good.getD m false)) := atI_get (by
      rw [List.getElem?_map, List.getElem?_eq_getElem (by omega), List.getD_eq_getElem?_getD, List.getElem?_eq_getElem (by omega)]; rfl)
    have gf : atI (blsN p.pre.length F) (m : Int) = some (.bl (F m)) := atI_get (blsN_get hm2)
    have gr : atI (p.ards.map D.int) (j : Int) = some (.int (m : Int)) := atI_get (by
      obtain ⟨i, rfl⟩ : ∃ i, j = i + 1 := ⟨j - 1, by omega⟩
      simp only [Nat.add_sub_cancel] at hm1
      simp [Pt.ards, hm1, natI])
    have gb := (h.mono [some (.lst (blsN p.pre.length F))]).r
    have gi := (h.mono [some (.lst (blsN p.pre.length F))]).i
    obtain ⟨y', z', ih⟩ := above_loop (own := own) h hl js (stepA (fun i => good.getD i false) (!own) (fun j => ((arF p.kids 0 1)[j - 1]?).getD 0) F j) (some (.int (j : Int))) (some (.int (m : Int))) fun x hx => hj x (by simp [hx])
    refine ⟨y', z', ?_⟩
    have hF1 : stepA (fun i => good.getD i false) (!own) (fun j => ((arF p.kids 0 1)[j - 1]?).getD 0) F j = fun i => if i = j then (good.getD m false || (!own && F m)) else F i := by
      funext i
      simp only [stepA, hm1, Option.getD_some]
    rw [List.foldl_cons]
    generalize stepA (fun i => good.getD i false) (!own) (fun j => ((arF p.kids 0 1)[j - 1]?).getD 0) F j = F' at hF1 ih ⊢
    have ht : b_Flat_above_l1 [some (.cell k), some (.lst (good.map D.bl)), some (.str (wayS own)), some (.cell S.length), some (.int (j : Int)), z] (S ++ [some (.lst (blsN p.pre.length F))]) =
        .nx [some (.cell k), some (.lst (good.map D.bl)), some (.str (wayS own)), some (.cell S.length), some (.int (j : Int)), some (.int (m : Int))] (S ++ [some (.lst (blsN p.pre.length F'))]) := by
      have hix := ixN_nat j2
      generalize good.getD m false = gj at ga hF1
      generalize F m = fj at gf hF1
      cases gj with
      | true =>
        simp only [Bool.true_or] at hF1
        subst hF1
        simp [b_Flat_above_l1, ga, gi, gb, gr, hix, blsN_set]
      | false =>
        cases own with
        | true =>
          simp only [Bool.false_or, Bool.not_true, Bool.false_and, Bool.not_false, Bool.true_and] at hF1
          subst hF1
          simp [b_Flat_above_l1, ga, gf, gi, gb, gr, hix, blsN_set, wayS]
        | false =>
          simp only [Bool.false_or, Bool.not_true, Bool.false_and, Bool.not_false, Bool.true_and] at hF1
          subst hF1
          simp [b_Flat_above_l1, ga, gf, gi, gb, gr, hix, blsN_set, wayS]
    rw [List.map_cons, forL_still_cons]
    simp only [hName_eq, List.set_cons_succ, List.set_cons_zero, ht, ih]
theorem ref_Flat_above (ds : List D) (S : Sto) : Ref S (fn_Flat_above ds S) (runB 6 b_Flat_above ds S) := by
  refine fnRel_ref (fun q ds S ⟨e, h, hl, hz⟩ => ?_) ds S
  obtain ⟨k, a, b, p, good, own⟩ := q
  simp only at e h hl hz
  subst e
  have hlen : p.pre.length = p.kids.deep.length + 1 := by simp [Pt.pre]
  obtain ⟨y', z', lp⟩ := above_loop (own := own) h hl (List.range' 1 (p.pre.length - 1)) (fun _ => false) none none (fun j hj => by
    simp only [List.mem_range'_1] at hj
    omega)
  have hrep := gRepN_one (S := S) (D.bl false) p.pre.length (by rw [sizeLine_val]; omega)
  have hb0 : List.replicate p.pre.length (D.bl false) = blsN p.pre.length fun _ => false := by
    unfold blsN
    rw [List.map_const', List.length_range]
  rw [hb0] at hrep
  have g1 : b_Flat_above_s1 [some (.cell k), some (.lst (good.map D.bl)), some (.str (wayS own)), none, none, none] S = .nx [some (.cell k), some (.lst (good.map D.bl)), some (.str (wayS own)), some (.cell S.length), none, none] (S ++ [some (.lst (blsN p.pre.length fun _ => false))]) := by
    simp [b_Flat_above_s1, h.i, h.p, hrep]
  have hi := (h.mono [some (.lst (blsN p.pre.length fun _ => false))])
  have hitems : intsD 1 (p.pre.length - 1) = (List.range' 1 (p.pre.length - 1)).map fun (j : Nat) => D.int (j : Int) := by
    unfold intsD
    apply List.ext_getElem
    · simp
    · intro i h1 h2
      simp at h1 h2
      simp
  have hr : (p.pre.length : Int) < 4611686018427387904 := by omega
  have hr2 : (-4611686018427387904 : Int) ≤ (p.pre.length : Int) := by omega
  have hto : ((p.pre.length : Int) - 1).toNat = p.pre.length - 1 := by omega
  have g2 : b_Flat_above_s2 [some (.cell k), some (.lst (good.map D.bl)), some (.str (wayS own)), some (.cell S.length), none, none] (S ++ [some (.lst (blsN p.pre.length fun _ => false))]) = .nx [some (.cell k), some (.lst (good.map D.bl)), some (.str (wayS own)), some (.cell S.length), y', z'] (S ++ [some (.lst (blsN p.pre.length (aboveB p (fun i => good.getD i false) own (p.pre.length - 1))))]) := by
    rw [← hitems] at lp
    simp [b_Flat_above_s2, hi.i, hi.p, hr, hr2]
    simpa [aboveB] using lp
  refine Ref.ok (v2 := .cell (S.length + 0)) (S2 := S ++ [some (.lst (blsN p.pre.length (aboveB p (fun i => good.getD i false) own (p.pre.length - 1))))]) ?_ (Cl.frz (j := 0) rfl (by simp only [Ev.hb]; exact hbs_all.mpr fun d hd => by obtain ⟨x, _, rfl⟩ := List.mem_map.mp hd; rfl))
  simp [runB, b_Flat_above, g1, g2, b_Flat_above_s3]
def rowC (p : Pt) (G : List Pt → Bool) : D := .lst (p.chs.map fun c => .bl (G c))
theorem rowB_C (p : Pt) (g : Pt → Bool) : rowB p.pre g = rowC p fun c => g (c.headD p) := by simp [rowB, rowC, ← chs_head p]
theorem rowC_at {p : Pt} {i : Nat} {c : List Pt} (h : p.chs[i]? = some c) (G : List Pt → Bool) (S : Sto) : gIdx (rowC p G) (.int (i : Int)) S = .ok (.bl (G c)) S := by
  have : atI (p.chs.map fun q => D.bl (G q)) (i : Int) = some (.bl (G c)) := atI_get (by rw [List.getElem?_map, h]; rfl)
  simp [rowC, this]
theorem above_row {S : Sto} {k a b : Nat} {p : Pt} (h : FlatAt S k a b p.pre p.ards) (hz : p.pre.length ≤ 1000) (G : List Pt → Bool) (own : Bool) : fn_Flat_above [.cell k, rowC p G, .str (wayS own)] S = .ok (rowC p (aboveC G own)) S := by
  have e : rowC p G = .lst ((p.chs.map G).map D.bl) := by simp [rowC]
  have hlen : p.pre.length = p.kids.deep.length + 1 := by simp [Pt.pre]
  have := fnRel_eq (rel := above_rel) (r := above_r) (ds := [.cell k, rowC p G, .str (wayS own)]) (S := S)
    (fun q q' h1 h2 => by
      obtain ⟨e1, u1, _⟩ := h1
      obtain ⟨e2, u2, _⟩ := h2
      rw [e1] at e2
      simp only [List.cons.injEq, D.cell.injEq, D.lst.injEq, D.str.injEq, and_true] at e2
      obtain ⟨e3, e4, e5⟩ := e2
      rw [← e3] at u2
      obtain ⟨_, _, r3, _⟩ := u1.uniq u2
      simp only [Pt.pre, List.cons.injEq] at r3
      unfold above_r
      rw [r3.1, wayS_inj _ _ e5, map_injI (fun a b q => by simpa using q) e4])
    (a := ⟨k, a, b, p, p.chs.map G, own⟩) ⟨by rw [e], h, by simp [chs_len], hz⟩
  unfold fn_Flat_above
  rw [this]
  simp only [above_r, rowC]
  have : blsN p.pre.length (aboveB p (fun i => (p.chs.map G).getD i false) own (p.pre.length - 1)) = p.chs.map fun c => D.bl (aboveC G own c) := by
    unfold blsN
    rw [← chs_len]
    refine range_map p.chs _ _ fun i c hc => ?_
    have hi : i < p.chs.length := (List.getElem?_eq_some_iff.mp hc).1
    rw [aboveB_ch p G _ own (fun j x hx => by rw [List.getD_eq_getElem?_getD, List.getElem?_map, hx]; rfl) _ (by rw [chs_len]; omega) i c hc, if_pos (by omega)]
  rw [this]
/-- whether the steps end at a chain's first part, when G says where they begin -/
def endsG (G : List Pt → Bool) : Sl → List Pt → Bool
  | .nil => G
  | .cons o n w r => endsG (fun c => (match c with | [] => false | q :: _ => called n q && w.holds q) && aboveC G o c) r
def Sl.ends : Sl → List Pt → Bool
  | .nil => fun _ => false
  | .cons o n w r => endsG (fun c => (match c with | [] => false | q :: _ => called n q && w.holds q) && (!o || decide (c.length = 1))) r
def suitC (n : Str) (w : Wi) (c : List Pt) : Bool := match c with
  | [] => false
  | q :: _ => called n q && w.holds q
theorem chF_ne : ∀ (f : Fo) (anc : List Pt), ∀ c ∈ chF f anc, c ≠ []
  | .nil, _, c, h => by simp [chF] at h
  | .tx _ r, anc, c, h => chF_ne r anc c h
  | .el n k r, anc, c, h => by
    simp only [chF, List.mem_cons, List.mem_append] at h
    rcases h with h | h | h
    · subst h; simp
    · exact chF_ne k _ c h
    · exact chF_ne r _ c h
theorem chs_ne (p : Pt) : ∀ c ∈ p.chs, c ≠ [] := fun c h => by
  simp only [Pt.chs, List.mem_cons] at h
  rcases h with h | h
  · subst h; simp
  · exact chF_ne _ _ c h
theorem chF_len2 : ∀ (f : Fo) (anc : List Pt), anc ≠ [] → ∀ c ∈ chF f anc, 2 ≤ c.length
  | .nil, _, _, c, h => by simp [chF] at h
  | .tx _ r, anc, ha, c, h => chF_len2 r anc ha c h
  | .el n k r, anc, ha, c, h => by
    simp only [chF, List.mem_cons, List.mem_append] at h
    rcases h with h | h | h
    · subst h
      cases anc with
      | nil => exact absurd rfl ha
      | cons _ _ => simp
    · exact chF_len2 k _ (by simp) c h
    · exact chF_len2 r _ ha c h
theorem chs_len1 (p : Pt) (i : Nat) (c : List Pt) (h : p.chs[i]? = some c) : decide (c.length = 1) = decide (i = 0) := by
  cases i with
  | zero => simp only [Pt.chs, List.getElem?_cons_zero, Option.some.injEq] at h; subst h; rfl
  | succ i =>
    have := chF_len2 p.kids [p] (by simp) c (List.mem_of_getElem? h)
    rw [decide_eq_false (by omega), decide_eq_false (by omega)]
theorem rowC_congr {p : Pt} {G G' : List Pt → Bool} (h : ∀ c ∈ p.chs, G c = G' c) : rowC p G = rowC p G' := by
  unfold rowC
  rw [List.map_congr_left fun c hc => by rw [h c hc]]
theorem suits_row {lv k : Nat} {p : Pt} {o : Bool} {n : Str} {w : Wi} {S : Sto} (h : FlatP S k p) (hn : PyData.strOk n = true) (hw : okW w) (hl : w.lf + 1 ≤ lv) : fn_Flat_suits lv [.cell k, .tup [.str (wayS o), .str n, w.d]] S = .ok (rowC p (suitC n w)) S := by
  rw [suits_eq h hn hw hl, rowB_C]
  rw [rowC_congr fun c hc => ?_]
  have := chs_ne p c hc
  cases c with
  | nil => exact absurd rfl this
  | cons q t => rfl
/-- two rows put together -/
theorem and_rows {p : Pt} (hz : p.pre.length ≤ 1000) (G G' : List Pt → Bool) (i j x : Nat) (σ : Env) (S : Sto) (hi : σ[i]? = some (some (rowC p G))) (hj : σ[j]? = some (some (rowC p G'))) (hx : x < σ.length) (hxi : x ≠ i) (hxj : x ≠ j) :
    compL still (hName x) tYes (eAnd (op2 gIdx (eVar i) (eVar x)) (op2 gIdx (eVar j) (eVar x))) σ (intsD 0 p.pre.length) [] S = .ok (p.chs.map fun c => .bl (G c && G' c)) S := by
  rw [intsD_len, ← chs_len]
  have hz2 : p.chs.length ≤ sizeLine := by rw [sizeLine_val, chs_len]; omega
  rw [compL_all (S := S) (chk := still) trivial (fun (i : Nat) => D.int (i : Int)) (fun i => .bl (G (p.chs.getD i []) && G' (p.chs.getD i []))) (List.range p.chs.length) (fun k hk => ⟨_, rfl, ?_⟩) (by simpa using hz2)]
  · rw [range_map p.chs _ (fun c => D.bl (G c && G' c)) fun i x hx => by simp only [List.getD_eq_getElem?_getD, hx, Option.getD_some]]
  · have hil : k < p.chs.length := by simpa using hk
    have hc : p.chs[k]? = some (p.chs.getD k []) := by rw [List.getD_eq_getElem?_getD, List.getElem?_eq_getElem hil]; rfl
    generalize p.chs.getD k [] = c at hc
    have r1 := rowC_at hc G S
    have r2 := rowC_at hc G' S
    have e1 : (σ.set x (some (.int (k : Int))))[i]? = some (some (rowC p G)) := by rw [List.getElem?_set_ne hxi]; exact hi
    have e2 : (σ.set x (some (.int (k : Int))))[j]? = some (some (rowC p G')) := by rw [List.getElem?_set_ne hxj]; exact hj
    have e3 : (σ.set x (some (.int (k : Int))))[x]? = some (some (.int (k : Int))) := List.getElem?_set_self hx
    generalize G c = b1 at r1 ⊢
    generalize G' c = b2 at r2 ⊢
    cases b1 <;> simp [e1, e2, e3, r1, r2]
noncomputable def b_Flat_ends_s1 (f_Flat_suits : Fn) : Sx :=
      (sAsg 2 (eMet 0 "suits" 2 f_Flat_suits (eVar 0) (aCons (op2 gIdx (eVar 1) (eC (.int 0))) aNil)))
noncomputable def b_Flat_ends_s2 : Sx :=
      (sIf (tTst (op2 gEq (op2 gIdx (op2 gIdx (eVar 1) (eC (.int 0))) (eC (.int 0))) (eC (.str "own")))) (sAsg 2 (eComp (iR1 (eCall gLen (aCons (eVar 2) aNil))) (hName 6) tYes (eAnd (op2 gIdx (eVar 2) (eVar 6)) (op2 gEq (eVar 6) (eC (.int 0)))) [6])) sNil)
noncomputable def b_Flat_ends_l1 (f_Flat_suits : Fn) (f_Flat_above : Fn) : Sx :=
      (sSeq (sAsg 4 (eMet 0 "suits" 2 f_Flat_suits (eVar 0) (aCons (eVar 3) aNil)))
      (sSeq (sAsg 5 (eMet 0 "above" 3 f_Flat_above (eVar 0) (aCons (eVar 2) (aCons (op2 gIdx (eVar 3) (eC (.int 0))) aNil))))
      (sAsg 2 (eComp (iR1 (eCall gLen (aCons (eVar 4) aNil))) (hName 6) tYes (eAnd (op2 gIdx (eVar 4) (eVar 6)) (op2 gIdx (eVar 5) (eVar 6))) [6]))))
noncomputable def b_Flat_ends_s3 (f_Flat_suits : Fn) (f_Flat_above : Fn) : Sx :=
      (sFor (iL (eSl gSl (eVar 1) (oS (eC (.int 1))) oN)) (hName 3) (b_Flat_ends_l1 f_Flat_suits f_Flat_above))
noncomputable def b_Flat_ends_s4 : Sx :=
      (sRet (eVar 2))
noncomputable def b_Flat_ends (f_Flat_suits : Fn) (f_Flat_above : Fn) : Sx :=
      (sSeq (b_Flat_ends_s1 f_Flat_suits)
      (sSeq (b_Flat_ends_s2)
      (sSeq (b_Flat_ends_s3 f_Flat_suits f_Flat_above)
      (b_Flat_ends_s4))))
def ends_rel (q : Nat × Pt × Sl) (ds : List D) (S : Sto) : Prop := ds = [.cell q.1, .lst q.2.2.ds] ∧ FlatP S q.1 q.2.1 ∧ okL q.2.2 ∧ q.2.2 ≠ .nil ∧ q.2.2.lf ≤ 60
noncomputable def ends_r (q : Nat × Pt × Sl) (S : Sto) : R D := .ok (rowC q.2.1 q.2.2.ends) S
noncomputable def fn_Flat_ends : Fn := fnRel ends_rel ends_r
theorem endsF_eq {k : Nat} {p : Pt} {l : Sl} {S : Sto} (h : FlatP S k p) (hw : okL l) (hn : l ≠ .nil) (hl : l.lf ≤ 60) : fn_Flat_ends [.cell k, .lst l.ds] S = .ok (rowC p l.ends) S :=
  fnRel_eq (rel := ends_rel) (r := ends_r) (a := (k, p, l)) (fun q q' h1 h2 => by
    obtain ⟨e1, u1, _⟩ := h1
    obtain ⟨e2, u2, _⟩ := h2
    rw [e1] at e2
    simp only [List.cons.injEq, D.cell.injEq, D.lst.injEq, and_true] at e2
    rw [← e2.1] at u2
    unfold ends_r
    rw [u1.uniq u2, Sl.inj _ _ e2.2]) ⟨rfl, h, hw, hn, hl⟩
theorem ends_loop (k : Nat) {p : Pt} {S : Sto} (h : FlatP S k p) (x : Option D) : ∀ (l : Sl) (G : List Pt → Bool) (y3 y4 y5 : Option D), l.okS → l.wd ≤ 1000 → l.lf ≤ 61 →
    ∃ y3' y4' y5', forL still (hName 3) (b_Flat_ends_l1 (fn_Flat_suits 60) fn_Flat_above) l.ds [some (.cell k), x, some (rowC p G), y3, y4, y5, none] S = .nx [some (.cell k), x, some (rowC p (endsG G l)), y3', y4', y5', none] S
  | .nil, G, y3, y4, y5, _, _, _ => ⟨y3, y4, y5, by simp [Sl.ds, endsG]⟩
  | .cons o n w r, G, y3, y4, y5, h1, h2, h3 => by
    simp only [Sl.okS, Sl.wd, Sl.lf] at h1 h2 h3
    have hs := suits_row (lv := 60) (o := o) h h1.1 ⟨h1.2.1, by omega⟩ (by omega)
    obtain ⟨y3', y4', y5', ih⟩ := ends_loop k h x r (fun c => suitC n w c && aboveC G o c) (some (.tup [.str (wayS o), .str n, w.d])) (some (rowC p (suitC n w))) (some (rowC p (aboveC G o))) h1.2.2 (by omega) (by omega)
    obtain ⟨hp, a, b, hf⟩ := h
    have hz := hp.pre_len
    have hb := above_row hf hz G o
    have hc := and_rows hz (suitC n w) (aboveC G o) 4 5 6 [some (.cell k), x, some (rowC p G), some (.tup [.str (wayS o), .str n, w.d]), some (rowC p (suitC n w)), some (rowC p (aboveC G o)), none] S rfl rfl (by simp) (by omega) (by omega)
    have hlen : gLen [rowC p (suitC n w)] S = .ok (.int (p.pre.length : Int)) S := by simp [rowC, chs_len]
    have hr : (p.pre.length : Int) < 4611686018427387904 := by omega
    have hcb : D.lst (p.chs.map fun c => D.bl (suitC n w c && aboveC G o c)) = rowC p fun c => suitC n w c && aboveC G o c := rfl
    refine ⟨y3', y4', y5', ?_⟩
    have ht : b_Flat_ends_l1 (fn_Flat_suits 60) fn_Flat_above [some (.cell k), x, some (rowC p G), some (.tup [.str (wayS o), .str n, w.d]), y4, y5, none] S =
        .nx [some (.cell k), x, some (rowC p fun c => suitC n w c && aboveC G o c), some (.tup [.str (wayS o), .str n, w.d]), some (rowC p (suitC n w)), some (rowC p (aboveC G o)), none] S := by
      simp [b_Flat_ends_l1, hf.i, hs, hb, hlen, hr, wipeE, hc, hcb]
    simp only [Sl.ds]
    rw [forL_still_cons]
    simp only [hName_eq, List.set_cons_succ, List.set_cons_zero, ht, ih]
    rfl
theorem ref_Flat_ends (ds : List D) (S : Sto) : Ref S (fn_Flat_ends ds S) (runB 7 (b_Flat_ends (fn_Flat_suits 60) fn_Flat_above) ds S) := by
  refine fnRel_ref (fun q ds S ⟨e, h, hw, hn, hl⟩ => ?_) ds S
  obtain ⟨k, p, l⟩ := q
  simp only at e h hw hn hl
  subst e
  cases l with
  | nil => exact absurd rfl hn
  | cons o n w r =>
    obtain ⟨h1, h2, h4⟩ := hw
    simp only [Sl.okS, Sl.wd, Sl.lf, Sl.ds, List.length_cons] at h1 h2 hl h4
    have hs := suits_row (lv := 60) (o := o) h h1.1 ⟨h1.2.1, by omega⟩ (by omega)
    obtain ⟨y3', y4', y5', lp⟩ := ends_loop k h (some (.lst (Sl.cons o n w r).ds)) r (fun c => suitC n w c && (!o || decide (c.length = 1))) none none none h1.2.2 (by omega) (by omega)
    obtain ⟨hp, a, b, hf⟩ := h
    have hz := hp.pre_len
    have g1 : b_Flat_ends_s1 (fn_Flat_suits 60) [some (.cell k), some (.lst (Sl.cons o n w r).ds), none, none, none, none, none] S = .nx [some (.cell k), some (.lst (Sl.cons o n w r).ds), some (rowC p (suitC n w)), none, none, none, none] S := by
      simp [b_Flat_ends_s1, Sl.ds, hf.i, hs]
    have g2 : b_Flat_ends_s2 [some (.cell k), some (.lst (Sl.cons o n w r).ds), some (rowC p (suitC n w)), none, none, none, none] S = .nx [some (.cell k), some (.lst (Sl.cons o n w r).ds), some (rowC p fun c => suitC n w c && (!o || decide (c.length = 1))), none, none, none, none] S := by
      cases o with
      | false =>
        simp [b_Flat_ends_s2, Sl.ds, wayS]
      | true =>
        have hlen : gLen [rowC p (suitC n w)] S = .ok (.int (p.pre.length : Int)) S := by simp [rowC, chs_len]
        have hr : (p.pre.length : Int) < 4611686018427387904 := by omega
        have hc := compL_all (S := S) (chk := still) (h := hName 6) (f := eAnd (op2 gIdx (eVar 2) (eVar 6)) (op2 gEq (eVar 6) (eC (.int 0)))) (σ := [some (.cell k), some (.lst (Sl.cons true n w r).ds), some (rowC p (suitC n w)), none, none, none, none]) trivial (fun (i : Nat) => D.int (i : Int)) (fun i => .bl (suitC n w (p.chs.getD i []) && decide ((p.chs.getD i []).length = 1))) (List.range p.chs.length) (fun i hi => ⟨_, rfl, by
          have hil : i < p.chs.length := by simpa using hi
          have hx : p.chs[i]? = some (p.chs.getD i []) := by rw [List.getD_eq_getElem?_getD, List.getElem?_eq_getElem hil]; rfl
          have h0 := chs_len1 p i _ hx
          generalize p.chs.getD i [] = c at hx h0
          have r1 := rowC_at hx (suitC n w) S
          rw [h0]
          generalize suitC n w c = b1 at r1 ⊢
          cases b1 with
          | false => simp [r1]
          | true =>
            simp [r1]
            by_cases e : i = 0 <;> simp [e]⟩) (by rw [sizeLine_val]; simp [chs_len]; omega)
        rw [range_map p.chs (fun i => .bl (suitC n w (p.chs.getD i []) && decide ((p.chs.getD i []).length = 1))) (fun c => D.bl (suitC n w c && decide (c.length = 1))) fun i x hx => by simp only [List.getD_eq_getElem?_getD, hx, Option.getD_some]] at hc
        rw [← intsD_len, chs_len] at hc
        simp only [Sl.ds] at hc
        simp [b_Flat_ends_s2, Sl.ds, wayS] at hc ⊢
        simp [hlen, hr, wipeE, hc]
        simp [rowC]
    have g3 : b_Flat_ends_s3 (fn_Flat_suits 60) fn_Flat_above [some (.cell k), some (.lst (Sl.cons o n w r).ds), some (rowC p fun c => suitC n w c && (!o || decide (c.length = 1))), none, none, none, none] S = .nx [some (.cell k), some (.lst (Sl.cons o n w r).ds), some (rowC p (Sl.cons o n w r).ends), y3', y4', y5', none] S := by
      have hcut : cutG (.tup [.str (wayS o), .str n, w.d] :: r.ds) (some 1) none = r.ds := by
        have := cutG_from (D.tup [.str (wayS o), .str n, w.d] :: r.ds) 1
        simpa using this
      simp only [Sl.ds] at lp ⊢
      simp [b_Flat_ends_s3, hcut, lp]
      rfl
    refine Ref.self ?_
    simp [runB, b_Flat_ends, g1, g2, g3, b_Flat_ends_s4]
/-- the numbers of those that answer -/
def Pt.hit (p : Pt) (l : Sl) (k : Nat) : Bool := match p.chs[k]? with
  | some c => l.ends c
  | none => false
def Pt.ans (p : Pt) (l : Sl) : List Nat := (List.range p.pre.length).filter (p.hit l)
def numD (ns : List Nat) : List D := ns.map fun (k : Nat) => D.int (k : Int)
noncomputable def b_answers_s1 (f_Flat_ends : Fn) (f_Flat___init__ : Fn) : Sx :=
      (sAsg 2 (eMet 0 "ends" 2 f_Flat_ends (eMake 0 2 f_Flat___init__ (aCons (eVar 0) aNil)) (aCons (eVar 1) aNil)))
noncomputable def b_answers_s2 : Sx :=
      (sRet (eCompN (iR1 (eCall gLen (aCons (eVar 2) aNil))) (hName 3) (tTst (op2 gIdx (eVar 2) (eVar 3))) (eVar 3) [3]))
noncomputable def b_answers (f_Flat_ends : Fn) (f_Flat___init__ : Fn) : Sx :=
      (sSeq (b_answers_s1 f_Flat_ends f_Flat___init__)
      (b_answers_s2))
noncomputable def fn_answers : Fn := fnOf (fun a : Pt × Sl => [a.1.d, .lst a.2.ds]) (fun a => PtOk a.1 ∧ okL a.2 ∧ a.2 ≠ .nil ∧ a.2.lf ≤ 60) fun a S => .ok (.cell S.length) (S ++ [some (.lst (numD (a.1.ans a.2)))])
theorem answers_eq {p : Pt} {l : Sl} (h : PtOk p) (h1 : okL l) (hn : l ≠ .nil) (h2 : l.lf ≤ 60) (S : Sto) : fn_answers [p.d, .lst l.ds] S = .ok (.cell S.length) (S ++ [some (.lst (numD (p.ans l)))]) :=
  fnOf_eq (a := (p, l)) (fun a b q => by
    obtain ⟨a1, a2⟩ := a
    obtain ⟨b1, b2⟩ := b
    simp only [List.cons.injEq, D.lst.injEq, and_true] at q
    rw [Pt.inj _ _ q.1, Sl.inj _ _ q.2]) ⟨h, h1, hn, h2⟩
theorem ref_answers (ds : List D) (S : Sto) : Ref S (fn_answers ds S) (runB 4 (b_answers fn_Flat_ends fn_Flat___init__) ds S) := by
  refine fnOf_ref (fun a S ⟨hp, hw, hn, hl⟩ => ?_) ds S
  obtain ⟨p, l⟩ := a
  simp only at hp hw hn hl
  have hi := init_new (S := S) hp
  have hz := hp.pre_len
  generalize hJ : [some (C.ins 0 [("parts", .cell (S.length + 1)), ("around", .cell (S.length + 2))]), some (.lst (p.pre.map Pt.d)), some (.lst (p.ards.map D.int))] = J at hi
  have hF : FlatP (S ++ J) S.length p := by
    subst hJ
    exact ⟨hp, S.length + 1, S.length + 2, by simp, by simp, by simp, by omega⟩
  have ht := endsF_eq hF hw hn hl
  have hJ3 : J.length = 3 := by rw [← hJ]; rfl
  obtain ⟨_, a, b, hFA⟩ := hF
  have g1 : b_answers_s1 fn_Flat_ends fn_Flat___init__ [some p.d, some (.lst l.ds), none, none] S = .nx [some p.d, some (.lst l.ds), some (rowC p l.ends), none] (S ++ J) := by
    simp [b_answers_s1, hi, hFA.i, ht]
  have hlen : ∀ S, gLen [rowC p l.ends] S = .ok (.int (p.pre.length : Int)) S := fun S => by simp [rowC, chs_len]
  have hr : (p.pre.length : Int) < 4611686018427387904 := by omega
  have hc := compL_on (S := S ++ J) (chk := still) (h := hName 3) (t := tTst (op2 gIdx (eVar 2) (eVar 3))) (f := eVar 3) (σ := [some p.d, some (.lst l.ds), some (rowC p l.ends), none]) trivial (fun (i : Nat) => D.int (i : Int)) (p.hit l) (fun (i : Nat) => D.int (i : Int)) (List.range p.pre.length) [] (fun i hi => ⟨_, rfl, by
    have hil : i < p.chs.length := by rw [chs_len]; simpa using hi
    have hx := List.getElem?_eq_getElem hil
    generalize p.chs[i] = c at hx
    have r1 := rowC_at hx l.ends (S ++ J)
    have e : p.hit l i = l.ends c := by simp only [Pt.hit, hx]
    rw [e]
    simp [r1], fun _ => by simp⟩) (by rw [sizeLine_val]; simp; omega)
  rw [← intsD_len, List.nil_append] at hc
  have hrw : ((List.range p.pre.length).filter (p.hit l)).map (fun (i : Nat) => D.int (i : Int)) = numD (p.ans l) := rfl
  rw [hrw] at hc
  have g2 : b_answers_s2 [some p.d, some (.lst l.ds), some (rowC p l.ends), none] (S ++ J) = .rt (.cell (S.length + 3)) (S ++ (J ++ [some (.lst (numD (p.ans l)))])) := by
    simp [b_answers_s2, hlen, hr, wipeE, hc, hJ3]
  refine Ref.ok (v2 := .cell (S.length + 3)) ?_ (Cl.fresh (J := J ++ [some (.lst (numD (p.ans l)))]) (j := 3) (by rw [List.getElem?_append_right (by omega)]; simp [hJ3]) (by
    simp only [hbC]; exact hbs_all.mpr fun d hd => by obtain ⟨x, _, rfl⟩ := List.mem_map.mp hd; rfl))
  simp [runB, b_answers, g1, g2]
end Ev

/-! answers grow while a paper comes -/
namespace Ev
open PySem PySem.Spec PyProof.Rows L2
/-- a row of parts that has grown at its open end -/
inductive FoE : Fo → Fo → Prop
  | nil (g : Fo) : FoE .nil g
  | tx (s : Str) {r r' : Fo} : FoE r r' → FoE (.tx s r) (.tx s r')
  | same (n : Str) (k : Fo) {r r' : Fo} : FoE r r' → FoE (.el n k r) (.el n k r')
  | last (n : Str) {k k' : Fo} (r' : Fo) : FoE k k' → FoE (.el n k .nil) (.el n k' r')
theorem FoE.refl : ∀ f : Fo, FoE f f
  | .nil => .nil _
  | .tx s r => .tx s (FoE.refl r)
  | .el n k r => .same n k (FoE.refl r)
theorem FoE.app : ∀ (f : Fo) {g g' : Fo}, FoE g g' → FoE (f.app g) (f.app g')
  | .nil, _, _, h => h
  | .tx s r, _, _, h => .tx s (FoE.app r h)
  | .el n k r, _, _, h => .same n k (FoE.app r h)
theorem FoE.trans {f g h : Fo} (a : FoE f g) (b : FoE g h) : FoE f h := by
  induction a generalizing h with
  | nil => exact .nil _
  | tx s _ ih => cases b with | tx _ q => exact .tx s (ih q)
  | same n k q ih =>
    cases b with
    | same _ _ q' => exact .same n k (ih q')
    | last _ r' q' => cases q with | nil => exact .last n r' q'
  | last n r' q ih =>
    cases b with
    | same _ _ q' => exact .last n _ q
    | last _ r'' q' => exact .last n r'' (ih q')
theorem upF_E : ∀ (st : List (Str × Fo)) (bot : Fo) {a a' : Fo}, FoE a a' → FoE (upF a st bot) (upF a' st bot)
  | [], bot, _, _, h => FoE.app bot h
  | (n, f) :: r, bot, _, _, h => upF_E r bot (.last n .nil (FoE.app f h))
theorem Zp.step_E (z : Zp) (s : Sg) (hs : s = .cl → z.st ≠ []) : FoE z.all (z.step s).all := by
  cases s with
  | op n => exact upF_E z.st z.bot (.nil _)
  | tx x =>
    obtain ⟨bot, st⟩ := z
    cases st with
    | nil => exact FoE.refl _
    | cons p r =>
      obtain ⟨m, f⟩ := p
      show FoE (upF (.el m (f.app .nil) .nil) r bot) (upF (.el m ((f.app (.tx x .nil)).app .nil) .nil) r bot)
      refine upF_E r bot (.last m .nil ?_)
      rw [Fo.app_nil, Fo.app_nil]
      have := FoE.app f (FoE.nil (.tx x .nil))
      rw [Fo.app_nil] at this
      exact this
  | cl => rw [Zp.step_all (hs rfl)]; exact FoE.refl _
theorem Zp.run_E : ∀ (ss : List Sg) (z : Zp), okFrom z ss = true → FoE z.all (z.run ss).all
  | [], z, _ => FoE.refl _
  | s :: r, z, h => by
    obtain ⟨h1, h2⟩ := okFrom_cons h
    refine (Zp.step_E z s fun e => ?_).trans (Zp.run_E r (z.step s) h2)
    subst e
    simp only [Zp.can, canCome, decide_eq_true_eq] at h1
    intro e
    rw [e] at h1
    simp at h1
/-- a part that has grown -/
def PtE (p q : Pt) : Prop := p.nm = q.nm ∧ FoE p.kids q.kids
theorem PtE.refl (p : Pt) : PtE p p := ⟨rfl, FoE.refl _⟩
theorem stumpP_E {ss : List Sg} (h : ss ≠ []) (ho : okFrom z0 ss = true) {k : Nat} (hk : 1 ≤ k) (hk2 : k ≤ ss.length) : PtE (stumpP (ss.take k)) (stumpP ss) := by
  have ht : okFrom z0 (ss.take k) = true ∧ okFrom (z0.run (ss.take k)) (ss.drop k) = true := by
    have := okFrom_app z0 (ss.take k) (ss.drop k)
    rw [List.take_append_drop, ho] at this
    simpa using this.symm
  have hn : ss.take k ≠ [] := fun e => by
    have := congrArg List.length e
    rw [List.length_take, List.length_nil] at this
    omega
  obtain ⟨n, f, e1, e2⟩ := stumpP_all hn ht.1
  obtain ⟨n', f', e3, e4⟩ := stumpP_all h ho
  have := Zp.run_E _ _ ht.2
  rw [← run_app, List.take_append_drop, e2, e4] at this
  rw [e1, e3]
  cases this with
  | same _ _ _ => exact PtE.refl _
  | last _ _ q => exact ⟨rfl, q⟩
theorem FoE.txs {f g : Fo} (h : FoE f g) : ∀ s ∈ f.txs, s ∈ g.txs := by
  induction h with
  | nil => intro s hs; simp [Fo.txs] at hs
  | tx x _ ih =>
    intro s hs
    simp only [Fo.txs, List.mem_cons] at hs ⊢
    exact hs.imp id (ih s)
  | same n k _ ih => exact ih
  | last n r' _ _ => intro s hs; simp [Fo.txs] at hs
theorem FoE.els {f g : Fo} (h : FoE f g) : ∀ q ∈ f.els, ∃ q' ∈ g.els, PtE q q' := by
  induction h with
  | nil => intro s hs; simp [Fo.els] at hs
  | tx x _ ih => exact ih
  | same n k _ ih =>
    intro q hq
    simp only [Fo.els, List.mem_cons] at hq ⊢
    rcases hq with rfl | hq
    · exact ⟨_, .inl rfl, PtE.refl _⟩
    · obtain ⟨q', h1, h2⟩ := ih q hq
      exact ⟨q', .inr h1, h2⟩
  | last n r' h' _ =>
    intro q hq
    simp only [Fo.els, List.mem_cons, List.not_mem_nil, or_false] at hq ⊢
    subst hq
    exact ⟨_, .inl rfl, rfl, h'⟩
theorem FoE.deep {f g : Fo} (h : FoE f g) : ∀ q ∈ f.deep, ∃ q' ∈ g.deep, PtE q q' := by
  induction h with
  | nil => intro s hs; simp [Fo.deep] at hs
  | tx x _ ih => exact ih
  | same n k _ ih =>
    intro q hq
    simp only [Fo.deep, List.mem_cons, List.mem_append] at hq ⊢
    rcases hq with rfl | hq | hq
    · exact ⟨_, .inl rfl, PtE.refl _⟩
    · exact ⟨q, .inr (.inl hq), PtE.refl _⟩
    · obtain ⟨q', h1, h2⟩ := ih q hq
      exact ⟨q', .inr (.inr h1), h2⟩
  | last n r' h' ih =>
    intro q hq
    simp only [Fo.deep, List.append_nil, List.mem_cons, List.mem_append] at hq ⊢
    rcases hq with rfl | hq
    · exact ⟨_, .inl rfl, rfl, h'⟩
    · obtain ⟨q', h1, h2⟩ := ih q hq
      exact ⟨q', .inr (.inl h1), h2⟩
theorem PtE.below {p q : Pt} (h : PtE p q) (own : Bool) : ∀ x ∈ p.below own, ∃ y ∈ q.below own, PtE x y := by
  unfold Pt.below
  cases own with
  | true => exact h.2.els
  | false => exact h.2.deep
theorem PtE.called {p q : Pt} (h : PtE p q) (n : Str) : called n p = called n q := by unfold Ev.called; rw [h.1]
mutual
theorem Wi.grow : ∀ (w : Wi) {p q : Pt}, PtE p q → w.holds p = true → w.holds q = true
  | .any, _, _, _, _ => rfl
  | .text s, p, q, h, hh => by
    simp only [Wi.holds, hasT, decide_eq_true_eq] at hh ⊢
    exact h.2.txs s hh
  | .has l, p, q, h, hh => Sl.grow l h hh
  | .both l, p, q, h, hh => Wl.grow l h hh
  | .one l, p, q, h, hh => Wl.growS l h hh
theorem Wl.grow : ∀ (l : Wl) {p q : Pt}, PtE p q → l.all p = true → l.all q = true
  | .nil, _, _, _, _ => rfl
  | .cons w r, p, q, h, hh => by
    simp only [Wl.all, Bool.and_eq_true] at hh ⊢
    exact ⟨Wi.grow w h hh.1, Wl.grow r h hh.2⟩
theorem Wl.growS : ∀ (l : Wl) {p q : Pt}, PtE p q → l.some_ p = true → l.some_ q = true
  | .nil, _, _, _, hh => by simp [Wl.some_] at hh
  | .cons w r, p, q, h, hh => by
    simp only [Wl.some_, Bool.or_eq_true] at hh ⊢
    exact hh.imp (Wi.grow w h) (Wl.growS r h)
theorem Sl.grow : ∀ (l : Sl) {p q : Pt}, PtE p q → l.leads p = true → l.leads q = true
  | .nil, _, _, _, _ => rfl
  | .cons o n w r, p, q, h, hh => by
    simp only [Sl.leads, List.any_eq_true, Bool.and_eq_true] at hh ⊢
    obtain ⟨x, hx, ⟨h1, h2⟩, h3⟩ := hh
    obtain ⟨y, hy, e⟩ := h.below o x hx
    exact ⟨y, hy, ⟨by rw [← e.called]; exact h1, Wi.grow w e h2⟩, Sl.grow r e h3⟩
end
/-- chains that have grown -/
inductive ChE : List Pt → List Pt → Prop
  | nil : ChE [] []
  | cons {p q : Pt} {c d : List Pt} : PtE p q → ChE c d → ChE (p :: c) (q :: d)
theorem ChE.refl : ∀ c, ChE c c
  | [] => .nil
  | p :: c => .cons (PtE.refl p) (ChE.refl c)
theorem ChE.len {c d : List Pt} (h : ChE c d) : c.length = d.length := by
  induction h with
  | nil => rfl
  | cons _ _ ih => simp [ih]
theorem chF_anc : ∀ (f : Fo) {a a' : List Pt}, ChE a a' → ∀ (i : Nat) (c : List Pt), (chF f a)[i]? = some c → ∃ c', (chF f a')[i]? = some c' ∧ ChE c c'
  | .nil, _, _, _, i, c, h => by simp [chF] at h
  | .tx _ r, _, _, ha, i, c, h => chF_anc r ha i c h
  | .el n k r, a, a', ha, i, c, h => by
    simp only [chF] at h ⊢
    cases i with
    | zero => simp at h ⊢; subst h; exact .cons (PtE.refl _) ha
    | succ i =>
      rw [List.getElem?_cons_succ] at h ⊢
      by_cases hi : i < (chF k (.el n k :: a)).length
      · rw [List.getElem?_append_left hi] at h
        obtain ⟨c', h1, h2⟩ := chF_anc k (.cons (PtE.refl (.el n k)) ha) i c h
        exact ⟨c', by rw [List.getElem?_append_left (List.getElem?_eq_some_iff.mp h1).1]; exact h1, h2⟩
      · rw [List.getElem?_append_right (by omega)] at h
        obtain ⟨c', h1, h2⟩ := chF_anc r ha _ c h
        rw [chF_len] at h1 hi
        exact ⟨c', by rw [List.getElem?_append_right (by rw [chF_len]; omega), chF_len]; exact h1, h2⟩
theorem FoE.chains {f g : Fo} (h : FoE f g) : ∀ {a a' : List Pt}, ChE a a' → ∀ (i : Nat) (c : List Pt), (chF f a)[i]? = some c → ∃ c', (chF g a')[i]? = some c' ∧ ChE c c' := by
  induction h with
  | nil => intro a a' _ i c h; simp [chF] at h
  | tx x _ ih => exact ih
  | @same n k r r' _ ih =>
    intro a a' ha i c h
    simp only [chF] at h ⊢
    cases i with
    | zero => simp at h ⊢; subst h; exact .cons (PtE.refl _) ha
    | succ i =>
      rw [List.getElem?_cons_succ] at h ⊢
      by_cases hi : i < (chF k (.el n k :: a)).length
      · rw [List.getElem?_append_left hi] at h
        obtain ⟨c', h1, h2⟩ := chF_anc k (.cons (PtE.refl (.el n k)) ha) i c h
        exact ⟨c', by rw [List.getElem?_append_left (List.getElem?_eq_some_iff.mp h1).1]; exact h1, h2⟩
      · rw [List.getElem?_append_right (by omega)] at h
        obtain ⟨c', h1, h2⟩ := ih ha _ c h
        rw [chF_len] at h1 hi
        exact ⟨c', by rw [List.getElem?_append_right (by rw [chF_len]; omega), chF_len]; exact h1, h2⟩
  | @last n k k' r' hk ih =>
    intro a a' ha i c h
    simp only [chF, List.append_nil] at h ⊢
    cases i with
    | zero => simp at h ⊢; subst h; exact .cons ⟨rfl, hk⟩ ha
    | succ i =>
      rw [List.getElem?_cons_succ] at h ⊢
      obtain ⟨c', h1, h2⟩ := ih (.cons (p := .el n k) (q := .el n k') ⟨rfl, hk⟩ ha) i c h
      exact ⟨c', by rw [List.getElem?_append_left (List.getElem?_eq_some_iff.mp h1).1]; exact h1, h2⟩
theorem PtE.chs {p q : Pt} (h : PtE p q) (i : Nat) (c : List Pt) (hc : p.chs[i]? = some c) : ∃ c', q.chs[i]? = some c' ∧ ChE c c' := by
  unfold Pt.chs at hc ⊢
  cases i with
  | zero => simp at hc ⊢; subst hc; exact .cons h .nil
  | succ i =>
    rw [List.getElem?_cons_succ] at hc ⊢
    exact h.2.chains (.cons h .nil) i c hc
def GrowG (G : List Pt → Bool) : Prop := ∀ c d, ChE c d → G c = true → G d = true
theorem tailsAny_grow {G : List Pt → Bool} (h : GrowG G) {c d : List Pt} (e : ChE c d) : tailsAny G c = true → tailsAny G d = true := by
  induction e with
  | nil => exact id
  | cons hp hc ih =>
    simp only [tailsAny, Bool.or_eq_true]
    exact fun q => q.imp (h _ _ (.cons hp hc)) ih
theorem aboveC_grow {G : List Pt → Bool} (h : GrowG G) (own : Bool) : GrowG (aboveC G own) := fun c d e => by
  cases e with
  | nil => exact id
  | cons hp hc =>
    cases own with
    | true =>
      simp only [aboveC, if_true, Bool.and_eq_true]
      exact fun q => ⟨by cases hc with | nil => exact q.1 | cons _ _ => rfl, h _ _ hc q.2⟩
    | false =>
      simp only [aboveC, Bool.false_eq_true, if_false]
      exact tailsAny_grow h hc
theorem suitC_grow (n : Str) (w : Wi) : GrowG (suitC n w) := fun c d e => by
  cases e with
  | nil => exact id
  | cons hp hc =>
    simp only [suitC, Bool.and_eq_true]
    exact fun q => ⟨by rw [← hp.called]; exact q.1, w.grow hp q.2⟩
theorem endsG_grow : ∀ (l : Sl) {G : List Pt → Bool}, GrowG G → GrowG (endsG G l)
  | .nil, _, h => h
  | .cons o n w r, G, h => endsG_grow r (G := fun c => suitC n w c && aboveC G o c) fun c d e q => by
    simp only [Bool.and_eq_true] at q ⊢
    exact ⟨suitC_grow n w c d e q.1, aboveC_grow h o c d e q.2⟩
theorem Sl.ends_grow (l : Sl) : GrowG l.ends := by
  cases l with
  | nil => exact fun _ _ _ q => q
  | cons o n w r =>
    refine endsG_grow r (G := fun c => suitC n w c && (!o || decide (c.length = 1))) fun c d e q => ?_
    simp only [Bool.and_eq_true] at q ⊢
    exact ⟨suitC_grow n w c d e q.1, by rw [← e.len]; exact q.2⟩
theorem ans_grow {p q : Pt} (h : PtE p q) (l : Sl) : ∀ k ∈ p.ans l, k ∈ q.ans l := fun k hk => by
  simp only [Pt.ans, List.mem_filter, List.mem_range] at hk ⊢
  obtain ⟨h1, h2⟩ := hk
  rw [← chs_len] at h1 ⊢
  have hx := List.getElem?_eq_getElem h1
  obtain ⟨c', e1, e2⟩ := h.chs k _ hx
  refine ⟨(List.getElem?_eq_some_iff.mp e1).1, ?_⟩
  simp only [Pt.hit, hx] at h2
  simp only [Pt.hit, e1]
  exact l.ends_grow _ _ e2 h2
end Ev

/-! k06 -/
namespace Ev
open PySem PySem.Spec PyProof.Rows L2
noncomputable def b_law_s1 (f_dr_draws : Fn) : Sx :=
      (sAsg 1 (eFn 3 f_dr_draws (aCons (eVar 0) (aCons (eC (.int 200)) (aCons (eC (.int 28)) aNil)))))
noncomputable def b_law_s2 (f_dr_names : Fn) (f_dr_pop : Fn) : Sx :=
      (sAsg 2 (eFn 1 f_dr_names (aCons (eFn 1 f_dr_pop (aCons (eVar 1) aNil)) aNil)))
noncomputable def b_law_s3 (f_dr_pop : Fn) : Sx :=
      (sAsg 3 (eComp (iR1 (eC (.int 3))) (hName 10) tYes (eFn 1 f_dr_pop (aCons (eVar 1) aNil)) [10]))
noncomputable def b_law_s4 (f_dr_signs : Fn) (f_dr_draws : Fn) : Sx :=
      (sAsg 4 (eFn 3 f_dr_signs (aCons (eFrz (eFn 3 f_dr_draws (aCons (eVar 0) (aCons (eC (.int 2)) (aCons (op2 gAdd (eC (.int 1)) (op2 gMod (op2 gIdx (eVar 3) (eC (.int 0))) (eC (.int 63)))) aNil))))) (aCons (eVar 2) (aCons (eC (.int 6)) aNil)))))
noncomputable def b_law_s5 (f_dr_steps : Fn) : Sx :=
      (sAsg 5 (eFn 3 f_dr_steps (aCons (eVar 1) (aCons (eVar 2) (aCons (eC (.int 2)) aNil)))))
noncomputable def b_law_s6 : Sx :=
      (sAsg 6 (op2 gAdd (eC (.int 1)) (op2 gMod (op2 gIdx (eVar 3) (eC (.int 1))) (eCall gLen (aCons (eVar 4) aNil)))))
noncomputable def b_law_s7 : Sx :=
      (sAsg 7 (op2 gAdd (eC (.int 1)) (op2 gMod (op2 gIdx (eVar 3) (eC (.int 2))) (eVar 6))))
noncomputable def b_law_s8 (f_answers : Fn) (f_dr_stump : Fn) : Sx :=
      (sAsg 8 (eFn 2 f_answers (aCons (eFn 1 f_dr_stump (aCons (eSl gSl (eVar 4) oN (oS (eVar 7))) aNil)) (aCons (eVar 5) aNil))))
noncomputable def b_law_s9 (f_answers : Fn) (f_dr_stump : Fn) : Sx :=
      (sAsg 9 (eFn 2 f_answers (aCons (eFn 1 f_dr_stump (aCons (eSl gSl (eVar 4) oN (oS (eVar 6))) aNil)) (aCons (eVar 5) aNil))))
noncomputable def b_law_s10 : Sx :=
      (sRet (op2 gEq (eComp (iL (eVar 8)) (hName 11) (tTst (op2 (gIn true) (eVar 11) (eVar 9))) (eVar 11) [11]) (eLst aNil)))
noncomputable def b_law (f_dr_draws : Fn) (f_dr_names : Fn) (f_dr_pop : Fn) (f_dr_signs : Fn) (f_dr_steps : Fn) (f_answers : Fn) (f_dr_stump : Fn) : Sx :=
      (sSeq (b_law_s1 f_dr_draws)
      (sSeq (b_law_s2 f_dr_names f_dr_pop)
      (sSeq (b_law_s3 f_dr_pop)
      (sSeq (b_law_s4 f_dr_signs f_dr_draws)
      (sSeq (b_law_s5 f_dr_steps)
      (sSeq (b_law_s6)
      (sSeq (b_law_s7)
      (sSeq (b_law_s8 f_answers f_dr_stump)
      (sSeq (b_law_s9 f_answers f_dr_stump)
      (b_law_s10))))))))))
noncomputable def fnLaw : Fn := fnOf (fun ns : List Int => [.scr ns]) (fun ns => ns.length ≤ 63) fun _ S => .ok (.bl true) S
theorem fnLaw_eq {ns : List Int} (h : ns.length ≤ 63) (S : Sto) : fnLaw [.scr ns] S = .ok (.bl true) S := fnOf_eq (e := fun ns : List Int => [.scr ns]) (a := ns) (fun a b h => by simpa using h) h
/-- what the law's papers are -/
theorem drawn_ok {names : List Str} (hnm : okNamesW names) {m : Nat} (hm : m ≤ 20) {ss : List Sg} (hn : ss ≠ []) (h1 : okFrom z0 ss = true) (h2 : ∀ s ∈ ss, s.ofW names) (h3 : ss.length ≤ 200) (h4 : (stumpP ss).dp ≤ m + 1) : PtOk (stumpP ss) ∧ (stumpP ss).sg.length ≤ 400 := by
  have hsok : ∀ s ∈ ss, s.ok := fun s hs => Sg.ofW_ok hnm.2.2 (h2 s hs)
  obtain ⟨pn, pf, pe, _⟩ := stumpP_all hn h1
  have hsg := (stump_closed hn h1).2
  have hcl : (closed ss).length ≤ 400 := by
    have := run_dep _ _ h1
    have q : z0.st.length = 0 := rfl
    have : opens ss ≤ ss.length := List.length_filter_le _ _
    unfold closed; simp; omega
  exact ⟨⟨⟨pn, pf, pe⟩, by omega, by rw [hsg]; omega, fun s hs => by
    rw [hsg] at hs
    unfold closed at hs
    rcases List.mem_append.mp hs with hs | hs
    · exact hsok s hs
    · rw [(List.mem_replicate.mp hs).2]; trivial⟩, by rw [hsg]; exact hcl⟩
theorem FoE.dp {f g : Fo} (h : FoE f g) : f.dp ≤ g.dp := by
  induction h with
  | nil => simp [Fo.dp]
  | tx _ _ ih => simp only [Fo.dp]; omega
  | same _ _ _ ih => simp only [Fo.dp]; omega
  | last _ _ _ ih => simp only [Fo.dp]; omega
theorem okFrom_take {z : Zp} {ss : List Sg} (h : okFrom z ss = true) (k : Nat) : okFrom z (ss.take k) = true := by
  have := okFrom_app z (ss.take k) (ss.drop k)
  rw [List.take_append_drop, h] at this
  simp only [Bool.true_eq, Bool.and_eq_true] at this
  exact this.1
/-- a number among numbers -/
theorem num_in (k : Nat) (ns : List Nat) (neg : Bool) (S : Sto) (d : D) (h : d = .lst (numD ns) ∨ ∃ j, d = .cell j ∧ S[j]? = some (some (.lst (numD ns)))) : gIn neg (.int (k : Int)) d S = .ok (.bl (if neg = true then !decide (k ∈ ns) else decide (k ∈ ns))) S := by
  have hp : ∀ n, omap (py S n) (numD ns) = some (ns.map fun (i : Nat) => PyData.int (i : Int)) := fun n => omap_map fun i _ => by cases n <;> rfl
  have e : ((ns.map fun (i : Nat) => PyData.int (i : Int)).any fun z => PyData.eqv z (.int (k : Int))) = decide (k ∈ ns) := by
    clear hp h
    induction ns with
    | nil => rfl
    | cons a r ih =>
      simp only [List.map_cons, List.any_cons, PyData.eqv, ih, List.mem_cons]
      by_cases e : a = k
      · subst e; simp
      · have e' : ¬ k = a := fun q => e q.symm
        have e2 : ¬ ((a : Int) = (k : Int)) := by omega
        simp [e', e2]
  rcases h with rfl | ⟨j, rfl, hj⟩
  · simp only [gIn, lstOf', lstOf, hp]
    simp [py, hp, e]
  · simp only [gIn, lstOf', lstOf, hj, hp]
    simp [py, hp, e]
theorem ref_law (ds : List D) (S : Sto) : Ref S (fnLaw ds S) (runB 12 (b_law fn_dr_draws fn_dr_names fn_dr_pop fn_dr_signs (fn_dr_steps 20) fn_answers fn_dr_stump) ds S) := by
  refine fnOf_ref (fun ns S hn => ?_) ds S
  obtain ⟨_, r0, _⟩ := drawsI_spec ns 200 28 (by decide) hn
  have e0 := draws_eq ns 200 28 (by decide) hn S
  generalize drawsI (ns, 200, 28) = D0 at r0 e0
  have p0 := pop_at (S := S ++ [some (.lst (D0.map D.int))]) (c := S.length) (is := D0) (by simp)
  obtain ⟨r1, a0, b0⟩ := wish_in r0
  generalize (popI D0).1 = n0 at p0 a0 b0
  generalize (popI D0).2 = D1 at p0 r1
  have p1 := pop_at (S := S ++ [some (.lst (D1.map D.int))]) (c := S.length) (is := D1) (by simp)
  obtain ⟨r2, a1, b1⟩ := wish_in r1
  generalize (popI D1).1 = n1 at p1 a1 b1
  generalize (popI D1).2 = D2 at p1 r2
  have p2 := pop_at (S := S ++ [some (.lst (D2.map D.int))]) (c := S.length) (is := D2) (by simp)
  obtain ⟨r3, a2, b2⟩ := wish_in r2
  generalize (popI D2).1 = n2 at p2 a2 b2
  generalize (popI D2).2 = D3 at p2 r3
  have p3 := pop_at (S := S ++ [some (.lst (D3.map D.int))]) (c := S.length) (is := D3) (by simp)
  obtain ⟨r4, a3, b3⟩ := wish_in r3
  generalize (popI D3).1 = n3 at p3 a3 b3
  generalize (popI D3).2 = D4 at p3 r4
  simp at p0 p1 p2 p3
  have en := dnames_eq (n := n0) ⟨a0, b0⟩
  obtain ⟨nl1, nl2, nl3⟩ := namesD_ok (n := n0) ⟨a0, b0⟩
  generalize namesD n0 = names at en nl1 nl2 nl3
  have hnm : okNamesW names := ⟨fun e => by rw [e] at nl1; simp at nl1, by omega, fun s hs => (nl3 s hs).str⟩
  obtain ⟨m, hm⟩ : ∃ m : Nat, 1 + n1 % 63 = (m : Int) := ⟨(1 + n1 % 63).toNat, by omega⟩
  have hm1 : 1 ≤ m ∧ m ≤ 63 := by omega
  obtain ⟨l2, r3, _⟩ := drawsI_spec ns 2 m (by omega) hn
  have e2 := fun S => draws_eq ns 2 m (by omega) hn S
  generalize drawsI (ns, 2, m) = E0 at l2 r3 e2
  obtain ⟨s1, s2, s3, s4, s5, _⟩ := signsD_spec E0 names 6 hnm (by omega)
  have es := fun S => dsigns_eq E0 names 6 hnm (by omega) S
  generalize signsD (E0, names, 6) = ss at s1 s2 s3 s4 s5 es
  have hss : ss ≠ [] := s4 (fun e => by rw [e] at l2; simp at l2; omega)
  have hls : 1 ≤ ss.length := by cases ss with | nil => exact absurd rfl hss | cons _ _ => simp
  obtain ⟨far, hfar⟩ : ∃ f : Nat, 1 + n2 % (ss.length : Int) = (f : Int) := ⟨(1 + n2 % (ss.length : Int)).toNat, by have := Int.emod_nonneg n2 (show (ss.length : Int) ≠ 0 by omega); omega⟩
  have hfar1 : 1 ≤ far ∧ far ≤ ss.length := by
    have q1 := Int.emod_nonneg n2 (show (ss.length : Int) ≠ 0 by omega)
    have q2 := Int.emod_lt_of_pos n2 (show (0 : Int) < (ss.length : Int) by omega)
    omega
  obtain ⟨near, hnear⟩ : ∃ f : Nat, 1 + n3 % (far : Int) = (f : Int) := ⟨(1 + n3 % (far : Int)).toNat, by have := Int.emod_nonneg n3 (show (far : Int) ≠ 0 by omega); omega⟩
  have hnear1 : 1 ≤ near ∧ near ≤ far := by
    have q1 := Int.emod_nonneg n3 (show (far : Int) ≠ 0 by omega)
    have q2 := Int.emod_lt_of_pos n3 (show (0 : Int) < (far : Int) by omega)
    omega
  have tk : ∀ k, 1 ≤ k → k ≤ ss.length → PtOk (stumpP (ss.take k)) ∧ ∀ S, fn_dr_stump [sgs (ss.take k)] S = .ok (stumpP (ss.take k)).d S := fun k h1 h2 => by
    have hne : ss.take k ≠ [] := fun e => by
      have := congrArg List.length e
      rw [List.length_take, List.length_nil] at this
      omega
    have hl : (ss.take k).length ≤ ss.length := by simp; omega
    have hE := stumpP_E hss s1 h1 h2
    have hd : (stumpP (ss.take k)).dp ≤ (stumpP ss).dp := by
      obtain ⟨a1, a2, a3, _⟩ := stumpP_all hne (okFrom_take s1 k)
      obtain ⟨b1, b2, b3, _⟩ := stumpP_all hss s1
      rw [a3, b3] at hE ⊢
      have := hE.2.dp
      simp only [Pt.kids] at this
      simp only [Pt.dp]; omega
    have h5 := s5 hss
    exact ⟨(drawn_ok (m := 6) hnm (by omega) hne (okFrom_take s1 k) (fun s hs => s2 s (List.mem_of_mem_take hs)) (by omega) (by omega)).1, fun S => dst_eq hne (okFrom_take s1 k) (by omega) S⟩
  have hgrow : ∀ l : Sl, ∀ k ∈ (stumpP (ss.take near)).ans l, k ∈ (stumpP (ss.take far)).ans l := by
    have hne : ss.take far ≠ [] := fun e => by
      have := congrArg List.length e
      rw [List.length_take, List.length_nil] at this
      omega
    have := stumpP_E hne (okFrom_take s1 far) hnear1.1 (by simp; omega)
    rw [List.take_take, Nat.min_eq_left hnear1.2] at this
    exact fun l => ans_grow this l
  obtain ⟨pn, an⟩ := tk near hnear1.1 (by omega)
  obtain ⟨pf, af⟩ := tk far hfar1.1 hfar1.2
  have cn : cutG (ss.map Sg.d) none (some (near : Int)) = (ss.take near).map Sg.d := by rw [cutG_to, List.map_take]
  have cf : cutG (ss.map Sg.d) none (some (far : Int)) = (ss.take far).map Sg.d := by rw [cutG_to, List.map_take]
  generalize stumpP (ss.take near) = P at pn an hgrow
  generalize stumpP (ss.take far) = Q at pf af hgrow
  have k1 : (S ++ [some (C.lst (D4.map D.int)), none])[S.length]? = some (some (.lst (D4.map D.int))) := by simp
  have w1 : fn_dr_steps 20 [.cell S.length, .lst (names.map D.str), .int ((2 : Nat) : Int)] (S ++ [some (.lst (D4.map D.int)), none]) = _ := drawF_eq k1 hnm (show 2 * 2 + 2 ≤ 20 by decide)
  obtain ⟨sB, sl1, sl2⟩ := stepsD_B hnm.2.2 (by omega) (wishD_B hnm.2.2 2) D4
  generalize (stepsD names (wishD names 2) D4).1 = l0 at w1 sB sl1 sl2
  generalize (stepsD names (wishD names 2) D4).2 = D5 at w1
  simp at w1
  have hl0 : l0 ≠ .nil := fun e => by rw [e] at sl1; simp [Sl.ds] at sl1
  have hok : okL l0 := ⟨sB.ok, by have := sB.wd; omega, by omega⟩
  have hlf : l0.lf ≤ 60 := by have := sB.lf; omega
  have g1 : b_law_s1 fn_dr_draws [some (.scr ns), none, none, none, none, none, none, none, none, none, none, none] S = .nx [some (.scr ns), some (.cell S.length), none, none, none, none, none, none, none, none, none, none] (S ++ [some (.lst (D0.map D.int))]) := by
    simp at e0
    simp [b_law_s1, e0]
  have g2 : b_law_s2 fn_dr_names fn_dr_pop [some (.scr ns), some (.cell S.length), none, none, none, none, none, none, none, none, none, none] (S ++ [some (.lst (D0.map D.int))]) = .nx [some (.scr ns), some (.cell S.length), some (.lst (names.map D.str)), none, none, none, none, none, none, none, none, none] (S ++ [some (.lst (D1.map D.int))]) := by
    simp [b_law_s2, p0, en]
  have hi3 : intsD 0 3 = [.int 0, .int 1, .int 2] := rfl
  have z2 : ¬ sizeLine = 0 ∧ 1 < sizeLine ∧ 2 < sizeLine := by rw [sizeLine_val]; omega
  have g3 : b_law_s3 fn_dr_pop [some (.scr ns), some (.cell S.length), some (.lst (names.map D.str)), none, none, none, none, none, none, none, none, none] (S ++ [some (.lst (D1.map D.int))]) = .nx [some (.scr ns), some (.cell S.length), some (.lst (names.map D.str)), some (.lst [.int n1, .int n2, .int n3]), none, none, none, none, none, none, none, none] (S ++ [some (.lst (D4.map D.int))]) := by
    simp [b_law_s3, hi3, p1, p2, p3, wipeE, sizeLine_val]
  have g4 : b_law_s4 fn_dr_signs fn_dr_draws [some (.scr ns), some (.cell S.length), some (.lst (names.map D.str)), some (.lst [.int n1, .int n2, .int n3]), none, none, none, none, none, none, none, none] (S ++ [some (.lst (D4.map D.int))]) = .nx [some (.scr ns), some (.cell S.length), some (.lst (names.map D.str)), some (.lst [.int n1, .int n2, .int n3]), some (.lst (ss.map Sg.d)), none, none, none, none, none, none, none] (S ++ [some (.lst (D4.map D.int)), none]) := by
    have e2' := e2 (S ++ [some (.lst (D4.map D.int))])
    have es' := es (S ++ [some (.lst (D4.map D.int)), none])
    simp [sgs] at e2' es'
    simp [b_law_s4, hm, e2', es']
  have g5 : b_law_s5 (fn_dr_steps 20) [some (.scr ns), some (.cell S.length), some (.lst (names.map D.str)), some (.lst [.int n1, .int n2, .int n3]), some (.lst (ss.map Sg.d)), none, none, none, none, none, none, none] (S ++ [some (.lst (D4.map D.int)), none]) = .nx [some (.scr ns), some (.cell S.length), some (.lst (names.map D.str)), some (.lst [.int n1, .int n2, .int n3]), some (.lst (ss.map Sg.d)), some (.lst l0.ds), none, none, none, none, none, none] (S ++ [some (.lst (D5.map D.int)), none]) := by
    simp [b_law_s5, w1]
  generalize hT : (S ++ [some (C.lst (D5.map D.int)), none]) = T at g5
  have hTl : T.length = S.length + 2 := by rw [← hT]; simp
  have hsl : 0 < ss.length := by omega
  have g6 : b_law_s6 [some (.scr ns), some (.cell S.length), some (.lst (names.map D.str)), some (.lst [.int n1, .int n2, .int n3]), some (.lst (ss.map Sg.d)), some (.lst l0.ds), none, none, none, none, none, none] T = .nx [some (.scr ns), some (.cell S.length), some (.lst (names.map D.str)), some (.lst [.int n1, .int n2, .int n3]), some (.lst (ss.map Sg.d)), some (.lst l0.ds), some (.int (far : Int)), none, none, none, none, none] T := by
    simp [b_law_s6, hsl, hfar]
  have hfl : 0 < far := by omega
  have g7 : b_law_s7 [some (.scr ns), some (.cell S.length), some (.lst (names.map D.str)), some (.lst [.int n1, .int n2, .int n3]), some (.lst (ss.map Sg.d)), some (.lst l0.ds), some (.int (far : Int)), none, none, none, none, none] T = .nx [some (.scr ns), some (.cell S.length), some (.lst (names.map D.str)), some (.lst [.int n1, .int n2, .int n3]), some (.lst (ss.map Sg.d)), some (.lst l0.ds), some (.int (far : Int)), some (.int (near : Int)), none, none, none, none] T := by
    simp [b_law_s7, hfl, hnear]
  have g8 : b_law_s8 fn_answers fn_dr_stump [some (.scr ns), some (.cell S.length), some (.lst (names.map D.str)), some (.lst [.int n1, .int n2, .int n3]), some (.lst (ss.map Sg.d)), some (.lst l0.ds), some (.int (far : Int)), some (.int (near : Int)), none, none, none, none] T = .nx [some (.scr ns), some (.cell S.length), some (.lst (names.map D.str)), some (.lst [.int n1, .int n2, .int n3]), some (.lst (ss.map Sg.d)), some (.lst l0.ds), some (.int (far : Int)), some (.int (near : Int)), some (.cell T.length), none, none, none] (T ++ [some (.lst (numD (P.ans l0)))]) := by
    have ha := answers_eq pn hok hl0 hlf T
    have an' := an T
    simp only [sgs, List.map_take] at an'
    simp [b_law_s8, cn, an', ha]
  have g9 : b_law_s9 fn_answers fn_dr_stump [some (.scr ns), some (.cell S.length), some (.lst (names.map D.str)), some (.lst [.int n1, .int n2, .int n3]), some (.lst (ss.map Sg.d)), some (.lst l0.ds), some (.int (far : Int)), some (.int (near : Int)), some (.cell T.length), none, none, none] (T ++ [some (.lst (numD (P.ans l0)))]) = .nx [some (.scr ns), some (.cell S.length), some (.lst (names.map D.str)), some (.lst [.int n1, .int n2, .int n3]), some (.lst (ss.map Sg.d)), some (.lst l0.ds), some (.int (far : Int)), some (.int (near : Int)), some (.cell T.length), some (.cell (T.length + 1)), none, none] (T ++ [some (.lst (numD (P.ans l0))), some (.lst (numD (Q.ans l0)))]) := by
    have ha := answers_eq pf hok hl0 hlf (T ++ [some (.lst (numD (P.ans l0)))])
    have af' := af (T ++ [some (.lst (numD (P.ans l0)))])
    simp only [sgs, List.map_take] at af'
    simp at ha
    simp [b_law_s9, cf, af', ha]
  generalize hU : (T ++ [some (C.lst (numD (P.ans l0))), some (.lst (numD (Q.ans l0)))]) = U at g9
  have u1 : U[T.length]? = some (some (.lst (numD (P.ans l0)))) := by rw [← hU]; simp
  have u2 : U[T.length + 1]? = some (some (.lst (numD (Q.ans l0)))) := by rw [← hU]; simp
  have hc := compL_on (S := U) (chk := fun S => S[T.length]? = some (some (.lst (numD (P.ans l0))))) (h := hName 11) (t := tTst (op2 (gIn true) (eVar 11) (eVar 9))) (f := eVar 11) (σ := [some (.scr ns), some (.cell S.length), some (.lst (names.map D.str)), some (.lst [.int n1, .int n2, .int n3]), some (.lst (ss.map Sg.d)), some (.lst l0.ds), some (.int (far : Int)), some (.int (near : Int)), some (.cell T.length), some (.cell (T.length + 1)), none, none]) u1 (fun (i : Nat) => D.int (i : Int)) (fun i => !decide (i ∈ Q.ans l0)) (fun (i : Nat) => D.int (i : Int)) (P.ans l0) [] (fun i hi => ⟨_, rfl, by
    have := num_in i (Q.ans l0) true U (.cell (T.length + 1)) (.inr ⟨_, rfl, u2⟩)
    simp at this
    simp [this], fun _ => by simp⟩) (by
      have : (P.ans l0).length ≤ P.pre.length := by unfold Pt.ans; exact Nat.le_trans (List.length_filter_le _ _) (by simp)
      have := pn.pre_len
      rw [sizeLine_val]; simp; omega)
  have hflt : (P.ans l0).filter (fun i => !decide (i ∈ Q.ans l0)) = [] := by
    rw [List.filter_eq_nil_iff]
    intro i hi
    have := hgrow l0 i hi
    simp [this]
  rw [hflt] at hc
  have hnil : gEq (.lst []) (.lst []) U = .ok (.bl true) U := (gEq_same (p := .list []) rfl rfl rfl).1
  have g10 : b_law_s10 [some (.scr ns), some (.cell S.length), some (.lst (names.map D.str)), some (.lst [.int n1, .int n2, .int n3]), some (.lst (ss.map Sg.d)), some (.lst l0.ds), some (.int (far : Int)), some (.int (near : Int)), some (.cell T.length), some (.cell (T.length + 1)), none, none] U = .rt (.bl true) U := by
    simp only [numD] at hc u1
    simp [b_law_s10, u1, wipeE, hc, hnil]
  have hUS : U = S ++ ([some (C.lst (D5.map D.int)), none] ++ [some (C.lst (numD (P.ans l0))), some (.lst (numD (Q.ans l0)))]) := by rw [← hU, ← hT]; simp
  refine Ref.ok (v2 := .bl true) (S2 := U) ?_ (by rw [hUS]; exact Cl.pure rfl)
  simp [runB, b_law, g1, g2, g3, g4, g5, g6, g7, g8, g9, g10]
end Ev

namespace KR
open PySem PySem.Spec PyProof.Rows L2 Ev
def topS (i : Nat) : Stmt := PySem.Challenge.pw_earlysift_k06_answers_grow.main.body.getD i (.Pass ⟨0, 0, 0, 0⟩)
def inC (i j : Nat) : Stmt := match topS i with
  | .ClassDef (body := b) .. => b.getD j (.Pass ⟨0, 0, 0, 0⟩)
  | s => s
abbrev s_dr_draws : Stmt := topS 4
theorem sc_dr_draws : FnScope ["_law_script", "_law_turn", "_law_many", "_law_cells", "_law_found", "_law_left", "_law_k", "_law_at", "_law_place", "_law_number", "_law_cell"] ["_law_script", "_law_turn", "_law_many"] (defScope s_dr_draws) := ⟨rfl, rfl, rfl, by decide +kernel, rfl, by decide +kernel, by decide +kernel⟩
abbrev s_dr_name : Stmt := topS 6
theorem sc_dr_name : FnScope ["_law_k", "_law_draw", "_law_letters", "_law_base", "_law_at", "_law_j"] ["_law_k", "_law_draw"] (defScope s_dr_name) := ⟨rfl, rfl, rfl, by decide +kernel, rfl, by decide +kernel, by decide +kernel⟩
abbrev s_dr_names : Stmt := topS 7
theorem sc_dr_names : FnScope ["_law_draw", "_law_k"] ["_law_draw"] (defScope s_dr_names) := ⟨rfl, rfl, rfl, by decide +kernel, rfl, by decide +kernel, by decide +kernel⟩
abbrev s_dr_pop : Stmt := topS 5
theorem sc_dr_pop : FnScope ["_law_draws_here"] ["_law_draws_here"] (defScope s_dr_pop) := ⟨rfl, rfl, rfl, by decide +kernel, rfl, by decide +kernel, by decide +kernel⟩
abbrev s_dr_text : Stmt := topS 8
theorem sc_dr_text : FnScope ["_law_number", "_law_some"] ["_law_number"] (defScope s_dr_text) := ⟨rfl, rfl, rfl, by decide +kernel, rfl, by decide +kernel, by decide +kernel⟩
abbrev s_dr_signs : Stmt := topS 9
theorem sc_dr_signs : FnScope ["_law_draws_here", "_law_names_here", "_law_deep", "_law_found", "_law_depth", "_law_number", "_law_kind"] ["_law_draws_here", "_law_names_here", "_law_deep"] (defScope s_dr_signs) := ⟨rfl, rfl, rfl, by decide +kernel, rfl, by decide +kernel, by decide +kernel⟩
abbrev s_dr_wish : Stmt := topS 11
theorem sc_dr_wish : FnScope ["_law_draws_here", "_law_names_here", "_law_deep", "_law_number", "_law_kind", "_law_many", "_law_k"] ["_law_draws_here", "_law_names_here", "_law_deep"] (defScope s_dr_wish) := ⟨rfl, rfl, rfl, by decide +kernel, rfl, by decide +kernel, by decide +kernel⟩
abbrev s_dr_steps : Stmt := topS 12
theorem sc_dr_steps : FnScope ["_law_draws_here", "_law_names_here", "_law_deep", "_law_found", "_law_k", "_law_number", "_law_name_here"] ["_law_draws_here", "_law_names_here", "_law_deep"] (defScope s_dr_steps) := ⟨rfl, rfl, rfl, by decide +kernel, rfl, by decide +kernel, by decide +kernel⟩
abbrev s_Flat_below : Stmt := inC 1 2
theorem sc_Flat_below : FnScope ["self", "good", "way", "found", "k"] ["self", "good", "way"] (defScope s_Flat_below) := ⟨rfl, rfl, rfl, by decide +kernel, rfl, by decide +kernel, by decide +kernel⟩
abbrev s_Flat_leads : Stmt := inC 1 6
theorem sc_Flat_leads : FnScope ["self", "steps", "found", "step", "suits", "part", "k"] ["self", "steps"] (defScope s_Flat_leads) := ⟨rfl, rfl, rfl, by decide +kernel, rfl, by decide +kernel, by decide +kernel⟩
abbrev s_Flat_truths : Stmt := inC 1 4
theorem sc_Flat_truths : FnScope ["self", "wish", "rows", "part", "one", "k", "row"] ["self", "wish"] (defScope s_Flat_truths) := ⟨rfl, rfl, rfl, by decide +kernel, rfl, by decide +kernel, by decide +kernel⟩
abbrev s_Flat_suits : Stmt := inC 1 5
theorem sc_Flat_suits : FnScope ["self", "step", "truths", "k", "part"] ["self", "step"] (defScope s_Flat_suits) := ⟨rfl, rfl, rfl, by decide +kernel, rfl, by decide +kernel, by decide +kernel⟩
abbrev s_Flat_above : Stmt := inC 1 3
theorem sc_Flat_above : FnScope ["self", "good", "way", "found", "k", "around"] ["self", "good", "way"] (defScope s_Flat_above) := ⟨rfl, rfl, rfl, by decide +kernel, rfl, by decide +kernel, by decide +kernel⟩
abbrev s_Flat_ends : Stmt := inC 1 7
theorem sc_Flat_ends : FnScope ["self", "steps", "found", "step", "suits", "above", "k"] ["self", "steps"] (defScope s_Flat_ends) := ⟨rfl, rfl, rfl, by decide +kernel, rfl, by decide +kernel, by decide +kernel⟩
abbrev s_Flat_lay : Stmt := inC 1 1
theorem sc_Flat_lay : FnScope ["self", "part", "around", "number", "one"] ["self", "part", "around"] (defScope s_Flat_lay) := ⟨rfl, rfl, rfl, by decide +kernel, rfl, by decide +kernel, by decide +kernel⟩
abbrev s_Flat___init__ : Stmt := inC 1 0
theorem sc_Flat___init__ : FnScope ["self", "part"] ["self", "part"] (defScope s_Flat___init__) := ⟨rfl, rfl, rfl, by decide +kernel, rfl, by decide +kernel, by decide +kernel⟩
abbrev s_answers : Stmt := topS 2
theorem sc_answers : FnScope ["paper", "question", "found", "k"] ["paper", "question"] (defScope s_answers) := ⟨rfl, rfl, rfl, by decide +kernel, rfl, by decide +kernel, by decide +kernel⟩
abbrev s_dr_stump : Stmt := topS 10
theorem sc_dr_stump : FnScope ["_law_signs_here", "_law_around", "_law_pile", "_law_sign", "_law_parts"] ["_law_signs_here"] (defScope s_dr_stump) := ⟨rfl, rfl, rfl, by decide +kernel, rfl, by decide +kernel, by decide +kernel⟩
abbrev s_law : Stmt := topS 13
theorem sc_law : FnScope ["_law_script", "_law_draws_here", "_law_names_here", "_law_some", "_law_signs_here", "_law_question", "_law_far", "_law_near", "_law_found", "_law_later", "_law_k", "_law_number"] ["_law_script"] (defScope s_law) := ⟨rfl, rfl, rfl, by decide +kernel, rfl, by decide +kernel, by decide +kernel⟩
structure Row (K : PySem.W.Frag) (ca : Nat → Addr) (mg : Str → Option Value) : Prop where
  a_dr_draws : At K "_law_draws" .none "_law_draws" "_law_draws" s_dr_draws ["_law_script", "_law_turn", "_law_many"]
  a_dr_name : At K "_law_name" .none "_law_name" "_law_name" s_dr_name ["_law_k", "_law_draw"]
  a_dr_names : At K "_law_names" .none "_law_names" "_law_names" s_dr_names ["_law_draw"]
  a_dr_pop : At K "_law_pop" .none "_law_pop" "_law_pop" s_dr_pop ["_law_draws_here"]
  a_dr_text : At K "_law_text" .none "_law_text" "_law_text" s_dr_text ["_law_number"]
  a_dr_signs : At K "_law_signs" .none "_law_signs" "_law_signs" s_dr_signs ["_law_draws_here", "_law_names_here", "_law_deep"]
  a_dr_wish : At K "_law_wish" .none "_law_wish" "_law_wish" s_dr_wish ["_law_draws_here", "_law_names_here", "_law_deep"]
  a_dr_steps : At K "_law_steps" .none "_law_steps" "_law_steps" s_dr_steps ["_law_draws_here", "_law_names_here", "_law_deep"]
  a_Flat_below : At K "Flat" (some "below") "below" "Flat.below" s_Flat_below ["self", "good", "way"]
  a_Flat_leads : At K "Flat" (some "leads") "leads" "Flat.leads" s_Flat_leads ["self", "steps"]
  a_Flat_truths : At K "Flat" (some "truths") "truths" "Flat.truths" s_Flat_truths ["self", "wish"]
  a_Flat_suits : At K "Flat" (some "suits") "suits" "Flat.suits" s_Flat_suits ["self", "step"]
  a_Flat_above : At K "Flat" (some "above") "above" "Flat.above" s_Flat_above ["self", "good", "way"]
  a_Flat_ends : At K "Flat" (some "ends") "ends" "Flat.ends" s_Flat_ends ["self", "steps"]
  a_Flat_lay : At K "Flat" (some "lay") "lay" "Flat.lay" s_Flat_lay ["self", "part", "around"]
  a_Flat___init__ : At K "Flat" (some "__init__") "__init__" "Flat.__init__" s_Flat___init__ ["self", "part"]
  a_answers : At K "answers" .none "answers" "answers" s_answers ["paper", "question"]
  a_dr_stump : At K "_law_stump" .none "_law_stump" "_law_stump" s_dr_stump ["_law_signs_here"]
  a_law : At K "law" .none "law" "law" s_law ["_law_script"]
  g_law_draws : mg "_law_draws" = some (.ref (He.ga K "_law_draws"))
  g_law_name : mg "_law_name" = some (.ref (He.ga K "_law_name"))
  g_law_names : mg "_law_names" = some (.ref (He.ga K "_law_names"))
  g_law_pop : mg "_law_pop" = some (.ref (He.ga K "_law_pop"))
  g_law_text : mg "_law_text" = some (.ref (He.ga K "_law_text"))
  g_law_signs : mg "_law_signs" = some (.ref (He.ga K "_law_signs"))
  g_law_wish : mg "_law_wish" = some (.ref (He.ga K "_law_wish"))
  g_law_steps : mg "_law_steps" = some (.ref (He.ga K "_law_steps"))
  g_answers : mg "answers" = some (.ref (He.ga K "answers"))
  g_law_stump : mg "_law_stump" = some (.ref (He.ga K "_law_stump"))
  n_all : mg "all" = none
  n_any : mg "any" = none
  n_enumerate : mg "enumerate" = none
  n_isinstance : mg "isinstance" = none
  n_len : mg "len" = none
  n_range : mg "range" = none
  n_reversed : mg "reversed" = none
  n_str : mg "str" = none
  c_Flat : Cls K (ca 0)
  gc_Flat : mg "Flat" = some (.ref (ca 0))
  m_Flat_above : Meth K (ca 0) "above" (He.fAd K ("Flat", some "above"))
  m_Flat_below : Meth K (ca 0) "below" (He.fAd K ("Flat", some "below"))
  m_Flat_ends : Meth K (ca 0) "ends" (He.fAd K ("Flat", some "ends"))
  m_Flat_lay : Meth K (ca 0) "lay" (He.fAd K ("Flat", some "lay"))
  m_Flat_leads : Meth K (ca 0) "leads" (He.fAd K ("Flat", some "leads"))
  m_Flat_suits : Meth K (ca 0) "suits" (He.fAd K ("Flat", some "suits"))
  m_Flat_truths : Meth K (ca 0) "truths" (He.fAd K ("Flat", some "truths"))
  mk_Flat : Mk K (ca 0) (He.fAd K ("Flat", some "__init__"))
  na_Flat_around : NoAttr K (ca 0) "around"
  na_Flat_parts : NoAttr K (ca 0) "parts"
section
variable {P : Program} {w : World} {K : PySem.W.Frag} {mg : Str → Option Value} {base : Heap} {ca : Nat → Addr}
theorem v_dr_draws {k : Nat} (R : Row K ca mg) :
    ∀ (cdv : Value) (A : Around) (outer : List PySem.Env) (s : Shared) (H : Hp) (E : XK), Room k (A.deeper (envOfC "_law_draws" (defScope s_dr_draws) s.heap.objs.size (He.fAd K ("_law_draws", .none)) cdv)) →
      VSs (cxOf (L2.CX P w) P w K mg base ["_law_script", "_law_turn", "_law_many", "_law_cells", "_law_found", "_law_left", "_law_k", "_law_at", "_law_place", "_law_number", "_law_cell"] "_law_draws" (defScope s_dr_draws) (He.fAd K ("_law_draws", .none)) cdv A outer s H E) ⟨K, ca⟩ (fun c d _ H => E c d H) (defBody s_dr_draws) (b_dr_draws) := by
  intro cdv A outer s H E hr
  have S := sc_dr_draws
  have tk := takes_of (X := cxOf (L2.CX P w) P w K mg base ["_law_script", "_law_turn", "_law_many", "_law_cells", "_law_found", "_law_left", "_law_k", "_law_at", "_law_place", "_law_number", "_law_cell"] "_law_draws" (defScope s_dr_draws) (He.fAd K ("_law_draws", .none)) cdv A outer s H E) rfl rfl rfl rfl
  exact (vss_cons (vs_set (i := 3) S.nd (ve_add (ve_sl (ve_var (i := 0)) vo_none (vo_some ve_int)) (ve_lst (va_cons (ve_var (i := 1)) va_nil))))
      (vss_cons (vs_set (i := 4) S.nd (ve_new va_nil))
      (vss_cons (vs_if (vt_eq hr (ve_mod (ve_div (ve_ix (ve_var (i := 3)) ve_int) ve_int) ve_int) ve_int) (vss_cons (vs_setLcN (i := 5) (own := [("_law_cell", 10)]) rfl S.nd (vi_list (ve_var (i := 3))) (blkOk_by (N := ["_law_script", "_law_turn", "_law_many", "_law_cells", "_law_found", "_law_left", "_law_k", "_law_at", "_law_place", "_law_number", "_law_cell"]) (sc := defScope s_dr_draws) (by decide +kernel)) (fun _ _ _ _ _ => (vg_name (i := 10) S.nd)) (fun _ _ _ _ _ => VTs_nil) (fun _ _ _ _ _ => (ve_div (ve_var (i := 10)) ve_int)) (sw_true rfl rfl rfl (by decide +kernel)))
      (vss_cons (vs_for (passes_of rfl) rfl (vi_r1 R.n_range (ve_add (ve_var (i := 1)) (ve_var (i := 2)))) (vg_name (i := 6) S.nd) (vss_cons (vs_set (i := 7) S.nd (ve_mod (ve_var (i := 6)) (ve_len R.n_len (ve_var (i := 5)))))
      (vss_cons (vs_if (vt_ge (ve_var (i := 6)) (ve_var (i := 1))) (vss_one (vs_exp (ve_append (ve_var (i := 4)) (ve_mod (ve_ix (ve_var (i := 5)) (ve_var (i := 7))) ve_int)))) vss_nil)
      (vss_one (vs_ix (ve_div (ve_ix (ve_var (i := 5)) (ve_var (i := 7))) ve_int) (ve_var (i := 5)) (ve_var (i := 7)))))))
      (vss_one (vs_ret (ve_var (i := 4)))))) vss_nil)
      (vss_cons (vs_for (passes_of rfl) rfl (vi_r1 R.n_range (ve_var (i := 2))) (vg_name (i := 6) S.nd) (vss_cons (vs_set (i := 8) S.nd (ve_add (ve_mul (ve_mul (ve_add (ve_var (i := 6)) (ve_var (i := 1))) (ve_add (ve_var (i := 6)) (ve_var (i := 1)))) ve_int) ve_int))
      (vss_cons (vs_set (i := 9) S.nd (ve_mod (ve_mul (ve_add (ve_mod (ve_ix (ve_var (i := 3)) (ve_mod (ve_var (i := 6)) (ve_len R.n_len (ve_var (i := 3))))) ve_int) (ve_var (i := 8))) ve_int) ve_int))
      (vss_cons (vs_set (i := 9) S.nd (ve_mod (ve_add (ve_mul (ve_var (i := 9)) (ve_var (i := 9))) (ve_mul ve_int (ve_var (i := 6)))) ve_int))
      (vss_one (vs_exp (ve_append (ve_var (i := 4)) (ve_mod (ve_mul (ve_var (i := 9)) (ve_var (i := 9))) ve_int))))))))
      (vss_one (vs_ret (ve_var (i := 4))))))))
theorem v_dr_name {k : Nat} (R : Row K ca mg) :
    ∀ (cdv : Value) (A : Around) (outer : List PySem.Env) (s : Shared) (H : Hp) (E : XK), Room k (A.deeper (envOfC "_law_name" (defScope s_dr_name) s.heap.objs.size (He.fAd K ("_law_name", .none)) cdv)) →
      VSs (cxOf (L2.CX P w) P w K mg base ["_law_k", "_law_draw", "_law_letters", "_law_base", "_law_at", "_law_j"] "_law_name" (defScope s_dr_name) (He.fAd K ("_law_name", .none)) cdv A outer s H E) ⟨K, ca⟩ (fun c d _ H => E c d H) (defBody s_dr_name) (b_dr_name) := by
  intro cdv A outer s H E hr
  have S := sc_dr_name
  have tk := takes_of (X := cxOf (L2.CX P w) P w K mg base ["_law_k", "_law_draw", "_law_letters", "_law_base", "_law_at", "_law_j"] "_law_name" (defScope s_dr_name) (He.fAd K ("_law_name", .none)) cdv A outer s H E) rfl rfl rfl rfl
  exact (vss_cons (vs_set (i := 2) S.nd ve_str)
      (vss_cons (vs_set (i := 3) S.nd (ve_join ve_str (va_cons (ve_comp (own := [("_law_j", 5)]) rfl S.nd (vi_r1 R.n_range (ve_mod (ve_var (i := 1)) ve_int)) (blkOk_by (N := ["_law_k", "_law_draw", "_law_letters", "_law_base", "_law_at", "_law_j"]) (sc := defScope s_dr_name) (by decide +kernel)) (fun _ _ _ _ _ => (vg_name (i := 5) S.nd)) (fun _ _ _ _ _ => VTs_nil) (fun _ _ _ _ _ => (ve_ix (ve_var (i := 2)) (ve_mod (ve_add (ve_div (ve_var (i := 1)) ve_int) (ve_mul (ve_var (i := 5)) (ve_var (i := 5)))) ve_int)))) va_nil)))
      (vss_cons (vs_set (i := 4) S.nd (ve_mod (ve_div (ve_var (i := 1)) ve_int) (ve_add (ve_len R.n_len (ve_var (i := 3))) ve_int)))
      (vss_one (vs_ret (ve_add (ve_add (ve_sl (ve_var (i := 3)) vo_none (vo_some (ve_var (i := 4)))) (ve_ix (ve_var (i := 2)) (ve_mod (ve_add (ve_var (i := 0)) (ve_var (i := 1))) ve_int))) (ve_sl (ve_var (i := 3)) (vo_some (ve_var (i := 4))) vo_none)))))))
theorem v_dr_names {f_dr_name : Fn} {k : Nat} (R : Row K ca mg) (F_dr_name : Has P w K mg base ⟨K, ca⟩ k "_law_name" .none ["_law_k", "_law_draw"] 2 f_dr_name) :
    ∀ (cdv : Value) (A : Around) (outer : List PySem.Env) (s : Shared) (H : Hp) (E : XK), Room k (A.deeper (envOfC "_law_names" (defScope s_dr_names) s.heap.objs.size (He.fAd K ("_law_names", .none)) cdv)) →
      VSs (cxOf (L2.CX P w) P w K mg base ["_law_draw", "_law_k"] "_law_names" (defScope s_dr_names) (He.fAd K ("_law_names", .none)) cdv A outer s H E) ⟨K, ca⟩ (fun c d _ H => E c d H) (defBody s_dr_names) (b_dr_names f_dr_name) := by
  intro cdv A outer s H E hr
  have S := sc_dr_names
  have tk := takes_of (X := cxOf (L2.CX P w) P w K mg base ["_law_draw", "_law_k"] "_law_names" (defScope s_dr_names) (He.fAd K ("_law_names", .none)) cdv A outer s H E) rfl rfl rfl rfl
  exact (vss_one (vs_ret (ve_comp (own := [("_law_k", 1)]) rfl S.nd (vi_r1 R.n_range (ve_add ve_int (ve_mod (ve_div (ve_var (i := 0)) ve_int) ve_int))) (blkOk_by (N := ["_law_draw", "_law_k"]) (sc := defScope s_dr_names) (by decide +kernel)) (fun _ _ _ _ _ => (vg_name (i := 1) S.nd)) (fun _ _ _ _ _ => VTs_nil) (fun _ _ _ _ _ => (F_dr_name.call R.g_law_name hr takes00 (va_cons (ve_var (i := 1)) (va_cons (ve_var (i := 0)) va_nil)))))))
theorem v_dr_pop {k : Nat} (R : Row K ca mg) :
    ∀ (cdv : Value) (A : Around) (outer : List PySem.Env) (s : Shared) (H : Hp) (E : XK), Room k (A.deeper (envOfC "_law_pop" (defScope s_dr_pop) s.heap.objs.size (He.fAd K ("_law_pop", .none)) cdv)) →
      VSs (cxOf (L2.CX P w) P w K mg base ["_law_draws_here"] "_law_pop" (defScope s_dr_pop) (He.fAd K ("_law_pop", .none)) cdv A outer s H E) ⟨K, ca⟩ (fun c d _ H => E c d H) (defBody s_dr_pop) (b_dr_pop) := by
  intro cdv A outer s H E hr
  have S := sc_dr_pop
  have tk := takes_of (X := cxOf (L2.CX P w) P w K mg base ["_law_draws_here"] "_law_pop" (defScope s_dr_pop) (He.fAd K ("_law_pop", .none)) cdv A outer s H E) rfl rfl rfl rfl
  exact (vss_cons (vs_if (vt_eq hr (ve_var (i := 0)) (ve_lst va_nil)) (vss_one (vs_ret ve_int)) vss_nil)
      (vss_one (vs_ret (ve_pop (ve_var (i := 0))))))
theorem v_dr_text {k : Nat} (R : Row K ca mg) :
    ∀ (cdv : Value) (A : Around) (outer : List PySem.Env) (s : Shared) (H : Hp) (E : XK), Room k (A.deeper (envOfC "_law_text" (defScope s_dr_text) s.heap.objs.size (He.fAd K ("_law_text", .none)) cdv)) →
      VSs (cxOf (L2.CX P w) P w K mg base ["_law_number", "_law_some"] "_law_text" (defScope s_dr_text) (He.fAd K ("_law_text", .none)) cdv A outer s H E) ⟨K, ca⟩ (fun c d _ H => E c d H) (defBody s_dr_text) (b_dr_text) := by
  intro cdv A outer s H E hr
  have S := sc_dr_text
  have tk := takes_of (X := cxOf (L2.CX P w) P w K mg base ["_law_number", "_law_some"] "_law_text" (defScope s_dr_text) (He.fAd K ("_law_text", .none)) cdv A outer s H E) rfl rfl rfl rfl
  exact (vss_cons (vs_set (i := 1) S.nd (ve_lst (va_cons ve_str (va_cons ve_str (va_cons ve_str (va_cons ve_str (va_cons ve_str (va_cons ve_str (va_cons ve_str (va_cons ve_str va_nil))))))))))
      (vss_one (vs_ret (ve_ix (ve_var (i := 1)) (ve_mod (ve_var (i := 0)) (ve_len R.n_len (ve_var (i := 1))))))))
theorem v_dr_signs {f_dr_text : Fn} {k : Nat} (R : Row K ca mg) (F_dr_text : Has P w K mg base ⟨K, ca⟩ k "_law_text" .none ["_law_number"] 1 f_dr_text) :
    ∀ (cdv : Value) (A : Around) (outer : List PySem.Env) (s : Shared) (H : Hp) (E : XK), Room k (A.deeper (envOfC "_law_signs" (defScope s_dr_signs) s.heap.objs.size (He.fAd K ("_law_signs", .none)) cdv)) →
      VSs (cxOf (L2.CX P w) P w K mg base ["_law_draws_here", "_law_names_here", "_law_deep", "_law_found", "_law_depth", "_law_number", "_law_kind"] "_law_signs" (defScope s_dr_signs) (He.fAd K ("_law_signs", .none)) cdv A outer s H E) ⟨K, ca⟩ (fun c d _ H => E c d H) (defBody s_dr_signs) (b_dr_signs f_dr_text) := by
  intro cdv A outer s H E hr
  have S := sc_dr_signs
  have tk := takes_of (X := cxOf (L2.CX P w) P w K mg base ["_law_draws_here", "_law_names_here", "_law_deep", "_law_found", "_law_depth", "_law_number", "_law_kind"] "_law_signs" (defScope s_dr_signs) (He.fAd K ("_law_signs", .none)) cdv A outer s H E) rfl rfl rfl rfl
  exact (vss_cons (vs_set (i := 3) S.nd (ve_new va_nil))
      (vss_cons (vs_set (i := 4) S.nd ve_int)
      (vss_cons (vs_for (passes_of rfl) rfl (vi_list (ve_var (i := 0))) (vg_name (i := 5) S.nd) (vss_cons (vs_set (i := 6) S.nd (ve_mod (ve_var (i := 5)) ve_int))
      (vss_one (vs_if (vt_w (vw_or (vt_eq hr (ve_var (i := 3)) (ve_lst va_nil)) (vw_or1 (vt_w (vw_and (vt_lt (ve_var (i := 6)) ve_int) (vw_and1 (vt_lt (ve_var (i := 4)) (ve_var (i := 2))))))))) (vss_cons (vs_exp (ve_append (ve_var (i := 3)) (ve_tup (va_cons ve_str (va_cons (ve_ix (ve_var (i := 1)) (ve_mod (ve_div (ve_var (i := 5)) ve_int) (ve_len R.n_len (ve_var (i := 1))))) va_nil)))))
      (vss_one (vs_set (i := 4) S.nd (ve_add (ve_var (i := 4)) ve_int)))) (vss_one (vs_if (vt_w (vw_or (vt_lt (ve_var (i := 6)) ve_int) (vw_or1 (vt_lt (ve_var (i := 4)) ve_int)))) (vss_one (vs_exp (ve_append (ve_var (i := 3)) (ve_tup (va_cons ve_str (va_cons (F_dr_text.call R.g_law_text hr tk (va_cons (ve_mod (ve_div (ve_var (i := 5)) ve_int) ve_int) va_nil)) va_nil)))))) (vss_cons (vs_exp (ve_append (ve_var (i := 3)) (ve_tup (va_cons ve_str va_nil))))
      (vss_one (vs_set (i := 4) S.nd (ve_sub (ve_var (i := 4)) ve_int))))))))))
      (vss_one (vs_ret (ve_var (i := 3)))))))
theorem v_dr_wish {f_dr_pop f_dr_text f_dr_steps f_dr_wish : Fn} {k : Nat} (R : Row K ca mg) (F_dr_pop : Has P w K mg base ⟨K, ca⟩ k "_law_pop" .none ["_law_draws_here"] 1 f_dr_pop) (F_dr_text : Has P w K mg base ⟨K, ca⟩ k "_law_text" .none ["_law_number"] 1 f_dr_text) (F_dr_steps : Has P w K mg base ⟨K, ca⟩ k "_law_steps" .none ["_law_draws_here", "_law_names_here", "_law_deep"] 3 f_dr_steps) (F_dr_wish : Has P w K mg base ⟨K, ca⟩ k "_law_wish" .none ["_law_draws_here", "_law_names_here", "_law_deep"] 3 f_dr_wish) :
    ∀ (cdv : Value) (A : Around) (outer : List PySem.Env) (s : Shared) (H : Hp) (E : XK), Room k (A.deeper (envOfC "_law_wish" (defScope s_dr_wish) s.heap.objs.size (He.fAd K ("_law_wish", .none)) cdv)) →
      VSs (cxOf (L2.CX P w) P w K mg base ["_law_draws_here", "_law_names_here", "_law_deep", "_law_number", "_law_kind", "_law_many", "_law_k"] "_law_wish" (defScope s_dr_wish) (He.fAd K ("_law_wish", .none)) cdv A outer s H E) ⟨K, ca⟩ (fun c d _ H => E c d H) (defBody s_dr_wish) (b_dr_wish f_dr_pop f_dr_text f_dr_steps f_dr_wish) := by
  intro cdv A outer s H E hr
  have S := sc_dr_wish
  have tk := takes_of (X := cxOf (L2.CX P w) P w K mg base ["_law_draws_here", "_law_names_here", "_law_deep", "_law_number", "_law_kind", "_law_many", "_law_k"] "_law_wish" (defScope s_dr_wish) (He.fAd K ("_law_wish", .none)) cdv A outer s H E) rfl rfl rfl rfl
  exact (vss_cons (vs_set (i := 3) S.nd (F_dr_pop.call R.g_law_pop hr tk (va_cons (ve_var (i := 0)) va_nil)))
      (vss_cons (vs_set (i := 4) S.nd (ve_mod (ve_var (i := 3)) ve_int))
      (vss_cons (vs_if (vt_w (vw_or (vt_eq hr (ve_var (i := 4)) ve_int) (vw_or1 (vt_eq hr (ve_var (i := 4)) ve_int)))) (vss_one (vs_ret (ve_tup (va_cons ve_str (va_cons (F_dr_text.call R.g_law_text hr tk (va_cons (ve_div (ve_var (i := 3)) ve_int) va_nil)) va_nil))))) vss_nil)
      (vss_cons (vs_if (vt_w (vw_or (vt_lt (ve_var (i := 4)) ve_int) (vw_or1 (vt_eq hr (ve_var (i := 2)) ve_int)))) (vss_one (vs_ret (ve_tup (va_cons ve_str va_nil)))) vss_nil)
      (vss_cons (vs_if (vt_lt (ve_var (i := 4)) ve_int) (vss_one (vs_ret (ve_tup (va_cons ve_str (va_cons (F_dr_steps.call R.g_law_steps hr tk (va_cons (ve_var (i := 0)) (va_cons (ve_var (i := 1)) (va_cons (ve_sub (ve_var (i := 2)) ve_int) va_nil)))) va_nil))))) vss_nil)
      (vss_cons (vs_set (i := 5) S.nd (ve_ix (ve_lst (va_cons ve_int (va_cons ve_int (va_cons ve_int (va_cons ve_int va_nil))))) (ve_mod (ve_div (ve_var (i := 3)) ve_int) ve_int)))
      (vss_one (vs_ret (ve_tup (va_cons (ve_ix (ve_lst (va_cons ve_str (va_cons ve_str va_nil))) (ve_sub (ve_var (i := 4)) ve_int)) (va_cons (ve_comp (own := [("_law_k", 6)]) rfl S.nd (vi_r1 R.n_range (ve_var (i := 5))) (blkOk_by (N := ["_law_draws_here", "_law_names_here", "_law_deep", "_law_number", "_law_kind", "_law_many", "_law_k"]) (sc := defScope s_dr_wish) (by decide +kernel)) (fun _ _ _ _ _ => (vg_name (i := 6) S.nd)) (fun _ _ _ _ _ => VTs_nil) (fun _ _ _ _ _ => (F_dr_wish.call R.g_law_wish hr takes00 (va_cons (ve_var (i := 0)) (va_cons (ve_var (i := 1)) (va_cons (ve_sub (ve_var (i := 2)) ve_int) va_nil)))))) va_nil)))))))))))
theorem v_dr_steps {f_dr_pop f_dr_wish : Fn} {k : Nat} (R : Row K ca mg) (F_dr_pop : Has P w K mg base ⟨K, ca⟩ k "_law_pop" .none ["_law_draws_here"] 1 f_dr_pop) (F_dr_wish : Has P w K mg base ⟨K, ca⟩ k "_law_wish" .none ["_law_draws_here", "_law_names_here", "_law_deep"] 3 f_dr_wish) :
    ∀ (cdv : Value) (A : Around) (outer : List PySem.Env) (s : Shared) (H : Hp) (E : XK), Room k (A.deeper (envOfC "_law_steps" (defScope s_dr_steps) s.heap.objs.size (He.fAd K ("_law_steps", .none)) cdv)) →
      VSs (cxOf (L2.CX P w) P w K mg base ["_law_draws_here", "_law_names_here", "_law_deep", "_law_found", "_law_k", "_law_number", "_law_name_here"] "_law_steps" (defScope s_dr_steps) (He.fAd K ("_law_steps", .none)) cdv A outer s H E) ⟨K, ca⟩ (fun c d _ H => E c d H) (defBody s_dr_steps) (b_dr_steps f_dr_pop f_dr_wish) := by
  intro cdv A outer s H E hr
  have S := sc_dr_steps
  have tk := takes_of (X := cxOf (L2.CX P w) P w K mg base ["_law_draws_here", "_law_names_here", "_law_deep", "_law_found", "_law_k", "_law_number", "_law_name_here"] "_law_steps" (defScope s_dr_steps) (He.fAd K ("_law_steps", .none)) cdv A outer s H E) rfl rfl rfl rfl
  exact (vss_cons (vs_set (i := 3) S.nd (ve_new va_nil))
      (vss_cons (vs_for (passes_of rfl) rfl (vi_r1 R.n_range (ve_ix (ve_lst (va_cons ve_int (va_cons ve_int (va_cons ve_int (va_cons ve_int va_nil))))) (ve_mod (F_dr_pop.call R.g_law_pop hr tk (va_cons (ve_var (i := 0)) va_nil)) ve_int))) (vg_name (i := 4) S.nd) (vss_cons (vs_set (i := 5) S.nd (F_dr_pop.call R.g_law_pop hr tk (va_cons (ve_var (i := 0)) va_nil)))
      (vss_cons (vs_set (i := 6) S.nd (ve_ix (ve_add (ve_var (i := 1)) (ve_lst (va_cons ve_str va_nil))) (ve_mod (ve_div (ve_var (i := 5)) ve_int) (ve_add (ve_len R.n_len (ve_var (i := 1))) ve_int))))
      (vss_one (vs_exp (ve_append (ve_var (i := 3)) (ve_tup (va_cons (ve_ix (ve_lst (va_cons ve_str (va_cons ve_str va_nil))) (ve_mod (ve_var (i := 5)) ve_int)) (va_cons (ve_var (i := 6)) (va_cons (F_dr_wish.call R.g_law_wish hr tk (va_cons (ve_var (i := 0)) (va_cons (ve_var (i := 1)) (va_cons (ve_var (i := 2)) va_nil)))) va_nil))))))))))
      (vss_one (vs_ret (ve_var (i := 3))))))
theorem v_Flat_below {k : Nat} (R : Row K ca mg) :
    ∀ (cdv : Value) (A : Around) (outer : List PySem.Env) (s : Shared) (H : Hp) (E : XK), Room k (A.deeper (envOfC "Flat.below" (defScope s_Flat_below) s.heap.objs.size (He.fAd K ("Flat", (some "below"))) cdv)) →
      VSs (cxOf (L2.CX P w) P w K mg base ["self", "good", "way", "found", "k"] "Flat.below" (defScope s_Flat_below) (He.fAd K ("Flat", (some "below"))) cdv A outer s H E) ⟨K, ca⟩ (fun c d _ H => E c d H) (defBody s_Flat_below) (b_Flat_below) := by
  intro cdv A outer s H E hr
  have S := sc_Flat_below
  have tk := takes_of (X := cxOf (L2.CX P w) P w K mg base ["self", "good", "way", "found", "k"] "Flat.below" (defScope s_Flat_below) (He.fAd K ("Flat", (some "below"))) cdv A outer s H E) rfl rfl rfl rfl
  exact (vss_cons (vs_set (i := 3) S.nd (ve_repN (ve_lst (va_cons ve_bl va_nil)) (ve_len R.n_len (ve_fld R.c_Flat R.na_Flat_parts (ve_var (i := 0))))))
      (vss_cons (vs_for (passes_of rfl) rfl (vi_r3 R.n_range (ve_sub (ve_len R.n_len (ve_fld R.c_Flat R.na_Flat_parts (ve_var (i := 0)))) ve_int) ve_int (ve_neg ve_int)) (vg_name (i := 4) S.nd) (vss_one (vs_if (vt_w (vw_or (vt_val (ve_ix (ve_var (i := 1)) (ve_var (i := 4)))) (vw_or1 (vt_w (vw_and (vt_eq hr (ve_var (i := 2)) ve_str) (vw_and1 (vt_val (ve_ix (ve_var (i := 3)) (ve_var (i := 4)))))))))) (vss_one (vs_ix ve_bl (ve_var (i := 3)) (ve_ix (ve_fld R.c_Flat R.na_Flat_around (ve_var (i := 0))) (ve_var (i := 4))))) vss_nil)))
      (vss_one (vs_ret (ve_var (i := 3))))))
theorem v_Flat_leads {f_Flat_suits f_Flat_below : Fn} {k : Nat} (R : Row K ca mg) (F_Flat_suits : Has P w K mg base ⟨K, ca⟩ k "Flat" (some "suits") ["self", "step"] 2 f_Flat_suits) (F_Flat_below : Has P w K mg base ⟨K, ca⟩ k "Flat" (some "below") ["self", "good", "way"] 3 f_Flat_below) :
    ∀ (cdv : Value) (A : Around) (outer : List PySem.Env) (s : Shared) (H : Hp) (E : XK), Room k (A.deeper (envOfC "Flat.leads" (defScope s_Flat_leads) s.heap.objs.size (He.fAd K ("Flat", (some "leads"))) cdv)) →
      VSs (cxOf (L2.CX P w) P w K mg base ["self", "steps", "found", "step", "suits", "part", "k"] "Flat.leads" (defScope s_Flat_leads) (He.fAd K ("Flat", (some "leads"))) cdv A outer s H E) ⟨K, ca⟩ (fun c d _ H => E c d H) (defBody s_Flat_leads) (b_Flat_leads f_Flat_suits f_Flat_below) := by
  intro cdv A outer s H E hr
  have S := sc_Flat_leads
  have tk := takes_of (X := cxOf (L2.CX P w) P w K mg base ["self", "steps", "found", "step", "suits", "part", "k"] "Flat.leads" (defScope s_Flat_leads) (He.fAd K ("Flat", (some "leads"))) cdv A outer s H E) rfl rfl rfl rfl
  exact (vss_cons (vs_set (i := 2) S.nd (ve_comp (own := [("part", 5)]) rfl S.nd (vi_list (ve_fld R.c_Flat R.na_Flat_parts (ve_var (i := 0)))) (blkOk_by (N := ["self", "steps", "found", "step", "suits", "part", "k"]) (sc := defScope s_Flat_leads) (by decide +kernel)) (fun _ _ _ _ _ => (vg_name (i := 5) S.nd)) (fun _ _ _ _ _ => VTs_nil) (fun _ _ _ _ _ => ve_bl)))
      (vss_cons (vs_for (passes_of rfl) rfl (vi_rev R.n_reversed (ve_var (i := 1))) (vg_name (i := 3) S.nd) (vss_cons (vs_set (i := 4) S.nd (F_Flat_suits.meth R.c_Flat R.m_Flat_suits hr tk (ve_var (i := 0)) (va_cons (ve_var (i := 3)) va_nil)))
      (vss_one (vs_set (i := 2) S.nd (F_Flat_below.meth R.c_Flat R.m_Flat_below hr tk (ve_var (i := 0)) (va_cons (ve_comp (own := [("k", 6)]) rfl S.nd (vi_r1 R.n_range (ve_len R.n_len (ve_var (i := 4)))) (blkOk_by (N := ["self", "steps", "found", "step", "suits", "part", "k"]) (sc := defScope s_Flat_leads) (by decide +kernel)) (fun _ _ _ _ _ => (vg_name (i := 6) S.nd)) (fun _ _ _ _ _ => VTs_nil) (fun _ _ _ _ _ => (ve_and (ve_ix (ve_var (i := 4)) (ve_var (i := 6))) (ve_one (ve_ix (ve_var (i := 2)) (ve_var (i := 6))))))) (va_cons (ve_ix (ve_var (i := 3)) ve_int) va_nil)))))))
      (vss_one (vs_ret (ve_var (i := 2))))))
theorem v_Flat_truths {f_Flat_leads f_Flat_truths : Fn} {k : Nat} (R : Row K ca mg) (F_Flat_leads : Has P w K mg base ⟨K, ca⟩ k "Flat" (some "leads") ["self", "steps"] 2 f_Flat_leads) (F_Flat_truths : Has P w K mg base ⟨K, ca⟩ k "Flat" (some "truths") ["self", "wish"] 2 f_Flat_truths) :
    ∀ (cdv : Value) (A : Around) (outer : List PySem.Env) (s : Shared) (H : Hp) (E : XK), Room k (A.deeper (envOfC "Flat.truths" (defScope s_Flat_truths) s.heap.objs.size (He.fAd K ("Flat", (some "truths"))) cdv)) →
      VSs (cxOf (L2.CX P w) P w K mg base ["self", "wish", "rows", "part", "one", "k", "row"] "Flat.truths" (defScope s_Flat_truths) (He.fAd K ("Flat", (some "truths"))) cdv A outer s H E) ⟨K, ca⟩ (fun c d _ H => E c d H) (defBody s_Flat_truths) (b_Flat_truths f_Flat_leads f_Flat_truths) := by
  intro cdv A outer s H E hr
  have S := sc_Flat_truths
  have tk := takes_of (X := cxOf (L2.CX P w) P w K mg base ["self", "wish", "rows", "part", "one", "k", "row"] "Flat.truths" (defScope s_Flat_truths) (He.fAd K ("Flat", (some "truths"))) cdv A outer s H E) rfl rfl rfl rfl
  exact (vss_cons (vs_if (vt_eq hr (ve_ix (ve_var (i := 1)) ve_int) ve_str) (vss_one (vs_ret (ve_comp (own := [("part", 3)]) rfl S.nd (vi_list (ve_fld R.c_Flat R.na_Flat_parts (ve_var (i := 0)))) (blkOk_by (N := ["self", "wish", "rows", "part", "one", "k", "row"]) (sc := defScope s_Flat_truths) (by decide +kernel)) (fun _ _ _ _ _ => (vg_name (i := 3) S.nd)) (fun _ _ _ _ _ => VTs_nil) (fun _ _ _ _ _ => ve_bl)))) vss_nil)
      (vss_cons (vs_if (vt_eq hr (ve_ix (ve_var (i := 1)) ve_int) ve_str) (vss_one (vs_ret (ve_comp (own := [("part", 3)]) rfl S.nd (vi_list (ve_fld R.c_Flat R.na_Flat_parts (ve_var (i := 0)))) (blkOk_by (N := ["self", "wish", "rows", "part", "one", "k", "row"]) (sc := defScope s_Flat_truths) (by decide +kernel)) (fun _ _ _ _ _ => (vg_name (i := 3) S.nd)) (fun _ _ _ _ _ => VTs_nil) (fun _ _ _ _ _ => (ve_in hr (ve_ix (ve_var (i := 1)) ve_int) (ve_ix (ve_var (i := 3)) ve_int)))))) vss_nil)
      (vss_cons (vs_if (vt_eq hr (ve_ix (ve_var (i := 1)) ve_int) ve_str) (vss_one (vs_ret (F_Flat_leads.meth R.c_Flat R.m_Flat_leads hr tk (ve_var (i := 0)) (va_cons (ve_ix (ve_var (i := 1)) ve_int) va_nil)))) vss_nil)
      (vss_cons (vs_set (i := 2) S.nd (ve_comp (own := [("one", 4)]) rfl S.nd (vi_list (ve_ix (ve_var (i := 1)) ve_int)) (blkOk_by (N := ["self", "wish", "rows", "part", "one", "k", "row"]) (sc := defScope s_Flat_truths) (by decide +kernel)) (fun _ _ _ _ _ => (vg_name (i := 4) S.nd)) (fun _ _ _ _ _ => VTs_nil) (fun _ _ _ _ _ => (F_Flat_truths.meth R.c_Flat R.m_Flat_truths hr takes00 (ve_var (i := 0)) (va_cons (ve_var (i := 4)) va_nil)))))
      (vss_cons (vs_if (vt_eq hr (ve_ix (ve_var (i := 1)) ve_int) ve_str) (vss_one (vs_ret (ve_comp (own := [("k", 5)]) rfl S.nd (vi_r1 R.n_range (ve_len R.n_len (ve_fld R.c_Flat R.na_Flat_parts (ve_var (i := 0))))) (blkOk_by (N := ["self", "wish", "rows", "part", "one", "k", "row"]) (sc := defScope s_Flat_truths) (by decide +kernel)) (fun _ _ _ _ _ => (vg_name (i := 5) S.nd)) (fun _ _ _ _ _ => VTs_nil) (fun _ _ _ _ _ => (ve_ball R.n_all (va_cons (ve_comp (own := [("row", 6)]) rfl S.nd (vi_list (ve_var (i := 2))) (blkOk_by (by kernel_rfl)) (fun _ _ _ _ _ => (vg_name (i := 6) S.nd)) (fun _ _ _ _ _ => VTs_nil) (fun _ _ _ _ _ => (ve_ix (ve_var (i := 6)) (ve_var (i := 5))))) va_nil)))))) vss_nil)
      (vss_one (vs_ret (ve_comp (own := [("k", 5)]) rfl S.nd (vi_r1 R.n_range (ve_len R.n_len (ve_fld R.c_Flat R.na_Flat_parts (ve_var (i := 0))))) (blkOk_by (N := ["self", "wish", "rows", "part", "one", "k", "row"]) (sc := defScope s_Flat_truths) (by decide +kernel)) (fun _ _ _ _ _ => (vg_name (i := 5) S.nd)) (fun _ _ _ _ _ => VTs_nil) (fun _ _ _ _ _ => (ve_bany R.n_any (va_cons (ve_comp (own := [("row", 6)]) rfl S.nd (vi_list (ve_var (i := 2))) (blkOk_by (by kernel_rfl)) (fun _ _ _ _ _ => (vg_name (i := 6) S.nd)) (fun _ _ _ _ _ => VTs_nil) (fun _ _ _ _ _ => (ve_ix (ve_var (i := 6)) (ve_var (i := 5))))) va_nil)))))))))))
theorem v_Flat_suits {f_Flat_truths : Fn} {k : Nat} (R : Row K ca mg) (F_Flat_truths : Has P w K mg base ⟨K, ca⟩ k "Flat" (some "truths") ["self", "wish"] 2 f_Flat_truths) :
    ∀ (cdv : Value) (A : Around) (outer : List PySem.Env) (s : Shared) (H : Hp) (E : XK), Room k (A.deeper (envOfC "Flat.suits" (defScope s_Flat_suits) s.heap.objs.size (He.fAd K ("Flat", (some "suits"))) cdv)) →
      VSs (cxOf (L2.CX P w) P w K mg base ["self", "step", "truths", "k", "part"] "Flat.suits" (defScope s_Flat_suits) (He.fAd K ("Flat", (some "suits"))) cdv A outer s H E) ⟨K, ca⟩ (fun c d _ H => E c d H) (defBody s_Flat_suits) (b_Flat_suits f_Flat_truths) := by
  intro cdv A outer s H E hr
  have S := sc_Flat_suits
  have tk := takes_of (X := cxOf (L2.CX P w) P w K mg base ["self", "step", "truths", "k", "part"] "Flat.suits" (defScope s_Flat_suits) (He.fAd K ("Flat", (some "suits"))) cdv A outer s H E) rfl rfl rfl rfl
  exact (vss_cons (vs_set (i := 2) S.nd (F_Flat_truths.meth R.c_Flat R.m_Flat_truths hr tk (ve_var (i := 0)) (va_cons (ve_ix (ve_var (i := 1)) ve_int) va_nil)))
      (vss_one (vs_ret (ve_comp (own := [("k", 3), ("part", 4)]) rfl S.nd (vi_enum R.n_enumerate (ve_fld R.c_Flat R.na_Flat_parts (ve_var (i := 0)))) (blkOk_by (N := ["self", "step", "truths", "k", "part"]) (sc := defScope s_Flat_suits) (by decide +kernel)) (fun _ _ _ _ _ => (vg_tup (n := 2) rfl (vgs_cons (vg_name (i := 3) S.nd) (vgs_cons (vg_name (i := 4) S.nd) vgs_nil)))) (fun _ _ _ _ _ => VTs_nil) (fun _ _ _ _ _ => (ve_and (ve_ix (ve_var (i := 2)) (ve_var (i := 3))) (ve_one (ve_in hr (ve_ix (ve_var (i := 1)) ve_int) (ve_lst (va_cons ve_str (va_cons (ve_ix (ve_var (i := 4)) ve_int) va_nil)))))))))))
theorem v_Flat_above {k : Nat} (R : Row K ca mg) :
    ∀ (cdv : Value) (A : Around) (outer : List PySem.Env) (s : Shared) (H : Hp) (E : XK), Room k (A.deeper (envOfC "Flat.above" (defScope s_Flat_above) s.heap.objs.size (He.fAd K ("Flat", (some "above"))) cdv)) →
      VSs (cxOf (L2.CX P w) P w K mg base ["self", "good", "way", "found", "k", "around"] "Flat.above" (defScope s_Flat_above) (He.fAd K ("Flat", (some "above"))) cdv A outer s H E) ⟨K, ca⟩ (fun c d _ H => E c d H) (defBody s_Flat_above) (b_Flat_above) := by
  intro cdv A outer s H E hr
  have S := sc_Flat_above
  have tk := takes_of (X := cxOf (L2.CX P w) P w K mg base ["self", "good", "way", "found", "k", "around"] "Flat.above" (defScope s_Flat_above) (He.fAd K ("Flat", (some "above"))) cdv A outer s H E) rfl rfl rfl rfl
  exact (vss_cons (vs_set (i := 3) S.nd (ve_repN (ve_lst (va_cons ve_bl va_nil)) (ve_len R.n_len (ve_fld R.c_Flat R.na_Flat_parts (ve_var (i := 0))))))
      (vss_cons (vs_for (passes_of rfl) rfl (vi_r2 R.n_range ve_int (ve_len R.n_len (ve_fld R.c_Flat R.na_Flat_parts (ve_var (i := 0))))) (vg_name (i := 4) S.nd) (vss_cons (vs_set (i := 5) S.nd (ve_ix (ve_fld R.c_Flat R.na_Flat_around (ve_var (i := 0))) (ve_var (i := 4))))
      (vss_one (vs_ix (ve_or (ve_ix (ve_var (i := 1)) (ve_var (i := 5))) (ve_one (ve_and (ve_eq hr (ve_var (i := 2)) ve_str) (ve_one (ve_ix (ve_var (i := 3)) (ve_var (i := 5))))))) (ve_var (i := 3)) (ve_var (i := 4))))))
      (vss_one (vs_ret (ve_var (i := 3))))))
theorem v_Flat_ends {f_Flat_suits f_Flat_above : Fn} {k : Nat} (R : Row K ca mg) (F_Flat_suits : Has P w K mg base ⟨K, ca⟩ k "Flat" (some "suits") ["self", "step"] 2 f_Flat_suits) (F_Flat_above : Has P w K mg base ⟨K, ca⟩ k "Flat" (some "above") ["self", "good", "way"] 3 f_Flat_above) :
    ∀ (cdv : Value) (A : Around) (outer : List PySem.Env) (s : Shared) (H : Hp) (E : XK), Room k (A.deeper (envOfC "Flat.ends" (defScope s_Flat_ends) s.heap.objs.size (He.fAd K ("Flat", (some "ends"))) cdv)) →
      VSs (cxOf (L2.CX P w) P w K mg base ["self", "steps", "found", "step", "suits", "above", "k"] "Flat.ends" (defScope s_Flat_ends) (He.fAd K ("Flat", (some "ends"))) cdv A outer s H E) ⟨K, ca⟩ (fun c d _ H => E c d H) (defBody s_Flat_ends) (b_Flat_ends f_Flat_suits f_Flat_above) := by
  intro cdv A outer s H E hr
  have S := sc_Flat_ends
  have tk := takes_of (X := cxOf (L2.CX P w) P w K mg base ["self", "steps", "found", "step", "suits", "above", "k"] "Flat.ends" (defScope s_Flat_ends) (He.fAd K ("Flat", (some "ends"))) cdv A outer s H E) rfl rfl rfl rfl
  exact (vss_cons (vs_set (i := 2) S.nd (F_Flat_suits.meth R.c_Flat R.m_Flat_suits hr tk (ve_var (i := 0)) (va_cons (ve_ix (ve_var (i := 1)) ve_int) va_nil)))
      (vss_cons (vs_if (vt_eq hr (ve_ix (ve_ix (ve_var (i := 1)) ve_int) ve_int) ve_str) (vss_one (vs_set (i := 2) S.nd (ve_comp (own := [("k", 6)]) rfl S.nd (vi_r1 R.n_range (ve_len R.n_len (ve_var (i := 2)))) (blkOk_by (N := ["self", "steps", "found", "step", "suits", "above", "k"]) (sc := defScope s_Flat_ends) (by decide +kernel)) (fun _ _ _ _ _ => (vg_name (i := 6) S.nd)) (fun _ _ _ _ _ => VTs_nil) (fun _ _ _ _ _ => (ve_and (ve_ix (ve_var (i := 2)) (ve_var (i := 6))) (ve_one (ve_eq hr (ve_var (i := 6)) ve_int))))))) vss_nil)
      (vss_cons (vs_for (passes_of rfl) rfl (vi_list (ve_sl (ve_var (i := 1)) (vo_some ve_int) vo_none)) (vg_name (i := 3) S.nd) (vss_cons (vs_set (i := 4) S.nd (F_Flat_suits.meth R.c_Flat R.m_Flat_suits hr tk (ve_var (i := 0)) (va_cons (ve_var (i := 3)) va_nil)))
      (vss_cons (vs_set (i := 5) S.nd (F_Flat_above.meth R.c_Flat R.m_Flat_above hr tk (ve_var (i := 0)) (va_cons (ve_var (i := 2)) (va_cons (ve_ix (ve_var (i := 3)) ve_int) va_nil))))
      (vss_one (vs_set (i := 2) S.nd (ve_comp (own := [("k", 6)]) rfl S.nd (vi_r1 R.n_range (ve_len R.n_len (ve_var (i := 4)))) (blkOk_by (N := ["self", "steps", "found", "step", "suits", "above", "k"]) (sc := defScope s_Flat_ends) (by decide +kernel)) (fun _ _ _ _ _ => (vg_name (i := 6) S.nd)) (fun _ _ _ _ _ => VTs_nil) (fun _ _ _ _ _ => (ve_and (ve_ix (ve_var (i := 4)) (ve_var (i := 6))) (ve_one (ve_ix (ve_var (i := 5)) (ve_var (i := 6))))))))))))
      (vss_one (vs_ret (ve_var (i := 2)))))))
theorem v_Flat_lay {f_Flat_lay : Fn} {k : Nat} (R : Row K ca mg) (F_Flat_lay : Has P w K mg base ⟨K, ca⟩ k "Flat" (some "lay") ["self", "part", "around"] 3 f_Flat_lay) :
    ∀ (cdv : Value) (A : Around) (outer : List PySem.Env) (s : Shared) (H : Hp) (E : XK), Room k (A.deeper (envOfC "Flat.lay" (defScope s_Flat_lay) s.heap.objs.size (He.fAd K ("Flat", (some "lay"))) cdv)) →
      VSs (cxOf (L2.CX P w) P w K mg base ["self", "part", "around", "number", "one"] "Flat.lay" (defScope s_Flat_lay) (He.fAd K ("Flat", (some "lay"))) cdv A outer s H E) ⟨K, ca⟩ (fun c d _ H => E c d H) (defBody s_Flat_lay) (b_Flat_lay f_Flat_lay) := by
  intro cdv A outer s H E hr
  have S := sc_Flat_lay
  have tk := takes_of (X := cxOf (L2.CX P w) P w K mg base ["self", "part", "around", "number", "one"] "Flat.lay" (defScope s_Flat_lay) (He.fAd K ("Flat", (some "lay"))) cdv A outer s H E) rfl rfl rfl rfl
  exact (vss_cons (vs_set (i := 3) S.nd (ve_len R.n_len (ve_fld R.c_Flat R.na_Flat_parts (ve_var (i := 0)))))
      (vss_cons (vs_exp (ve_append (ve_fld R.c_Flat R.na_Flat_parts (ve_var (i := 0))) (ve_var (i := 1))))
      (vss_cons (vs_exp (ve_append (ve_fld R.c_Flat R.na_Flat_around (ve_var (i := 0))) (ve_var (i := 2))))
      (vss_one (vs_for (passes_of rfl) rfl (vi_list (ve_ix (ve_var (i := 1)) ve_int)) (vg_name (i := 4) S.nd) (vss_one (vs_if (vt_not (vt_val (ve_isT_str R.n_str R.n_isinstance (ve_var (i := 4))))) (vss_one (vs_exp (F_Flat_lay.meth R.c_Flat R.m_Flat_lay hr tk (ve_var (i := 0)) (va_cons (ve_var (i := 4)) (va_cons (ve_var (i := 3)) va_nil))))) vss_nil)))))))
theorem v_Flat___init__ {f_Flat_lay : Fn} {k : Nat} (R : Row K ca mg) (F_Flat_lay : Has P w K mg base ⟨K, ca⟩ k "Flat" (some "lay") ["self", "part", "around"] 3 f_Flat_lay) :
    ∀ (cdv : Value) (A : Around) (outer : List PySem.Env) (s : Shared) (H : Hp) (E : XK), Room k (A.deeper (envOfC "Flat.__init__" (defScope s_Flat___init__) s.heap.objs.size (He.fAd K ("Flat", (some "__init__"))) cdv)) →
      VSs (cxOf (L2.CX P w) P w K mg base ["self", "part"] "Flat.__init__" (defScope s_Flat___init__) (He.fAd K ("Flat", (some "__init__"))) cdv A outer s H E) ⟨K, ca⟩ (fun c d _ H => E c d H) (defBody s_Flat___init__) (b_Flat___init__ f_Flat_lay) := by
  intro cdv A outer s H E hr
  have S := sc_Flat___init__
  have tk := takes_of (X := cxOf (L2.CX P w) P w K mg base ["self", "part"] "Flat.__init__" (defScope s_Flat___init__) (He.fAd K ("Flat", (some "__init__"))) cdv A outer s H E) rfl rfl rfl rfl
  exact (vss_cons (vs_fld R.c_Flat R.na_Flat_parts (ve_var (i := 0)) (ve_new va_nil))
      (vss_cons (vs_fld R.c_Flat R.na_Flat_around (ve_var (i := 0)) (ve_new va_nil))
      (vss_one (vs_exp (F_Flat_lay.meth R.c_Flat R.m_Flat_lay hr tk (ve_var (i := 0)) (va_cons (ve_var (i := 1)) (va_cons (ve_neg ve_int) va_nil)))))))
theorem v_answers {f_Flat_ends f_Flat___init__ : Fn} {k : Nat} (R : Row K ca mg) (F_Flat_ends : Has P w K mg base ⟨K, ca⟩ k "Flat" (some "ends") ["self", "steps"] 2 f_Flat_ends) {j_Flat___init__ : Nat} (F_Flat___init__ : Has P w K mg base ⟨K, ca⟩ j_Flat___init__ "Flat" (some "__init__") ["self", "part"] 2 f_Flat___init__) (L_Flat___init__ : j_Flat___init__ + 1 ≤ k) :
    ∀ (cdv : Value) (A : Around) (outer : List PySem.Env) (s : Shared) (H : Hp) (E : XK), Room k (A.deeper (envOfC "answers" (defScope s_answers) s.heap.objs.size (He.fAd K ("answers", .none)) cdv)) →
      VSs (cxOf (L2.CX P w) P w K mg base ["paper", "question", "found", "k"] "answers" (defScope s_answers) (He.fAd K ("answers", .none)) cdv A outer s H E) ⟨K, ca⟩ (fun c d _ H => E c d H) (defBody s_answers) (b_answers f_Flat_ends f_Flat___init__) := by
  intro cdv A outer s H E hr
  have S := sc_answers
  have tk := takes_of (X := cxOf (L2.CX P w) P w K mg base ["paper", "question", "found", "k"] "answers" (defScope s_answers) (He.fAd K ("answers", .none)) cdv A outer s H E) rfl rfl rfl rfl
  exact (vss_cons (vs_set (i := 2) S.nd (F_Flat_ends.meth R.c_Flat R.m_Flat_ends hr tk (F_Flat___init__.make R.mk_Flat R.gc_Flat L_Flat___init__ hr tk (va_cons (ve_var (i := 0)) va_nil)) (va_cons (ve_var (i := 1)) va_nil)))
      (vss_one (vs_ret (ve_compN (own := [("k", 3)]) rfl S.nd (vi_r1 R.n_range (ve_len R.n_len (ve_var (i := 2)))) (blkOk_by (N := ["paper", "question", "found", "k"]) (sc := defScope s_answers) (by decide +kernel)) (fun _ _ _ _ _ => (vg_name (i := 3) S.nd)) (fun _ _ _ _ _ => (VTs_one (vt_val (ve_ix (ve_var (i := 2)) (ve_var (i := 3)))))) (fun _ _ _ _ _ => (ve_var (i := 3)))))))
theorem v_dr_stump {k : Nat} (R : Row K ca mg) :
    ∀ (cdv : Value) (A : Around) (outer : List PySem.Env) (s : Shared) (H : Hp) (E : XK), Room k (A.deeper (envOfC "_law_stump" (defScope s_dr_stump) s.heap.objs.size (He.fAd K ("_law_stump", .none)) cdv)) →
      VSs (cxOf (L2.CX P w) P w K mg base ["_law_signs_here", "_law_around", "_law_pile", "_law_sign", "_law_parts"] "_law_stump" (defScope s_dr_stump) (He.fAd K ("_law_stump", .none)) cdv A outer s H E) ⟨K, ca⟩ (fun c d _ H => E c d H) (defBody s_dr_stump) (b_dr_stump) := by
  intro cdv A outer s H E hr
  have S := sc_dr_stump
  have tk := takes_of (X := cxOf (L2.CX P w) P w K mg base ["_law_signs_here", "_law_around", "_law_pile", "_law_sign", "_law_parts"] "_law_stump" (defScope s_dr_stump) (He.fAd K ("_law_stump", .none)) cdv A outer s H E) rfl rfl rfl rfl
  exact (vss_cons (vs_set (i := 1) S.nd (ve_new va_nil))
      (vss_cons (vs_set (i := 2) S.nd (ve_new (va_cons (ve_var (i := 1)) va_nil)))
      (vss_cons (vs_for (passes_of rfl) rfl (vi_list (ve_var (i := 0))) (vg_name (i := 3) S.nd) (vss_one (vs_if (vt_eq hr (ve_ix (ve_var (i := 3)) ve_int) ve_str) (vss_cons (vs_set (i := 4) S.nd (ve_new va_nil))
      (vss_cons (vs_exp (ve_append (ve_ix (ve_var (i := 2)) (ve_neg ve_int)) (ve_tup (va_cons (ve_ix (ve_var (i := 3)) ve_int) (va_cons (ve_var (i := 4)) va_nil)))))
      (vss_one (vs_exp (ve_append (ve_var (i := 2)) (ve_var (i := 4))))))) (vss_one (vs_if (vt_eq hr (ve_ix (ve_var (i := 3)) ve_int) ve_str) (vss_one (vs_exp (ve_append (ve_ix (ve_var (i := 2)) (ve_neg ve_int)) (ve_ix (ve_var (i := 3)) ve_int)))) (vss_one (vs_exp (ve_pop (ve_var (i := 2))))))))))
      (vss_one (vs_ret (ve_ix (ve_var (i := 1)) ve_int))))))
theorem v_law {f_dr_draws f_dr_names f_dr_pop f_dr_signs f_dr_steps f_answers f_dr_stump : Fn} {k : Nat} (R : Row K ca mg) (F_dr_draws : Has P w K mg base ⟨K, ca⟩ k "_law_draws" .none ["_law_script", "_law_turn", "_law_many"] 3 f_dr_draws) (F_dr_names : Has P w K mg base ⟨K, ca⟩ k "_law_names" .none ["_law_draw"] 1 f_dr_names) (F_dr_pop : Has P w K mg base ⟨K, ca⟩ k "_law_pop" .none ["_law_draws_here"] 1 f_dr_pop) (F_dr_signs : Has P w K mg base ⟨K, ca⟩ k "_law_signs" .none ["_law_draws_here", "_law_names_here", "_law_deep"] 3 f_dr_signs) (F_dr_steps : Has P w K mg base ⟨K, ca⟩ k "_law_steps" .none ["_law_draws_here", "_law_names_here", "_law_deep"] 3 f_dr_steps) (F_answers : Has P w K mg base ⟨K, ca⟩ k "answers" .none ["paper", "question"] 2 f_answers) (F_dr_stump : Has P w K mg base ⟨K, ca⟩ k "_law_stump" .none ["_law_signs_here"] 1 f_dr_stump) :
    ∀ (cdv : Value) (A : Around) (outer : List PySem.Env) (s : Shared) (H : Hp) (E : XK), Room k (A.deeper (envOfC "law" (defScope s_law) s.heap.objs.size (He.fAd K ("law", .none)) cdv)) →
      VSs (cxOf (L2.CX P w) P w K mg base ["_law_script", "_law_draws_here", "_law_names_here", "_law_some", "_law_signs_here", "_law_question", "_law_far", "_law_near", "_law_found", "_law_later", "_law_k", "_law_number"] "law" (defScope s_law) (He.fAd K ("law", .none)) cdv A outer s H E) ⟨K, ca⟩ (fun c d _ H => E c d H) (defBody s_law) (b_law f_dr_draws f_dr_names f_dr_pop f_dr_signs f_dr_steps f_answers f_dr_stump) := by
  intro cdv A outer s H E hr
  have S := sc_law
  have tk := takes_of (X := cxOf (L2.CX P w) P w K mg base ["_law_script", "_law_draws_here", "_law_names_here", "_law_some", "_law_signs_here", "_law_question", "_law_far", "_law_near", "_law_found", "_law_later", "_law_k", "_law_number"] "law" (defScope s_law) (He.fAd K ("law", .none)) cdv A outer s H E) rfl rfl rfl rfl
  exact (vss_cons (vs_set (i := 1) S.nd (F_dr_draws.call R.g_law_draws hr tk (va_cons (ve_var (i := 0)) (va_cons ve_int (va_cons ve_int va_nil)))))
      (vss_cons (vs_set (i := 2) S.nd (F_dr_names.call R.g_law_names hr tk (va_cons (F_dr_pop.call R.g_law_pop hr tk (va_cons (ve_var (i := 1)) va_nil)) va_nil)))
      (vss_cons (vs_setLc (i := 3) (own := [("_law_k", 10)]) rfl S.nd (vi_r1 R.n_range ve_int) (blkOk_by (N := ["_law_script", "_law_draws_here", "_law_names_here", "_law_some", "_law_signs_here", "_law_question", "_law_far", "_law_near", "_law_found", "_law_later", "_law_k", "_law_number"]) (sc := defScope s_law) (by decide +kernel)) (fun _ _ _ _ _ => (vg_name (i := 10) S.nd)) (fun _ _ _ _ _ => VTs_nil) (fun _ _ _ _ _ => (F_dr_pop.call R.g_law_pop hr takes00 (va_cons (ve_var (i := 1)) va_nil))) (sw_true rfl rfl rfl (by decide +kernel)))
      (vss_cons (vs_set (i := 4) S.nd (F_dr_signs.call R.g_law_signs hr tk (va_cons (ve_frz (F_dr_draws.call R.g_law_draws hr tk (va_cons (ve_var (i := 0)) (va_cons ve_int (va_cons (ve_add ve_int (ve_mod (ve_ix (ve_var (i := 3)) ve_int) ve_int)) va_nil))))) (va_cons (ve_var (i := 2)) (va_cons ve_int va_nil)))))
      (vss_cons (vs_set (i := 5) S.nd (F_dr_steps.call R.g_law_steps hr tk (va_cons (ve_var (i := 1)) (va_cons (ve_var (i := 2)) (va_cons ve_int va_nil)))))
      (vss_cons (vs_set (i := 6) S.nd (ve_add ve_int (ve_mod (ve_ix (ve_var (i := 3)) ve_int) (ve_len R.n_len (ve_var (i := 4))))))
      (vss_cons (vs_set (i := 7) S.nd (ve_add ve_int (ve_mod (ve_ix (ve_var (i := 3)) ve_int) (ve_var (i := 6)))))
      (vss_cons (vs_set (i := 8) S.nd (F_answers.call R.g_answers hr tk (va_cons (F_dr_stump.call R.g_law_stump hr tk (va_cons (ve_sl (ve_var (i := 4)) vo_none (vo_some (ve_var (i := 7)))) va_nil)) (va_cons (ve_var (i := 5)) va_nil))))
      (vss_cons (vs_set (i := 9) S.nd (F_answers.call R.g_answers hr tk (va_cons (F_dr_stump.call R.g_law_stump hr tk (va_cons (ve_sl (ve_var (i := 4)) vo_none (vo_some (ve_var (i := 6)))) va_nil)) (va_cons (ve_var (i := 5)) va_nil))))
      (vss_one (vs_ret (ve_eq hr (ve_comp (own := [("_law_number", 11)]) rfl S.nd (vi_list (ve_var (i := 8))) (blkOk_by (N := ["_law_script", "_law_draws_here", "_law_names_here", "_law_some", "_law_signs_here", "_law_question", "_law_far", "_law_near", "_law_found", "_law_later", "_law_k", "_law_number"]) (sc := defScope s_law) (by decide +kernel)) (fun _ _ _ _ _ => (vg_name (i := 11) S.nd)) (fun _ _ _ _ _ => (VTs_one (vt_notIn hr (ve_var (i := 11)) (ve_var (i := 9))))) (fun _ _ _ _ _ => (ve_var (i := 11)))) (ve_lst va_nil)))))))))))))
theorem h_dr_draws (R : Row K ca mg) : Has P w K mg base ⟨K, ca⟩ 1 "_law_draws" .none ["_law_script", "_law_turn", "_law_many"] 3 fn_dr_draws := Has.of R.a_dr_draws sc_dr_draws rfl rfl (v_dr_draws R) fun ds S _ => ref_dr_draws ds S
theorem h_dr_name (R : Row K ca mg) : Has P w K mg base ⟨K, ca⟩ 1 "_law_name" .none ["_law_k", "_law_draw"] 2 fn_dr_name := Has.of R.a_dr_name sc_dr_name rfl rfl (v_dr_name R) fun ds S _ => ref_dr_name ds S
theorem h_dr_names (R : Row K ca mg) : Has P w K mg base ⟨K, ca⟩ 2 "_law_names" .none ["_law_draw"] 1 fn_dr_names := Has.of R.a_dr_names sc_dr_names rfl rfl (v_dr_names R ((h_dr_name R).mono (by decide))) fun ds S _ => ref_dr_names ds S
theorem h_dr_pop (R : Row K ca mg) : Has P w K mg base ⟨K, ca⟩ 1 "_law_pop" .none ["_law_draws_here"] 1 fn_dr_pop := Has.of R.a_dr_pop sc_dr_pop rfl rfl (v_dr_pop R) fun ds S _ => ref_dr_pop ds S
theorem h_dr_text (R : Row K ca mg) : Has P w K mg base ⟨K, ca⟩ 1 "_law_text" .none ["_law_number"] 1 fn_dr_text := Has.of R.a_dr_text sc_dr_text rfl rfl (v_dr_text R) fun ds S _ => ref_dr_text ds S
theorem h_dr_signs (R : Row K ca mg) : Has P w K mg base ⟨K, ca⟩ 2 "_law_signs" .none ["_law_draws_here", "_law_names_here", "_law_deep"] 3 fn_dr_signs := Has.of R.a_dr_signs sc_dr_signs rfl rfl (v_dr_signs R ((h_dr_text R).mono (by decide))) fun ds S _ => ref_dr_signs ds S
theorem hg_dr_wish (R : Row K ca mg) : ∀ k : Nat, (Has P w K mg base ⟨K, ca⟩ (k + 1) "_law_wish" .none ["_law_draws_here", "_law_names_here", "_law_deep"] 3 (fn_dr_wish k)) ∧ (Has P w K mg base ⟨K, ca⟩ (k + 1) "_law_steps" .none ["_law_draws_here", "_law_names_here", "_law_deep"] 3 (fn_dr_steps k)) := by
  intro k
  induction k with
  | zero => exact ⟨(Has.none R.a_dr_wish fn_dr_wish_0).mono (by omega), (Has.none R.a_dr_steps fn_dr_steps_0).mono (by omega)⟩
  | succ k ih => exact ⟨(Has.of R.a_dr_wish sc_dr_wish rfl rfl (v_dr_wish R ((h_dr_pop R).mono (by omega)) ((h_dr_text R).mono (by omega)) (ih.2) (ih.1)) fun ds S _ => ref_dr_wish k ds S).mono (by omega), (Has.of R.a_dr_steps sc_dr_steps rfl rfl (v_dr_steps R ((h_dr_pop R).mono (by omega)) (ih.1)) fun ds S _ => ref_dr_steps k ds S).mono (by omega)⟩
theorem h_dr_wish (R : Row K ca mg) (k : Nat) : Has P w K mg base ⟨K, ca⟩ (k + 1) "_law_wish" .none ["_law_draws_here", "_law_names_here", "_law_deep"] 3 (fn_dr_wish k) := (hg_dr_wish R k).1
theorem h_dr_steps (R : Row K ca mg) (k : Nat) : Has P w K mg base ⟨K, ca⟩ (k + 1) "_law_steps" .none ["_law_draws_here", "_law_names_here", "_law_deep"] 3 (fn_dr_steps k) := (hg_dr_wish R k).2
theorem h_Flat_below (R : Row K ca mg) : Has P w K mg base ⟨K, ca⟩ 1 "Flat" (some "below") ["self", "good", "way"] 3 fn_Flat_below := Has.of R.a_Flat_below sc_Flat_below rfl rfl (v_Flat_below R) fun ds S _ => ref_Flat_below ds S
theorem hg_Flat_leads (R : Row K ca mg) : ∀ k : Nat, (Has P w K mg base ⟨K, ca⟩ (k + 1) "Flat" (some "leads") ["self", "steps"] 2 (fn_Flat_leads k)) ∧ (Has P w K mg base ⟨K, ca⟩ (k + 1) "Flat" (some "truths") ["self", "wish"] 2 (fn_Flat_truths k)) ∧ (Has P w K mg base ⟨K, ca⟩ (k + 1) "Flat" (some "suits") ["self", "step"] 2 (fn_Flat_suits k)) := by
  intro k
  induction k with
  | zero => exact ⟨(Has.none R.a_Flat_leads fn_Flat_leads_0).mono (by omega), (Has.none R.a_Flat_truths fn_Flat_truths_0).mono (by omega), (Has.none R.a_Flat_suits fn_Flat_suits_0).mono (by omega)⟩
  | succ k ih => exact ⟨(Has.of R.a_Flat_leads sc_Flat_leads rfl rfl (v_Flat_leads R (ih.2.2) ((h_Flat_below R).mono (by omega))) fun ds S _ => ref_Flat_leads k ds S).mono (by omega), (Has.of R.a_Flat_truths sc_Flat_truths rfl rfl (v_Flat_truths R (ih.1) (ih.2.1)) fun ds S _ => ref_Flat_truths k ds S).mono (by omega), (Has.of R.a_Flat_suits sc_Flat_suits rfl rfl (v_Flat_suits R (ih.2.1)) fun ds S _ => ref_Flat_suits k ds S).mono (by omega)⟩
theorem h_Flat_leads (R : Row K ca mg) (k : Nat) : Has P w K mg base ⟨K, ca⟩ (k + 1) "Flat" (some "leads") ["self", "steps"] 2 (fn_Flat_leads k) := (hg_Flat_leads R k).1
theorem h_Flat_truths (R : Row K ca mg) (k : Nat) : Has P w K mg base ⟨K, ca⟩ (k + 1) "Flat" (some "truths") ["self", "wish"] 2 (fn_Flat_truths k) := (hg_Flat_leads R k).2.1
theorem h_Flat_suits (R : Row K ca mg) (k : Nat) : Has P w K mg base ⟨K, ca⟩ (k + 1) "Flat" (some "suits") ["self", "step"] 2 (fn_Flat_suits k) := (hg_Flat_leads R k).2.2
theorem h_Flat_above (R : Row K ca mg) : Has P w K mg base ⟨K, ca⟩ 1 "Flat" (some "above") ["self", "good", "way"] 3 fn_Flat_above := Has.of R.a_Flat_above sc_Flat_above rfl rfl (v_Flat_above R) fun ds S _ => ref_Flat_above ds S
theorem h_Flat_ends (R : Row K ca mg) : Has P w K mg base ⟨K, ca⟩ 62 "Flat" (some "ends") ["self", "steps"] 2 fn_Flat_ends := Has.of R.a_Flat_ends sc_Flat_ends rfl rfl (v_Flat_ends R ((h_Flat_suits R 60).mono (by decide)) ((h_Flat_above R).mono (by decide))) fun ds S _ => ref_Flat_ends ds S
theorem hg_Flat_lay (R : Row K ca mg) : ∀ k : Nat, (Has P w K mg base ⟨K, ca⟩ (k + 0) "Flat" (some "lay") ["self", "part", "around"] 3 (fn_Flat_lay k)) := by
  intro k
  induction k with
  | zero => exact (Has.none R.a_Flat_lay fn_Flat_lay_0).mono (by omega)
  | succ k ih => exact (Has.of R.a_Flat_lay sc_Flat_lay rfl rfl (v_Flat_lay R (ih)) fun ds S _ => ref_Flat_lay k ds S).mono (by omega)
theorem h_Flat_lay (R : Row K ca mg) (k : Nat) : Has P w K mg base ⟨K, ca⟩ (k + 0) "Flat" (some "lay") ["self", "part", "around"] 3 (fn_Flat_lay k) := (hg_Flat_lay R k)
theorem h_Flat___init__ (R : Row K ca mg) : Has P w K mg base ⟨K, ca⟩ 31 "Flat" (some "__init__") ["self", "part"] 2 fn_Flat___init__ := Has.of R.a_Flat___init__ sc_Flat___init__ rfl rfl (v_Flat___init__ R ((h_Flat_lay R 30).mono (by decide))) fun ds S _ => ref_Flat___init__ ds S
theorem h_answers (R : Row K ca mg) : Has P w K mg base ⟨K, ca⟩ 63 "answers" .none ["paper", "question"] 2 fn_answers := Has.of R.a_answers sc_answers rfl rfl (v_answers R ((h_Flat_ends R).mono (by decide)) (h_Flat___init__ R) (by decide)) fun ds S _ => ref_answers ds S
theorem h_dr_stump (R : Row K ca mg) : Has P w K mg base ⟨K, ca⟩ 1 "_law_stump" .none ["_law_signs_here"] 1 fn_dr_stump := Has.of R.a_dr_stump sc_dr_stump rfl rfl (v_dr_stump R) fun ds S _ => ref_dr_stump ds S
theorem h_law (R : Row K ca mg) {fd : FuncData} (F0 : FunD K "law" "law" (defArgs s_law) (defBody s_law) (defScope s_law) [] [] (He.fAd K ("law", .none)) fd) : FnOk P w K mg base (L2.CX P w) 64 (He.fAd K ("law", .none)) fd ["_law_script"] (spOf ⟨K, ca⟩ 1 fnLaw) := fn_ok F0 sc_law rfl rfl (v_law R ((h_dr_draws R).mono (by decide)) ((h_dr_names R).mono (by decide)) ((h_dr_pop R).mono (by decide)) ((h_dr_signs R).mono (by decide)) ((h_dr_steps R 20).mono (by decide)) ((h_answers R).mono (by decide)) ((h_dr_stump R).mono (by decide))) fun ds S _ => ref_law ds S
end
def d_dr_draws : He.DefD := ⟨("_law_draws", none), "_law_draws", "_law_draws", defArgs s_dr_draws, defBody s_dr_draws, defScope s_dr_draws, [], []⟩
def d_dr_name : He.DefD := ⟨("_law_name", none), "_law_name", "_law_name", defArgs s_dr_name, defBody s_dr_name, defScope s_dr_name, [], []⟩
def d_dr_names : He.DefD := ⟨("_law_names", none), "_law_names", "_law_names", defArgs s_dr_names, defBody s_dr_names, defScope s_dr_names, [], []⟩
def d_dr_pop : He.DefD := ⟨("_law_pop", none), "_law_pop", "_law_pop", defArgs s_dr_pop, defBody s_dr_pop, defScope s_dr_pop, [], []⟩
def d_dr_text : He.DefD := ⟨("_law_text", none), "_law_text", "_law_text", defArgs s_dr_text, defBody s_dr_text, defScope s_dr_text, [], []⟩
def d_dr_signs : He.DefD := ⟨("_law_signs", none), "_law_signs", "_law_signs", defArgs s_dr_signs, defBody s_dr_signs, defScope s_dr_signs, [], []⟩
def d_dr_wish : He.DefD := ⟨("_law_wish", none), "_law_wish", "_law_wish", defArgs s_dr_wish, defBody s_dr_wish, defScope s_dr_wish, [], []⟩
def d_dr_steps : He.DefD := ⟨("_law_steps", none), "_law_steps", "_law_steps", defArgs s_dr_steps, defBody s_dr_steps, defScope s_dr_steps, [], []⟩
def d_Flat_below : He.DefD := ⟨("Flat", (some "below")), "below", "Flat.below", defArgs s_Flat_below, defBody s_Flat_below, defScope s_Flat_below, [], []⟩
def d_Flat_leads : He.DefD := ⟨("Flat", (some "leads")), "leads", "Flat.leads", defArgs s_Flat_leads, defBody s_Flat_leads, defScope s_Flat_leads, [], []⟩
def d_Flat_truths : He.DefD := ⟨("Flat", (some "truths")), "truths", "Flat.truths", defArgs s_Flat_truths, defBody s_Flat_truths, defScope s_Flat_truths, [], []⟩
def d_Flat_suits : He.DefD := ⟨("Flat", (some "suits")), "suits", "Flat.suits", defArgs s_Flat_suits, defBody s_Flat_suits, defScope s_Flat_suits, [], []⟩
def d_Flat_above : He.DefD := ⟨("Flat", (some "above")), "above", "Flat.above", defArgs s_Flat_above, defBody s_Flat_above, defScope s_Flat_above, [], []⟩
def d_Flat_ends : He.DefD := ⟨("Flat", (some "ends")), "ends", "Flat.ends", defArgs s_Flat_ends, defBody s_Flat_ends, defScope s_Flat_ends, [], []⟩
def d_Flat_lay : He.DefD := ⟨("Flat", (some "lay")), "lay", "Flat.lay", defArgs s_Flat_lay, defBody s_Flat_lay, defScope s_Flat_lay, [], []⟩
def d_Flat___init__ : He.DefD := ⟨("Flat", (some "__init__")), "__init__", "Flat.__init__", defArgs s_Flat___init__, defBody s_Flat___init__, defScope s_Flat___init__, [], []⟩
def d_answers : He.DefD := ⟨("answers", none), "answers", "answers", defArgs s_answers, defBody s_answers, defScope s_answers, [], []⟩
def d_dr_stump : He.DefD := ⟨("_law_stump", none), "_law_stump", "_law_stump", defArgs s_dr_stump, defBody s_dr_stump, defScope s_dr_stump, [], []⟩
def d_law : He.DefD := ⟨("law", none), "law", "law", defArgs s_law, defBody s_law, defScope s_law, [], []⟩
def dfs : List He.DefD := [d_dr_draws, d_dr_name, d_dr_names, d_dr_pop, d_dr_text, d_dr_signs, d_dr_wish, d_dr_steps, d_Flat_below, d_Flat_leads, d_Flat_truths, d_Flat_suits, d_Flat_above, d_Flat_ends, d_Flat_lay, d_Flat___init__, d_answers, d_dr_stump, d_law]
def fas : List He.Fa := [.glo "_law_draws", .glo "_law_name", .glo "_law_names", .glo "_law_pop", .glo "_law_text", .glo "_law_signs", .glo "_law_wish", .glo "_law_steps", .glo "answers", .glo "_law_stump", .free "all", .free "any", .free "enumerate", .free "isinstance", .free "len", .free "range", .free "reversed", .free "str", .cls "Flat", .glo "Flat", .meth "Flat" "above", .meth "Flat" "below", .meth "Flat" "ends", .meth "Flat" "lay", .meth "Flat" "leads", .meth "Flat" "suits", .meth "Flat" "truths", .mkr "Flat", .noat "Flat" "around", .noat "Flat" "parts", .glo "law"]
def cnames : List Str := ["Flat"]
def caOf (K : PySem.W.Frag) (i : Nat) : Addr := He.ga K (cnames.getD i "")
abbrev R0 : PySem.W.OpenRow := PySem.W.OpenLaw.row PySem.Challenge.rw_earlysift_k06_answers_grow
abbrev hk : PySem.W.Hook := He.hookD 4 fas dfs
def ob (s : PySem.W.SharedT) : He.AlD := He.obsDG 4 fas dfs (HandSHeadRun.getT s)
theorem ob_eq (s : PySem.W.SharedT) : ob s = hk.obs s.abs := He.obsDG_eq (HandSHeadRun.getT_eq s)
def loose0 : List Str := ["Flat", "answers", "_law_draws", "_law_pop", "_law_name", "_law_names", "_law_text", "_law_signs", "_law_stump", "_law_wish", "_law_steps"]
abbrev loose : List Str := loose0
theorem run (w : World) : HandSHeadRun.RunEq R0 (PySem.W.view R0.prog [13]) hk ob 2000 loose w := by
  intro os
  kernel_rfl
theorem facts {P : Program} {w : World} {K : PySem.W.Frag} {h : Heap} {mg : Str → Option Value} {f : Addr} (X : K.In h) (G : h.Ns mainGlobals mg) (hfa : mg ("law" : Str) = some (.ref f)) (c : He.SaysD fas dfs K) :
    ∃ fd : FuncData, (∀ (s : Shared) (v : Value), BindsTo s fd ⟨[v], []⟩ [("_law_script", v)]) ∧ ∀ base : Heap, K.In base → base.Ns mainGlobals mg → FnOk P w K mg base (L2.CX P w) 64 f fd ["_law_script"] (spOf ⟨K, caOf K⟩ 1 fnLaw) := by
  have R : Row K (caOf K) mg := by
    refine ⟨?_, ?_, ?_, ?_, ?_, ?_, ?_, ?_, ?_, ?_, ?_, ?_, ?_, ?_, ?_, ?_, ?_, ?_, ?_, ?_, ?_, ?_, ?_, ?_, ?_, ?_, ?_, ?_, ?_, ?_, ?_, ?_, ?_, ?_, ?_, ?_, ?_, ?_, ?_, ?_, ?_, ?_, ?_, ?_, ?_, ?_, ?_, ?_, ?_⟩
    · obtain ⟨fd, F⟩ := c.def_ 0 (d := d_dr_draws) rfl
      exact ⟨fd, F, F.bindsN fun _ _ _ _ _ _ us hl => match us, hl with | [_, _, _], _ => rfl⟩
    · obtain ⟨fd, F⟩ := c.def_ 1 (d := d_dr_name) rfl
      exact ⟨fd, F, F.bindsN fun _ _ _ _ _ _ us hl => match us, hl with | [_, _], _ => rfl⟩
    · obtain ⟨fd, F⟩ := c.def_ 2 (d := d_dr_names) rfl
      exact ⟨fd, F, F.bindsN fun _ _ _ _ _ _ us hl => match us, hl with | [_], _ => rfl⟩
    · obtain ⟨fd, F⟩ := c.def_ 3 (d := d_dr_pop) rfl
      exact ⟨fd, F, F.bindsN fun _ _ _ _ _ _ us hl => match us, hl with | [_], _ => rfl⟩
    · obtain ⟨fd, F⟩ := c.def_ 4 (d := d_dr_text) rfl
      exact ⟨fd, F, F.bindsN fun _ _ _ _ _ _ us hl => match us, hl with | [_], _ => rfl⟩
    · obtain ⟨fd, F⟩ := c.def_ 5 (d := d_dr_signs) rfl
      exact ⟨fd, F, F.bindsN fun _ _ _ _ _ _ us hl => match us, hl with | [_, _, _], _ => rfl⟩
    · obtain ⟨fd, F⟩ := c.def_ 6 (d := d_dr_wish) rfl
      exact ⟨fd, F, F.bindsN fun _ _ _ _ _ _ us hl => match us, hl with | [_, _, _], _ => rfl⟩
    · obtain ⟨fd, F⟩ := c.def_ 7 (d := d_dr_steps) rfl
      exact ⟨fd, F, F.bindsN fun _ _ _ _ _ _ us hl => match us, hl with | [_, _, _], _ => rfl⟩
    · obtain ⟨fd, F⟩ := c.def_ 8 (d := d_Flat_below) rfl
      exact ⟨fd, F, F.bindsN fun _ _ _ _ _ _ us hl => match us, hl with | [_, _, _], _ => rfl⟩
    · obtain ⟨fd, F⟩ := c.def_ 9 (d := d_Flat_leads) rfl
      exact ⟨fd, F, F.bindsN fun _ _ _ _ _ _ us hl => match us, hl with | [_, _], _ => rfl⟩
    · obtain ⟨fd, F⟩ := c.def_ 10 (d := d_Flat_truths) rfl
      exact ⟨fd, F, F.bindsN fun _ _ _ _ _ _ us hl => match us, hl with | [_, _], _ => rfl⟩
    · obtain ⟨fd, F⟩ := c.def_ 11 (d := d_Flat_suits) rfl
      exact ⟨fd, F, F.bindsN fun _ _ _ _ _ _ us hl => match us, hl with | [_, _], _ => rfl⟩
    · obtain ⟨fd, F⟩ := c.def_ 12 (d := d_Flat_above) rfl
      exact ⟨fd, F, F.bindsN fun _ _ _ _ _ _ us hl => match us, hl with | [_, _, _], _ => rfl⟩
    · obtain ⟨fd, F⟩ := c.def_ 13 (d := d_Flat_ends) rfl
      exact ⟨fd, F, F.bindsN fun _ _ _ _ _ _ us hl => match us, hl with | [_, _], _ => rfl⟩
    · obtain ⟨fd, F⟩ := c.def_ 14 (d := d_Flat_lay) rfl
      exact ⟨fd, F, F.bindsN fun _ _ _ _ _ _ us hl => match us, hl with | [_, _, _], _ => rfl⟩
    · obtain ⟨fd, F⟩ := c.def_ 15 (d := d_Flat___init__) rfl
      exact ⟨fd, F, F.bindsN fun _ _ _ _ _ _ us hl => match us, hl with | [_, _], _ => rfl⟩
    · obtain ⟨fd, F⟩ := c.def_ 16 (d := d_answers) rfl
      exact ⟨fd, F, F.bindsN fun _ _ _ _ _ _ us hl => match us, hl with | [_, _], _ => rfl⟩
    · obtain ⟨fd, F⟩ := c.def_ 17 (d := d_dr_stump) rfl
      exact ⟨fd, F, F.bindsN fun _ _ _ _ _ _ us hl => match us, hl with | [_], _ => rfl⟩
    · obtain ⟨fd, F⟩ := c.def_ 18 (d := d_law) rfl
      exact ⟨fd, F, F.bindsN fun _ _ _ _ _ _ us hl => match us, hl with | [_], _ => rfl⟩
    · exact He.glo_ok X G (c.fact 0 (f := .glo "_law_draws") rfl)
    · exact He.glo_ok X G (c.fact 1 (f := .glo "_law_name") rfl)
    · exact He.glo_ok X G (c.fact 2 (f := .glo "_law_names") rfl)
    · exact He.glo_ok X G (c.fact 3 (f := .glo "_law_pop") rfl)
    · exact He.glo_ok X G (c.fact 4 (f := .glo "_law_text") rfl)
    · exact He.glo_ok X G (c.fact 5 (f := .glo "_law_signs") rfl)
    · exact He.glo_ok X G (c.fact 6 (f := .glo "_law_wish") rfl)
    · exact He.glo_ok X G (c.fact 7 (f := .glo "_law_steps") rfl)
    · exact He.glo_ok X G (c.fact 8 (f := .glo "answers") rfl)
    · exact He.glo_ok X G (c.fact 9 (f := .glo "_law_stump") rfl)
    · exact He.free_ok X G (c.fact 10 (f := .free "all") rfl)
    · exact He.free_ok X G (c.fact 11 (f := .free "any") rfl)
    · exact He.free_ok X G (c.fact 12 (f := .free "enumerate") rfl)
    · exact He.free_ok X G (c.fact 13 (f := .free "isinstance") rfl)
    · exact He.free_ok X G (c.fact 14 (f := .free "len") rfl)
    · exact He.free_ok X G (c.fact 15 (f := .free "range") rfl)
    · exact He.free_ok X G (c.fact 16 (f := .free "reversed") rfl)
    · exact He.free_ok X G (c.fact 17 (f := .free "str") rfl)
    · exact He.cls_ok (c.fact 18 (f := .cls "Flat") rfl)
    · exact He.glo_ok X G (c.fact 19 (f := .glo "Flat") rfl)
    · exact He.meth_ok (c.fact 20 (f := .meth "Flat" "above") rfl)
    · exact He.meth_ok (c.fact 21 (f := .meth "Flat" "below") rfl)
    · exact He.meth_ok (c.fact 22 (f := .meth "Flat" "ends") rfl)
    · exact He.meth_ok (c.fact 23 (f := .meth "Flat" "lay") rfl)
    · exact He.meth_ok (c.fact 24 (f := .meth "Flat" "leads") rfl)
    · exact He.meth_ok (c.fact 25 (f := .meth "Flat" "suits") rfl)
    · exact He.meth_ok (c.fact 26 (f := .meth "Flat" "truths") rfl)
    · exact He.mkr_ok (c.fact 27 (f := .mkr "Flat") rfl)
    · exact He.noat_ok (c.fact 28 (f := .noat "Flat" "around") rfl)
    · exact He.noat_ok (c.fact 29 (f := .noat "Flat" "parts") rfl)
  have e := hfa.symm.trans (He.glo_ok X G (c.fact 30 (f := .glo "law") rfl))
  cases e
  obtain ⟨fd0, F0⟩ := c.def_ 18 (d := d_law) rfl
  exact ⟨fd0, fun s v => FunD.bindsA (ps := ["_law_script"]) F0 (fun _ _ _ _ _ _ us hl => match us, hl with | [_], _ => rfl) s [v] rfl, fun base _ _ => h_law R F0⟩
end KR
open PySem PySem.W PySem.Calls PyProof.Rows
theorem PySem.Challenge.cw_earlysift_k06_answers_grow_holds : PySem.Challenge.rw_earlysift_k06_answers_grow.Holds := by
  w_on; o_law
  refine HandSHeadRun.head_any (r := OpenLaw.row PySem.Challenge.rw_earlysift_k06_answers_grow) (q := view (OpenLaw.row PySem.Challenge.rw_earlysift_k06_answers_grow).prog [13]) (H := KR.hk) (ob := KR.ob) (M := 2000) (loose := KR.loose) (d := HandSHeadRun.topDef (OpenLaw.row PySem.Challenge.rw_earlysift_k06_answers_grow).prog 13) (kwd := []) KR.ob_eq
    (by kernel_rfl) (fun s => by kernel_rfl) KR.run (by kernel_rfl) (by kernel_rfl) (by kernel_rfl) (by rfl) (by first | assumption | decide +kernel) (by decide +kernel) ⟨rfl, rfl, rfl, rfl, rfl, by decide +kernel⟩ ?hw ?hc
  case hw => w_witness2
  case hc =>
    refine LamX.walk_ofTsE (l := PySem.Challenge.rw_earlysift_k06_answers_grow) (n := 63) (k := 64) (x := "_law_script") (CX := fun w => L2.CX (PySem.Challenge.rw_earlysift_k06_answers_grow).prog w) rfl (by decide) (by kernel_rfl) ⟨rfl, by decide, by decide⟩ ?F (fun w H s e s' ⟨_, _, _, _, _, _, _, _, _, _, _, _, z⟩ => z)
    intro w mg fa h Y G hmg0
    obtain ⟨K, KX, c⟩ := Y
    have hmg : mg ("law" : PySem.Str) = some (.ref fa) := by
      have e : (HandSHeadRun.topDef (OpenLaw.row PySem.Challenge.rw_earlysift_k06_answers_grow).prog 13).name = ("law" : PySem.Str) := by kernel_rfl
      rw [← e]
      exact hmg0
    obtain ⟨fd, hb, hF⟩ := KR.facts (P := (PySem.Challenge.rw_earlysift_k06_answers_grow).prog) (w := w) KX G hmg c
    exact ⟨K, KX, fd, [], Ev.spOf ⟨K, KR.caOf K⟩ 1 Ev.fnLaw, (fun p hp => by cases hp), (fun p hp => by cases hp), (fun p hp => by cases hp), hb, fun H a ns hl _ _ hS => Ev.law_start hS (fun S => Ev.fnLaw_eq hl S), fun base hK hN _ => hF base hK hN⟩
