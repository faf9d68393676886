import PyProof.Rows.All
import Wide.All
import OpenK.AllK
import Wide.FinOn
import HandS.ForMost
import HandS.ForExc
import HandS.WideBits
import HandS.Wide
import HandS.TupAny
import HandS.TupLe
import HandS.IsInst
import HandS.StrMore
import HandS.Replace
import KE.DataEq
import HandS.Rev
import HandS.Zip
import HandS.NoneIn
import HandS.EndBits
import HandS.Codes
import HandS.ExcOwn
import HandS.Small
import HandS.TryMany
import HandS.ExcIs
import HandS.SortRule
import HandS.SortInts
import HandS.FStr
import HandS.Style
import HandS.ExcField
import HandS.Dict
import HandS.TupMul
import PySem.Challenge.RW_tideland_k03_sums_of_pages_and_contents

set_option Elab.async false
set_option linter.all false
set_option maxRecDepth 100000
set_option maxHeartbeats 4000000
/-! T-layer, part A: values as trees, ground and ownership, expressions. -/
namespace T
open PySem PySem.Spec PyProof.Rows L2

/-- a value as a tree -/
inductive D where
  | non | bl (b : Bool) | int (i : Int) | str (s : Str) | lst (xs : List D) | tup (xs : List D) | scr (xs : List D) | dct (kvs : List (D × D)) | ty (n : String) | exc (fs : List (Str × D))

structure Exn where
  cls : Str
  fs : List (Str × D)

inductive Res (α : Type) where
  | ok (a : α) | ex (e : Exn) | no
def Res.bind {α β : Type} : Res α → (α → Res β) → Res β
  | .ok a, f => f a
  | .ex e, _ => .ex e
  | .no, _ => .no
theorem mk_eq0 {α : Sort u} {a b : α} (h : a = b) : a = b := h
@[simp] theorem Res.bind_ok {α β : Type} (a : α) (f : α → Res β) : (Res.ok a).bind f = f a := mk_eq0 rfl
@[simp] theorem Res.bind_ex {α β : Type} (e : Exn) (f : α → Res β) : (Res.ex e : Res α).bind f = .ex e := mk_eq0 rfl
@[simp] theorem Res.bind_no {α β : Type} (f : α → Res β) : (Res.no : Res α).bind f = .no := mk_eq0 rfl
/-- a wish of a result -/
def Res.has {α : Type} (r : Res α) (P : α → Prop) (E : Exn → Prop) : Prop :=
  match r with
  | .ok a => P a
  | .ex e => E e
  | .no => False
theorem Res.has_bind {α β : Type} {r : Res α} {f : α → Res β} {P : β → Prop} {E : Exn → Prop} (h : (r.bind f).has P E) : r.has (fun a => (f a).has P E) E := by
  cases r with
  | ok a => exact h
  | ex e => exact h
  | no => exact h
theorem Res.has_mono {α : Type} {r : Res α} {P P' : α → Prop} {E E' : Exn → Prop} (h : r.has P E) (p : ∀ a, P a → P' a) (q : ∀ e, E e → E' e) : r.has P' E' := by
  cases r with
  | ok a => exact p a h
  | ex e => exact q e h
  | no => exact h

abbrev Lab := List Nat
abbrev Own := Addr → Option Lab
abbrev Rho := List (Option D)

/-! ### a value stands for a tree, in the base B (what is never changed) -/
mutual
inductive Rp (K : PySem.W.Frag) (B : Hp) : V → D → Prop
  | non : Rp K B .non .non
  | bl (b : Bool) : Rp K B (.bl b) (.bl b)
  | int (i : Int) : Rp K B (.int i) (.int i)
  | str (x : Str) : Rp K B (.str x) (.str x)
  | ty (n : String) : Rp K B (.ty n) (.ty n)
  | lst {a : Addr} {xs : List V} {ds : List D} : B a = some (.lst xs) → RpA K B xs ds → Rp K B (.ref a) (.lst ds)
  | scr {a : Addr} {xs : List V} {ds : List D} : SqL K B a xs → RpA K B xs ds → Rp K B (.ref a) (.scr ds)
  | tup {a : Addr} {xs : List V} {ds : List D} : SqT K B a xs → RpA K B xs ds → Rp K B (.ref a) (.tup ds)
  | dct {a : Addr} {kvs : List (Key × V)} {ds : List (D × D)} : B a = some (.dK kvs) → RpP K B kvs ds → Rp K B (.ref a) (.dct ds)
  /-- any reference, nothing known -/
  | exc (a : Addr) (fs : List (Str × D)) : Rp K B (.ref a) (.exc fs)
inductive RpA (K : PySem.W.Frag) (B : Hp) : List V → List D → Prop
  | nil : RpA K B [] []
  | cons {v : V} {vs : List V} {d : D} {ds : List D} : Rp K B v d → RpA K B vs ds → RpA K B (v :: vs) (d :: ds)
inductive RpP (K : PySem.W.Frag) (B : Hp) : List (Key × V) → List (D × D) → Prop
  | nil : RpP K B [] []
  | consI {n : Int} {v : V} {d : D} {kvs : List (Key × V)} {ds : List (D × D)} : Rp K B v d → RpP K B kvs ds → RpP K B ((Sum.inl n, v) :: kvs) ((.int n, d) :: ds)
  | consS {x : Str} {v : V} {d : D} {kvs : List (Key × V)} {ds : List (D × D)} : Rp K B v d → RpP K B kvs ds → RpP K B ((Sum.inr x, v) :: kvs) ((.str x, d) :: ds)
end
abbrev Ext (B B' : Hp) : Prop := Same B B'
section
variable {K : PySem.W.Frag} {B B' : Hp}
theorem Ext.seqT {a : Addr} {xs : List V} (e : Ext B B') (h : SqT K B a xs) : SqT K B' a xs := by
  rcases h with (h | ⟨o, h⟩) | h
  · exact .inl (.inl (e _ _ h))
  · exact .inl (.inr ⟨o, e _ _ h⟩)
  · exact .inr h
mutual
theorem Rp.mono (e : Ext B B') : ∀ {v : V} {d : D}, Rp K B v d → Rp K B' v d
  | _, _, .non => .non
  | _, _, .bl b => .bl b
  | _, _, .int i => .int i
  | _, _, .str x => .str x
  | _, _, .ty n => .ty n
  | _, _, .lst h r => .lst (e _ _ h) (RpA.mono e r)
  | _, _, .scr h r => .scr (Same.seq e h) (RpA.mono e r)
  | _, _, .tup h r => .tup (Ext.seqT e h) (RpA.mono e r)
  | _, _, .dct h r => .dct (e _ _ h) (RpP.mono e r)
  | _, _, .exc a fs => .exc a fs
theorem RpA.mono (e : Ext B B') : ∀ {vs : List V} {ds : List D}, RpA K B vs ds → RpA K B' vs ds
  | _, _, .nil => .nil
  | _, _, .cons h r => .cons (Rp.mono e h) (RpA.mono e r)
theorem RpP.mono (e : Ext B B') : ∀ {vs : List (Key × V)} {ds : List (D × D)}, RpP K B vs ds → RpP K B' vs ds
  | _, _, .nil => .nil
  | _, _, .consI h r => .consI (Rp.mono e h) (RpP.mono e r)
  | _, _, .consS h r => .consS (Rp.mono e h) (RpP.mono e r)
end
theorem RpA.len : ∀ {vs : List V} {ds : List D}, RpA K B vs ds → vs.length = ds.length
  | _, _, .nil => rfl
  | _, _, .cons _ r => congrArg (· + 1) (RpA.len r)
theorem RpA.app : ∀ {vs ws : List V} {ds es : List D}, RpA K B vs ds → RpA K B ws es → RpA K B (vs ++ ws) (ds ++ es)
  | _, _, _, _, .nil, s => s
  | _, _, _, _, .cons h r, s => .cons h (RpA.app r s)
theorem RpA.get : ∀ {vs : List V} {ds : List D} {i : Nat} {d : D}, RpA K B vs ds → ds[i]? = some d → ∃ v, vs[i]? = some v ∧ Rp K B v d
  | _, _, _, _, .nil, e => by simp at e
  | _, _, 0, _, .cons h _, e => by simp at e; subst e; exact ⟨_, rfl, h⟩
  | _, _, i + 1, _, .cons _ r, e => by
    obtain ⟨v, h1, h2⟩ := RpA.get (i := i) r (by simpa using e)
    exact ⟨v, by simpa using h1, h2⟩
theorem RpA.get' : ∀ {vs : List V} {ds : List D} {i : Nat} {v : V}, RpA K B vs ds → vs[i]? = some v → ∃ d, ds[i]? = some d ∧ Rp K B v d
  | _, _, _, _, .nil, e => by simp at e
  | _, _, 0, _, .cons h _, e => by simp at e; subst e; exact ⟨_, rfl, h⟩
  | _, _, i + 1, _, .cons _ r, e => by
    obtain ⟨v, h1, h2⟩ := RpA.get' (i := i) r (by simpa using e)
    exact ⟨v, by simpa using h1, h2⟩
theorem RpA.of_get : ∀ {vs : List V} {ds : List D}, vs.length = ds.length → (∀ (i : Nat) (v : V) (d : D), vs[i]? = some v → ds[i]? = some d → Rp K B v d) → RpA K B vs ds
  | [], [], _, _ => .nil
  | [], _ :: _, h, _ => by simp at h
  | _ :: _, [], h, _ => by simp at h
  | v :: vs, d :: ds, h, g => .cons (g 0 v d rfl rfl) (RpA.of_get (by simpa using h) fun i v d h1 h2 => g (i + 1) v d (by simpa using h1) (by simpa using h2))
theorem RpA.take : ∀ {vs : List V} {ds : List D} (n : Nat), RpA K B vs ds → RpA K B (vs.take n) (ds.take n)
  | _, _, 0, _ => by simp; exact .nil
  | _, _, _ + 1, .nil => .nil
  | _, _, n + 1, .cons h r => by simpa using .cons h (RpA.take n r)
theorem RpA.drop : ∀ {vs : List V} {ds : List D} (n : Nat), RpA K B vs ds → RpA K B (vs.drop n) (ds.drop n)
  | _, _, 0, r => by simpa using r
  | _, _, _ + 1, .nil => .nil
  | _, _, n + 1, .cons _ r => by simpa using RpA.drop n r
theorem RpA.set : ∀ {vs : List V} {ds : List D} (i : Nat) {v : V} {d : D}, RpA K B vs ds → Rp K B v d → RpA K B (vs.set i v) (ds.set i d)
  | _, _, _, _, _, .nil, _ => .nil
  | _, _, 0, _, _, .cons _ r, h => .cons h r
  | _, _, i + 1, _, _, .cons h0 r, h => .cons h0 (RpA.set i r h)
theorem RpA.rev {vs : List V} {ds : List D} (r : RpA K B vs ds) : RpA K B vs.reverse ds.reverse := by
  have hl := r.len
  refine RpA.of_get (by simpa using hl) fun i v d h1 h2 => ?_
  have li : i < vs.reverse.length := (List.getElem?_eq_some_iff.mp h1).1
  have li' : i < vs.length := by simpa using li
  rw [List.getElem?_reverse li'] at h1
  rw [List.getElem?_reverse (by omega)] at h2
  obtain ⟨d', e1, e2⟩ := RpA.get' r h1
  rw [hl, h2] at e1
  cases e1
  exact e2
theorem RpA.repl {v : V} {d : D} (h : Rp K B v d) : ∀ n : Nat, RpA K B (List.replicate n v) (List.replicate n d)
  | 0 => .nil
  | n + 1 => .cons h (RpA.repl h n)
end

/-! ### the ground: what is owned (own), what others own (F), the base -/
structure Ground (F : Hp) (own : Own) (B H : Hp) : Prop where
  base : ∀ a o, B a = some o → H a = some o ∧ own a = none
  frame : ∀ a o, F a = some o → H a = some o ∧ own a = none ∧ B a = none
  live : ∀ a, own a ≠ none → H a ≠ none
/-- a step: what is owned stays, what others own stays, the base grows -/
structure Step (own : Own) (F B H B' H' : Hp) : Prop where
  ext : Ext B B'
  base : ∀ a o, B' a = some o → H' a = some o
  ownd : ∀ a, own a ≠ none → H' a = H a ∧ B' a = none
  frame : ∀ a o, F a = some o → H' a = some o ∧ B' a = none
section
variable {F B H B' H' B2 H2 : Hp} {own : Own}
theorem Ground.bnone (g : Ground F own B H) {a : Addr} (h : own a ≠ none) : B a = none := by
  cases e : B a with
  | none => rfl
  | some o => exact absurd (g.base a o e).2 h
theorem Step.refl (g : Ground F own B H) : Step own F B H B H :=
  ⟨Same.refl B, fun a o e => (g.base a o e).1, fun a h => ⟨rfl, g.bnone h⟩, fun a o e => ⟨(g.frame a o e).1, (g.frame a o e).2.2⟩⟩
theorem Step.trans (s : Step own F B H B' H') (t : Step own F B' H' B2 H2) : Step own F B H B2 H2 :=
  ⟨s.ext.trans t.ext, t.base, fun a h => ⟨(t.ownd a h).1.trans (s.ownd a h).1, (t.ownd a h).2⟩, t.frame⟩
theorem Ground.step (g : Ground F own B H) (s : Step own F B H B' H') : Ground F own B' H' where
  base := fun a o e => ⟨s.base a o e, by
    cases h : own a with
    | none => rfl
    | some l =>
      have := (s.ownd a (by rw [h]; exact fun z => nomatch z)).2
      rw [this] at e; cases e⟩
  frame := fun a o e => ⟨(s.frame a o e).1, (g.frame a o e).2.1, (s.frame a o e).2⟩
  live := fun a h => by rw [(s.ownd a h).1]; exact g.live a h
/-- a new thing, laid into the base -/
theorem Step.new (g : Ground F own B H) {p : Addr} (o : HO) (h : H p = none) : Step own F B H (upd B p o) (upd H p o) where
  ext := fun a u e => by
    have ne : a ≠ p := fun z => by
      subst z
      rw [(g.base a u e).1] at h
      cases h
    rw [upd_ne ne]
    exact e
  base := fun a u e => by
    by_cases ha : a = p
    · subst ha
      rw [upd_same] at e ⊢
      exact e
    · rw [upd_ne ha] at e ⊢
      exact (g.base a u e).1
  ownd := fun a ho => by
    have ne : a ≠ p := fun z => g.live a ho (z ▸ h)
    rw [upd_ne ne, upd_ne ne]
    exact ⟨rfl, g.bnone ho⟩
  frame := fun a u e => by
    have ne : a ≠ p := fun z => by
      subst z
      rw [(g.frame a u e).1] at h
      cases h
    rw [upd_ne ne, upd_ne ne]
    exact ⟨(g.frame a u e).1, (g.frame a u e).2.2⟩
/-- a new thing that nobody knows yet -/
theorem Step.garbage (g : Ground F own B H) {p : Addr} (o : HO) (h : H p = none) : Step own F B H B (upd H p o) where
  ext := Same.refl B
  base := fun a u e => by
    have ne : a ≠ p := fun z => by
      subst z
      rw [(g.base a u e).1] at h
      cases h
    rw [upd_ne ne]
    exact (g.base a u e).1
  ownd := fun a ho => by
    have ne : a ≠ p := fun z => g.live a ho (z ▸ h)
    rw [upd_ne ne]
    exact ⟨rfl, g.bnone ho⟩
  frame := fun a u e => by
    have ne : a ≠ p := fun z => by
      subst z
      rw [(g.frame a u e).1] at h
      cases h
    rw [upd_ne ne]
    exact ⟨(g.frame a u e).1, (g.frame a u e).2.2⟩
theorem Ground.bfresh (g : Ground F own B H) {p : Addr} (h : H p = none) : B p = none := by
  cases e : B p with
  | none => rfl
  | some o =>
    rw [(g.base p o e).1] at h
    cases h
theorem Ground.ffresh (g : Ground F own B H) {p : Addr} (h : H p = none) : F p = none := by
  cases e : F p with
  | none => rfl
  | some o =>
    rw [(g.frame p o e).1] at h
    cases h
theorem Ground.ofresh (g : Ground F own B H) {p : Addr} (h : H p = none) : own p = none := by
  cases e : own p with
  | none => rfl
  | some o => exact absurd h (g.live p (by rw [e]; exact fun z => nomatch z))
end

/-! ### modes -/
inductive Mode where
  | fz | own (m : Mode) | raw (a : Addr) (d : Option Addr)
  deriving DecidableEq
/-- the fields of an exception, its dict at d -/
def ExcFs (K : PySem.W.Frag) (B : Hp) (dx : Option Addr) (fs : List (Str × D)) : Prop :=
  (fs = [] ∧ dx = none) ∨ ∃ (d : Addr) (vs : List (Str × V)), fs ≠ [] ∧ dx = some d ∧ B d = some (.xd vs) ∧ vs.map (·.1) = fs.map (·.1) ∧ RpA K B (vs.map (·.2)) (fs.map (·.2))
theorem ExcFs.mono {K : PySem.W.Frag} {B B' : Hp} {dx : Option Addr} {fs : List (Str × D)} (e : Ext B B') (h : ExcFs K B dx fs) : ExcFs K B' dx fs := by
  rcases h with h | ⟨d, vs, h0, h1, h2, h3, h4⟩
  · exact .inl h
  · exact .inr ⟨d, vs, h0, h1, e _ _ h2, h3, h4.mono e⟩
def VRep (K : PySem.W.Frag) (B H : Hp) (own : Own) : Mode → Lab → V → D → Prop
  | .fz, _, v, d => Rp K B v d
  | .raw a dx, _, v, d => v = .ref a ∧ ∃ fs, d = .exc fs ∧ ExcFs K B dx fs
  | .own m, lab, v, d => ∃ (l : Addr) (vs : List V) (ds : List D), v = .ref l ∧ d = .lst ds ∧ own l = some lab ∧ H l = some (.lst vs) ∧ vs.length = ds.length ∧
      ∀ (k : Nat) (v' : V) (d' : D), vs[k]? = some v' → ds[k]? = some d' → VRep K B H own m (lab ++ [k]) v' d'
theorem VRep.step {K : PySem.W.Frag} {F B H B' H' : Hp} {own : Own} (s : Step own F B H B' H') : ∀ {m : Mode} {lab : Lab} {v : V} {d : D}, VRep K B H own m lab v d → VRep K B' H' own m lab v d
  | .fz, _, _, _, h => Rp.mono s.ext h
  | .raw a dx, _, _, _, ⟨h1, fs, h2, h3⟩ => ⟨h1, fs, h2, h3.mono s.ext⟩
  | .own m, lab, _, _, ⟨l, vs, ds, hv, hd, ho, hl, hn, h⟩ =>
    ⟨l, vs, ds, hv, hd, ho, by rw [(s.ownd l (by rw [ho]; exact fun z => nomatch z)).1]; exact hl, hn, fun k v' d' h1 h2 => VRep.step s (h k v' d' h1 h2)⟩

/-- the slots: ρ the trees by slot, Γ the modes; slot i owns under the label i + 1 -/
structure Good (K : PySem.W.Frag) (F : Hp) (G : List Mode) (ρ : Rho) (own : Own) (B : Hp) (σ : L2.St) (H : Hp) : Prop where
  gr : Ground F own B H
  len : σ.length = ρ.length
  slots : ∀ (i : Nat) (d : D), ρ[i]? = some (some d) → ∃ v, σ[i]? = some (some v) ∧ VRep K B H own (G.getD i .fz) [i + 1] v d
section
variable {K : PySem.W.Frag} {F B H B' H' : Hp} {own : Own} {G : List Mode} {ρ : Rho} {σ : L2.St}
theorem Good.step (g : Good K F G ρ own B σ H) (s : Step own F B H B' H') : Good K F G ρ own B' σ H' :=
  ⟨g.gr.step s, g.len, fun i d e => let ⟨v, h1, h2⟩ := g.slots i d e; ⟨v, h1, VRep.step s h2⟩⟩
end

/-! ### an exception that stands for Exn -/
structure ExR (K : PySem.W.Frag) (mg : Str → Option Value) (B H : Hp) (e : Exn) (c : Value) (dx : Option Addr) : Prop where
  cls : mg e.cls = some c
  fs : ExcFs K B dx e.fs

/-! ### expressions: to a frozen value -/
/-- what is wished of an exception, at the slots σ -/
def WOk (K : PySem.W.Frag) (mg : Str → Option Value) (W : WX) (own : Own) (F B H : Hp) (σ : L2.St) (e : Exn) : Prop :=
  ∀ (c : Value) (dx : Option Addr) (B' H' : Hp), Step own F B H B' H' → ExR K mg B' H' e c dx → W c dx σ H'
def Ev (X : Cx) (W : WX) (G : List Mode) (t : TE) (g : Rho → Res D) : Prop :=
  ∀ (F : Hp) (ρ : Rho) (own : Own) (B : Hp) (σ : L2.St) (H : Hp) (Q : VK), Good X.K F G ρ own B σ H →
    (g ρ).has (fun d => ∀ (v : V) (B' H' : Hp), Step own F B H B' H' → Rp X.K B' v d → Q v H') (WOk X.K X.mg W own F B H σ) → t σ H Q
/-- to a new list that nobody else knows -/
def EvN (X : Cx) (W : WX) (G : List Mode) (t : TE) (g : Rho → Res (List D)) : Prop :=
  ∀ (F : Hp) (ρ : Rho) (own : Own) (B : Hp) (σ : L2.St) (H : Hp) (Q : VK), Good X.K F G ρ own B σ H →
    (g ρ).has (fun ds => ∀ (p : Addr) (vs : List V) (B' H' : Hp), Step own F B H B' H' → B' p = none → F p = none → own p = none → H' p = some (.lst vs) → RpA X.K B' vs ds → Q (.ref p) H') (WOk X.K X.mg W own F B H σ) → t σ H Q
def EvT (X : Cx) (W : WX) (G : List Mode) (t : TT) (g : Rho → Res Bool) : Prop :=
  ∀ (F : Hp) (ρ : Rho) (own : Own) (B : Hp) (σ : L2.St) (H : Hp) (Q : Bool → Hp → Prop), Good X.K F G ρ own B σ H →
    (g ρ).has (fun b => ∀ (B' H' : Hp), Step own F B H B' H' → Q b H') (WOk X.K X.mg W own F B H σ) → t σ H Q
def EvA (X : Cx) (W : WX) (G : List Mode) (t : TA) (g : Rho → Res (List D)) : Prop :=
  ∀ (F : Hp) (ρ : Rho) (own : Own) (B : Hp) (σ : L2.St) (H : Hp) (Q : List V → Hp → Prop), Good X.K F G ρ own B σ H →
    (g ρ).has (fun ds => ∀ (vs : List V) (B' H' : Hp), Step own F B H B' H' → RpA X.K B' vs ds → Q vs H') (WOk X.K X.mg W own F B H σ) → t σ H Q
theorem WOk.step {K : PySem.W.Frag} {mg : Str → Option Value} {W : WX} {own : Own} {F B H B' H' : Hp} {σ : L2.St} {e : Exn} (w : WOk K mg W own F B H σ e) (s : Step own F B H B' H') : WOk K mg W own F B' H' σ e :=
  fun c dx B2 H2 t x => w c dx B2 H2 (s.trans t) x

/-- the frozen list of a new one -/
theorem frz_new {own : Own} {F B H B' H' : Hp} {p : Addr} {o : HO} (s : Step own F B H B' H') (hb : B' p = none) (hf : F p = none) (ho : own p = none) (hp : H' p = some o) : Step own F B H (upd B' p o) H' where
  ext := fun a u e => by
    have e' := s.ext a u e
    have ne : a ≠ p := fun z => by
      subst z
      rw [hb] at e'
      cases e'
    rw [upd_ne ne]
    exact e'
  base := fun a u e => by
    by_cases ha : a = p
    · subst ha
      rw [upd_same] at e
      cases e
      exact hp
    · rw [upd_ne ha] at e
      exact s.base a u e
  ownd := fun a h => by
    have ne : a ≠ p := fun z => h (z ▸ ho)
    rw [upd_ne ne]
    exact s.ownd a h
  frame := fun a u e => by
    have ne : a ≠ p := fun z => by
      subst z
      rw [hf] at e
      cases e
    rw [upd_ne ne]
    exact s.frame a u e
theorem ext_upd {B : Hp} {p : Addr} {o : HO} (h : B p = none) : Ext B (upd B p o) := fun a u e => by
  have ne : a ≠ p := fun z => by
    subst z
    rw [h] at e
    cases e
  rw [upd_ne ne]
  exact e
def lstD (g : Rho → Res (List D)) : Rho → Res D := fun ρ => (g ρ).bind fun ds => .ok (.lst ds)
theorem EvN.ev {X : Cx} {W : WX} {G : List Mode} {t : TE} {g : Rho → Res (List D)} (h : EvN X W G t g) : Ev X W G t (lstD g) := fun F ρ own B σ H Q gd q => by
  refine h F ρ own B σ H Q gd (Res.has_mono (Res.has_bind q) (fun ds q p vs B' H' s hb hf ho hp r => ?_) fun _ x => x)
  exact q (.ref p) (upd B' p (.lst vs)) H' (frz_new s hb hf ho hp) (.lst upd_same (r.mono (ext_upd hb)))

/-! ### borrowed: frozen, or an owned list of frozen things -/
def Sn (K : PySem.W.Frag) (own : Own) (B H : Hp) (v : V) (d : D) : Prop :=
  Rp K B v d ∨ ∃ (l : Addr) (vs : List V) (ds : List D), v = .ref l ∧ d = .lst ds ∧ own l ≠ none ∧ H l = some (.lst vs) ∧ RpA K B vs ds
theorem Sn.step {K : PySem.W.Frag} {own : Own} {F B H B' H' : Hp} {v : V} {d : D} (h : Sn K own B H v d) (s : Step own F B H B' H') : Sn K own B' H' v d := by
  rcases h with h | ⟨l, vs, ds, e1, e2, h1, h2, h3⟩
  · exact .inl (h.mono s.ext)
  · exact .inr ⟨l, vs, ds, e1, e2, h1, (s.ownd l h1).1.trans h2, h3.mono s.ext⟩
inductive SnA (K : PySem.W.Frag) (own : Own) (B H : Hp) : List V → List D → Prop
  | nil : SnA K own B H [] []
  | cons {v : V} {vs : List V} {d : D} {ds : List D} : Sn K own B H v d → SnA K own B H vs ds → SnA K own B H (v :: vs) (d :: ds)
theorem SnA.step {K : PySem.W.Frag} {own : Own} {F B H B' H' : Hp} (s : Step own F B H B' H') : ∀ {vs : List V} {ds : List D}, SnA K own B H vs ds → SnA K own B' H' vs ds
  | _, _, .nil => .nil
  | _, _, .cons h r => .cons (h.step s) (SnA.step s r)
theorem Ground.same {F : Hp} {own : Own} {B H : Hp} (g : Ground F own B H) : Same B H := fun a o e => (g.base a o e).1
/-- to be read in the heap -/
theorem Sn.rd {K : PySem.W.Frag} {F : Hp} {own : Own} {B H : Hp} {v : V} {d : D} (h : Sn K own B H v d) (g : Ground F own B H) : Rp K H v d := by
  rcases h with h | ⟨l, vs, ds, e1, e2, h1, h2, h3⟩
  · exact h.mono g.same
  · subst e1 e2
    exact .lst h2 (h3.mono g.same)
/-- a list's view -/
theorem Sn.lst {K : PySem.W.Frag} {F : Hp} {own : Own} {B H : Hp} {v : V} {ds : List D} (h : Sn K own B H v (.lst ds)) (g : Ground F own B H) : ∃ (l : Addr) (vs : List V), v = .ref l ∧ H l = some (.lst vs) ∧ RpA K B vs ds := by
  rcases h with h | ⟨l, vs, ds, e1, e2, h1, h2, h3⟩
  · cases h with
    | lst h r => exact ⟨_, _, rfl, (g.base _ _ h).1, r⟩
  · cases e2
    exact ⟨l, vs, e1, h2, h3⟩
theorem Sn.frz {K : PySem.W.Frag} {own : Own} {B H : Hp} {v : V} {d : D} (h : Sn K own B H v d) (n : ∀ ds, d ≠ .lst ds) : Rp K B v d := by
  rcases h with h | ⟨l, vs, ds, e1, e2, h1, h2, h3⟩
  · exact h
  · exact absurd e2 (n ds)
def EvB (X : Cx) (W : WX) (G : List Mode) (t : TE) (g : Rho → Res D) : Prop :=
  ∀ (F : Hp) (ρ : Rho) (own : Own) (B : Hp) (σ : L2.St) (H : Hp) (Q : VK), Good X.K F G ρ own B σ H →
    (g ρ).has (fun d => ∀ (v : V) (B' H' : Hp), Step own F B H B' H' → Sn X.K own B' H' v d → Q v H') (WOk X.K X.mg W own F B H σ) → t σ H Q
def EvBA (X : Cx) (W : WX) (G : List Mode) (t : TA) (g : Rho → Res (List D)) : Prop :=
  ∀ (F : Hp) (ρ : Rho) (own : Own) (B : Hp) (σ : L2.St) (H : Hp) (Q : List V → Hp → Prop), Good X.K F G ρ own B σ H →
    (g ρ).has (fun ds => ∀ (vs : List V) (B' H' : Hp), Step own F B H B' H' → SnA X.K own B' H' vs ds → Q vs H') (WOk X.K X.mg W own F B H σ) → t σ H Q
theorem Ev.b {X : Cx} {W : WX} {G : List Mode} {t : TE} {g : Rho → Res D} (h : Ev X W G t g) : EvB X W G t g := fun F ρ own B σ H Q gd q =>
  h F ρ own B σ H Q gd (Res.has_mono q (fun d q v B' H' s r => q v B' H' s (.inl r)) fun _ x => x)

/-! ### judgements -/
def EJ (X : Cx) (W : WX) (G : List Mode) (e : Expr) (g : Rho → Res D) : Prop := ∃ t, PE X e t ∧ Ev X W G t g
def NJ (X : Cx) (W : WX) (G : List Mode) (e : Expr) (g : Rho → Res (List D)) : Prop := ∃ t, PE X e t ∧ EvN X W G t g
def TJ (X : Cx) (W : WX) (G : List Mode) (e : Expr) (g : Rho → Res Bool) : Prop := ∃ t, PT X e t ∧ EvT X W G t g
def WJ (X : Cx) (W : WX) (G : List Mode) (e : Expr) (g : Rho → Res Bool) : Prop := ∃ t, PW X e t ∧ EvT X W G t g
def BJ (X : Cx) (W : WX) (G : List Mode) (e : Expr) (g : Rho → Res D) : Prop := ∃ t, PE X e t ∧ EvB X W G t g
def BAJ (X : Cx) (W : WX) (G : List Mode) (es : List Expr) (g : Rho → Res (List D)) : Prop := ∃ t, PA X es t ∧ EvBA X W G t g
def AJ (X : Cx) (W : WX) (G : List Mode) (es : List Expr) (g : Rho → Res (List D)) : Prop := ∃ t, PA X es t ∧ EvA X W G t g

section
variable {X : Cx} {W : WX} {G : List Mode} {e a b : Expr} {pos : Pos}
theorem EJ.bj {g : Rho → Res D} (h : EJ X W G e g) : BJ X W G e g := let ⟨t, p, v⟩ := h; ⟨t, p, v.b⟩
theorem NJ.ej {g : Rho → Res (List D)} (h : NJ X W G e g) : EJ X W G e (lstD g) := let ⟨t, p, v⟩ := h; ⟨t, p, v.ev⟩

def getV (i : Nat) : Rho → Res D := fun ρ => match ρ[i]? with
  | some (some d) => .ok d
  | _ => .no
def conD (d : D) : Rho → Res D := fun _ => .ok d
theorem ev_var {i : Nat} (hm : G.getD i .fz = .fz) : Ev X W G (tVar i) (getV i) := fun F ρ own B σ H Q gd q => by
  unfold getV at q
  cases e : ρ[i]? with
  | none =>
    rw [e] at q
    exact q.elim
  | some o =>
    cases o with
    | none =>
      rw [e] at q
      exact q.elim
    | some d =>
      rw [e] at q
      obtain ⟨v, h1, h2⟩ := gd.slots i d e
      rw [hm] at h2
      exact ⟨v, h1, q v B H (.refl gd.gr) h2⟩
theorem ej_var {x : Str} (i : Nat) (h : PE X (.Name x pos) (tVar i)) (hm : G.getD i .fz = .fz := by rfl) : EJ X W G (.Name x pos) (getV i) := ⟨_, h, ev_var hm⟩
theorem ev_c {v : V} {d : D} (h : ∀ K B, Rp K B v d) : Ev X W G (tC v) (conD d) := fun F ρ own B σ H Q gd q => q v B H (.refl gd.gr) (h _ _)
theorem ej_int {i : Int} {j pos} : EJ X W G (.Constant (.int i) j pos) (conD (.int i)) := ⟨_, pe_int, ev_c fun _ _ => .int i⟩
theorem ej_bl {i : Bool} {j pos} : EJ X W G (.Constant (.bool i) j pos) (conD (.bl i)) := ⟨_, pe_bl, ev_c fun _ _ => .bl i⟩
theorem ej_non {j pos} : EJ X W G (.Constant .none j pos) (conD .non) := ⟨_, pe_non, ev_c fun _ _ => .non⟩
theorem ej_str {x : Str} {j pos} : EJ X W G (.Constant (.str x) j pos) (conD (.str x)) := ⟨_, pe_str, ev_c fun _ _ => .str x⟩


/-- an owned list of frozen things, borrowed -/
theorem ev_varB {i : Nat} (hm : G.getD i .fz = .own .fz) : EvB X W G (tVar i) (getV i) := fun F ρ own B σ H Q gd q => by
  unfold getV at q
  cases e : ρ[i]? with
  | none =>
    rw [e] at q
    exact q.elim
  | some o =>
    cases o with
    | none =>
      rw [e] at q
      exact q.elim
    | some d =>
      rw [e] at q
      obtain ⟨v, h1, h2⟩ := gd.slots i d e
      rw [hm] at h2
      obtain ⟨l, vs, ds, e1, e2, h3, h4, hn, h5⟩ := h2
      exact ⟨v, h1, q v B H (.refl gd.gr) (.inr ⟨l, vs, ds, e1, e2, by rw [h3]; exact (fun z => nomatch z), h4, RpA.of_get hn h5⟩)⟩
theorem bj_var {x : Str} (i : Nat) (h : PE X (.Name x pos) (tVar i)) (hm : G.getD i .fz = .own .fz := by rfl) : BJ X W G (.Name x pos) (getV i) := ⟨_, h, ev_varB hm⟩

/-! ### two-place operations -/
def OpD (X : Cx) (r : R2) (f : D → D → Res D) : Prop :=
  ∀ (F : Hp) (own : Own) (B H : Hp) (x y : V) (dx dy : D) (Q : VK), Ground F own B H → Sn X.K own B H x dx → Sn X.K own B H y dy →
    (f dx dy).has (fun d => ∀ (v : V) (B' H' : Hp), Step own F B H B' H' → Rp X.K B' v d → Q v H') (fun _ => False) → r x y H Q
def OpN (X : Cx) (r : R2) (f : D → D → Res (List D)) : Prop :=
  ∀ (F : Hp) (own : Own) (B H : Hp) (x y : V) (dx dy : D) (Q : VK), Ground F own B H → Sn X.K own B H x dx → Sn X.K own B H y dy →
    (f dx dy).has (fun ds => ∀ (p : Addr) (vs : List V) (B' H' : Hp), Step own F B H B' H' → B' p = none → F p = none → own p = none → H' p = some (.lst vs) → RpA X.K B' vs ds → Q (.ref p) H') (fun _ => False) → r x y H Q
def bin {α : Type} (f : D → D → Res α) (a b : Rho → Res D) : Rho → Res α := fun ρ => (a ρ).bind fun x => (b ρ).bind fun y => f x y
/-- what holds of every result -/
theorem Res.has_calm {α : Type} {r : Res α} {P P' : α → Prop} {E E' : Exn → Prop} (n : ∀ e, r ≠ .ex e) (h : r.has P E) (p : ∀ a, P a → P' a) : r.has P' E' := by
  cases r with
  | ok a => exact p a h
  | ex e => exact absurd rfl (n e)
  | no => exact h
/-- an operation raises nothing -/
def Calm {α : Type} (f : D → D → Res α) : Prop := ∀ x y e, f x y ≠ .ex e
theorem ev_op {r : R2} {f : D → D → Res D} {ta tb : TE} {ga gb : Rho → Res D} (ho : OpD X r f) (hf : Calm f) (ha : EvB X W G ta ga) (hb : EvB X W G tb gb) : Ev X W G (tOp r ta tb) (bin f ga gb) := fun F ρ own B σ H Q gd q => by
  refine ha F ρ own B σ H _ gd (Res.has_mono (Res.has_bind q) (fun dx q v B1 H1 s1 r1 => ?_) fun _ x => x)
  refine hb F ρ own B1 σ H1 _ (gd.step s1) (Res.has_mono (Res.has_bind q) (fun dy q w B2 H2 s2 r2 => ?_) fun _ x => x.step s1)
  exact ho F own B2 H2 v w dx dy Q ((gd.gr.step s1).step s2) (r1.step s2) r2 (Res.has_calm (hf dx dy) q fun d q v' B' H' s3 r3 => q v' B' H' ((s1.trans s2).trans s3) r3)
theorem ev_opN {r : R2} {f : D → D → Res (List D)} {ta tb : TE} {ga gb : Rho → Res D} (ho : OpN X r f) (hf : Calm f) (ha : EvB X W G ta ga) (hb : EvB X W G tb gb) : EvN X W G (tOp r ta tb) (bin f ga gb) := fun F ρ own B σ H Q gd q => by
  refine ha F ρ own B σ H _ gd (Res.has_mono (Res.has_bind q) (fun dx q v B1 H1 s1 r1 => ?_) fun _ x => x)
  refine hb F ρ own B1 σ H1 _ (gd.step s1) (Res.has_mono (Res.has_bind q) (fun dy q w B2 H2 s2 r2 => ?_) fun _ x => x.step s1)
  exact ho F own B2 H2 v w dx dy Q ((gd.gr.step s1).step s2) (r1.step s2) r2 (Res.has_calm (hf dx dy) q fun d q p vs B' H' s3 h1 h2 h3 h4 r3 => q p vs B' H' ((s1.trans s2).trans s3) h1 h2 h3 h4 r3)
theorem ej_bin {op : Operator} {f : D → D → Res D} {ga gb : Rho → Res D} (ho : ∃ r, OpR X (binaryOp op) r ∧ OpD X r f) (hf : Calm f) (ha : BJ X W G a ga) (hb : BJ X W G b gb) : EJ X W G (.BinOp a op b pos) (bin f ga gb) := by
  obtain ⟨r, h1, h2⟩ := ho
  obtain ⟨ta, pa, va⟩ := ha
  obtain ⟨tb, pb, vb⟩ := hb
  exact ⟨_, pe_op h1 pa pb, ev_op h2 hf va vb⟩
theorem nj_bin {op : Operator} {f : D → D → Res (List D)} {ga gb : Rho → Res D} (ho : ∃ r, OpR X (binaryOp op) r ∧ OpN X r f) (hf : Calm f) (ha : BJ X W G a ga) (hb : BJ X W G b gb) : NJ X W G (.BinOp a op b pos) (bin f ga gb) := by
  obtain ⟨r, h1, h2⟩ := ho
  obtain ⟨ta, pa, va⟩ := ha
  obtain ⟨tb, pb, vb⟩ := hb
  exact ⟨_, pe_op h1 pa pb, ev_opN h2 hf va vb⟩
theorem ej_cmp {op : CmpOp} {f : D → D → Res D} {ga gb : Rho → Res D} (ho : ∃ r, OpR X (compareOp op) r ∧ OpD X r f) (hf : Calm f) (hm : behindInMarks op b = false) (ha : BJ X W G a ga) (hb : BJ X W G b gb) : EJ X W G (.Compare a [op] [b] pos) (bin f ga gb) := by
  obtain ⟨r, h1, h2⟩ := ho
  obtain ⟨ta, pa, va⟩ := ha
  obtain ⟨tb, pb, vb⟩ := hb
  exact ⟨_, pe_cmpR h1 pa pb hm, ev_op h2 hf va vb⟩
/-- either of two rules -/
theorem pe_or2 {e : Expr} {t t' : TE} (h : PE X e t) (h' : PE X e t') : PE X e (fun σ H Q => t σ H Q ∨ t' σ H Q) := ⟨fun pins s σ H Q I q => by
  rcases q with q | q
  · exact h.run pins s σ H Q I q
  · exact h'.run pins s σ H Q I q⟩
end
end T

set_option Elab.async false
set_option linter.all false
set_option maxRecDepth 100000
set_option maxHeartbeats 4000000
/-! T-layer, part B: operators, comparisons, subscripts. -/
namespace T
open PySem PySem.Spec PyProof.Rows L2
section
variable {K : PySem.W.Frag} {F B H B' H' : Hp} {own : Own} {x y v : V}
theorem Sn.int {i : Int} (h : Sn K own B H x (.int i)) : x = .int i := by
  cases h.frz (fun _ z => nomatch z)
  rfl
theorem Sn.str {i : Str} (h : Sn K own B H x (.str i)) : x = .str i := by
  cases h.frz (fun _ z => nomatch z)
  rfl
theorem Sn.bl {i : Bool} (h : Sn K own B H x (.bl i)) : x = .bl i := by
  cases h.frz (fun _ z => nomatch z)
  rfl
theorem Sn.non (h : Sn K own B H x .non) : x = .non := by
  cases h.frz (fun _ z => nomatch z)
  rfl
theorem Sn.ty {n : String} (h : Sn K own B H x (.ty n)) : x = .ty n := by
  cases h.frz (fun _ z => nomatch z)
  rfl
theorem Rp.tupI {ds : List D} (h : Rp K B x (.tup ds)) : ∃ a vs, x = .ref a ∧ SqT K B a vs ∧ RpA K B vs ds := by
  cases h with
  | tup h r => exact ⟨_, _, rfl, h, r⟩
theorem Sn.tup {ds : List D} (h : Sn K own B H x (.tup ds)) : ∃ a vs, x = .ref a ∧ SqT K B a vs ∧ RpA K B vs ds := (h.frz (fun _ z => nomatch z)).tupI
theorem Rp.scrI {ds : List D} (h : Rp K B x (.scr ds)) : ∃ a vs, x = .ref a ∧ SqL K B a vs ∧ RpA K B vs ds := by
  cases h with
  | scr h r => exact ⟨_, _, rfl, h, r⟩
theorem Sn.scr {ds : List D} (h : Sn K own B H x (.scr ds)) : ∃ a vs, x = .ref a ∧ SqL K B a vs ∧ RpA K B vs ds := (h.frz (fun _ z => nomatch z)).scrI
/-- a new tuple, a new list -/
theorem new_tup {Q : VK} {vs : List V} {ds : List D} (g : Ground F own B H) (r : RpA K B vs ds) (q : ∀ (v : V) (B' H' : Hp), Step own F B H B' H' → Rp K B' v (.tup ds) → Q v H') (p : Addr) (hp : H p = none) : Q (.ref p) (upd H p (.tup vs)) :=
  q (.ref p) (upd B p (.tup vs)) (upd H p (.tup vs)) (.new g _ hp) (.tup (.inl (.inl upd_same)) (r.mono (ext_upd (g.bfresh hp))))
theorem new_lst {Q : VK} {vs : List V} {ds : List D} (g : Ground F own B H) (r : RpA K B vs ds) (q : ∀ (v : V) (B' H' : Hp), Step own F B H B' H' → Rp K B' v (.lst ds) → Q v H') (p : Addr) (hp : H p = none) : Q (.ref p) (upd H p (.lst vs)) :=
  q (.ref p) (upd B p (.lst vs)) (upd H p (.lst vs)) (.new g _ hp) (.lst upd_same (r.mono (ext_upd (g.bfresh hp))))
theorem new_lstN {Q : VK} {vs : List V} {ds : List D} (g : Ground F own B H) (r : RpA K B vs ds)
    (q : ∀ (p : Addr) (vs : List V) (B' H' : Hp), Step own F B H B' H' → B' p = none → F p = none → own p = none → H' p = some (.lst vs) → RpA K B' vs ds → Q (.ref p) H') (p : Addr) (hp : H p = none) : Q (.ref p) (upd H p (.lst vs)) :=
  q p vs B (upd H p (.lst vs)) (.garbage g _ hp) (g.bfresh hp) (g.ffresh hp) (g.ofresh hp) upd_same r
end

/-! ### arithmetic -/
def dAdd : D → D → Res D
  | .int i, .int j => .ok (.int (i + j))
  | .str i, .str j => if i.length + j.length ≤ sizeLine then .ok (.str (i ++ j)) else .no
  | .tup xs, .tup ys => if xs.length + ys.length ≤ sizeLine then .ok (.tup (xs ++ ys)) else .no
  | .lst xs, .lst ys => if xs.length + ys.length ≤ sizeLine then .ok (.lst (xs ++ ys)) else .no
  | _, _ => .no
/-- list + list, as a new list -/
def dCat : D → D → Res (List D)
  | .lst xs, .lst ys => if xs.length + ys.length ≤ sizeLine then .ok (xs ++ ys) else .no
  | _, _ => .no
def dSub : D → D → Res D
  | .int i, .int j => .ok (.int (i - j))
  | _, _ => .no
instance {i j : Int} : Decidable (CMulX i j) := inferInstanceAs (Decidable (_ ≤ _))
def dMul : D → D → Res D
  | .int i, .int j => if CMulX i j then .ok (.int (i * j)) else .no
  | _, _ => .no
/-- list * int, a new list -/
def dRep : D → D → Res (List D)
  | .lst xs, .int k => if -(2 ^ 63) ≤ k ∧ k < 2 ^ 63 ∧ xs.length * k.toNat ≤ sizeLine then .ok (List.replicate k.toNat xs).flatten else .no
  | _, _ => .no
def dDiv : D → D → Res D
  | .int i, .int j => if 0 < j ∧ j.natAbs.log2 < 9000 then .ok (.int (i / j)) else .no
  | _, _ => .no
def dMod : D → D → Res D
  | .int i, .int j => if 0 < j then .ok (.int (i % j)) else .no
  | _, _ => .no
def dAnd : D → D → Res D
  | .int i, .int j => .ok (.int (Builtin.bitAnd i j))
  | _, _ => .no

theorem RpA.flatR {K : PySem.W.Frag} {B : Hp} {vs : List V} {ds : List D} (r : RpA K B vs ds) : ∀ n : Nat, RpA K B (List.replicate n vs).flatten (List.replicate n ds).flatten
  | 0 => .nil
  | n + 1 => by
    rw [List.replicate_succ, List.replicate_succ, List.flatten_cons, List.flatten_cons]
    exact r.app (RpA.flatR r n)

section
variable {X : Cx}
theorem calm_add : Calm dAdd := fun x y e h => by
  unfold dAdd at h
  split at h <;> (try split at h) <;> cases h
theorem calm_cat : Calm dCat := fun x y e h => by
  unfold dCat at h
  split at h <;> (try split at h) <;> cases h
theorem calm_sub : Calm dSub := fun x y e h => by
  unfold dSub at h
  split at h <;> (try split at h) <;> cases h
theorem calm_mul : Calm dMul := fun x y e h => by
  unfold dMul at h
  split at h <;> (try split at h) <;> cases h
theorem calm_rep : Calm dRep := fun x y e h => by
  unfold dRep at h
  split at h <;> (try split at h) <;> cases h
theorem calm_div : Calm dDiv := fun x y e h => by
  unfold dDiv at h
  split at h <;> (try split at h) <;> cases h
theorem calm_mod : Calm dMod := fun x y e h => by
  unfold dMod at h
  split at h <;> (try split at h) <;> cases h
theorem calm_and : Calm dAnd := fun x y e h => by
  unfold dAnd at h
  split at h <;> (try split at h) <;> cases h

theorem bin_add : ∃ r, OpR X (binaryOp .Add) r ∧ OpD X r dAdd := by
  refine ⟨_, op_add.or (op_add_str.or (op_catA.or op_cat)), fun F own B H x y dx dy Q g hx hy q => ?_⟩
  unfold dAdd at q
  split at q
  · cases hx.int
    cases hy.int
    exact .inl ⟨_, _, rfl, rfl, q _ _ _ (.refl g) (.int _)⟩
  · cases hx.str
    cases hy.str
    split at q
    · rename_i hz
      exact .inr (.inl ⟨_, _, rfl, rfl, hz, q _ _ _ (.refl g) (.str _)⟩)
    · exact q.elim
  · rename_i xs ys
    obtain ⟨a, vs, rfl, ha, ra⟩ := hx.tup
    obtain ⟨b, ws, rfl, hb, rb⟩ := hy.tup
    split at q
    · rename_i hz
      refine .inr (.inr (.inl ⟨a, b, vs, ws, rfl, rfl, Ext.seqT g.same ha, Ext.seqT g.same hb, by rw [ra.len, rb.len]; exact hz, fun e => ?_, fun _ e => ?_, fun _ _ p hp => new_tup g (ra.app rb) q p hp⟩))
      · subst e
        cases ra
        exact q _ _ _ (.refl g) (.tup hb rb)
      · subst e
        cases rb
        rw [List.append_nil] at q
        exact q _ _ _ (.refl g) (.tup ha ra)
    · exact q.elim
  · rename_i xs ys
    obtain ⟨a, vs, rfl, ha, ra⟩ := hx.lst g
    obtain ⟨b, ws, rfl, hb, rb⟩ := hy.lst g
    split at q
    · rename_i hz
      exact .inr (.inr (.inr ⟨a, b, vs, ws, rfl, rfl, ha, hb, by rw [ra.len, rb.len]; exact hz, fun p hp => new_lst g (ra.app rb) q p hp⟩))
    · exact q.elim
  · exact q.elim
theorem bin_cat : ∃ r, OpR X (binaryOp .Add) r ∧ OpN X r dCat := by
  refine ⟨_, op_cat, fun F own B H x y dx dy Q g hx hy q => ?_⟩
  unfold dCat at q
  split at q
  · obtain ⟨a, vs, rfl, ha, ra⟩ := hx.lst g
    obtain ⟨b, ws, rfl, hb, rb⟩ := hy.lst g
    split at q
    · rename_i hz
      exact ⟨a, b, vs, ws, rfl, rfl, ha, hb, by rw [ra.len, rb.len]; exact hz, fun p hp => new_lstN g (ra.app rb) q p hp⟩
    · exact q.elim
  · exact q.elim
theorem bin_sub : ∃ r, OpR X (binaryOp .Sub) r ∧ OpD X r dSub := by
  refine ⟨_, op_sub, fun F own B H x y dx dy Q g hx hy q => ?_⟩
  unfold dSub at q
  split at q
  · cases hx.int
    cases hy.int
    exact ⟨_, _, rfl, rfl, q _ _ _ (.refl g) (.int _)⟩
  · exact q.elim
theorem bin_mul : ∃ r, OpR X (binaryOp .Mult) r ∧ OpD X r dMul := by
  refine ⟨_, op_mulX, fun F own B H x y dx dy Q g hx hy q => ?_⟩
  unfold dMul at q
  split at q
  · cases hx.int
    cases hy.int
    split at q
    · rename_i hz
      exact ⟨_, _, rfl, rfl, hz, q _ _ _ (.refl g) (.int _)⟩
    · exact q.elim
  · exact q.elim
theorem bin_rep : ∃ r, OpR X (binaryOp .Mult) r ∧ OpN X r dRep := by
  refine ⟨_, op_rep, fun F own B H x y dx dy Q g hx hy q => ?_⟩
  unfold dRep at q
  split at q
  · obtain ⟨a, vs, rfl, ha, ra⟩ := hx.lst g
    cases hy.int
    split at q
    · rename_i hz
      exact ⟨a, _, vs, rfl, rfl, ha, hz.1, hz.2.1, by rw [ra.len]; exact hz.2.2, fun p hp => new_lstN g (ra.flatR _) q p hp⟩
    · exact q.elim
  · exact q.elim
theorem bin_div : ∃ r, OpR X (binaryOp .FloorDiv) r ∧ OpD X r dDiv := by
  refine ⟨_, op_fdivW, fun F own B H x y dx dy Q g hx hy q => ?_⟩
  unfold dDiv at q
  split at q
  · cases hx.int
    cases hy.int
    split at q
    · rename_i hz
      exact ⟨_, _, rfl, rfl, hz, q _ _ _ (.refl g) (.int _)⟩
    · exact q.elim
  · exact q.elim
theorem bin_mod : ∃ r, OpR X (binaryOp .Mod) r ∧ OpD X r dMod := by
  refine ⟨_, op_mod, fun F own B H x y dx dy Q g hx hy q => ?_⟩
  unfold dMod at q
  split at q
  · cases hx.int
    cases hy.int
    split at q
    · rename_i hz
      exact ⟨_, _, rfl, rfl, hz, q _ _ _ (.refl g) (.int _)⟩
    · exact q.elim
  · exact q.elim
theorem bin_and : ∃ r, OpR X (binaryOp .BitAnd) r ∧ OpD X r dAnd := by
  refine ⟨_, op_and, fun F own B H x y dx dy Q g hx hy q => ?_⟩
  unfold dAnd at q
  split at q
  · cases hx.int
    cases hy.int
    exact ⟨_, _, rfl, rfl, q _ _ _ (.refl g) (.int _)⟩
  · exact q.elim
end

/-! ### comparisons -/
mutual
def D.py : D → Option PyData
  | .non => some .none
  | .bl b => some (.bool b)
  | .int i => some (.int i)
  | .str s => some (.str s)
  | .lst xs => (D.pyA xs).map .list
  | .tup xs => (D.pyA xs).map .tuple
  | .scr xs => (D.pyA xs).map .list
  | .dct _ => none
  | .ty _ => none
  | .exc _ => none
def D.pyA : List D → Option (List PyData)
  | [] => some []
  | x :: xs => (D.py x).bind fun d => (D.pyA xs).map fun ds => d :: ds
end
mutual
/-- == of data -/
def D.eqb : D → D → Bool
  | .non, .non => true
  | .bl a, .bl b => a == b
  | .bl a, .int j => (if a then 1 else 0) == j
  | .int i, .bl b => i == (if b then 1 else 0)
  | .int i, .int j => i == j
  | .str x, .str y => x == y
  | .lst xs, .lst ys => D.eqbA xs ys
  | .lst xs, .scr ys => D.eqbA xs ys
  | .scr xs, .lst ys => D.eqbA xs ys
  | .scr xs, .scr ys => D.eqbA xs ys
  | .tup xs, .tup ys => D.eqbA xs ys
  | _, _ => false
def D.eqbA : List D → List D → Bool
  | [], [] => true
  | x :: xs, y :: ys => D.eqb x y && D.eqbA xs ys
  | _, _ => false
end
mutual
/-- data of at most n levels -/
def D.dat : Nat → D → Bool
  | _, .non => true
  | _, .bl _ => true
  | _, .int _ => true
  | _, .str _ => true
  | n + 1, .lst xs => D.datA n xs
  | n + 1, .scr xs => D.datA n xs
  | n + 1, .tup xs => D.datA n xs
  | _, _ => false
def D.datA : Nat → List D → Bool
  | _, [] => true
  | n, x :: xs => D.dat n x && D.datA n xs
end
mutual
theorem D.dat_py : ∀ (d : D) (n : Nat), D.dat n d = true → ∃ p, d.py = some p ∧ p.plain = true ∧ p.depth ≤ n
  | .non, _, _ => ⟨_, rfl, rfl, Nat.zero_le _⟩
  | .bl b, _, _ => ⟨_, rfl, rfl, Nat.zero_le _⟩
  | .int b, _, _ => ⟨_, rfl, rfl, Nat.zero_le _⟩
  | .str b, _, _ => ⟨_, rfl, rfl, Nat.zero_le _⟩
  | .lst xs, n, h => by
    cases n with
    | zero => simp [D.dat] at h
    | succ n =>
      obtain ⟨p, h1, h2, h3⟩ := D.datA_py xs n (by simpa [D.dat] using h)
      exact ⟨.list p, by simp [D.py, h1], by simpa [PyData.plain] using h2, by simpa [PyData.depth] using h3⟩
  | .scr xs, n, h => by
    cases n with
    | zero => simp [D.dat] at h
    | succ n =>
      obtain ⟨p, h1, h2, h3⟩ := D.datA_py xs n (by simpa [D.dat] using h)
      exact ⟨.list p, by simp [D.py, h1], by simpa [PyData.plain] using h2, by simpa [PyData.depth] using h3⟩
  | .tup xs, n, h => by
    cases n with
    | zero => simp [D.dat] at h
    | succ n =>
      obtain ⟨p, h1, h2, h3⟩ := D.datA_py xs n (by simpa [D.dat] using h)
      exact ⟨.tuple p, by simp [D.py, h1], by simpa [PyData.plain] using h2, by simpa [PyData.depth] using h3⟩
  | .dct _, n, h => by
    cases n <;> simp [D.dat] at h
  | .exc _, n, h => by
    cases n <;> simp [D.dat] at h
  | .ty _, n, h => by
    cases n <;> simp [D.dat] at h
theorem D.datA_py : ∀ (ds : List D) (n : Nat), D.datA n ds = true → ∃ ps, D.pyA ds = some ps ∧ PyData.plainAll ps = true ∧ PyData.depthAll ps ≤ n
  | [], _, _ => ⟨[], rfl, rfl, Nat.zero_le _⟩
  | d :: ds, n, h => by
    have h' : D.dat n d = true ∧ D.datA n ds = true := by simpa [D.datA] using h
    obtain ⟨p, h1, h2, h3⟩ := D.dat_py d n h'.1
    obtain ⟨ps, k1, k2, k3⟩ := D.datA_py ds n h'.2
    exact ⟨p :: ps, by simp [D.pyA, h1, k1], by simp [PyData.plainAll, h2, k2], by simp [PyData.depthAll]; omega⟩
end
mutual
theorem D.eqb_py : ∀ (d e : D) (p q : PyData), d.py = some p → e.py = some q → PyData.eqv p q = d.eqb e
  | .non, e, p, q, hp, hq => by
    cases hp
    cases e <;> simp [D.py] at hq <;> (try subst hq) <;> (try (obtain ⟨_, _, rfl⟩ := hq)) <;> rfl
  | .bl b, e, p, q, hp, hq => by
    cases hp
    cases e <;> simp [D.py] at hq <;> (try subst hq) <;> (try (obtain ⟨_, _, rfl⟩ := hq)) <;> rfl
  | .int b, e, p, q, hp, hq => by
    cases hp
    cases e <;> simp [D.py] at hq <;> (try subst hq) <;> (try (obtain ⟨_, _, rfl⟩ := hq)) <;> rfl
  | .str b, e, p, q, hp, hq => by
    cases hp
    cases e <;> simp [D.py] at hq <;> (try subst hq) <;> (try (obtain ⟨_, _, rfl⟩ := hq)) <;> rfl
  | .lst xs, e, p, q, hp, hq => by
    simp [D.py] at hp
    obtain ⟨ps, hp, rfl⟩ := hp
    cases e <;> simp [D.py] at hq <;> (try subst hq) <;> (try (obtain ⟨qs, hq, rfl⟩ := hq)) <;> first
      | rfl
      | exact D.eqbA_py xs _ ps qs hp hq
  | .scr xs, e, p, q, hp, hq => by
    simp [D.py] at hp
    obtain ⟨ps, hp, rfl⟩ := hp
    cases e <;> simp [D.py] at hq <;> (try subst hq) <;> (try (obtain ⟨qs, hq, rfl⟩ := hq)) <;> first
      | rfl
      | exact D.eqbA_py xs _ ps qs hp hq
  | .tup xs, e, p, q, hp, hq => by
    simp [D.py] at hp
    obtain ⟨ps, hp, rfl⟩ := hp
    cases e <;> simp [D.py] at hq <;> (try subst hq) <;> (try (obtain ⟨qs, hq, rfl⟩ := hq)) <;> first
      | rfl
      | exact D.eqbA_py xs _ ps qs hp hq
  | .dct _, e, p, q, hp, hq => by simp [D.py] at hp
  | .ty _, e, p, q, hp, hq => by simp [D.py] at hp
  | .exc _, e, p, q, hp, hq => by simp [D.py] at hp
theorem D.eqbA_py : ∀ (ds es : List D) (ps qs : List PyData), D.pyA ds = some ps → D.pyA es = some qs → PyData.eqvAll ps qs = D.eqbA ds es
  | [], [], ps, qs, hp, hq => by
    cases hp
    cases hq
    rfl
  | [], e :: es, ps, qs, hp, hq => by
    cases hp
    simp [D.pyA, Option.bind_eq_some_iff] at hq
    obtain ⟨_, _, _, _, rfl⟩ := hq
    rfl
  | d :: ds, [], ps, qs, hp, hq => by
    cases hq
    simp [D.pyA, Option.bind_eq_some_iff] at hp
    obtain ⟨_, _, _, _, rfl⟩ := hp
    rfl
  | d :: ds, e :: es, ps, qs, hp, hq => by
    simp [D.pyA, Option.bind_eq_some_iff] at hp hq
    obtain ⟨p, h1, ps', h2, rfl⟩ := hp
    obtain ⟨q, k1, qs', k2, rfl⟩ := hq
    show (PyData.eqv p q && PyData.eqvAll ps' qs') = (D.eqb d e && D.eqbA ds es)
    rw [D.eqb_py d e p q h1 k1, D.eqbA_py ds es ps' qs' h2 k2]
end
section
variable {X : Cx} {pins : List (Addr × Obj)} {σ : L2.St} {H : Hp} {s : Shared}
mutual
theorem Rp.reads (I : Inv X pins σ H s) : ∀ (d : D) (v : V) (u : Value) (p : PyData), Rp X.K H v d → RelV v u → d.py = some p → ∃ as, Reads s.heap u p as
  | .non, _, _, _, h, r, e => by
    cases h
    cases r
    cases e
    exact ⟨_, Reads.none⟩
  | .bl b, _, _, _, h, r, e => by
    cases h
    cases r
    cases e
    exact ⟨_, Reads.bool b⟩
  | .int i, _, _, _, h, r, e => by
    cases h
    obtain ⟨t, rfl⟩ := r
    cases e
    exact ⟨_, Reads.int i t⟩
  | .str x, _, _, _, h, r, e => by
    cases h
    obtain ⟨t, rfl⟩ := r
    cases e
    exact ⟨_, Reads.str x t⟩
  | .lst ds, _, _, _, h, r, e => by
    simp [D.py] at e
    obtain ⟨ps, e, rfl⟩ := e
    cases h with
    | lst hs ha =>
      cases r
      obtain ⟨its, rv, ⟨o, n, ho, hc, _, hd⟩, _⟩ := I.list (xs := _) (.inl (.inl hs))
      obtain ⟨as, hr⟩ := RpA.reads I ds _ its ps ha rv e
      exact ⟨_, Reads.list ho hc hd hr⟩
  | .scr ds, _, _, _, h, r, e => by
    simp [D.py] at e
    obtain ⟨ps, e, rfl⟩ := e
    cases h with
    | scr hs ha =>
      cases r
      obtain ⟨its, rv, ⟨o, n, ho, hc, _, hd⟩, _⟩ := I.list hs
      obtain ⟨as, hr⟩ := RpA.reads I ds _ its ps ha rv e
      exact ⟨_, Reads.list ho hc hd hr⟩
  | .tup ds, _, _, _, h, r, e => by
    simp [D.py] at e
    obtain ⟨ps, e, rfl⟩ := e
    cases h with
    | tup hs ha =>
      cases r
      obtain ⟨its, rv, ⟨o, ho, hc, n, hd⟩, _⟩ := I.tuple hs
      obtain ⟨as, hr⟩ := RpA.reads I ds _ its ps ha rv e
      exact ⟨_, Reads.tuple ho hc hd hr⟩
  | .dct _, _, _, _, _, _, e => by simp [D.py] at e
  | .exc _, _, _, _, _, _, e => by simp [D.py] at e
  | .ty _, _, _, _, _, _, e => by simp [D.py] at e
theorem RpA.reads (I : Inv X pins σ H s) : ∀ (ds : List D) (vs : List V) (us : List Value) (ps : List PyData), RpA X.K H vs ds → Vals vs us → D.pyA ds = some ps → ∃ as, ReadsAll s.heap us ps as
  | [], _, _, _, h, r, e => by
    cases h
    cases r
    cases e
    exact ⟨_, ReadsAll.nil⟩
  | d :: ds, _, _, _, h, r, e => by
    simp [D.pyA, Option.bind_eq_some_iff] at e
    obtain ⟨p, h1, ps', h2, rfl⟩ := e
    cases h with
    | cons g1 g2 =>
      cases r with
      | cons r1 r2 =>
        obtain ⟨as, q1⟩ := Rp.reads I d _ _ p g1 r1 h1
        obtain ⟨bs, q2⟩ := RpA.reads I ds _ _ ps' g2 r2 h2
        exact ⟨_, ReadsAll.cons q1 q2⟩
end
end
def dEq (x y : D) : Res D := if D.dat 60 x = true ∧ D.dat 60 y = true then .ok (.bl (x.eqb y)) else .no
def dNe (x y : D) : Res D := if D.dat 60 x = true ∧ D.dat 60 y = true then .ok (.bl (!x.eqb y)) else .no
/-- x in c -/
def dIn : D → D → Res D
  | x, .lst ys => if D.dat 60 x = true ∧ D.datA 60 ys = true then .ok (.bl (ys.any fun y => y.eqb x)) else .no
  | x, .tup ys => if D.dat 60 x = true ∧ D.datA 60 ys = true then .ok (.bl (ys.any fun y => y.eqb x)) else .no
  | .str i, .str j => .ok (.bl (!(Builtin.Str.occurrences j i 0 j.length 1).isEmpty))
  | _, _ => .no
def dNotB (d : D) : Res D := match d with
  | .bl b => .ok (.bl (!b))
  | _ => .no
def dNotIn (x c : D) : Res D := (dIn x c).bind dNotB
def dLt : D → D → Res D
  | .int i, .int j => .ok (.bl (decide (i < j)))
  | .str i, .str j => .ok (.bl (decide (i.cps.toList < j.cps.toList)))
  | _, _ => .no
def dLe : D → D → Res D
  | .int i, .int j => .ok (.bl (decide (i ≤ j)))
  | .str i, .str j => .ok (.bl (!decide (j.cps.toList < i.cps.toList)))
  | _, _ => .no
def dGt : D → D → Res D
  | .int i, .int j => .ok (.bl (decide (j < i)))
  | .str i, .str j => .ok (.bl (decide (j.cps.toList < i.cps.toList)))
  | _, _ => .no
def dGe : D → D → Res D
  | .int i, .int j => .ok (.bl (decide (j ≤ i)))
  | .str i, .str j => .ok (.bl (!decide (i.cps.toList < j.cps.toList)))
  | _, _ => .no
/-- is None, True, False -/
def D.isNon : D → Bool
  | .non => true
  | _ => false
def dIs : D → D → Res D
  | x, .non => .ok (.bl x.isNon)
  | .bl a, .bl b => .ok (.bl (a == b))
  | _, _ => .no
def dIsNot (x c : D) : Res D := (dIs x c).bind dNotB

section
variable {X : Cx}
theorem calm_eq : Calm dEq := fun x y e h => by
  unfold dEq at h
  split at h <;> cases h
theorem calm_ne : Calm dNe := fun x y e h => by
  unfold dNe at h
  split at h <;> cases h
theorem calm_in : Calm dIn := fun x y e h => by
  unfold dIn at h
  split at h <;> (try split at h) <;> cases h
theorem calm_notB {r : Res D} (n : ∀ e, r ≠ .ex e) : ∀ e, r.bind dNotB ≠ .ex e := fun e h => by
  cases r with
  | ok a =>
    unfold dNotB at h
    simp only [Res.bind_ok] at h
    split at h <;> cases h
  | ex e' => exact n e' rfl
  | no => cases h
theorem calm_notIn : Calm dNotIn := fun x y => calm_notB (calm_in x y)
theorem calm_lt : Calm dLt := fun x y e h => by
  unfold dLt at h
  split at h <;> cases h
theorem calm_le : Calm dLe := fun x y e h => by
  unfold dLe at h
  split at h <;> cases h
theorem calm_gt : Calm dGt := fun x y e h => by
  unfold dGt at h
  split at h <;> cases h
theorem calm_ge : Calm dGe := fun x y e h => by
  unfold dGe at h
  split at h <;> cases h
theorem calm_is : Calm dIs := fun x y e h => by
  unfold dIs at h
  split at h <;> cases h
theorem calm_isNot : Calm dIsNot := fun x y => calm_notB (calm_is x y)

def rEqT (X : Cx) (neg : Bool) : R2 := fun x y H Q => ∃ dx dy, Rp X.K H x dx ∧ Rp X.K H y dy ∧ D.dat 60 dx = true ∧ D.dat 60 dy = true ∧ Q (.bl (if neg then !dx.eqb dy else dx.eqb dy)) H
theorem op_eqT (hu : X.A.units + 64 < cLine) : OpR X (compareOp .Eq) (rEqT X false) := by
  intro pins s σ H x y v u Q I rx ry h
  obtain ⟨d, e, hd, he, sd, se, q⟩ := h
  obtain ⟨p, p1, p2, p3⟩ := D.dat_py d 60 sd
  obtain ⟨p', p1', p2', p3'⟩ := D.dat_py e 60 se
  obtain ⟨as, r1⟩ := Rp.reads I d x v p hd rx p1
  obtain ⟨bs, r2⟩ := Rp.reads I e y u p' he ry p1'
  refine SeqAt.eq_plain r1 r2 p2 p2' ?_ ⟨.bl _, H, I, by rw [D.eqb_py d e p p' p1 p1']; rfl, q⟩
  have : min p.depth p'.depth ≤ p.depth := Nat.min_le_left _ _
  omega
theorem op_neT (hu : X.A.units + 64 < cLine) : OpR X (compareOp .NotEq) (rEqT X true) := by
  intro pins s σ H x y v u Q I rx ry h
  obtain ⟨d, e, hd, he, sd, se, q⟩ := h
  obtain ⟨p, p1, p2, p3⟩ := D.dat_py d 60 sd
  obtain ⟨p', p1', p2', p3'⟩ := D.dat_py e 60 se
  obtain ⟨as, r1⟩ := Rp.reads I d x v p hd rx p1
  obtain ⟨bs, r2⟩ := Rp.reads I e y u p' he ry p1'
  refine SeqAt.ne_plain r1 r2 p2 p2' ?_ ⟨.bl _, H, I, by rw [D.eqb_py d e p p' p1 p1']; rfl, q⟩
  have : min p.depth p'.depth ≤ p.depth := Nat.min_le_left _ _
  omega
theorem cmp_eq (hu : X.A.units + 64 < cLine) : ∃ r, OpR X (compareOp .Eq) r ∧ OpD X r dEq := by
  refine ⟨_, op_eqT hu, fun F own B H x y dx dy Q g hx hy q => ?_⟩
  unfold dEq at q
  split at q
  · rename_i hz
    exact ⟨dx, dy, hx.rd g, hy.rd g, hz.1, hz.2, q _ _ _ (.refl g) (.bl _)⟩
  · exact q.elim
theorem cmp_ne (hu : X.A.units + 64 < cLine) : ∃ r, OpR X (compareOp .NotEq) r ∧ OpD X r dNe := by
  refine ⟨_, op_neT hu, fun F own B H x y dx dy Q g hx hy q => ?_⟩
  unfold dNe at q
  split at q
  · rename_i hz
    exact ⟨dx, dy, hx.rd g, hy.rd g, hz.1, hz.2, q _ _ _ (.refl g) (.bl _)⟩
  · exact q.elim
theorem D.any_py {d : D} {p : PyData} (e : d.py = some p) : ∀ (ds : List D) (ps : List PyData), D.pyA ds = some ps → ps.any (fun y => PyData.eqv y p) = ds.any (fun y => y.eqb d)
  | [], ps, h => by
    cases h
    rfl
  | x :: xs, ps, h => by
    simp [D.pyA, Option.bind_eq_some_iff] at h
    obtain ⟨q, h1, qs, h2, rfl⟩ := h
    simp only [List.any_cons]
    rw [D.eqb_py x d q p h1 e, D.any_py e xs qs h2]
def rInT (X : Cx) (neg : Bool) : R2 := fun x y H Q => ∃ dx ds a vs, Rp X.K H x dx ∧ y = .ref a ∧ ((H a = some (.lst vs)) ∨ SqT X.K H a vs) ∧ RpA X.K H vs ds ∧ D.dat 60 dx = true ∧ D.datA 60 ds = true ∧
  Q (.bl (if neg then !(ds.any fun y => y.eqb dx) else ds.any fun y => y.eqb dx)) H
theorem op_inT (hu : X.A.units + 64 < cLine) : OpR X (compareOp .In) (rInT X false) := by
  intro pins s σ H x y v u Q I rx ry h
  obtain ⟨d, ds, a, vs, hd, rfl, ha, hr, sd, se, q⟩ := h
  obtain ⟨p, p1, p2, p3⟩ := D.dat_py d 60 sd
  obtain ⟨ps, p1', p2', p3'⟩ := D.datA_py ds 60 se
  obtain ⟨as, r1⟩ := Rp.reads I d x v p hd rx p1
  have hm : min (PyData.depthAll ps) p.depth ≤ p.depth := Nat.min_le_right _ _
  rcases ha with ha | ha
  · obtain ⟨bs, r2⟩ := Rp.reads I (.lst ds) (.ref a) u (.list ps) (.lst ha hr) ry (by simp [D.py, p1'])
    refine SeqAt.in_list_data r2 r1 p2' p2 (by omega) ⟨.bl _, H, I, by rw [D.any_py p1 ds ps p1']; rfl, q⟩
  · obtain ⟨bs, r2⟩ := Rp.reads I (.tup ds) (.ref a) u (.tuple ps) (.tup ha hr) ry (by simp [D.py, p1'])
    refine SeqAt.in_tuple_data r2 r1 p2' p2 (by omega) ⟨.bl _, H, I, by rw [D.any_py p1 ds ps p1']; rfl, q⟩
theorem op_notInT (hu : X.A.units + 64 < cLine) : OpR X (compareOp .NotIn) (rInT X true) := by
  intro pins s σ H x y v u Q I rx ry h
  obtain ⟨d, ds, a, vs, hd, rfl, ha, hr, sd, se, q⟩ := h
  obtain ⟨p, p1, p2, p3⟩ := D.dat_py d 60 sd
  obtain ⟨ps, p1', p2', p3'⟩ := D.datA_py ds 60 se
  obtain ⟨as, r1⟩ := Rp.reads I d x v p hd rx p1
  have hm : min (PyData.depthAll ps) p.depth ≤ p.depth := Nat.min_le_right _ _
  rcases ha with ha | ha
  · obtain ⟨bs, r2⟩ := Rp.reads I (.lst ds) (.ref a) u (.list ps) (.lst ha hr) ry (by simp [D.py, p1'])
    refine SeqAt.notIn_list_data r2 r1 p2' p2 (by omega) ⟨.bl _, H, I, by rw [D.any_py p1 ds ps p1']; rfl, q⟩
  · obtain ⟨bs, r2⟩ := Rp.reads I (.tup ds) (.ref a) u (.tuple ps) (.tup ha hr) ry (by simp [D.py, p1'])
    refine SeqAt.notIn_tuple_data r2 r1 p2' p2 (by omega) ⟨.bl _, H, I, by rw [D.any_py p1 ds ps p1']; rfl, q⟩
theorem cmp_in (hu : X.A.units + 64 < cLine) : ∃ r, OpR X (compareOp .In) r ∧ OpD X r dIn := by
  refine ⟨_, (op_inT hu).or op_in_str, fun F own B H x y dx dy Q g hx hy q => ?_⟩
  unfold dIn at q
  split at q
  · obtain ⟨a, vs, rfl, ha, ra⟩ := hy.lst g
    split at q
    · rename_i hz
      exact .inl ⟨_, _, a, vs, hx.rd g, rfl, .inl ha, ra.mono g.same, hz.1, hz.2, q _ _ _ (.refl g) (.bl _)⟩
    · exact q.elim
  · obtain ⟨a, vs, rfl, ha, ra⟩ := hy.tup
    split at q
    · rename_i hz
      exact .inl ⟨_, _, a, vs, hx.rd g, rfl, .inr (Ext.seqT g.same ha), ra.mono g.same, hz.1, hz.2, q _ _ _ (.refl g) (.bl _)⟩
    · exact q.elim
  · cases hx.str
    cases hy.str
    exact .inr ⟨_, _, rfl, rfl, q _ _ _ (.refl g) (.bl _)⟩
  · exact q.elim
theorem cmp_notIn (hu : X.A.units + 64 < cLine) : ∃ r, OpR X (compareOp .NotIn) r ∧ OpD X r dNotIn := by
  refine ⟨_, (op_notInT hu).or op_notin_str, fun F own B H x y dx dy Q g hx hy q => ?_⟩
  unfold dNotIn dIn at q
  split at q
  · obtain ⟨a, vs, rfl, ha, ra⟩ := hy.lst g
    split at q
    · rename_i hz
      exact .inl ⟨_, _, a, vs, hx.rd g, rfl, .inl ha, ra.mono g.same, hz.1, hz.2, q _ _ _ (.refl g) (.bl _)⟩
    · exact q.elim
  · obtain ⟨a, vs, rfl, ha, ra⟩ := hy.tup
    split at q
    · rename_i hz
      exact .inl ⟨_, _, a, vs, hx.rd g, rfl, .inr (Ext.seqT g.same ha), ra.mono g.same, hz.1, hz.2, q _ _ _ (.refl g) (.bl _)⟩
    · exact q.elim
  · cases hx.str
    cases hy.str
    exact .inr ⟨_, _, rfl, rfl, q _ _ _ (.refl g) (.bl _)⟩
  · exact q.elim
theorem cmp_lt : ∃ r, OpR X (compareOp .Lt) r ∧ OpD X r dLt := by
  refine ⟨_, op_lt.or op_lt_str, fun F own B H x y dx dy Q g hx hy q => ?_⟩
  unfold dLt at q
  split at q
  · cases hx.int
    cases hy.int
    exact .inl ⟨_, _, rfl, rfl, q _ _ _ (.refl g) (.bl _)⟩
  · cases hx.str
    cases hy.str
    exact .inr ⟨_, _, rfl, rfl, q _ _ _ (.refl g) (.bl _)⟩
  · exact q.elim
theorem cmp_le : ∃ r, OpR X (compareOp .LtE) r ∧ OpD X r dLe := by
  refine ⟨_, op_le.or op_le_str, fun F own B H x y dx dy Q g hx hy q => ?_⟩
  unfold dLe at q
  split at q
  · cases hx.int
    cases hy.int
    exact .inl ⟨_, _, rfl, rfl, q _ _ _ (.refl g) (.bl _)⟩
  · cases hx.str
    cases hy.str
    exact .inr ⟨_, _, rfl, rfl, q _ _ _ (.refl g) (.bl _)⟩
  · exact q.elim
theorem cmp_gt : ∃ r, OpR X (compareOp .Gt) r ∧ OpD X r dGt := by
  refine ⟨_, op_gt.or op_gt_str, fun F own B H x y dx dy Q g hx hy q => ?_⟩
  unfold dGt at q
  split at q
  · cases hx.int
    cases hy.int
    exact .inl ⟨_, _, rfl, rfl, q _ _ _ (.refl g) (.bl _)⟩
  · cases hx.str
    cases hy.str
    exact .inr ⟨_, _, rfl, rfl, q _ _ _ (.refl g) (.bl _)⟩
  · exact q.elim
theorem cmp_ge : ∃ r, OpR X (compareOp .GtE) r ∧ OpD X r dGe := by
  refine ⟨_, op_ge.or op_ge_str, fun F own B H x y dx dy Q g hx hy q => ?_⟩
  unfold dGe at q
  split at q
  · cases hx.int
    cases hy.int
    exact .inl ⟨_, _, rfl, rfl, q _ _ _ (.refl g) (.bl _)⟩
  · cases hx.str
    cases hy.str
    exact .inr ⟨_, _, rfl, rfl, q _ _ _ (.refl g) (.bl _)⟩
  · exact q.elim
theorem Sn.isNon {K : PySem.W.Frag} {F B H : Hp} {own : Own} {x : V} {d : D} (h : Sn K own B H x d) (g : Ground F own B H) : decide (x = .non) = d.isNon := by
  have r := h.rd g
  cases r <;> rfl
theorem cmp_is : ∃ r, OpR X (compareOp .Is) r ∧ OpD X r dIs := by
  refine ⟨_, op_isN.or op_is_bl, fun F own B H x y dx dy Q g hx hy q => ?_⟩
  unfold dIs at q
  split at q
  · cases hy.non
    refine .inl ⟨rfl, ?_⟩
    rw [hx.isNon g]
    exact q _ _ _ (.refl g) (.bl _)
  · cases hx.bl
    cases hy.bl
    refine .inr ⟨_, _, rfl, rfl, ?_⟩
    rw [Bool.beq_eq_decide_eq] at q
    exact q _ _ _ (.refl g) (.bl _)
  · exact q.elim
theorem cmp_isNot : ∃ r, OpR X (compareOp .IsNot) r ∧ OpD X r dIsNot := by
  refine ⟨_, op_notN.or op_isnot_bl, fun F own B H x y dx dy Q g hx hy q => ?_⟩
  unfold dIsNot dIs at q
  split at q
  · cases hy.non
    refine .inl ⟨rfl, ?_⟩
    rw [hx.isNon g]
    exact q _ _ _ (.refl g) (.bl _)
  · cases hx.bl
    cases hy.bl
    refine .inr ⟨_, _, rfl, rfl, ?_⟩
    rw [Bool.beq_eq_decide_eq] at q
    exact q _ _ _ (.refl g) (.bl _)
  · exact q.elim
end
end T

set_option Elab.async false
set_option linter.all false
set_option maxRecDepth 100000
set_option maxHeartbeats 4000000
/-! T-layer, part C: tests, subscripts, displays, calls of built-ins, what a loop walks, comprehensions. -/
namespace T
open PySem PySem.Spec PyProof.Rows L2

section
variable {X : Cx} {W : WX} {G : List Mode} {e a b c : Expr} {pos : Pos}
/-! ### truth -/
def toB (g : Rho → Res D) : Rho → Res Bool := fun ρ => (g ρ).bind fun d => match d with
  | .bl b => .ok b
  | _ => .no
/-- any value's truth -/
def dTru : D → Res Bool
  | .non => .ok false
  | .bl b => .ok b
  | .int i => .ok (i != 0)
  | .str y => if y.length ≤ sizeLine then .ok (y.length != 0) else .no
  | .lst xs => .ok (!xs.isEmpty)
  | .tup xs => .ok (!xs.isEmpty)
  | .scr xs => .ok (!xs.isEmpty)
  | _ => .no
theorem ev_toB {t : TE} {g : Rho → Res D} (h : EvB X W G t g) : EvT X W G (tB t) (toB g) := fun F ρ own B σ H Q gd q => by
  refine h F ρ own B σ H _ gd (Res.has_mono (Res.has_bind q) (fun d q v B' H' s r => ?_) fun _ x => x)
  cases d with
  | bl b =>
    cases r.bl
    exact ⟨b, rfl, q B' H' s⟩
  | _ => exact q.elim
/-- a test of a True or a False (not and, or, not) -/
theorem tj_val {g : Rho → Res D} (h : BJ X W G e g) (he : ∀ whole, isTrue e X.env whole = (do let v ← whole; standAt e.pos; holding [v] (truthy v)) := by intro _; rfl) : TJ X W G e (toB g) :=
  let ⟨_, p, v⟩ := h; ⟨_, pt_val p he, ev_toB v⟩
theorem RpA.emp {K : PySem.W.Frag} {B : Hp} {vs : List V} {ds : List D} (r : RpA K B vs ds) : vs.isEmpty = ds.isEmpty := by
  cases r <;> rfl
theorem ev_tru {t : TE} {g : Rho → Res D} (h : EvB X W G t g) : EvT X W G (fun σ H Q => t σ H fun x H' => ∃ k, TruV X.K x H' k ∧ Q k H') (fun ρ => (g ρ).bind dTru) := fun F ρ own B σ H Q gd q => by
  refine h F ρ own B σ H _ gd (Res.has_mono (Res.has_bind q) (fun d q v B' H' s r => ?_) fun _ x => x)
  have g' := gd.gr.step s
  cases d with
  | non =>
    cases r.non
    exact ⟨_, rfl, q B' H' s⟩
  | bl b =>
    cases r.bl
    exact ⟨_, rfl, q B' H' s⟩
  | int b =>
    cases r.int
    exact ⟨_, rfl, q B' H' s⟩
  | str y =>
    cases r.str
    simp only [dTru] at q
    split at q
    · rename_i hz
      refine ⟨_, ⟨hz, rfl⟩, ?_⟩
      have e : ((y.length : Int) != 0) = (y.length != 0) := by
        rw [Bool.eq_iff_iff]
        simp
      rw [e]
      exact q B' H' s
    · exact q.elim
  | lst xs =>
    obtain ⟨l, vs, rfl, hl, rv⟩ := r.lst g'
    refine ⟨_, .inl ⟨vs, .inl (.inl hl), rfl⟩, ?_⟩
    rw [rv.emp]
    exact q B' H' s
  | tup xs =>
    obtain ⟨l, vs, rfl, hl, rv⟩ := r.tup
    refine ⟨_, .inr (.inl ⟨vs, Ext.seqT g'.same hl, rfl⟩), ?_⟩
    rw [rv.emp]
    exact q B' H' s
  | scr xs =>
    obtain ⟨l, vs, rfl, hl, rv⟩ := r.scr
    refine ⟨_, .inl ⟨vs, Same.seq g'.same hl, rfl⟩, ?_⟩
    rw [rv.emp]
    exact q B' H' s
  | dct _ => exact q.elim
  | ty _ => exact q.elim
  | exc _ => exact q.elim
theorem tj_tru {g : Rho → Res D} (h : BJ X W G e g) (he : ∀ whole, isTrue e X.env whole = (do let v ← whole; standAt e.pos; holding [v] (truthy v)) := by intro _; rfl) : TJ X W G e (fun ρ => (g ρ).bind dTru) :=
  let ⟨_, p, v⟩ := h; ⟨_, pt_truth p he, ev_tru v⟩
def andB (g h : Rho → Res Bool) : Rho → Res Bool := fun ρ => (g ρ).bind fun b => if b = true then h ρ else .ok false
def orB (g h : Rho → Res Bool) : Rho → Res Bool := fun ρ => (g ρ).bind fun b => if b = true then .ok true else h ρ
def notB (g : Rho → Res Bool) : Rho → Res Bool := fun ρ => (g ρ).bind fun b => .ok (!b)
theorem ev_and {t u : TT} {g h : Rho → Res Bool} (ht : EvT X W G t g) (hu : EvT X W G u h) : EvT X W G (tAnd t u) (andB g h) := fun F ρ own B σ H Q gd q => by
  refine ht F ρ own B σ H _ gd (Res.has_mono (Res.has_bind q) (fun b q B' H' s => ?_) fun _ x => x)
  cases b with
  | true => exact hu F ρ own B' σ H' Q (gd.step s) (Res.has_mono q (fun b q B2 H2 s2 => q B2 H2 (s.trans s2)) fun _ x => x.step s)
  | false => exact q B' H' s
theorem ev_or {t u : TT} {g h : Rho → Res Bool} (ht : EvT X W G t g) (hu : EvT X W G u h) : EvT X W G (tOr t u) (orB g h) := fun F ρ own B σ H Q gd q => by
  refine ht F ρ own B σ H _ gd (Res.has_mono (Res.has_bind q) (fun b q B' H' s => ?_) fun _ x => x)
  cases b with
  | true => exact q B' H' s
  | false => exact hu F ρ own B' σ H' Q (gd.step s) (Res.has_mono q (fun b q B2 H2 s2 => q B2 H2 (s.trans s2)) fun _ x => x.step s)
theorem ev_not {t : TT} {g : Rho → Res Bool} (ht : EvT X W G t g) : EvT X W G (tNot t) (notB g) := fun F ρ own B σ H Q gd q =>
  ht F ρ own B σ H _ gd (Res.has_mono (Res.has_bind q) (fun b q B' H' s => q B' H' s) fun _ x => x)
theorem wj_and {rest : List Expr} {g h : Rho → Res Bool} (ha : TJ X W G a g) (hb : WJ X W G (.BoolOp .And (b :: rest) pos) h) : WJ X W G (.BoolOp .And (a :: b :: rest) pos) (andB g h) :=
  let ⟨_, p, v⟩ := ha; let ⟨_, p', v'⟩ := hb; ⟨_, pw_and p p', ev_and v v'⟩
theorem wj_or {rest : List Expr} {g h : Rho → Res Bool} (ha : TJ X W G a g) (hb : WJ X W G (.BoolOp .Or (b :: rest) pos) h) : WJ X W G (.BoolOp .Or (a :: b :: rest) pos) (orB g h) :=
  let ⟨_, p, v⟩ := ha; let ⟨_, p', v'⟩ := hb; ⟨_, pw_or p p', ev_or v v'⟩
theorem wj_and1 {g : Rho → Res Bool} (ha : TJ X W G a g) : WJ X W G (.BoolOp .And [a] pos) g := let ⟨_, p, v⟩ := ha; ⟨_, pw_and1 p, v⟩
theorem wj_or1 {g : Rho → Res Bool} (ha : TJ X W G a g) : WJ X W G (.BoolOp .Or [a] pos) g := let ⟨_, p, v⟩ := ha; ⟨_, pw_or1 p, v⟩
theorem WJ.tj {g : Rho → Res Bool} (h : WJ X W G e g) : TJ X W G e g := let ⟨_, p, v⟩ := h; ⟨_, p.pt, v⟩
theorem tj_not {g : Rho → Res Bool} (ha : TJ X W G a g) : TJ X W G (.UnaryOp .Not a pos) (notB g) := let ⟨_, p, v⟩ := ha; ⟨_, pt_not p, ev_not v⟩

/-! ### and, or, not as values: of True and False -/
def andV (f g : Rho → Res D) : Rho → Res D := fun ρ => (f ρ).bind fun d => match d with
  | .bl b => if b = true then g ρ else .ok (.bl false)
  | _ => .no
def orV (f g : Rho → Res D) : Rho → Res D := fun ρ => (f ρ).bind fun d => match d with
  | .bl b => if b = true then .ok (.bl true) else g ρ
  | _ => .no
def notV (f : Rho → Res D) : Rho → Res D := fun ρ => (f ρ).bind dNotB
theorem ej_andV {rest : List Expr} {f g : Rho → Res D} (ha : BJ X W G a f) (hb : EJ X W G (.BoolOp .And (b :: rest) pos) g) : EJ X W G (.BoolOp .And (a :: b :: rest) pos) (andV f g) := by
  obtain ⟨ta, pa, va⟩ := ha
  obtain ⟨tb, pb, vb⟩ := hb
  refine ⟨_, pe_and pa pb, fun F ρ own B σ H Q gd q => ?_⟩
  refine va F ρ own B σ H _ gd (Res.has_mono (Res.has_bind q) (fun d q v B' H' s r => ?_) fun _ x => x)
  cases d with
  | bl c =>
    cases r.bl
    refine ⟨c, rfl, ?_⟩
    cases c with
    | true => exact vb F ρ own B' σ H' Q (gd.step s) (Res.has_mono q (fun b q v B2 H2 s2 => q v B2 H2 (s.trans s2)) fun _ x => x.step s)
    | false => exact q _ B' H' s (.bl _)
  | _ => exact q.elim
theorem ej_orV {rest : List Expr} {f g : Rho → Res D} (ha : BJ X W G a f) (hb : EJ X W G (.BoolOp .Or (b :: rest) pos) g) : EJ X W G (.BoolOp .Or (a :: b :: rest) pos) (orV f g) := by
  obtain ⟨ta, pa, va⟩ := ha
  obtain ⟨tb, pb, vb⟩ := hb
  refine ⟨_, pe_or pa pb, fun F ρ own B σ H Q gd q => ?_⟩
  refine va F ρ own B σ H _ gd (Res.has_mono (Res.has_bind q) (fun d q v B' H' s r => ?_) fun _ x => x)
  cases d with
  | bl c =>
    cases r.bl
    refine ⟨c, rfl, ?_⟩
    cases c with
    | false => exact vb F ρ own B' σ H' Q (gd.step s) (Res.has_mono q (fun b q v B2 H2 s2 => q v B2 H2 (s.trans s2)) fun _ x => x.step s)
    | true => exact q _ B' H' s (.bl _)
  | _ => exact q.elim
theorem ej_one {op : BoolOp} {f : Rho → Res D} (ha : EJ X W G a f) : EJ X W G (.BoolOp op [a] pos) f := let ⟨_, p, v⟩ := ha; ⟨_, pe_one p, v⟩
theorem ej_notV {f : Rho → Res D} (ha : BJ X W G a f) : EJ X W G (.UnaryOp .Not a pos) (notV f) := by
  obtain ⟨ta, pa, va⟩ := ha
  refine ⟨_, pe_not pa, fun F ρ own B σ H Q gd q => ?_⟩
  refine va F ρ own B σ H _ gd (Res.has_mono (Res.has_bind q) (fun d q v B' H' s r => ?_) fun _ x => x)
  cases d with
  | bl c =>
    cases r.bl
    exact ⟨c, rfl, q _ B' H' s (.bl _)⟩
  | _ => exact q.elim
def dNeg : D → Res D
  | .int i => .ok (.int (-i))
  | _ => .no
theorem ej_neg {f : Rho → Res D} (ha : BJ X W G a f) : EJ X W G (.UnaryOp .USub a pos) (fun ρ => (f ρ).bind dNeg) := by
  obtain ⟨ta, pa, va⟩ := ha
  refine ⟨_, pe_un un_neg pa, fun F ρ own B σ H Q gd q => ?_⟩
  refine va F ρ own B σ H _ gd (Res.has_mono (Res.has_bind q) (fun d q v B' H' s r => ?_) fun _ x => x)
  cases d with
  | int c =>
    cases r.int
    exact ⟨c, rfl, q _ B' H' s (.int _)⟩
  | _ => exact q.elim
/-- a op b op' c -/
def chainV (f g : D → D → Res D) (ga gb gc : Rho → Res D) : Rho → Res D := fun ρ => (ga ρ).bind fun x => (gb ρ).bind fun y => (f x y).bind fun z => match z with
  | .bl k => if k = true then (gc ρ).bind fun w => g y w else .ok (.bl false)
  | _ => .no
theorem ev_chain {r r' : R2} {f g : D → D → Res D} {ta tb tc : TE} {ga gb gc : Rho → Res D} (h2 : OpD X r f) (hf : Calm f) (h2' : OpD X r' g) (hg : Calm g) (va : EvB X W G ta ga) (vb : EvB X W G tb gb) (vc : EvB X W G tc gc) : Ev X W G (tChain r r' ta tb tc) (chainV f g ga gb gc) := fun F ρ own B σ H Q gd q => by
  refine va F ρ own B σ H _ gd (Res.has_mono (Res.has_bind q) (fun dx q v B1 H1 s1 r1 => ?_) fun _ x => x)
  refine vb F ρ own B1 σ H1 _ (gd.step s1) (Res.has_mono (Res.has_bind q) (fun dy q w B2 H2 s2 r2 => ?_) fun _ x => x.step s1)
  refine h2 F own B2 H2 v w dx dy _ ((gd.gr.step s1).step s2) (r1.step s2) r2 (Res.has_calm (hf dx dy) (Res.has_bind q) fun d q z B3 H3 s3 r3 => ?_)
  cases d with
  | bl k =>
    cases r3
    refine ⟨k, rfl, ?_⟩
    cases k with
    | false => exact q _ B3 H3 ((s1.trans s2).trans s3) (.bl _)
    | true =>
      show tc σ H3 _
      refine vc F ρ own B3 σ H3 _ (((gd.step s1).step s2).step s3) (Res.has_mono (Res.has_bind q) (fun dw q u B4 H4 s4 r4 => ?_) fun _ x => x.step ((s1.trans s2).trans s3))
      exact h2' F own B4 H4 w u dy dw Q ((((gd.gr.step s1).step s2).step s3).step s4) ((r2.step s3).step s4) r4 (Res.has_calm (hg dy dw) q fun d q z B5 H5 s5 r5 => q z B5 H5 ((((s1.trans s2).trans s3).trans s4).trans s5) r5)
  | _ => exact q.elim
theorem ej_chain {op op' : CmpOp} {f g : D → D → Res D} {ga gb gc : Rho → Res D} (ho : ∃ r, OpR X (compareOp op) r ∧ OpD X r f) (hf : Calm f) (ho' : ∃ r, OpR X (compareOp op') r ∧ OpD X r g) (hg : Calm g) (ha : BJ X W G a ga) (hb : BJ X W G b gb) (hc : BJ X W G c gc)
    (hm : lastMarks [op, op'] [b, c] = false := by with_unfolding_all rfl) : EJ X W G (.Compare a [op, op'] [b, c] pos) (chainV f g ga gb gc) := by
  obtain ⟨r, h1, h2⟩ := ho
  obtain ⟨r', h1', h2'⟩ := ho'
  obtain ⟨ta, pa, va⟩ := ha
  obtain ⟨tb, pb, vb⟩ := hb
  obtain ⟨tc, pc, vc⟩ := hc
  exact ⟨_, pe_chain h1 h1' pa pb pc hm, ev_chain h2 hf h2' hg va vb vc⟩
def ifV (g : Rho → Res Bool) (f f' : Rho → Res D) : Rho → Res D := fun ρ => (g ρ).bind fun b => if b = true then f ρ else f' ρ
theorem ej_if {g : Rho → Res Bool} {f f' : Rho → Res D} (hc : TJ X W G c g) (ha : EJ X W G a f) (hb : EJ X W G b f') : EJ X W G (.IfExp c a b pos) (ifV g f f') := by
  obtain ⟨ta, pa, va⟩ := ha
  obtain ⟨tb, pb, vb⟩ := hb
  obtain ⟨tc, pc, vc⟩ := hc
  refine ⟨_, pe_ifExp pc pa pb, fun F ρ own B σ H Q gd q => ?_⟩
  refine vc F ρ own B σ H _ gd (Res.has_mono (Res.has_bind q) (fun b q B' H' s => ?_) fun _ x => x)
  cases b with
  | true => exact va F ρ own B' σ H' Q (gd.step s) (Res.has_mono q (fun b q v B2 H2 s2 => q v B2 H2 (s.trans s2)) fun _ x => x.step s)
  | false => exact vb F ρ own B' σ H' Q (gd.step s) (Res.has_mono q (fun b q v B2 H2 s2 => q v B2 H2 (s.trans s2)) fun _ x => x.step s)

/-! ### subscripts -/
def dIx : D → D → Res D
  | .lst xs, .int i => match atI xs i with
    | some d => .ok d
    | none => .no
  | .tup xs, .int i => match atI xs i with
    | some d => .ok d
    | none => .no
  | .scr xs, .int i => match atI xs i with
    | some d => .ok d
    | none => .no
  | .str z, .int i => if z.length ≤ sizeLine then match atI z.cps.toList i with
    | some c => .ok (.str ⟨#[c]⟩)
    | none => .no else .no
  | _, _ => .no
theorem calm_ix : Calm dIx := fun x y e h => by
  unfold dIx at h
  split at h <;> (try split at h) <;> (try split at h) <;> cases h
theorem RpA.at {K : PySem.W.Frag} {B : Hp} {vs : List V} {ds : List D} {i : Int} {d : D} (r : RpA K B vs ds) (h : atI ds i = some d) : ∃ v, atI vs i = some v ∧ Rp K B v d := by
  unfold atI at h ⊢
  rw [r.len]
  obtain ⟨j, h1, h2⟩ := Option.bind_eq_some_iff.mp h
  rw [h1]
  exact r.get h2
theorem op_ix : OpD X (rIx X.K) dIx := fun F own B H x y dx dy Q g hx hy q => by
  unfold dIx at q
  split at q
  · obtain ⟨l, vs, rfl, hl, rv⟩ := hx.lst g
    cases hy.int
    split at q
    · rename_i d hd
      obtain ⟨v, h1, h2⟩ := rv.at hd
      exact .inl ⟨l, vs, _, v, rfl, rfl, .inl (.inl hl), h1, q _ _ _ (.refl g) h2⟩
    · exact q.elim
  · obtain ⟨l, vs, rfl, hl, rv⟩ := hx.tup
    cases hy.int
    split at q
    · rename_i d hd
      obtain ⟨v, h1, h2⟩ := rv.at hd
      exact .inr (.inl ⟨l, vs, _, v, rfl, rfl, Ext.seqT g.same hl, h1, q _ _ _ (.refl g) h2⟩)
    · exact q.elim
  · obtain ⟨l, vs, rfl, hl, rv⟩ := hx.scr
    cases hy.int
    split at q
    · rename_i d hd
      obtain ⟨v, h1, h2⟩ := rv.at hd
      exact .inl ⟨l, vs, _, v, rfl, rfl, Same.seq g.same hl, h1, q _ _ _ (.refl g) h2⟩
    · exact q.elim
  · cases hx.str
    cases hy.int
    split at q
    · rename_i hz
      split at q
      · rename_i c hc
        exact .inr (.inr ⟨_, _, c, rfl, rfl, hz, hc, q _ _ _ (.refl g) (.str _)⟩)
      · exact q.elim
    · exact q.elim
  · exact q.elim
theorem ej_ix {ga gb : Rho → Res D} (ha : BJ X W G a ga) (hb : BJ X W G b gb) (hs : PlainIx b := by exact fun _ _ => rfl) : EJ X W G (.Subscript a b pos) (bin dIx ga gb) := by
  obtain ⟨ta, pa, va⟩ := ha
  obtain ⟨tb, pb, vb⟩ := hb
  exact ⟨_, pe_ix ix_seq pa pb hs, ev_op op_ix calm_ix va vb⟩

/-! ### slices -/
def EvO (X : Cx) (W : WX) (G : List Mode) (t : TO) (g : Rho → Res (Option Int)) : Prop :=
  ∀ (F : Hp) (ρ : Rho) (own : Own) (B : Hp) (σ : L2.St) (H : Hp) (Q : Option Int → Hp → Prop), Good X.K F G ρ own B σ H →
    (g ρ).has (fun o => ∀ (B' H' : Hp), Step own F B H B' H' → Q o H') (WOk X.K X.mg W own F B H σ) → t σ H Q
def OJ (X : Cx) (W : WX) (G : List Mode) (e : Option Expr) (g : Rho → Res (Option Int)) : Prop := ∃ t, L2.PO X e t ∧ EvO X W G t g
def noPart : Rho → Res (Option Int) := fun _ => .ok none
def toPart (g : Rho → Res D) : Rho → Res (Option Int) := fun ρ => (g ρ).bind fun d => match d with
  | .int i => .ok (some i)
  | _ => .no
theorem oj_none : OJ X W G none noPart := ⟨_, po_none, fun F ρ own B σ H Q gd q => q B H (.refl gd.gr)⟩
theorem oj_some {g : Rho → Res D} (h : BJ X W G e g) : OJ X W G (some e) (toPart g) := by
  obtain ⟨t, p, v⟩ := h
  refine ⟨_, po_some p, fun F ρ own B σ H Q gd q => ?_⟩
  refine v F ρ own B σ H _ gd (Res.has_mono (Res.has_bind q) (fun d q v B' H' s r => ?_) fun _ x => x)
  cases d with
  | int i =>
    cases r.int
    exact ⟨i, rfl, q B' H' s⟩
  | _ => exact q.elim
/-- what is cut out of a list of anything -/
def cutL {α : Type} (xs : List α) (lo hi : Option Int) : List α := (xs.drop (HT.sIx xs.length 0 lo)).take (HT.sIx xs.length xs.length hi - HT.sIx xs.length 0 lo)
theorem RpA.cut {K : PySem.W.Frag} {B : Hp} {vs : List V} {ds : List D} (r : RpA K B vs ds) (lo hi : Option Int) : RpA K B (cutV vs lo hi) (cutL ds lo hi) := by
  unfold cutV cutL
  rw [r.len]
  exact (r.drop _).take _
def dSl : D → Option Int → Option Int → Res D
  | .lst xs, lo, hi => .ok (.lst (cutL xs lo hi))
  | .tup xs, lo, hi => .ok (.tup (cutL xs lo hi))
  | .str z, lo, hi => if z.length ≤ sizeLine then .ok (.str (cutS z lo hi)) else .no
  | _, _, _ => .no
/-- of a list: a new list -/
def dSlN : D → Option Int → Option Int → Res (List D)
  | .lst xs, lo, hi => .ok (cutL xs lo hi)
  | _, _, _ => .no
def slV {α : Type} (f : D → Option Int → Option Int → Res α) (ga : Rho → Res D) (gl gh : Rho → Res (Option Int)) : Rho → Res α := fun ρ => (ga ρ).bind fun x => (gl ρ).bind fun l => (gh ρ).bind fun h => f x l h
theorem cutL_whole {α : Type} {xs : List α} {lo hi : Option Int} (h : HT.sIx xs.length 0 lo = 0 ∧ HT.sIx xs.length xs.length hi = xs.length) : cutL xs lo hi = xs := by
  unfold cutL
  rw [h.1, h.2]
  simp
theorem calm_sl (x : D) (l h : Option Int) (e : Exn) : dSl x l h ≠ .ex e := fun z => by
  unfold dSl at z
  split at z <;> (try split at z) <;> cases z
theorem calm_slN (x : D) (l h : Option Int) (e : Exn) : dSlN x l h ≠ .ex e := fun z => by
  unfold dSlN at z
  split at z <;> cases z
theorem ej_sl {lo hi : Option Expr} {p2 : Pos} {ga : Rho → Res D} {gl gh : Rho → Res (Option Int)} (ha : BJ X W G a ga) (hl : OJ X W G lo gl) (hh : OJ X W G hi gh) : EJ X W G (.Subscript a (.Slice lo hi none p2) pos) (slV dSl ga gl gh) := by
  obtain ⟨ta, pa, va⟩ := ha
  obtain ⟨tl, pl, vl⟩ := hl
  obtain ⟨th, ph, vh⟩ := hh
  refine ⟨_, pe_slice (sl_list.or (sl_tupA.or sl_str)) pa pl ph, fun F ρ own B σ H Q gd q => ?_⟩
  refine va F ρ own B σ H _ gd (Res.has_mono (Res.has_bind q) (fun d q v B1 H1 s1 r => ?_) fun _ x => x)
  refine vl F ρ own B1 σ H1 _ (gd.step s1) (Res.has_mono (Res.has_bind q) (fun l q B2 H2 s2 => ?_) fun _ x => x.step s1)
  refine vh F ρ own B2 σ H2 _ ((gd.step s1).step s2) (Res.has_mono (Res.has_bind q) (fun h q B3 H3 s3 => ?_) fun _ x => x.step (s1.trans s2))
  have r3 := (r.step s2).step s3
  have s := (s1.trans s2).trans s3
  have g3 := gd.gr.step s
  have q' : (dSl d l h).has (fun d => ∀ (v : V) (B' H' : Hp), Step own F B3 H3 B' H' → Rp X.K B' v d → Q v H') (fun _ => False) := Res.has_calm (calm_sl d l h) q fun d q v B' H' t r => q v B' H' (s.trans t) r
  cases d with
  | lst xs =>
    obtain ⟨p, vs, rfl, hp, rv⟩ := r3.lst g3
    exact .inl ⟨p, vs, rfl, .inl (.inl hp), fun n hn => new_lst g3 (rv.cut l h) q' n hn⟩
  | tup xs =>
    obtain ⟨p, vs, rfl, hp, rv⟩ := r3.tup
    refine .inr (.inl ⟨p, vs, rfl, Ext.seqT g3.same hp, fun e => ?_, fun _ n hn => new_tup g3 (rv.cut l h) q' n hn⟩)
    rw [rv.len] at e
    have q'' : ∀ (v : V) (B' H' : Hp), Step own F B3 H3 B' H' → Rp X.K B' v (.tup (cutL xs l h)) → Q v H' := q'
    rw [cutL_whole e] at q''
    exact q'' _ _ _ (.refl g3) (.tup hp rv)
  | str z =>
    cases r3.str
    simp only [dSl] at q'
    split at q'
    · rename_i hz
      exact .inr (.inr ⟨z, rfl, hz, q' _ _ _ (.refl g3) (.str _)⟩)
    · exact q'.elim
  | _ => exact q'.elim
theorem nj_sl {lo hi : Option Expr} {p2 : Pos} {ga : Rho → Res D} {gl gh : Rho → Res (Option Int)} (ha : BJ X W G a ga) (hl : OJ X W G lo gl) (hh : OJ X W G hi gh) : NJ X W G (.Subscript a (.Slice lo hi none p2) pos) (slV dSlN ga gl gh) := by
  obtain ⟨ta, pa, va⟩ := ha
  obtain ⟨tl, pl, vl⟩ := hl
  obtain ⟨th, ph, vh⟩ := hh
  refine ⟨_, pe_slice sl_list pa pl ph, fun F ρ own B σ H Q gd q => ?_⟩
  refine va F ρ own B σ H _ gd (Res.has_mono (Res.has_bind q) (fun d q v B1 H1 s1 r => ?_) fun _ x => x)
  refine vl F ρ own B1 σ H1 _ (gd.step s1) (Res.has_mono (Res.has_bind q) (fun l q B2 H2 s2 => ?_) fun _ x => x.step s1)
  refine vh F ρ own B2 σ H2 _ ((gd.step s1).step s2) (Res.has_mono (Res.has_bind q) (fun h q B3 H3 s3 => ?_) fun _ x => x.step (s1.trans s2))
  have r3 := (r.step s2).step s3
  have s := (s1.trans s2).trans s3
  have g3 := gd.gr.step s
  cases d with
  | lst xs =>
    obtain ⟨p, vs, rfl, hp, rv⟩ := r3.lst g3
    exact ⟨p, vs, rfl, .inl (.inl hp), fun n hn => new_lstN g3 (rv.cut l h) (fun p vs B' H' t => q p vs B' H' (s.trans t)) n hn⟩
  | _ => exact q.elim

/-! ### arguments, displays -/
def noA : Rho → Res (List D) := fun _ => .ok []
def consA (g : Rho → Res D) (h : Rho → Res (List D)) : Rho → Res (List D) := fun ρ => (g ρ).bind fun d => (h ρ).bind fun ds => .ok (d :: ds)
theorem aj_nil : AJ X W G [] noA := ⟨_, pa_nil, fun F ρ own B σ H Q gd q => q [] B H (.refl gd.gr) .nil⟩
theorem aj_cons {es : List Expr} {g : Rho → Res D} {h : Rho → Res (List D)} (he : EJ X W G e g) (hr : AJ X W G es h) (hs : starEach (e :: es) X.env = (false, eval e X.env) :: starEach es X.env := by rfl) : AJ X W G (e :: es) (consA g h) := by
  obtain ⟨t, p, v⟩ := he
  obtain ⟨u, p', v'⟩ := hr
  refine ⟨_, pa_cons p p' hs, fun F ρ own B σ H Q gd q => ?_⟩
  refine v F ρ own B σ H _ gd (Res.has_mono (Res.has_bind q) (fun d q v B1 H1 s1 r => ?_) fun _ x => x)
  refine v' F ρ own B1 σ H1 _ (gd.step s1) (Res.has_mono (Res.has_bind q) (fun ds q vs B2 H2 s2 rs => ?_) fun _ x => x.step s1)
  exact q _ B2 H2 (s1.trans s2) (.cons (r.mono s2.ext) rs)
theorem baj_nil : BAJ X W G [] noA := ⟨_, pa_nil, fun F ρ own B σ H Q gd q => q [] B H (.refl gd.gr) .nil⟩
theorem baj_cons {es : List Expr} {g : Rho → Res D} {h : Rho → Res (List D)} (he : BJ X W G e g) (hr : BAJ X W G es h) (hs : starEach (e :: es) X.env = (false, eval e X.env) :: starEach es X.env := by rfl) : BAJ X W G (e :: es) (consA g h) := by
  obtain ⟨t, p, v⟩ := he
  obtain ⟨u, p', v'⟩ := hr
  refine ⟨_, pa_cons p p' hs, fun F ρ own B σ H Q gd q => ?_⟩
  refine v F ρ own B σ H _ gd (Res.has_mono (Res.has_bind q) (fun d q v B1 H1 s1 r => ?_) fun _ x => x)
  refine v' F ρ own B1 σ H1 _ (gd.step s1) (Res.has_mono (Res.has_bind q) (fun ds q vs B2 H2 s2 rs => ?_) fun _ x => x.step s1)
  exact q _ B2 H2 (s1.trans s2) (.cons (r.step s2) rs)
def tupV (g : Rho → Res (List D)) : Rho → Res D := fun ρ => (g ρ).bind fun ds => if ds.length ≤ sizeLine then .ok (.tup ds) else .no
def lstV (g : Rho → Res (List D)) : Rho → Res (List D) := fun ρ => (g ρ).bind fun ds => if ds.length ≤ sizeLine then .ok ds else .no
theorem ej_tup {es : List Expr} {x1} {g : Rho → Res (List D)} (h : AJ X W G es g) : EJ X W G (.Tuple es x1 pos) (tupV g) := by
  obtain ⟨t, p, v⟩ := h
  refine ⟨_, pe_tup p, fun F ρ own B σ H Q gd q => ?_⟩
  refine v F ρ own B σ H _ gd (Res.has_mono (Res.has_bind q) (fun ds q vs B' H' s r => ?_) fun _ x => x)
  split at q
  · rename_i hz
    exact ⟨by rw [r.len]; exact hz, fun n hn => new_tup (gd.gr.step s) r (fun v B2 H2 t => q v B2 H2 (s.trans t)) n hn⟩
  · exact q.elim
theorem nj_lst {es : List Expr} {g : Rho → Res (List D)} (h : AJ X W G es g) : NJ X W G (.List es pos) (lstV g) := by
  obtain ⟨t, p, v⟩ := h
  refine ⟨_, pe_lst p, fun F ρ own B σ H Q gd q => ?_⟩
  refine v F ρ own B σ H _ gd (Res.has_mono (Res.has_bind q) (fun ds q vs B' H' s r => ?_) fun _ x => x)
  split at q
  · rename_i hz
    exact ⟨by rw [r.len]; exact hz, fun n hn => new_lstN (gd.gr.step s) r (fun p vs B2 H2 t => q p vs B2 H2 (s.trans t)) n hn⟩
  · exact q.elim

/-! ### calls of built-ins -/
def CallD (X : Cx) (r : List V → Hp → VK → Prop) (f : List D → Res D) : Prop :=
  (∀ ds e, f ds ≠ .ex e) ∧ ∀ (F : Hp) (own : Own) (B H : Hp) (vs : List V) (ds : List D) (Q : VK), Ground F own B H → SnA X.K own B H vs ds →
    (f ds).has (fun d => ∀ (v : V) (B' H' : Hp), Step own F B H B' H' → Rp X.K B' v d → Q v H') (fun _ => False) → r vs H Q
def CallN (X : Cx) (r : List V → Hp → VK → Prop) (f : List D → Res (List D)) : Prop :=
  (∀ ds e, f ds ≠ .ex e) ∧ ∀ (F : Hp) (own : Own) (B H : Hp) (vs : List V) (ds : List D) (Q : VK), Ground F own B H → SnA X.K own B H vs ds →
    (f ds).has (fun d => ∀ (p : Addr) (vs : List V) (B' H' : Hp), Step own F B H B' H' → B' p = none → F p = none → own p = none → H' p = some (.lst vs) → RpA X.K B' vs d → Q (.ref p) H') (fun _ => False) → r vs H Q
def callV {α : Type} (f : List D → Res α) (g : Rho → Res (List D)) : Rho → Res α := fun ρ => (g ρ).bind f
theorem ev_cb {r : List V → Hp → VK → Prop} {f : List D → Res D} {t : TA} {g : Rho → Res (List D)} (hf : CallD X r f) (ha : EvBA X W G t g) : Ev X W G (tCB r t) (callV f g) := fun F ρ own B σ H Q gd q => by
  refine ha F ρ own B σ H _ gd (Res.has_mono (Res.has_bind q) (fun ds q vs B' H' s rs => ?_) fun _ x => x)
  exact hf.2 F own B' H' vs ds Q (gd.gr.step s) rs (Res.has_calm (hf.1 ds) q fun d q v B2 H2 t => q v B2 H2 (s.trans t))
theorem ev_cbN {r : List V → Hp → VK → Prop} {f : List D → Res (List D)} {t : TA} {g : Rho → Res (List D)} (hf : CallN X r f) (ha : EvBA X W G t g) : EvN X W G (tCB r t) (callV f g) := fun F ρ own B σ H Q gd q => by
  refine ha F ρ own B σ H _ gd (Res.has_mono (Res.has_bind q) (fun ds q vs B' H' s rs => ?_) fun _ x => x)
  exact hf.2 F own B' H' vs ds Q (gd.gr.step s) rs (Res.has_calm (hf.1 ds) q fun d q p vs B2 H2 t => q p vs B2 H2 (s.trans t))
variable {x : Str} {p : Pos} {es : List Expr} {id Ty : String}
theorem ej_B {f : List D → Res D} {g : Rho → Res (List D)} (hf : ∃ r, CallR X (.builtin id) r ∧ CallD X r f) (hg : Gl X x) (hm : X.mg x = none) (hv : bootBuiltins x = some (.builtin id)) (ha : BAJ X W G (e :: es) g) (hn : x ≠ "__name__" := by decide) (hdb : (x == ("__debug__" : Str)) = false := by decide)
    (he : starEach (e :: es) X.env = (false, eval e X.env) :: starEach es X.env := by rfl) (hpl : (backTo pos (starEach es X.env)).any (·.1) = false := by rfl) : EJ X W G (.Call (.Name x p) (e :: es) [] pos) (callV f g) := by
  obtain ⟨r, h1, h2⟩ := hf
  obtain ⟨t, pa, va⟩ := ha
  exact ⟨_, pe_callB h1 hg hm hv pa hn hdb he hpl, ev_cb h2 va⟩
theorem nj_B {f : List D → Res (List D)} {g : Rho → Res (List D)} (hf : ∃ r, CallR X (.builtin id) r ∧ CallN X r f) (hg : Gl X x) (hm : X.mg x = none) (hv : bootBuiltins x = some (.builtin id)) (ha : BAJ X W G (e :: es) g) (hn : x ≠ "__name__" := by decide) (hdb : (x == ("__debug__" : Str)) = false := by decide)
    (he : starEach (e :: es) X.env = (false, eval e X.env) :: starEach es X.env := by rfl) (hpl : (backTo pos (starEach es X.env)).any (·.1) = false := by rfl) : NJ X W G (.Call (.Name x p) (e :: es) [] pos) (callV f g) := by
  obtain ⟨r, h1, h2⟩ := hf
  obtain ⟨t, pa, va⟩ := ha
  exact ⟨_, pe_callB h1 hg hm hv pa hn hdb he hpl, ev_cbN h2 va⟩
theorem ej_Ty {f : List D → Res D} {g : Rho → Res (List D)} (hf : ∃ r, CallR X (.type Ty) r ∧ CallD X r f) (hg : Gl X x) (hm : X.mg x = none) (hv : bootBuiltins x = some (.type Ty)) (ha : BAJ X W G (e :: es) g) (hn : x ≠ "__name__" := by decide) (hdb : (x == ("__debug__" : Str)) = false := by decide)
    (he : starEach (e :: es) X.env = (false, eval e X.env) :: starEach es X.env := by rfl) (hpl : (backTo pos (starEach es X.env)).any (·.1) = false := by rfl) : EJ X W G (.Call (.Name x p) (e :: es) [] pos) (callV f g) := by
  obtain ⟨r, h1, h2⟩ := hf
  obtain ⟨t, pa, va⟩ := ha
  exact ⟨_, pe_callTy h1 hg hm hv pa hn hdb he hpl, ev_cb h2 va⟩
theorem nj_Ty {f : List D → Res (List D)} {g : Rho → Res (List D)} (hf : ∃ r, CallR X (.type Ty) r ∧ CallN X r f) (hg : Gl X x) (hm : X.mg x = none) (hv : bootBuiltins x = some (.type Ty)) (ha : BAJ X W G (e :: es) g) (hn : x ≠ "__name__" := by decide) (hdb : (x == ("__debug__" : Str)) = false := by decide)
    (he : starEach (e :: es) X.env = (false, eval e X.env) :: starEach es X.env := by rfl) (hpl : (backTo pos (starEach es X.env)).any (·.1) = false := by rfl) : NJ X W G (.Call (.Name x p) (e :: es) [] pos) (callV f g) := by
  obtain ⟨r, h1, h2⟩ := hf
  obtain ⟨t, pa, va⟩ := ha
  exact ⟨_, pe_callTy h1 hg hm hv pa hn hdb he hpl, ev_cbN h2 va⟩
end
end T

set_option Elab.async false
set_option linter.all false
set_option maxRecDepth 100000
set_option maxHeartbeats 4000000
/-! T-layer, part D: built-in functions and methods, what a loop walks, comprehensions. -/
namespace T
open PySem PySem.Spec PyProof.Rows L2

/-! ### data of one kind -/
def D.ints : List D → Option (List Int)
  | [] => some []
  | .int i :: r => (D.ints r).map fun is => i :: is
  | _ :: _ => none
def D.bools : List D → Option (List Bool)
  | [] => some []
  | .bl i :: r => (D.bools r).map fun is => i :: is
  | _ :: _ => none
def D.strs : List D → Option (List Str)
  | [] => some []
  | .str i :: r => (D.strs r).map fun is => i :: is
  | _ :: _ => none
section
variable {K : PySem.W.Frag} {B : Hp}
theorem RpA.ints : ∀ {vs : List V} {ds : List D} {is : List Int}, RpA K B vs ds → D.ints ds = some is → vs = is.map V.int
  | _, [], is, r, e => by
    cases r
    cases e
    rfl
  | _, d :: ds, is, r, e => by
    cases r with
    | cons h r =>
      cases d with
      | int i =>
        simp [D.ints] at e
        obtain ⟨js, e, rfl⟩ := e
        cases h
        rw [RpA.ints r e]
        rfl
      | _ => simp [D.ints] at e
theorem RpA.bools : ∀ {vs : List V} {ds : List D} {is : List Bool}, RpA K B vs ds → D.bools ds = some is → vs = is.map V.bl
  | _, [], is, r, e => by
    cases r
    cases e
    rfl
  | _, d :: ds, is, r, e => by
    cases r with
    | cons h r =>
      cases d with
      | bl i =>
        simp [D.bools] at e
        obtain ⟨js, e, rfl⟩ := e
        cases h
        rw [RpA.bools r e]
        rfl
      | _ => simp [D.bools] at e
theorem RpA.strs : ∀ {vs : List V} {ds : List D} {is : List Str}, RpA K B vs ds → D.strs ds = some is → vs = is.map V.str
  | _, [], is, r, e => by
    cases r
    cases e
    rfl
  | _, d :: ds, is, r, e => by
    cases r with
    | cons h r =>
      cases d with
      | str i =>
        simp [D.strs] at e
        obtain ⟨js, e, rfl⟩ := e
        cases h
        rw [RpA.strs r e]
        rfl
      | _ => simp [D.strs] at e
theorem RpA.of_strs : ∀ ys : List Str, RpA K B (ys.map V.str) (ys.map D.str)
  | [] => .nil
  | y :: ys => .cons (.str y) (RpA.of_strs ys)
end
section
variable {K : PySem.W.Frag} {own : Own} {B H : Hp}
theorem SnA.one {vs : List V} {d : D} (h : SnA K own B H vs [d]) : ∃ v, vs = [v] ∧ Sn K own B H v d := by
  cases h with
  | cons h r =>
    cases r
    exact ⟨_, rfl, h⟩
theorem SnA.two {vs : List V} {d e : D} (h : SnA K own B H vs [d, e]) : ∃ v w, vs = [v, w] ∧ Sn K own B H v d ∧ Sn K own B H w e := by
  cases h with
  | cons h r =>
    cases r with
    | cons h' r =>
      cases r
      exact ⟨_, _, rfl, h, h'⟩
end

/-! ### functions -/
def dLen : List D → Res D
  | [.lst xs] => .ok (.int xs.length)
  | [.tup xs] => .ok (.int xs.length)
  | [.scr xs] => .ok (.int xs.length)
  | [.str y] => if y.length ≤ sizeLine then .ok (.int y.length) else .no
  | _ => .no
def dList : List D → Res (List D)
  | [.lst xs] => .ok xs
  | [.tup xs] => .ok xs
  | [.scr xs] => .ok xs
  | _ => .no
def dTuple : List D → Res D
  | [.lst xs] => .ok (.tup xs)
  | [.tup xs] => .ok (.tup xs)
  | _ => .no
def dInt : List D → Res D
  | [.int i] => .ok (.int i)
  | [.bl b] => .ok (.int (if b then 1 else 0))
  | [.str s] => match PySem.intText? s with
    | some n => if s.length ≤ 640 then .ok (.int n) else .no
    | none => .no
  | _ => .no
def dStrI : List D → Res D
  | [.int i] => if i.natAbs.log2 < 1920 then .ok (.str (toString i)) else .no
  | _ => .no
def dOrd : List D → Res D
  | [.str x] => if x.length = 1 then .ok (.int (x.cps.getD 0 0 : Nat)) else .no
  | _ => .no
def dMax2 : List D → Res D
  | [.int i, .int j] => .ok (.int (if j > i then j else i))
  | _ => .no
def dMin2 : List D → Res D
  | [.int i, .int j] => .ok (.int (if j < i then j else i))
  | _ => .no
def dAll : List D → Res D
  | [.lst xs] => match D.bools xs with
    | some bs => .ok (.bl (bs.all id))
    | none => .no
  | _ => .no
def dAny : List D → Res D
  | [.lst xs] => match D.bools xs with
    | some bs => .ok (.bl (bs.any id))
    | none => .no
  | _ => .no
def dSum : List D → Res D
  | [.lst xs] => match D.ints xs with
    | some bs => .ok (.int bs.sum)
    | none => .no
  | _ => .no
def D.tyN : D → Option String
  | .non => some "NoneType"
  | .bl _ => some "bool"
  | .int _ => some "int"
  | .str _ => some "str"
  | .lst _ => some "list"
  | .scr _ => some "list"
  | .tup _ => some "tuple"
  | _ => none
def dIsi : List D → Res D
  | [x, .ty n] => match x.tyN.bind fun a => kitB a n with
    | some r => .ok (.bl r)
    | none => .no
  | _ => .no
section
variable {X : Cx}
theorem fn_len : ∃ r, CallR X (.builtin "len") r ∧ CallD X r dLen := by
  refine ⟨_, call_len, fun ds e h => ?_, fun F own B H vs ds Q g hx q => ?_⟩
  · unfold dLen at h
    split at h <;> (try split at h) <;> cases h
  · unfold dLen at q
    split at q
    · obtain ⟨v, rfl, hv⟩ := hx.one
      obtain ⟨l, vs, rfl, hl, rv⟩ := hv.lst g
      refine ⟨_, vs.length, rfl, .inl ⟨vs, .inl (.inl hl), rfl⟩, ?_⟩
      rw [rv.len]
      exact q _ _ _ (.refl g) (.int _)
    · obtain ⟨v, rfl, hv⟩ := hx.one
      obtain ⟨l, vs, rfl, hl, rv⟩ := hv.tup
      refine ⟨_, vs.length, rfl, .inr ⟨vs, Ext.seqT g.same hl, rfl⟩, ?_⟩
      rw [rv.len]
      exact q _ _ _ (.refl g) (.int _)
    · obtain ⟨v, rfl, hv⟩ := hx.one
      obtain ⟨l, vs, rfl, hl, rv⟩ := hv.scr
      refine ⟨_, vs.length, rfl, .inl ⟨vs, Same.seq g.same hl, rfl⟩, ?_⟩
      rw [rv.len]
      exact q _ _ _ (.refl g) (.int _)
    · obtain ⟨v, rfl, hv⟩ := hx.one
      cases hv.str
      split at q
      · rename_i hz
        exact ⟨_, _, rfl, ⟨hz, rfl⟩, q _ _ _ (.refl g) (.int _)⟩
      · exact q.elim
    · exact q.elim
theorem fn_list : ∃ r, CallR X (.type "list") r ∧ CallN X r dList := by
  refine ⟨_, call_list_of, fun ds e h => ?_, fun F own B H vs ds Q g hx q => ?_⟩
  · unfold dList at h
    split at h <;> cases h
  · unfold dList at q
    split at q
    · obtain ⟨v, rfl, hv⟩ := hx.one
      obtain ⟨l, vs, rfl, hl, rv⟩ := hv.lst g
      exact ⟨l, vs, rfl, .inl (.inl (.inl hl)), fun n hn => new_lstN g rv q n hn⟩
    · obtain ⟨v, rfl, hv⟩ := hx.one
      obtain ⟨l, vs, rfl, hl, rv⟩ := hv.tup
      exact ⟨l, vs, rfl, .inr (Ext.seqT g.same hl), fun n hn => new_lstN g rv q n hn⟩
    · obtain ⟨v, rfl, hv⟩ := hx.one
      obtain ⟨l, vs, rfl, hl, rv⟩ := hv.scr
      exact ⟨l, vs, rfl, .inl (Same.seq g.same hl), fun n hn => new_lstN g rv q n hn⟩
    · exact q.elim
theorem fn_tuple : ∃ r, CallR X (.type "tuple") r ∧ CallD X r dTuple := by
  refine ⟨_, call_tuple_of, fun ds e h => ?_, fun F own B H vs ds Q g hx q => ?_⟩
  · unfold dTuple at h
    split at h <;> cases h
  · unfold dTuple at q
    split at q
    · obtain ⟨v, rfl, hv⟩ := hx.one
      obtain ⟨l, vs, rfl, hl, rv⟩ := hv.lst g
      exact ⟨l, vs, rfl, .inl ⟨.inl (.inl hl), fun n hn => new_tup g rv q n hn⟩⟩
    · obtain ⟨v, rfl, hv⟩ := hx.one
      obtain ⟨l, vs, rfl, hl, rv⟩ := hv.tup
      exact ⟨l, vs, rfl, .inr ⟨Ext.seqT g.same hl, q _ _ _ (.refl g) (.tup hl rv)⟩⟩
    · exact q.elim
theorem call_or {f : Value} {r r' : List V → Hp → VK → Prop} (h : CallR X f r) (h' : CallR X f r') : CallR X f (fun xs H Q => r xs H Q ∨ r' xs H Q) := by
  intro pins s σ H xs us Q I rr q
  rcases q with q | q
  · exact h pins s σ H xs us Q I rr q
  · exact h' pins s σ H xs us Q I rr q
theorem fn_int : ∃ r, CallR X (.type "int") r ∧ CallD X r dInt := by
  refine ⟨_, call_or call_int1 call_int_str, fun ds e h => ?_, fun F own B H vs ds Q g hx q => ?_⟩
  · unfold dInt at h
    split at h
    · cases h
    · cases h
    · split at h
      · split at h <;> cases h
      · cases h
    · cases h
  · unfold dInt at q
    split at q
    · obtain ⟨v, rfl, hv⟩ := hx.one
      cases hv.int
      exact .inl (.inl ⟨_, rfl, q _ _ _ (.refl g) (.int _)⟩)
    · obtain ⟨v, rfl, hv⟩ := hx.one
      cases hv.bl
      exact .inl (.inr ⟨_, rfl, q _ _ _ (.refl g) (.int _)⟩)
    · obtain ⟨v, rfl, hv⟩ := hx.one
      split at q
      · rename_i n hn
        split at q
        · rename_i hz
          cases hv.frz (fun ds z => nomatch z)
          exact .inr ⟨_, n, rfl, hn, hz, q _ _ _ (.refl g) (.int _)⟩
        · exact q.elim
      · exact q.elim
    · exact q.elim
theorem fn_strI : ∃ r, CallR X (.type "str") r ∧ CallD X r dStrI := by
  refine ⟨_, call_str_int, fun ds e h => ?_, fun F own B H vs ds Q g hx q => ?_⟩
  · unfold dStrI at h
    split at h <;> (try split at h) <;> cases h
  · unfold dStrI at q
    split at q
    · obtain ⟨v, rfl, hv⟩ := hx.one
      cases hv.int
      split at q
      · rename_i hz
        exact ⟨_, rfl, hz, q _ _ _ (.refl g) (.str _)⟩
      · exact q.elim
    · exact q.elim
theorem fn_ord : ∃ r, CallR X (.builtin "ord") r ∧ CallD X r dOrd := by
  refine ⟨_, call_ord, fun ds e h => ?_, fun F own B H vs ds Q g hx q => ?_⟩
  · unfold dOrd at h
    split at h <;> (try split at h) <;> cases h
  · unfold dOrd at q
    split at q
    · obtain ⟨v, rfl, hv⟩ := hx.one
      cases hv.str
      split at q
      · rename_i hz
        exact ⟨_, rfl, hz, q _ _ _ (.refl g) (.int _)⟩
      · exact q.elim
    · exact q.elim
theorem fn_max2 (hc : X.calm = true) : ∃ r, CallR X (.builtin "max") r ∧ CallD X r dMax2 := by
  refine ⟨_, call_max2 hc, fun ds e h => ?_, fun F own B H vs ds Q g hx q => ?_⟩
  · unfold dMax2 at h
    split at h <;> cases h
  · unfold dMax2 at q
    split at q
    · obtain ⟨v, w, rfl, hv, hw⟩ := hx.two
      cases hv.int
      cases hw.int
      exact ⟨_, _, rfl, q _ _ _ (.refl g) (.int _)⟩
    · exact q.elim
theorem fn_min2 (hc : X.calm = true) : ∃ r, CallR X (.builtin "min") r ∧ CallD X r dMin2 := by
  refine ⟨_, call_min2 hc, fun ds e h => ?_, fun F own B H vs ds Q g hx q => ?_⟩
  · unfold dMin2 at h
    split at h <;> cases h
  · unfold dMin2 at q
    split at q
    · obtain ⟨v, w, rfl, hv, hw⟩ := hx.two
      cases hv.int
      cases hw.int
      exact ⟨_, _, rfl, q _ _ _ (.refl g) (.int _)⟩
    · exact q.elim
theorem fn_all (hc : X.calm = true) : ∃ r, CallR X (.builtin "all") r ∧ CallD X r dAll := by
  refine ⟨_, cr_all hc, fun ds e h => ?_, fun F own B H vs ds Q g hx q => ?_⟩
  · unfold dAll at h
    split at h <;> (try split at h) <;> cases h
  · unfold dAll at q
    split at q
    · obtain ⟨v, rfl, hv⟩ := hx.one
      obtain ⟨l, vs, rfl, hl, rv⟩ := hv.lst g
      split at q
      · rename_i bs hb
        have e := rv.bools hb
        subst e
        exact ⟨l, bs, rfl, .inl (.inl hl), q _ _ _ (.refl g) (.bl _)⟩
      · exact q.elim
    · exact q.elim
theorem fn_any (hc : X.calm = true) : ∃ r, CallR X (.builtin "any") r ∧ CallD X r dAny := by
  refine ⟨_, cr_any hc, fun ds e h => ?_, fun F own B H vs ds Q g hx q => ?_⟩
  · unfold dAny at h
    split at h <;> (try split at h) <;> cases h
  · unfold dAny at q
    split at q
    · obtain ⟨v, rfl, hv⟩ := hx.one
      obtain ⟨l, vs, rfl, hl, rv⟩ := hv.lst g
      split at q
      · rename_i bs hb
        have e := rv.bools hb
        subst e
        exact ⟨l, bs, rfl, .inl (.inl hl), q _ _ _ (.refl g) (.bl _)⟩
      · exact q.elim
    · exact q.elim
theorem fn_sum (hc : X.calm = true) : ∃ r, CallR X (.builtin "sum") r ∧ CallD X r dSum := by
  refine ⟨_, cr_sum hc, fun ds e h => ?_, fun F own B H vs ds Q g hx q => ?_⟩
  · unfold dSum at h
    split at h <;> (try split at h) <;> cases h
  · unfold dSum at q
    split at q
    · obtain ⟨v, rfl, hv⟩ := hx.one
      obtain ⟨l, vs, rfl, hl, rv⟩ := hv.lst g
      split at q
      · rename_i bs hb
        have e := rv.ints hb
        subst e
        exact ⟨l, bs, rfl, .inl (.inl hl), q _ _ _ (.refl g) (.int _)⟩
      · exact q.elim
    · exact q.elim
theorem SqT.tyx {K : PySem.W.Frag} {H : Hp} {a : Addr} {xs : List V} (h : SqT K H a xs) : TyX K H (.ref a) (.type "tuple") := by
  rcases h with (h | ⟨o, h⟩) | ⟨o, _, _, h1, h2, _⟩
  · exact .base (.tup h)
  · exact .fTuple h
  · exact .kTuple h1 h2
theorem SqL.tyx {K : PySem.W.Frag} {H : Hp} {a : Addr} {xs : List V} (h : SqL K H a xs) : TyX K H (.ref a) (.type "list") := by
  rcases h with (h | ⟨o, h⟩) | ⟨o, _, _, h1, h2, _⟩
  · exact .base (.lst h)
  · exact .base (.frz h)
  · exact .kList h1 h2
theorem Sn.tyx {K : PySem.W.Frag} {F : Hp} {own : Own} {B H : Hp} {v : V} {d : D} {n : String} (h : Sn K own B H v d) (g : Ground F own B H) (e : d.tyN = some n) : TyX K H v (.type n) := by
  cases d with
  | non =>
    cases h.non
    cases e
    exact .base .non
  | bl b =>
    cases h.bl
    cases e
    exact .base (.bl _)
  | int b =>
    cases h.int
    cases e
    exact .base (.int _)
  | str b =>
    cases h.str
    cases e
    exact .base (.str _)
  | lst xs =>
    obtain ⟨l, vs, rfl, hl, rv⟩ := h.lst g
    cases e
    exact .base (.lst hl)
  | scr xs =>
    obtain ⟨l, vs, rfl, hl, rv⟩ := h.scr
    cases e
    exact SqL.tyx (Same.seq g.same hl)
  | tup xs =>
    obtain ⟨l, vs, rfl, hl, rv⟩ := h.tup
    cases e
    exact SqT.tyx (Ext.seqT g.same hl)
  | _ => cases e
theorem fn_isi : ∃ r, CallR X (.builtin "isinstance") r ∧ CallD X r dIsi := by
  refine ⟨_, call_isi, fun ds e h => ?_, fun F own B H vs ds Q g hx q => ?_⟩
  · unfold dIsi at h
    split at h <;> (try split at h) <;> cases h
  · unfold dIsi at q
    split at q
    · obtain ⟨v, w, rfl, hv, hw⟩ := hx.two
      cases hw.ty
      split at q
      · rename_i r hr
        obtain ⟨a, h1, h2⟩ := Option.bind_eq_some_iff.mp hr
        exact ⟨_, _, _, _, r, rfl, .ty _, hv.tyx g h1, kit_ty h2, q _ _ _ (.refl g) (.bl _)⟩
      · exact q.elim
    · exact q.elim
end
/-- a built-in class as a value -/
theorem ej_ty {X : Cx} {W : WX} {G : List Mode} {x : Str} {n : String} {pos : Pos} (hg : Gl X x) (hm : X.mg x = none) (hv : bootBuiltins x = some (.type n)) (hn : x ≠ "__name__" := by decide) (hd : (x == ("__debug__" : Str)) = false := by decide) : EJ X W G (.Name x pos) (conD (.ty n)) :=
  ⟨_, pe_bltn (v := .ty n) hg hm hv rfl hn hd, ev_c fun _ _ => .ty n⟩
/-- a constant of the module -/
theorem ej_glob {X : Cx} {W : WX} {G : List Mode} {x : Str} {v : V} {u : Value} {d : D} {pos : Pos} (hg : Gl X x) (hm : X.mg x = some u) (r : RelV v u) (h : ∀ B, Rp X.K B v d) (hd : (x == ("__debug__" : Str)) = false := by decide) : EJ X W G (.Name x pos) (conD d) :=
  ⟨_, pe_glob hg hm r hd, fun F ρ own B σ H Q gd q => q v B H (.refl gd.gr) (h B)⟩

/-! ### methods of built-in types -/
def D.isTy : String → D → Bool
  | "str", .str _ => true
  | "list", .lst _ => true
  | _, _ => false
def MethD (X : Cx) (r : V → List V → Hp → VK → Prop) (f : D → List D → Res D) : Prop :=
  (∀ d ds e, f d ds ≠ .ex e) ∧ ∀ (F : Hp) (own : Own) (B H : Hp) (v : V) (d : D) (vs : List V) (ds : List D) (Q : VK), Ground F own B H → Sn X.K own B H v d → SnA X.K own B H vs ds →
    (f d ds).has (fun d => ∀ (v : V) (B' H' : Hp), Step own F B H B' H' → Rp X.K B' v d → Q v H') (fun _ => False) → r v vs H Q
def MethN (X : Cx) (r : V → List V → Hp → VK → Prop) (f : D → List D → Res (List D)) : Prop :=
  (∀ d ds e, f d ds ≠ .ex e) ∧ ∀ (F : Hp) (own : Own) (B H : Hp) (v : V) (d : D) (vs : List V) (ds : List D) (Q : VK), Ground F own B H → Sn X.K own B H v d → SnA X.K own B H vs ds →
    (f d ds).has (fun d => ∀ (p : Addr) (vs : List V) (B' H' : Hp), Step own F B H B' H' → B' p = none → F p = none → own p = none → H' p = some (.lst vs) → RpA X.K B' vs d → Q (.ref p) H') (fun _ => False) → r v vs H Q
def methV {α : Type} (n : String) (f : D → List D → Res α) (go : Rho → Res D) (g : Rho → Res (List D)) : Rho → Res α := fun ρ => (go ρ).bind fun d => if d.isTy n = true then (g ρ).bind fun ds => f d ds else .no
theorem isTy_tyV {K : PySem.W.Frag} {F : Hp} {own : Own} {B H : Hp} {v : V} {d : D} {n : String} (h : Sn K own B H v d) (g : Ground F own B H) (e : d.isTy n = true) : tyV K n v H := by
  unfold D.isTy at e
  split at e
  · cases h.str
    rfl
  · obtain ⟨l, vs, rfl, hl, rv⟩ := h.lst g
    exact .inl ⟨rfl, vs, .inl (.inl hl)⟩
  · cases e
section
variable {X : Cx} {W : WX} {G : List Mode} {e o : Expr} {es : List Expr} {name : Str} {apos cpos : Pos} {n id : String}
theorem ej_M {f : D → List D → Res D} {go : Rho → Res D} {g : Rho → Res (List D)} (pa : PlainAttrs n) (slot : Slot n name id) (hty : typeOf (.builtin id) = pure (.type "method_descriptor")) (hm : ∃ r, MtR X id r ∧ MethD X r f) (ho : BJ X W G o go) (ha : BAJ X W G (e :: es) g)
    (hbase : attributeBase o name X.env (eval o X.env) = eval o X.env := by rfl)
    (hfew : ((backTo cpos (starEach (e :: es) X.env)).all (fun x => !x.1) && (backToKw cpos (keywordEach [] X.env)).all (fun x => x.1.isSome)
      && decide ((e :: es).length + ([] : List Keyword).length + (if ([] : List Keyword).isEmpty then 0 else 1) < 30)) = true := by rfl)
    (hline : (apos.endLine == cpos.line) = true := by rfl) (hs : starEach (e :: es) X.env = (false, eval e X.env) :: starEach es X.env := by rfl) (hplain : (backTo cpos (starEach es X.env)).any (·.1) = false := by rfl) :
    EJ X W G (.Call (.Attribute o name apos) (e :: es) [] cpos) (methV n f go g) := by
  obtain ⟨r, h1, h2⟩ := hm
  obtain ⟨to, po, vo⟩ := ho
  obtain ⟨ta, pa', va⟩ := ha
  refine ⟨_, pe_bm pa slot hty h1 po pa' hbase hfew hline hs hplain, fun F ρ own B σ H Q gd q => ?_⟩
  refine vo F ρ own B σ H _ gd (Res.has_mono (Res.has_bind q) (fun d q v B1 H1 s1 r1 => ?_) fun _ x => x)
  split at q
  · rename_i hty
    refine ⟨isTy_tyV r1 (gd.gr.step s1) hty, ?_⟩
    refine va F ρ own B1 σ H1 _ (gd.step s1) (Res.has_mono (Res.has_bind q) (fun ds q vs B2 H2 s2 r2 => ?_) fun _ x => x.step s1)
    exact h2.2 F own B2 H2 v d vs ds Q ((gd.gr.step s1).step s2) (r1.step s2) r2 (Res.has_calm (h2.1 d ds) q fun d q v B3 H3 s3 => q v B3 H3 ((s1.trans s2).trans s3))
  · exact q.elim
theorem nj_M {f : D → List D → Res (List D)} {go : Rho → Res D} {g : Rho → Res (List D)} (pa : PlainAttrs n) (slot : Slot n name id) (hty : typeOf (.builtin id) = pure (.type "method_descriptor")) (hm : ∃ r, MtR X id r ∧ MethN X r f) (ho : BJ X W G o go) (ha : BAJ X W G (e :: es) g)
    (hbase : attributeBase o name X.env (eval o X.env) = eval o X.env := by rfl)
    (hfew : ((backTo cpos (starEach (e :: es) X.env)).all (fun x => !x.1) && (backToKw cpos (keywordEach [] X.env)).all (fun x => x.1.isSome)
      && decide ((e :: es).length + ([] : List Keyword).length + (if ([] : List Keyword).isEmpty then 0 else 1) < 30)) = true := by rfl)
    (hline : (apos.endLine == cpos.line) = true := by rfl) (hs : starEach (e :: es) X.env = (false, eval e X.env) :: starEach es X.env := by rfl) (hplain : (backTo cpos (starEach es X.env)).any (·.1) = false := by rfl) :
    NJ X W G (.Call (.Attribute o name apos) (e :: es) [] cpos) (methV n f go g) := by
  obtain ⟨r, h1, h2⟩ := hm
  obtain ⟨to, po, vo⟩ := ho
  obtain ⟨ta, pa', va⟩ := ha
  refine ⟨_, pe_bm pa slot hty h1 po pa' hbase hfew hline hs hplain, fun F ρ own B σ H Q gd q => ?_⟩
  refine vo F ρ own B σ H _ gd (Res.has_mono (Res.has_bind q) (fun d q v B1 H1 s1 r1 => ?_) fun _ x => x)
  split at q
  · rename_i hty
    refine ⟨isTy_tyV r1 (gd.gr.step s1) hty, ?_⟩
    refine va F ρ own B1 σ H1 _ (gd.step s1) (Res.has_mono (Res.has_bind q) (fun ds q vs B2 H2 s2 r2 => ?_) fun _ x => x.step s1)
    exact h2.2 F own B2 H2 v d vs ds Q ((gd.gr.step s1).step s2) (r1.step s2) r2 (Res.has_calm (h2.1 d ds) q fun d q p vs B3 H3 s3 => q p vs B3 H3 ((s1.trans s2).trans s3))
  · exact q.elim
end
def dJoin : D → List D → Res D
  | .str a, [.lst xs] => match D.strs xs with
    | some ys => if (ys.map (·.length)).sum + ys.length * a.length ≤ 16777216 then .ok (.str (Txt.join a ys)) else .no
    | none => .no
  | _, _ => .no
def dSplit : D → List D → Res (List D)
  | .str a, [.str b] => if (b.length == 0) = false ∧ a.length + 2 ≤ sizeLine then .ok ((Txt.split a b).map D.str) else .no
  | _, _ => .no
def dIndexS : D → List D → Res D
  | .str a, [.str b] => match Builtin.Str.occurrences a b 0 a.length 1 with
    | i :: _ => .ok (.int (i : Nat))
    | [] => .no
  | _, _ => .no
def dStarts : D → List D → Res D
  | .str a, [.str b] => .ok (.bl (Txt.startswith a b))
  | _, _ => .no
section
variable {X : Cx}
theorem mth_join : ∃ r, MtR X "str.join" r ∧ MethD X r dJoin := by
  refine ⟨_, mt_join, fun d ds e h => ?_, fun F own B H v d vs ds Q g hv hx q => ?_⟩
  · unfold dJoin at h
    split at h <;> (try split at h) <;> (try split at h) <;> cases h
  · unfold dJoin at q
    split at q
    · cases hv.str
      obtain ⟨v, rfl, hv⟩ := hx.one
      obtain ⟨l, vs, rfl, hl, rv⟩ := hv.lst g
      split at q
      · rename_i ys hy
        split at q
        · rename_i hz
          have e := rv.strs hy
          subst e
          exact ⟨_, l, ys, rfl, rfl, .inl (.inl (.inl hl)), hz, q _ _ _ (.refl g) (.str _)⟩
        · exact q.elim
      · exact q.elim
    · exact q.elim
theorem mth_split : ∃ r, MtR X "str.split" r ∧ MethN X r dSplit := by
  refine ⟨_, mt_split, fun d ds e h => ?_, fun F own B H v d vs ds Q g hv hx q => ?_⟩
  · unfold dSplit at h
    split at h <;> (try split at h) <;> cases h
  · unfold dSplit at q
    split at q
    · cases hv.str
      obtain ⟨v, rfl, hv⟩ := hx.one
      cases hv.str
      split at q
      · rename_i hz
        exact ⟨_, _, rfl, rfl, hz.1, hz.2, fun n hn => new_lstN g (RpA.of_strs _) q n hn⟩
      · exact q.elim
    · exact q.elim
theorem mth_indexS : ∃ r, MtR X "str.index" r ∧ MethD X r dIndexS := by
  refine ⟨_, mt_sindex, fun d ds e h => ?_, fun F own B H v d vs ds Q g hv hx q => ?_⟩
  · unfold dIndexS at h
    split at h <;> (try split at h) <;> cases h
  · unfold dIndexS at q
    split at q
    · cases hv.str
      obtain ⟨v, rfl, hv⟩ := hx.one
      cases hv.str
      split at q
      · rename_i i r hi
        exact ⟨_, _, i, r, rfl, rfl, hi, q _ _ _ (.refl g) (.int _)⟩
      · exact q.elim
    · exact q.elim
theorem mth_starts : ∃ r, MtR X "str.startswith" r ∧ MethD X r dStarts := by
  refine ⟨_, mt_startswith, fun d ds e h => ?_, fun F own B H v d vs ds Q g hv hx q => ?_⟩
  · unfold dStarts at h
    split at h <;> cases h
  · unfold dStarts at q
    split at q
    · cases hv.str
      obtain ⟨v, rfl, hv⟩ := hx.one
      cases hv.str
      exact ⟨_, _, rfl, rfl, q _ _ _ (.refl g) (.bl _)⟩
    · exact q.elim
end

/-! ### what a loop walks: frozen items -/
def IterF (K : PySem.W.Frag) (F : Hp) (J : It) (items : List D) (B0 : Hp) : Prop :=
  ∀ (own : Own) (B H : Hp), Ext B0 B → Ground F own B H → ∀ i, (i = items.length → J.stop i H) ∧ (∀ d, items[i]? = some d → J.go i H ∧ ∀ x H', J.yld i H x H' → ∃ B', Step own F B H B' H' ∧ Rp K B' x d)
/-- .. while what is owned stays -/
def IterB (K : PySem.W.Frag) (F : Hp) (J : It) (items : List D) (own0 : Own) (B0 H0 : Hp) : Prop :=
  ∀ (own : Own) (B H : Hp), Ext B0 B → (∀ a, own0 a ≠ none → own a ≠ none ∧ H a = H0 a) → Ground F own B H → ∀ i, (i = items.length → J.stop i H) ∧ (∀ d, items[i]? = some d → J.go i H ∧ ∀ x H', J.yld i H x H' → ∃ B', Step own F B H B' H' ∧ Rp K B' x d)
theorem IterF.b {K : PySem.W.Frag} {F : Hp} {J : It} {items : List D} {own0 : Own} {B0 H0 : Hp} (h : IterF K F J items B0) : IterB K F J items own0 B0 H0 := fun own B H e _ g => h own B H e g
def EvI (X : Cx) (W : WX) (G : List Mode) (wi : TI) (g : Rho → Res (List D)) : Prop :=
  ∀ (F : Hp) (ρ : Rho) (own : Own) (B : Hp) (σ : L2.St) (H : Hp) (R : It → Hp → Prop), Good X.K F G ρ own B σ H →
    (g ρ).has (fun items => ∀ (J : It) (B' H' : Hp), Step own F B H B' H' → IterF X.K F J items B' → R J H') (WOk X.K X.mg W own F B H σ) → wi σ H R
def EvIB (X : Cx) (W : WX) (G : List Mode) (wi : TI) (g : Rho → Res (List D)) : Prop :=
  ∀ (F : Hp) (ρ : Rho) (own : Own) (B : Hp) (σ : L2.St) (H : Hp) (R : It → Hp → Prop), Good X.K F G ρ own B σ H →
    (g ρ).has (fun items => ∀ (J : It) (B' H' : Hp), Step own F B H B' H' → IterB X.K F J items own B' H' → R J H') (WOk X.K X.mg W own F B H σ) → wi σ H R
def IJ (X : Cx) (W : WX) (G : List Mode) (tg e : Expr) (g : Rho → Res (List D)) : Prop := ∃ wi, PI X tg e wi ∧ EvI X W G wi g
def IBJ (X : Cx) (W : WX) (G : List Mode) (tg e : Expr) (g : Rho → Res (List D)) : Prop := ∃ wi, PI X tg e wi ∧ EvIB X W G wi g
theorem IJ.b {X : Cx} {W : WX} {G : List Mode} {tg e : Expr} {g : Rho → Res (List D)} (h : IJ X W G tg e g) : IBJ X W G tg e g :=
  let ⟨wi, p, v⟩ := h; ⟨wi, p, fun F ρ own B σ H R gd q => v F ρ own B σ H R gd (Res.has_mono q (fun _ q J B' H' s i => q J B' H' s i.b) fun _ x => x)⟩
theorem pi_or2 {X : Cx} {tg e : Expr} {t t' : TI} (h : PI X tg e t) (h' : PI X tg e t') : PI X tg e (fun σ H Q => t σ H Q ∨ t' σ H Q) := ⟨fun pins s σ H Q I q => by
  rcases q with q | q
  · exact h.run pins s σ H Q I q
  · exact h'.run pins s σ H Q I q⟩
def dItems : D → Res (List D)
  | .lst xs => .ok xs
  | .tup xs => .ok xs
  | .scr xs => .ok xs
  | .str z => .ok (z.cps.toList.map fun c => .str ⟨#[c]⟩)
  | _ => .no
theorem iter_lst {K : PySem.W.Frag} {F : Hp} {a : Addr} {vs : List V} {ds : List D} {own0 : Own} {B0 H0 : Hp} (g0 : Ground F own0 B0 H0) (hl : H0 a = some (.lst vs)) (hb : B0 a = some (.lst vs) ∨ own0 a ≠ none) (r : RpA K B0 vs ds) : IterB K F (Itl K a) ds own0 B0 H0 := fun own B H e o g i => by
  have hH : H a = some (.lst vs) := by
    rcases hb with hb | hb
    · exact (g.base a _ (e a _ hb)).1
    · rw [(o a hb).2]
      exact hl
  have sq : SqL K H a vs := .inl (.inl hH)
  refine ⟨fun h => ⟨vs, sq, by rw [r.len]; omega⟩, fun d hd => ?_⟩
  obtain ⟨v, h1, h2⟩ := r.get hd
  refine ⟨⟨vs, v, sq, h1⟩, fun x H' y => ?_⟩
  obtain ⟨rfl, y⟩ := y
  have ev := y vs sq
  rw [h1] at ev
  cases ev
  exact ⟨B, .refl g, h2.mono e⟩
theorem iter_scr {K : PySem.W.Frag} {F : Hp} {a : Addr} {vs : List V} {ds : List D} {B0 : Hp} (sq0 : SqL K B0 a vs) (r : RpA K B0 vs ds) : IterF K F (Itl K a) ds B0 := fun own B H e g i => by
  have sq : SqL K H a vs := Same.seq (Same.trans e g.same) sq0
  refine ⟨fun h => ⟨vs, sq, by rw [r.len]; omega⟩, fun d hd => ?_⟩
  obtain ⟨v, h1, h2⟩ := r.get hd
  refine ⟨⟨vs, v, sq, h1⟩, fun x H' y => ?_⟩
  obtain ⟨rfl, y⟩ := y
  have ev := y vs sq
  rw [h1] at ev
  cases ev
  exact ⟨B, .refl g, h2.mono e⟩
theorem iter_tup {K : PySem.W.Frag} {F : Hp} {a : Addr} {vs : List V} {ds : List D} {B0 : Hp} (sq0 : SqT K B0 a vs) (r : RpA K B0 vs ds) : IterF K F (Itt K a) ds B0 := fun own B H e g i => by
  have sq : SqT K H a vs := Ext.seqT (Same.trans e g.same) sq0
  refine ⟨fun h => ⟨vs, sq, by rw [r.len]; omega⟩, fun d hd => ?_⟩
  obtain ⟨v, h1, h2⟩ := r.get hd
  refine ⟨⟨vs, v, sq, h1⟩, fun x H' y => ?_⟩
  obtain ⟨rfl, y⟩ := y
  have ev := y vs sq
  rw [h1] at ev
  cases ev
  exact ⟨B, .refl g, h2.mono e⟩
theorem iter_str {K : PySem.W.Frag} {F : Hp} {z : Str} {B0 : Hp} : IterF K F (Its z) (z.cps.toList.map fun c => .str ⟨#[c]⟩) B0 := fun own B H e g i => by
  refine ⟨fun h => ?_, fun d hd => ?_⟩
  · show z.cps.size ≤ i
    rw [h]
    simp
  · simp only [List.getElem?_map, Option.map_eq_some_iff] at hd
    obtain ⟨c, h1, rfl⟩ := hd
    have h1' : z.cps[i]? = some c := by
      rw [← Array.getElem?_toList]
      exact h1
    refine ⟨?_, fun x H' y => ?_⟩
    · show i < z.cps.size
      exact (Array.getElem?_eq_some_iff.mp h1').1
    · obtain ⟨rfl, c', h2, rfl⟩ := y
      rw [h1'] at h2
      cases h2
      exact ⟨B, .refl g, .str _⟩
section
variable {X : Cx} {W : WX} {G : List Mode} {tg e a b c : Expr} {p pos : Pos}
theorem ij_seq {g : Rho → Res D} (h : EJ X W G e g) : IJ X W G tg e (fun ρ => (g ρ).bind dItems) := by
  obtain ⟨t, pe, ve⟩ := h
  refine ⟨_, pi_or2 (pi_list pe) (pi_or2 (pi_tup pe) (pi_str pe)), fun F ρ own B σ H R gd q => ?_⟩
  have q0 := Res.has_bind q
  cases hg : g ρ with
  | no =>
    rw [hg] at q0
    exact q0.elim
  | ex x =>
    rw [hg] at q0
    refine .inl (ve F ρ own B σ H _ gd ?_)
    rw [hg]
    exact q0
  | ok d =>
    rw [hg] at q0
    have q1 : (dItems d).has _ _ := q0
    cases d with
    | lst xs =>
      refine .inl (ve F ρ own B σ H _ gd ?_)
      rw [hg]
      intro v B' H' s r
      cases r with
      | lst hl rv => exact ⟨_, rfl, ⟨_, .inl (.inl ((gd.gr.step s).base _ _ hl).1)⟩, q1 _ B' H' s (iter_scr (.inl (.inl hl)) rv)⟩
    | scr xs =>
      refine .inl (ve F ρ own B σ H _ gd ?_)
      rw [hg]
      intro v B' H' s r
      cases r with
      | scr hl rv => exact ⟨_, rfl, ⟨_, Same.seq (gd.gr.step s).same hl⟩, q1 _ B' H' s (iter_scr hl rv)⟩
    | tup xs =>
      refine .inr (.inl (ve F ρ own B σ H _ gd ?_))
      rw [hg]
      intro v B' H' s r
      cases r with
      | tup hl rv => exact ⟨_, rfl, ⟨_, Ext.seqT (gd.gr.step s).same hl⟩, q1 _ B' H' s (iter_tup hl rv)⟩
    | str z =>
      refine .inr (.inr (ve F ρ own B σ H _ gd ?_))
      rw [hg]
      intro v B' H' s r
      cases r
      exact ⟨z, rfl, q1 _ B' H' s iter_str⟩
    | _ => exact q1.elim
/-- over an owned list -/
theorem ibj_own {g : Rho → Res D} (h : BJ X W G e g) : IBJ X W G tg e (fun ρ => (g ρ).bind fun d => match d with
    | .lst xs => .ok xs
    | _ => .no) := by
  obtain ⟨t, pe, ve⟩ := h
  refine ⟨_, pi_list pe, fun F ρ own B σ H R gd q => ?_⟩
  refine ve F ρ own B σ H _ gd (Res.has_mono (Res.has_bind q) (fun d q v B' H' s r => ?_) fun _ x => x)
  cases d with
  | lst xs =>
    have g' := gd.gr.step s
    rcases r with r | ⟨l, vs, ds, e1, e2, h1, h2, h3⟩
    · cases r with
      | lst hl rv => exact ⟨_, rfl, ⟨_, .inl (.inl (g'.base _ _ hl).1)⟩, q _ B' H' s (iter_scr (.inl (.inl hl)) rv).b⟩
    · cases e2
      subst e1
      exact ⟨l, rfl, ⟨vs, .inl (.inl h2)⟩, q _ B' H' s (iter_lst g' h2 (.inr h1) h3)⟩
  | _ => exact q.elim
def upFrom (lo : Int) (n : Nat) : List D := (List.range n).map fun i => .int (lo + (i : Nat))
theorem iter_rng {K : PySem.W.Frag} {F : Hp} {lo : Int} {n : Nat} {B0 : Hp} : IterF K F (Itr lo n) (upFrom lo n) B0 := fun own B H e g i => by
  refine ⟨fun h => ?_, fun d hd => ?_⟩
  · show n ≤ i
    rw [h]
    simp [upFrom]
  · simp only [upFrom, List.getElem?_map, Option.map_eq_some_iff] at hd
    obtain ⟨j, h1, rfl⟩ := hd
    obtain ⟨h2, h3⟩ := List.getElem?_eq_some_iff.mp h1
    simp at h3 h2
    subst h3
    refine ⟨h2, fun x H' y => ?_⟩
    obtain ⟨rfl, rfl⟩ := y
    exact ⟨B, .refl g, .int _⟩
def dRng1 : List D → Res (List D)
  | [.int j] => if -(2 ^ 62) ≤ j ∧ j < 2 ^ 62 then .ok (upFrom 0 j.toNat) else .no
  | _ => .no
def dRng2 : List D → Res (List D)
  | [.int i, .int j] => if -(2 ^ 62) ≤ i ∧ i < 2 ^ 62 ∧ -(2 ^ 62) ≤ j ∧ j < 2 ^ 62 then .ok (upFrom i (j - i).toNat) else .no
  | _ => .no
theorem ij_range1 {g : Rho → Res (List D)} (hg : Gl X "range") (hm : X.mg "range" = none) (ha : AJ X W G [a] g) (hs : starEach [a] X.env = [(false, eval a X.env)] := by rfl) :
    IJ X W G tg (.Call (.Name "range" p) [a] [] pos) (callV dRng1 g) := by
  obtain ⟨t, pe, ve⟩ := ha
  refine ⟨_, pi_range1 hg hm pe hs, fun F ρ own B σ H R gd q => ?_⟩
  refine ve F ρ own B σ H _ gd (Res.has_mono (Res.has_bind q) (fun ds q vs B' H' s r => ?_) fun _ x => x)
  unfold dRng1 at q
  split at q
  · split at q
    · rename_i hz
      cases r with
      | cons r1 r2 =>
        cases r1
        cases r2
        exact ⟨_, rfl, hz.1, hz.2, q _ B' H' s iter_rng⟩
    · exact q.elim
  · exact q.elim
theorem ij_range2 {g : Rho → Res (List D)} (hg : Gl X "range") (hm : X.mg "range" = none) (ha : AJ X W G [a, b] g) (hs : starEach [a, b] X.env = [(false, eval a X.env), (false, eval b X.env)] := by rfl) (hs2 : starEach [b] X.env = [(false, eval b X.env)] := by rfl) :
    IJ X W G tg (.Call (.Name "range" p) [a, b] [] pos) (callV dRng2 g) := by
  obtain ⟨t, pe, ve⟩ := ha
  refine ⟨_, pi_range2 hg hm pe hs hs2, fun F ρ own B σ H R gd q => ?_⟩
  refine ve F ρ own B σ H _ gd (Res.has_mono (Res.has_bind q) (fun ds q vs B' H' s r => ?_) fun _ x => x)
  unfold dRng2 at q
  split at q
  · split at q
    · rename_i hz
      cases r with
      | cons r1 r2 =>
        cases r1
        cases r2 with
        | cons r2 r3 =>
          cases r2
          cases r3
          exact ⟨_, _, rfl, hz, q _ B' H' s iter_rng⟩
    · exact q.elim
  · exact q.elim
/-- range(a, b, -1) -/
def downFrom (hi : Int) (n : Nat) : List D := (List.range n).map fun i => .int (hi + (i : Nat) * (-1))
theorem iter_rngC {K : PySem.W.Frag} {F : Hp} {lo : Int} {n : Nat} {B0 : Hp} : IterF K F (Itc lo (-1) n) (downFrom lo n) B0 := fun own B H e g i => by
  refine ⟨fun h => ?_, fun d hd => ?_⟩
  · show n ≤ i
    rw [h]
    simp [downFrom]
  · simp only [downFrom, List.getElem?_map, Option.map_eq_some_iff] at hd
    obtain ⟨j, h1, rfl⟩ := hd
    obtain ⟨h2, h3⟩ := List.getElem?_eq_some_iff.mp h1
    simp at h3 h2
    subst h3
    refine ⟨h2, fun x H' y => ?_⟩
    obtain ⟨rfl, rfl⟩ := y
    exact ⟨B, .refl g, .int _⟩
def dRngD : List D → Res (List D)
  | [.int i, .int j, .int (-1)] => if -(2 ^ 62) ≤ i ∧ i < 2 ^ 62 ∧ -(2 ^ 62) ≤ j ∧ j < 2 ^ 62 then .ok (downFrom i (i - j).toNat) else .no
  | _ => .no
theorem ij_rangeD {g : Rho → Res (List D)} (hg : Gl X "range") (hm : X.mg "range" = none) (ha : AJ X W G [a, b, c] g)
    (hs : starEach [a, b, c] X.env = (false, eval a X.env) :: starEach [b, c] X.env := by rfl) (hpl : (backTo pos (starEach [b, c] X.env)).any (·.1) = false := by rfl) :
    IJ X W G tg (.Call (.Name "range" p) [a, b, c] [] pos) (callV dRngD g) := by
  obtain ⟨t, pe, ve⟩ := ha
  refine ⟨_, pi_range3 hg hm pe hs hpl, fun F ρ own B σ H R gd q => ?_⟩
  refine ve F ρ own B σ H _ gd (Res.has_mono (Res.has_bind q) (fun ds q vs B' H' s r => ?_) fun _ x => x)
  unfold dRngD at q
  split at q
  · rename_i i j
    split at q
    · rename_i hz
      cases r with
      | cons r1 r2 =>
        cases r1
        cases r2 with
        | cons r2 r3 =>
          cases r2
          cases r3 with
          | cons r3 r4 =>
            cases r3
            cases r4
            exact ⟨_, _, _, _, rfl, RgC.neg hz.1 hz.2.1 hz.2.2.1 hz.2.2.2, q _ B' H' s iter_rngC⟩
    · exact q.elim
  · exact q.elim
end
end T

set_option Elab.async false
set_option linter.all false
set_option maxRecDepth 100000
set_option maxHeartbeats 4000000
/-! T-layer, part E: setting slots, targets, comprehensions. -/
namespace T
open PySem PySem.Spec PyProof.Rows L2

/-! ### the slots set -/
/-- what label n owned is let go -/
def dropL (own : Own) (n : Nat) : Own := fun a => match own a with
  | some (m :: r) => if m = n then none else some (m :: r)
  | o => o
theorem dropL_some {own : Own} {n : Nat} {a : Addr} {l : Lab} (h : dropL own n a = some l) : own a = some l := by
  unfold dropL at h
  split at h
  · split at h
    · cases h
    · rename_i e _
      rw [e]
      exact h
  · exact h
theorem dropL_ne {own : Own} {n m : Nat} {r : Lab} {a : Addr} (h : own a = some (m :: r)) (ne : m ≠ n) : dropL own n a = some (m :: r) := by
  unfold dropL
  rw [h]
  simp [ne]
theorem VRep.own_congr {K : PySem.W.Frag} {B H : Hp} {own own' : Own} : ∀ {m : Mode} {lab : Lab} {v : V} {d : D}, (∀ a r, own a = some (lab ++ r) → own' a = some (lab ++ r)) → VRep K B H own m lab v d → VRep K B H own' m lab v d
  | .fz, _, _, _, _, h => h
  | .raw _ _, _, _, _, _, h => h
  | .own m, lab, _, _, c, ⟨l, vs, ds, hv, hd, ho, hl, hn, h⟩ =>
    ⟨l, vs, ds, hv, hd, by simpa using c l [] (by simpa using ho), hl, hn, fun k v' d' h1 h2 => VRep.own_congr (fun a r e => by
      have := c a (k :: r) (by simpa using e)
      simpa using this) (h k v' d' h1 h2)⟩
theorem none_back {own own' : Own} {a : Addr} (h : ∀ a l, own' a = some l → own a = some l) (e : own a = none) : own' a = none := by
  cases q : own' a with
  | none => rfl
  | some l =>
    have := h a l q
    rw [e] at this
    cases this
theorem Ground.drop {F : Hp} {own own' : Own} {B H : Hp} (g : Ground F own B H) (h : ∀ a l, own' a = some l → own a = some l) : Ground F own' B H where
  base := fun a o e => ⟨(g.base a o e).1, none_back h (g.base a o e).2⟩
  frame := fun a o e => ⟨(g.frame a o e).1, none_back h (g.frame a o e).2.1, (g.frame a o e).2.2⟩
  live := fun a e => g.live a fun z => e (none_back h z)
section
variable {K : PySem.W.Frag} {F B H : Hp} {own : Own} {G : List Mode} {ρ : Rho} {σ : L2.St}
theorem Good.set (g : Good K F G ρ own B σ H) {i : Nat} {v : V} {d : D} (r : Rp K B v d) : Good K F (G.set i .fz) (ρ.set i (some d)) (dropL own (i + 1)) B (σ.set i (some v)) H where
  gr := g.gr.drop fun a l h => dropL_some h
  len := by simpa using g.len
  slots := fun j e he => by
    have hl := g.len
    by_cases hj : i = j
    · subst hj
      have hlt : i < ρ.length := by
        have := (List.getElem?_eq_some_iff.mp he).1
        simpa using this
      rw [List.getElem?_set_self hlt] at he
      cases he
      refine ⟨v, List.getElem?_set_self (by omega), ?_⟩
      have e1 : (G.set i Mode.fz).getD i .fz = .fz := by
        by_cases hG : i < G.length
        · simp [List.getD, List.getElem?_set_self hG]
        · rw [List.set_eq_of_length_le (Nat.le_of_not_lt hG)]
          simp [List.getD, List.getElem?_eq_none (Nat.le_of_not_lt hG)]
      rw [e1]
      exact r
    · rw [List.getElem?_set_ne hj] at he
      obtain ⟨w, h1, h2⟩ := g.slots j e he
      refine ⟨w, by rw [List.getElem?_set_ne hj]; exact h1, ?_⟩
      have e1 : (G.set i Mode.fz).getD j .fz = G.getD j .fz := by simp [List.getD, List.getElem?_set_ne hj]
      rw [e1]
      exact VRep.own_congr (fun a r e => dropL_ne e (by omega)) h2
/-- .. a slot that owns nothing -/
theorem Good.set0 (g : Good K F G ρ own B σ H) {i : Nat} {v : V} {d : D} (hG : G.getD i .fz = .fz) (r : Rp K B v d) : Good K F G (ρ.set i (some d)) own B (σ.set i (some v)) H where
  gr := g.gr
  len := by simpa using g.len
  slots := fun j e he => by
    have hl := g.len
    by_cases hj : i = j
    · subst hj
      have hlt : i < ρ.length := by
        have := (List.getElem?_eq_some_iff.mp he).1
        simpa using this
      rw [List.getElem?_set_self hlt] at he
      cases he
      refine ⟨v, List.getElem?_set_self (by omega), ?_⟩
      rw [hG]
      exact r
    · rw [List.getElem?_set_ne hj] at he
      obtain ⟨w, h1, h2⟩ := g.slots j e he
      exact ⟨w, by rw [List.getElem?_set_ne hj]; exact h1, h2⟩
end

/-! ### targets -/
/-- only these slots differ -/
def OnlyAt (is : List Nat) (σ σ' : L2.St) : Prop := σ'.length = σ.length ∧ ∀ j, j ∉ is → σ'[j]? = σ[j]?
theorem OnlyAt.refl {is : List Nat} {σ : L2.St} : OnlyAt is σ σ := ⟨rfl, fun _ _ => rfl⟩
theorem OnlyAt.trans {is js : List Nat} {σ σ' σ2 : L2.St} (h : OnlyAt is σ σ') (h' : OnlyAt js σ' σ2) : OnlyAt (is ++ js) σ σ2 :=
  ⟨h'.1.trans h.1, fun j hj => by
    rw [List.mem_append, not_or] at hj
    exact (h'.2 j hj.2).trans (h.2 j hj.1)⟩
theorem wipe_get {σ : L2.St} : ∀ {vs : List Nat} (j : Nat), (wipe σ vs)[j]? = if j ∈ vs then (if j < σ.length then some none else none) else σ[j]?
  | [], j => by simp [wipe]
  | v :: vs, j => by
    unfold wipe
    by_cases h : v = j
    · subst h
      rw [List.getElem?_set]
      simp [wipe_length]
    · rw [List.getElem?_set_ne h, wipe_get j]
      have : (j ∈ v :: vs) ↔ j ∈ vs := by simp [Ne.symm h]
      simp [this]
theorem wipe_only {is vs : List Nat} {σ σ' : L2.St} (h : OnlyAt is (wipe σ vs) σ') (hs : ∀ i ∈ is, i ∈ vs) : wipe σ' vs = wipe σ vs := by
  apply List.ext_getElem?
  intro j
  rw [wipe_get, wipe_get]
  have hl : σ'.length = σ.length := by rw [h.1, wipe_length]
  by_cases hj : j ∈ vs
  · simp [hj, hl]
  · have hj' : j ∉ is := fun q => hj (hs j q)
    have := h.2 j hj'
    rw [wipe_get] at this
    simp only [hj, if_false] at this ⊢
    exact this
abbrev Bnd := D → Rho → Option Rho
abbrev BndA := List D → Rho → Option Rho
/-- a target: b its mirror, is the slots that it stores into -/
def GJ (X : Cx) (tg : Expr) (b : Bnd) (is : List Nat) : Prop := ∃ g, PG X tg g ∧ ∀ (F : Hp) (own : Own) (B : Hp) (σ : L2.St) (H : Hp) (G : List Mode) (ρ ρ' : Rho) (v : V) (d : D) (Q : L2.St → Hp → Prop),
  Good X.K F G ρ own B σ H → Rp X.K B v d → b d ρ = some ρ' → (∀ i ∈ is, G.getD i .fz = .fz) →
    (∀ σ', Good X.K F G ρ' own B σ' H → OnlyAt is σ σ' → Q σ' H) → g v σ H Q
def GAJ (X : Cx) (tgs : List Expr) (b : BndA) (is : List Nat) : Prop := ∃ g, PGs X tgs g ∧ ∀ (F : Hp) (own : Own) (B : Hp) (σ : L2.St) (H : Hp) (G : List Mode) (ρ ρ' : Rho) (vs : List V) (ds : List D) (Q : L2.St → Hp → Prop),
  Good X.K F G ρ own B σ H → RpA X.K B vs ds → b ds ρ = some ρ' → (∀ i ∈ is, G.getD i .fz = .fz) →
    (∀ σ', Good X.K F G ρ' own B σ' H → OnlyAt is σ σ' → Q σ' H) → g vs σ H Q
def bNm (i : Nat) : Bnd := fun d ρ => some (ρ.set i (some d))
def bNil : BndA := fun ds ρ => match ds with
  | [] => some ρ
  | _ => none
def bCons (b : Bnd) (c : BndA) : BndA := fun ds ρ => match ds with
  | d :: r => (b d ρ).bind fun ρ' => c r ρ'
  | [] => none
def bTp (n : Nat) (b : BndA) : Bnd := fun d ρ => match d with
  | .tup ds => if ds.length = n then b ds ρ else none
  | .lst ds => if ds.length = n then b ds ρ else none
  | _ => none
section
variable {X : Cx} {x : Str} {pos : Pos} {e : Expr} {es : List Expr}
theorem gj_nm {i : Nat} (h : PG X (.Name x pos) (gName i)) : GJ X (.Name x pos) (bNm i) [i] := ⟨_, h, fun F own B σ H G ρ ρ' v d Q gd r e hG q => by
  cases e
  refine q _ (gd.set0 (hG i (List.mem_singleton.mpr rfl)) r) ⟨by simp, fun j hj => ?_⟩
  rw [List.getElem?_set_ne]
  intro z
  exact hj (by simp [z])⟩
theorem gaj_nil : GAJ X [] bNil [] := ⟨_, pgs_nil, fun F own B σ H G ρ ρ' vs ds Q gd r e hG q => by
  cases r with
  | nil =>
    cases e
    exact ⟨rfl, q _ gd .refl⟩
  | cons _ _ => cases e⟩
theorem gaj_cons {b : Bnd} {c : BndA} {is js : List Nat} (h : GJ X e b is) (h' : GAJ X es c js) (hs : (assignEach (e :: es) X.env).map (·.2) = assign e X.env :: (assignEach es X.env).map (·.2) := by rfl) : GAJ X (e :: es) (bCons b c) (is ++ js) := by
  obtain ⟨g, p, v⟩ := h
  obtain ⟨g', p', v'⟩ := h'
  refine ⟨_, pgs_cons p p' hs, fun F own B σ H G ρ ρ' vs ds Q gd r e hG q => ?_⟩
  cases r with
  | nil => cases e
  | cons r1 r2 =>
    obtain ⟨ρ1, e1, e2⟩ := Option.bind_eq_some_iff.mp e
    refine ⟨_, _, rfl, v F own B σ H G ρ ρ1 _ _ _ gd r1 e1 (fun i hi => hG i (List.mem_append_left _ hi)) fun σ1 g1 o1 => ?_⟩
    refine v' F own B σ1 H G ρ1 ρ' _ _ _ g1 r2 e2 (fun i hi => hG i (List.mem_append_right _ hi)) fun σ2 g2 o2 => ?_
    exact q σ2 g2 (o1.trans o2)
theorem pg_or {t t' : TG} (h : PG X e t) (h' : PG X e t') : PG X e (fun v σ H Q => t v σ H Q ∨ t' v σ H Q) := ⟨fun pins s σ H v u Q I r q => by
  rcases q with q | q
  · exact h.run pins s σ H v u Q I r q
  · exact h'.run pins s σ H v u Q I r q⟩
theorem gj_tp {k : Nat} {b : BndA} {is : List Nat} {n : Nat} (hc : X.calm = true) (h : GAJ X es b is) (hn : (assignEach es X.env).length = n := by rfl) (hst : (assignEach es X.env).findIdx? (·.1) = none := by rfl) : GJ X (.Tuple es k pos) (bTp n b) is := by
  obtain ⟨g, p, v⟩ := h
  refine ⟨_, pg_or (pg_tup hc p hn hst) (pg_lst hc p hn hst), fun F own B σ H G ρ ρ' u d Q gd r e hG q => ?_⟩
  unfold bTp at e
  split at e
  · split at e
    · rename_i hz
      cases r with
      | tup ha rv => exact .inl ⟨_, _, rfl, Ext.seqT gd.gr.same ha, by rw [rv.len]; exact hz, v F own B σ H G ρ ρ' _ _ Q gd rv e hG q⟩
    · cases e
  · split at e
    · rename_i hz
      cases r with
      | lst ha rv => exact .inr ⟨_, _, rfl, .inl (.inl (gd.gr.base _ _ ha).1), by rw [rv.len]; exact hz, v F own B σ H G ρ ρ' _ _ Q gd rv e hG q⟩
    · cases e
  · cases e
end

/-! ### enumerate, zip, reversed -/
def numFrom (i : Nat) : List D → List D
  | [] => []
  | x :: xs => .tup [.int i, x] :: numFrom (i + 1) xs
theorem numFrom_len : ∀ (xs : List D) (i : Nat), (numFrom i xs).length = xs.length
  | [], _ => rfl
  | _ :: xs, i => congrArg (· + 1) (numFrom_len xs (i + 1))
theorem numFrom_get : ∀ (xs : List D) (i j : Nat), (numFrom i xs)[j]? = xs[j]?.map fun x => .tup [.int (i + j : Nat), x]
  | [], _, _ => by simp [numFrom]
  | x :: xs, i, 0 => by simp [numFrom]
  | x :: xs, i, j + 1 => by
    simp only [numFrom, List.getElem?_cons_succ]
    rw [numFrom_get xs (i + 1) j]
    congr 1
    funext y
    congr 3
    omega
theorem iter_enum {K : PySem.W.Frag} {F : Hp} {a : Addr} {vs : List V} {ds : List D} {own0 : Own} {B0 H0 : Hp} (hl : SqL K B0 a vs ∨ (own0 a ≠ none ∧ H0 a = some (.lst vs))) (r : RpA K B0 vs ds) : IterB K F (Ite K a) (numFrom 0 ds) own0 B0 H0 := fun own B H e o g i => by
  have sq : SqL K H a vs := by
    rcases hl with h | h
    · exact Same.seq (Same.trans e g.same) h
    · refine .inl (.inl ?_)
      rw [(o a h.1).2]
      exact h.2
  refine ⟨fun h => ⟨vs, sq, by rw [r.len, ← numFrom_len ds 0]; omega⟩, fun d hd => ?_⟩
  rw [numFrom_get] at hd
  obtain ⟨d', h0, rfl⟩ := Option.map_eq_some_iff.mp hd
  obtain ⟨v, h1, h2⟩ := r.get h0
  refine ⟨⟨vs, v, sq, h1⟩, fun x H' y => ?_⟩
  obtain ⟨T, w, rfl, hT, rfl, y⟩ := y
  have ev := y vs sq
  rw [h1] at ev
  cases ev
  refine ⟨upd B T (.tup [.int (i : Nat), v]), .new g _ hT, .tup (.inl (.inl upd_same)) ?_⟩
  have hb := ext_upd (o := .tup [.int (i : Nat), v]) (g.bfresh hT)
  refine .cons ?_ (.cons ((h2.mono e).mono hb) .nil)
  rw [Nat.zero_add]
  exact .int _
section
variable {X : Cx} {W : WX} {G : List Mode} {tg e e2 a b c : Expr} {p pos tpos : Pos} {elts : List Expr} {kk : Nat}
def dEnum : List D → Res (List D)
  | [.lst xs] => .ok (numFrom 0 xs)
  | [.scr xs] => .ok (numFrom 0 xs)
  | _ => .no
theorem ibj_enum {g : Rho → Res (List D)} (hg : Gl X "enumerate") (hm : X.mg "enumerate" = none) (ha : BAJ X W G [e] g) (hs : starEach [e] X.env = [(false, eval e X.env)] := by rfl) : IBJ X W G (.Tuple elts kk tpos) (.Call (.Name "enumerate" p) [e] [] pos) (callV dEnum g) := by
  obtain ⟨t, pe, ve⟩ := ha
  refine ⟨_, pi_enum hg hm pe hs, fun F ρ own B σ H R gd q => ?_⟩
  refine ve F ρ own B σ H _ gd (Res.has_mono (Res.has_bind q) (fun ds q vs B' H' s r => ?_) fun _ x => x)
  have g' := gd.gr.step s
  unfold dEnum at q
  split at q
  · obtain ⟨v, rfl, hv⟩ := r.one
    rcases hv with hv | ⟨l, us, ds, e1, e2, h1, h2, h3⟩
    · cases hv with
      | lst hl rv => exact ⟨_, _, rfl, .inl (.inl (g'.base _ _ hl).1), q _ B' H' s (iter_enum (.inl (.inl (.inl hl))) rv)⟩
    · cases e2
      subst e1
      exact ⟨_, _, rfl, .inl (.inl h2), q _ B' H' s (iter_enum (.inr ⟨h1, h2⟩) h3)⟩
  · obtain ⟨v, rfl, hv⟩ := r.one
    obtain ⟨l, vs, rfl, hl, rv⟩ := hv.scr
    exact ⟨_, _, rfl, Same.seq g'.same hl, q _ B' H' s (iter_enum (.inl hl) rv)⟩
  · exact q.elim
theorem ij_enum {g : Rho → Res (List D)} (hg : Gl X "enumerate") (hm : X.mg "enumerate" = none) (ha : AJ X W G [e] g) (hs : starEach [e] X.env = [(false, eval e X.env)] := by rfl) : IJ X W G (.Tuple elts kk tpos) (.Call (.Name "enumerate" p) [e] [] pos) (callV dEnum g) := by
  obtain ⟨t, pe, ve⟩ := ha
  refine ⟨_, pi_enum hg hm pe hs, fun F ρ own B σ H R gd q => ?_⟩
  refine ve F ρ own B σ H _ gd (Res.has_mono (Res.has_bind q) (fun ds q vs B' H' s r => ?_) fun _ x => x)
  have g' := gd.gr.step s
  unfold dEnum at q
  split at q
  · cases r with
    | cons r1 r2 =>
      cases r2
      cases r1 with
      | lst hl rv => exact ⟨_, _, rfl, .inl (.inl (g'.base _ _ hl).1), q _ B' H' s fun own1 B1 H1 e1 g1 => iter_enum (own0 := own1) (H0 := H1) (.inl (.inl (.inl hl))) rv own1 B1 H1 e1 (fun a h => ⟨h, rfl⟩) g1⟩
  · cases r with
    | cons r1 r2 =>
      cases r2
      cases r1 with
      | scr hl rv => exact ⟨_, _, rfl, Same.seq g'.same hl, q _ B' H' s fun own1 B1 H1 e1 g1 => iter_enum (own0 := own1) (H0 := H1) (.inl hl) rv own1 B1 H1 e1 (fun a h => ⟨h, rfl⟩) g1⟩
  · exact q.elim
end
end T

set_option Elab.async false
set_option linter.all false
set_option maxRecDepth 100000
set_option maxHeartbeats 4000000
/-! T-layer, part F: comprehensions. -/
namespace T
open PySem PySem.Spec PyProof.Rows L2

def Res.calm {α : Type} : Res α → Res α
  | .ok a => .ok a
  | _ => .no
@[simp] theorem Res.calm_ok {α : Type} (a : α) : (Res.ok a).calm = .ok a := mk_eq0 rfl
theorem Res.has_cb {α β : Type} {r : Res α} {f : α → Res β} {P : β → Prop} {E : Exn → Prop} {E' : Exn → Prop} (h : (r.calm.bind f).has P E) : r.has (fun a => (f a).has P E) E' := by
  cases r with
  | ok a => exact h
  | ex e => exact h.elim
  | no => exact h
def wipeR : Rho → List Nat → Rho
  | ρ, [] => ρ
  | ρ, v :: vs => (wipeR ρ vs).set v none
def lcM (b : Bnd) (c : Rho → Res Bool) (f : Rho → Res D) (ρ : Rho) : List D → Res (List D)
  | [] => .ok []
  | x :: xs => match b x ρ with
    | none => .no
    | some ρ' => (c ρ').calm.bind fun k => if k = true then (f ρ').calm.bind fun y => (lcM b c f ρ xs).bind fun ys => .ok (y :: ys) else lcM b c f ρ xs
def yesB : Rho → Res Bool := fun _ => .ok true
def compV (src : Rho → Res (List D)) (b : Bnd) (c : Rho → Res Bool) (f : Rho → Res D) (vs : List Nat) : Rho → Res (List D) := fun ρ => (src ρ).bind fun items => if items.length ≤ sizeLine then lcM b c f (wipeR ρ vs) items else .no
theorem wipeR_length (ρ : Rho) : ∀ vs : List Nat, (wipeR ρ vs).length = ρ.length
  | [] => rfl
  | v :: vs => by
    unfold wipeR
    rw [List.length_set, wipeR_length ρ vs]
theorem wipeR_some {ρ : Rho} {j : Nat} {d : D} : ∀ {vs : List Nat}, (wipeR ρ vs)[j]? = some (some d) → ρ[j]? = some (some d) ∧ j ∉ vs
  | [], h => ⟨h, by simp⟩
  | v :: vs, h => by
    unfold wipeR at h
    by_cases hi : v = j
    · subst hi
      by_cases hv : v < (wipeR ρ vs).length
      · rw [List.getElem?_set_self hv] at h; cases h
      · rw [List.getElem?_eq_none (by simpa using hv)] at h; cases h
    · rw [List.getElem?_set_ne hi] at h
      obtain ⟨h1, h2⟩ := wipeR_some h
      exact ⟨h1, by simp only [List.mem_cons, not_or]; exact ⟨fun e => hi e.symm, h2⟩⟩
theorem Good.wipe {K : PySem.W.Frag} {F B H : Hp} {own : Own} {G : List Mode} {ρ : Rho} {σ : L2.St} (g : Good K F G ρ own B σ H) (vs : List Nat) : Good K F G (wipeR ρ vs) own B (wipe σ vs) H where
  gr := g.gr
  len := by rw [wipe_length, wipeR_length, g.len]
  slots := fun i d e => by
    obtain ⟨h1, h2⟩ := wipeR_some e
    obtain ⟨v, k1, k2⟩ := g.slots i d h1
    exact ⟨v, by rw [wipe_get]; simp [h2, k1], k2⟩

abbrev W0 : WX := fun _ _ _ _ => False
abbrev Blk (X : Cx) (scope : Scope) (s : Shared) (H : Hp) (C : Addr) (cl : List (Str × Addr)) (fp : List Addr) : Cx := X.blk s H scope (compEnvC scope cl C X.env) fp
section
variable {X : Cx} {W : WX} {G : List Mode} {tg iter elt c : Expr} {scope : Scope}
theorem fam_e {f : Rho → Res D} (h : ∀ s H C cl fp, EJ (Blk X scope s H C cl fp) W0 G elt f) : ∃ te, (∀ s H C cl fp, PE (Blk X scope s H C cl fp) elt te) ∧ Ev X W0 G te f := by
  refine ⟨fun σ H Q => ∀ s H0 C cl fp, (h s H0 C cl fp).choose σ H Q, fun s H0 C cl fp => ⟨fun pins s1 σ H Q I q => ?_⟩, fun F ρ own B σ H Q gd q s H0 C cl fp => ?_⟩
  · exact (h s H0 C cl fp).choose_spec.1.run pins s1 σ H Q I (q s H0 C cl fp)
  · exact (h s H0 C cl fp).choose_spec.2 F ρ own B σ H Q gd q
theorem fam_t {f : Rho → Res Bool} (h : ∀ s H C cl fp, TJ (Blk X scope s H C cl fp) W0 G c f) : ∃ te, (∀ s H C cl fp, PT (Blk X scope s H C cl fp) c te) ∧ EvT X W0 G te f := by
  refine ⟨fun σ H Q => ∀ s H0 C cl fp, (h s H0 C cl fp).choose σ H Q, fun s H0 C cl fp => ⟨fun pins s1 σ H Q I q => ?_⟩, fun F ρ own B σ H Q gd q s H0 C cl fp => ?_⟩
  · exact (h s H0 C cl fp).choose_spec.1.run pins s1 σ H Q I (q s H0 C cl fp)
  · exact (h s H0 C cl fp).choose_spec.2 F ρ own B σ H Q gd q
theorem fam_g {b : Bnd} {is : List Nat} (h : ∀ s H C cl fp, GJ (Blk X scope s H C cl fp) tg b is) : ∃ g, (∀ s H C cl fp, PG (Blk X scope s H C cl fp) tg g) ∧
    ∀ (F : Hp) (own : Own) (B : Hp) (σ : L2.St) (H : Hp) (G : List Mode) (ρ ρ' : Rho) (v : V) (d : T.D) (Q : L2.St → Hp → Prop), Good X.K F G ρ own B σ H → Rp X.K B v d → b d ρ = some ρ' → (∀ i ∈ is, G.getD i .fz = .fz) →
      (∀ σ', Good X.K F G ρ' own B σ' H → OnlyAt is σ σ' → Q σ' H) → g v σ H Q := by
  refine ⟨fun v σ H Q => ∀ s H0 C cl fp, (h s H0 C cl fp).choose v σ H Q, fun s H0 C cl fp => ⟨fun pins s1 σ H v u Q I r q => ?_⟩, fun F own B σ H G ρ ρ' v d Q gd r e hG q s H0 C cl fp => ?_⟩
  · exact (h s H0 C cl fp).choose_spec.1.run pins s1 σ H v u Q I r (q s H0 C cl fp)
  · exact (h s H0 C cl fp).choose_spec.2 F own B σ H G ρ ρ' v d Q gd r e hG q

/-- D, the new list of a comprehension, is owned under the label 0 while it is made -/
def ownD (own : Own) (N : Addr) : Own := fun a => if a = N then some [0] else own a
theorem ownD_self {own : Own} {N : Addr} : ownD own N N = some [0] := by simp [ownD]
theorem ownD_ne {own : Own} {N a : Addr} (h : a ≠ N) : ownD own N a = own a := by simp [ownD, h]
theorem VRep.more {K : PySem.W.Frag} {B H H' : Hp} {own : Own} {N : Addr} (hD : own N = none) (hH : ∀ a, own a ≠ none → H' a = H a) : ∀ {m : Mode} {lab : Lab} {v : V} {d : D}, VRep K B H own m lab v d → VRep K B H' (ownD own N) m lab v d
  | .fz, _, _, _, h => h
  | .raw _ _, _, _, _, h => h
  | .own m, lab, _, _, ⟨l, vs, ds, hv, hd, ho, hl, hn, h⟩ =>
    have ho' : own l ≠ none := by rw [ho]; exact fun z => nomatch z
    ⟨l, vs, ds, hv, hd, by rw [ownD_ne (fun z => by rw [z, hD] at ho; cases ho)]; exact ho, by rw [hH l ho']; exact hl, hn, fun k v' d' h1 h2 => VRep.more hD hH (h k v' d' h1 h2)⟩
/-- the heart: the source's items walked, the new list made -/
theorem lc_heart {own0 : List Nat} {wi : TI} {g : TG} {tt : TT} {te : TE} {b : Bnd} {fc : Rho → Res Bool} {f : Rho → Res D} {src : Rho → Res (List D)} {is : List Nat} (hi : EvIB X W G wi src)
    (hg : ∀ (F : Hp) (own : Own) (B : Hp) (σ : L2.St) (H : Hp) (G : List Mode) (ρ ρ' : Rho) (v : V) (d : T.D) (Q : L2.St → Hp → Prop), Good X.K F G ρ own B σ H → Rp X.K B v d → b d ρ = some ρ' → (∀ i ∈ is, G.getD i .fz = .fz) →
      (∀ σ', Good X.K F G ρ' own B σ' H → OnlyAt is σ σ' → Q σ' H) → g v σ H Q)
    (hsub : ∀ i ∈ is, i ∈ own0) (hG : ∀ i ∈ is, G.getD i Mode.fz = Mode.fz) (ht : EvT X W0 G tt fc) (he : Ev X W0 G te f) : EvN X W G (tLc wi g tt te own0) (compV src b fc f own0) := fun F ρ own B σ H Q gd q => by
  refine hi F ρ own B σ H _ gd (Res.has_mono (Res.has_bind q) (fun items q J B1 H1 s1 itr => ?_) fun _ x => x)
  split at q
  case isFalse => exact q.elim
  rename_i hz
  intro D hD
  have g1 := gd.step s1
  have hDo := g1.gr.ofresh hD
  have hDb := g1.gr.bfresh hD
  have hDf := g1.gr.ffresh hD
  -- the state ahead of turn i
  refine ⟨fun i m H' => m = items.length - i ∧ i ≤ items.length ∧ ∃ (B' : Hp) (vs : List V) (ds : List T.D), Step own F B1 H1 B' H' ∧ B' D = none ∧ H' D = some (.lst vs) ∧ RpA X.K B' vs ds ∧ ds.length ≤ i ∧
      (lcM b fc f (wipeR ρ own0) (items.drop i)).has (fun rest => ∀ (p : Addr) (vs : List V) (B' H' : Hp), Step own F B H B' H' → B' p = none → F p = none → own p = none → H' p = some (.lst vs) → RpA X.K B' vs (ds ++ rest) → Q (.ref p) H') (fun _ => False),
    ⟨items.length, by omega, Nat.zero_le _, B1, [], [], .garbage g1.gr _ hD, hDb, upd_same, .nil, Nat.zero_le _, ?_⟩, fun i m H' hW => ?_⟩
  · simp only [List.drop_zero, List.nil_append]
    cases e : lcM b fc f (wipeR ρ own0) items with
    | ok ds =>
      rw [e] at q
      exact q
    | no =>
      rw [e] at q
      exact q
    | ex x =>
      exfalso
      clear q itr
      induction items with
      | nil => cases e
      | cons y ys ih =>
        simp only [lcM] at e
        split at e
        · cases e
        · rename_i ρ' _
          cases h1 : fc ρ' with
          | ok k =>
            rw [h1] at e
            simp only [Res.calm_ok, Res.bind_ok] at e
            split at e
            · cases h2 : f ρ' with
              | ok y' =>
                rw [h2] at e
                simp only [Res.calm_ok, Res.bind_ok] at e
                cases h3 : lcM b fc f (wipeR ρ own0) ys with
                | ok zs =>
                  rw [h3] at e
                  cases e
                | no =>
                  rw [h3] at e
                  cases e
                | ex z =>
                  rw [h3] at e
                  cases e
                  exact ih (by simp only [List.length_cons] at hz; omega) h3
              | ex _ =>
                rw [h2] at e
                cases e
              | no =>
                rw [h2] at e
                cases e
            · exact ih (by simp only [List.length_cons] at hz; omega) e
          | ex _ =>
            rw [h1] at e
            cases e
          | no =>
            rw [h1] at e
            cases e
  · obtain ⟨rfl, hile, B', vs, ds, s2, hBD, hHD, rvs, hlen, rest⟩ := hW
    have g2 := g1.step s2
    -- the ground with D owned
    have grD : Ground F (ownD own D) B' H' := ⟨fun a o e => ⟨(g2.gr.base a o e).1, by
        rw [ownD_ne (fun z => by rw [z, hBD] at e; cases e)]
        exact (g2.gr.base a o e).2⟩, fun a o e => ⟨(g2.gr.frame a o e).1, by
        rw [ownD_ne (fun z => by rw [z, hDf] at e; cases e)]
        exact (g2.gr.frame a o e).2.1, (g2.gr.frame a o e).2.2⟩, fun a h => by
        by_cases ha : a = D
        · rw [ha, hHD]
          exact fun z => nomatch z
        · rw [ownD_ne ha] at h
          exact g2.gr.live a h⟩
    have gdD : Good X.K F G (wipeR ρ own0) (ownD own D) B' (wipe σ own0) H' := by
      have gw := g2.wipe own0
      exact ⟨grD, gw.len, fun j d e => by
        obtain ⟨v, h1, h2⟩ := gw.slots j d e
        exact ⟨v, h1, VRep.more hDo (fun a _ => rfl) h2⟩⟩
    have itr' := itr (ownD own D) B' H' s2.ext (fun a h => ⟨by
      by_cases ha : a = D
      · rw [ha, ownD_self]
        exact fun z => nomatch z
      · rw [ownD_ne ha]
        exact h, (s2.ownd a h).1⟩) grD i
    by_cases hi' : i = items.length
    · refine .inl ⟨itr'.1 hi', ?_⟩
      rw [hi', List.drop_length] at rest
      have rest' : ∀ (p : Addr) (vs : List V) (B' H' : Hp), Step own F B H B' H' → B' p = none → F p = none → own p = none → H' p = some (.lst vs) → RpA X.K B' vs (ds ++ []) → Q (.ref p) H' := rest
      rw [List.append_nil] at rest'
      exact rest' D vs B' H' (s1.trans s2) hBD hDf hDo hHD rvs
    · have hlt : i < items.length := by omega
      have hd : items[i]? = some items[i] := List.getElem?_eq_getElem hlt
      obtain ⟨go, yld⟩ := itr'.2 _ hd
      refine .inr ⟨go, _, fun H4 h4 => ⟨items.length - (i + 1), by omega, h4⟩, fun x H3 hy => ?_⟩
      obtain ⟨B3, s3, rx⟩ := yld x H3 hy
      rw [List.drop_eq_getElem_cons hlt] at rest
      simp only [lcM] at rest
      split at rest
      · exact rest.elim
      · rename_i ρ' hb
        have gd3 := gdD.step s3
        -- what a step over D owned is for own
        have down : ∀ {Ba Ha Bb Hb : Hp}, Step (ownD own D) F Ba Ha Bb Hb → Step own F Ba Ha Bb Hb := fun {Ba Ha Bb Hb} s => ⟨s.ext, s.base, fun a h => s.ownd a (by
          by_cases ha : a = D
          · rw [ha, ownD_self]
            exact fun z => nomatch z
          · rw [ownD_ne ha]
            exact h), s.frame⟩
        refine hg F (ownD own D) B3 (wipe σ own0) H3 G _ ρ' x _ _ gd3 rx hb hG fun σ' gd4 o4 => ⟨wipe_only o4 hsub, ?_⟩
        refine ht F ρ' (ownD own D) B3 σ' H3 _ gd4 (Res.has_mono (Res.has_cb (E' := fun _ => False) rest) (fun k rest B5 H5 s5 => ?_) fun _ x => x.elim)
        have sAll := (s2.trans (down s3)).trans (down s5)
        have dn : ∀ {Ba Ha Bb Hb : Hp}, Step (ownD own D) F Ba Ha Bb Hb → Hb D = Ha D ∧ Bb D = none := fun {Ba Ha Bb Hb} s => s.ownd D (by rw [ownD_self]; exact fun z => nomatch z)
        cases k with
        | false => exact ⟨rfl, by omega, B5, vs, ds, sAll, (dn s5).2, by rw [(dn s5).1, (dn s3).1]; exact hHD, (rvs.mono s3.ext).mono s5.ext, by omega, rest⟩
        | true =>
          refine he F ρ' (ownD own D) B5 σ' H5 _ (gd4.step s5) (Res.has_mono (Res.has_cb (E' := fun _ => False) rest) (fun y rest v B6 H6 s6 r6 => ?_) fun _ x => x.elim)
          have hH6 : H6 D = some (.lst vs) := by rw [(dn s6).1, (dn s5).1, (dn s3).1]; exact hHD
          have sA6 := sAll.trans (down s6)
          refine ⟨vs, hH6, by rw [rvs.len]; omega, rfl, by omega, B6, vs ++ [v], ds ++ [y], ?_, (dn s6).2, upd_same, (((rvs.mono s3.ext).mono s5.ext).mono s6.ext).app (.cons r6 .nil), by simp; omega, ?_⟩
          · exact ⟨sA6.ext, fun a o e => by
              rw [upd_ne (fun z => by rw [z, (dn s6).2] at e; cases e)]
              exact sA6.base a o e, fun a ho => by
              have ne : a ≠ D := fun z => ho (by rw [z]; exact hDo)
              rw [upd_ne ne]
              exact sA6.ownd a ho, fun a o e => by
              rw [upd_ne (fun z => by rw [z, hDf] at e; cases e)]
              exact sA6.frame a o e⟩
          · refine Res.has_mono (Res.has_bind rest) (fun ys q p vs B' H' s7 h1 h2 h3 h4 h5 => ?_) fun _ x => x
            have q' : ∀ (p : Addr) (vs : List V) (B' H' : Hp), Step own F B H B' H' → B' p = none → F p = none → own p = none → H' p = some (.lst vs) → RpA X.K B' vs (ds ++ y :: ys) → Q (.ref p) H' := q
            exact q' p vs B' H' s7 h1 h2 h3 h4 (by simpa using h5)
variable {own0 : List (Str × Nat)} {b : Bnd} {f : Rho → Res D} {fc : Rho → Res Bool} {src : Rho → Res (List D)} {is : List Nat} {pos spos py : Pos}
theorem nj_lc (hc : X.calm = true) (hN : X.N.Nodup) (hi : IBJ X W G tg iter src) (ok : BlkOk X.N X.env.scope scope own0) (hg : ∀ s H C cl fp, GJ (Blk X scope s H C cl fp) tg b is) (hsub : ∀ i ∈ is, i ∈ own0.map (·.2)) (hG : ∀ i ∈ is, G.getD i Mode.fz = Mode.fz)
    (he : ∀ s H C cl fp, EJ (Blk X scope s H C cl fp) W0 G elt f) (hs : ∀ x, foldedSetIterable iter X.env x = pure x := by intro _; rfl) : NJ X W G (.ListComp elt [⟨tg, iter, [], 0⟩] scope pos) (compV src b yesB f (own0.map (·.2))) := by
  obtain ⟨wi, pi, vi⟩ := hi
  obtain ⟨te, pe, ve⟩ := fam_e he
  obtain ⟨g, pg, vg⟩ := fam_g hg
  exact ⟨_, pe_lc hc hN pi ok pg (fun _ _ _ _ _ => pts_nil) pe hs, lc_heart vi vg hsub hG (fun F ρ own B σ H Q gd q => q B H (.refl gd.gr)) ve⟩
theorem nj_lcIf (hc : X.calm = true) (hN : X.N.Nodup) (hi : IBJ X W G tg iter src) (ok : BlkOk X.N X.env.scope scope own0) (hg : ∀ s H C cl fp, GJ (Blk X scope s H C cl fp) tg b is) (hsub : ∀ i ∈ is, i ∈ own0.map (·.2)) (hG : ∀ i ∈ is, G.getD i Mode.fz = Mode.fz)
    (ht : ∀ s H C cl fp, TJ (Blk X scope s H C cl fp) W0 G c fc) (he : ∀ s H C cl fp, EJ (Blk X scope s H C cl fp) W0 G elt f) (hs : ∀ x, foldedSetIterable iter X.env x = pure x := by intro _; rfl) : NJ X W G (.ListComp elt [⟨tg, iter, [c], 0⟩] scope pos) (compV src b fc f (own0.map (·.2))) := by
  obtain ⟨wi, pi, vi⟩ := hi
  obtain ⟨te, pe, ve⟩ := fam_e he
  obtain ⟨tt, pt, vt⟩ := fam_t ht
  obtain ⟨g, pg, vg⟩ := fam_g hg
  exact ⟨_, pe_lc hc hN pi ok pg (fun s H C cl fp => pts_one (pt s H C cl fp)) pe hs, lc_heart vi vg hsub hG vt ve⟩
/-- y = [..], y in slot i -/
def LcJ (X : Cx) (W : WX) (G : List Mode) (y : Str) (py : Pos) (i : Nat) (e : Expr) (spos : Pos) (g : Rho → Res (List D)) : Prop := ∃ te, PS X (.Assign [.Name y py] e spos) (tAsg te (gName i)) ∧ EvN X W G te g
theorem lcj {i : Nat} {y : Str} (hc : X.calm = true) (hN : X.N.Nodup) (hy : X.N[i]? = some y) (hyl : X.env.scope.names.lookup y = some .local)
    (hsw : swapsWith (.ListComp elt [⟨tg, iter, [], 0⟩] scope pos) (some (.Name y py)) spos.line X.env = pure true) (hi : IBJ X W G tg iter src) (ok : BlkOk X.N X.env.scope scope own0) (hg : ∀ s H C cl fp, GJ (Blk X scope s H C cl fp) tg b is) (hsub : ∀ i ∈ is, i ∈ own0.map (·.2))
    (hG : ∀ i ∈ is, G.getD i Mode.fz = Mode.fz) (he : ∀ s H C cl fp, EJ (Blk X scope s H C cl fp) W0 G elt f) (hs : ∀ x, foldedSetIterable iter X.env x = pure x := by intro _; rfl) : LcJ X W G y py i (.ListComp elt [⟨tg, iter, [], 0⟩] scope pos) spos (compV src b yesB f (own0.map (·.2))) := by
  obtain ⟨wi, pi, vi⟩ := hi
  obtain ⟨te, pe, ve⟩ := fam_e he
  obtain ⟨g, pg, vg⟩ := fam_g hg
  exact ⟨_, ps_setLc hc hN hy hyl hsw pi ok pg (fun _ _ _ _ _ => pts_nil) pe hs, lc_heart vi vg hsub hG (fun F ρ own B σ H Q gd q => q B H (.refl gd.gr)) ve⟩
theorem lcjIf {i : Nat} {y : Str} (hc : X.calm = true) (hN : X.N.Nodup) (hy : X.N[i]? = some y) (hyl : X.env.scope.names.lookup y = some .local)
    (hsw : swapsWith (.ListComp elt [⟨tg, iter, [c], 0⟩] scope pos) (some (.Name y py)) spos.line X.env = pure true) (hi : IBJ X W G tg iter src) (ok : BlkOk X.N X.env.scope scope own0) (hg : ∀ s H C cl fp, GJ (Blk X scope s H C cl fp) tg b is) (hsub : ∀ i ∈ is, i ∈ own0.map (·.2))
    (hG : ∀ i ∈ is, G.getD i Mode.fz = Mode.fz) (ht : ∀ s H C cl fp, TJ (Blk X scope s H C cl fp) W0 G c fc) (he : ∀ s H C cl fp, EJ (Blk X scope s H C cl fp) W0 G elt f) (hs : ∀ x, foldedSetIterable iter X.env x = pure x := by intro _; rfl) : LcJ X W G y py i (.ListComp elt [⟨tg, iter, [c], 0⟩] scope pos) spos (compV src b fc f (own0.map (·.2))) := by
  obtain ⟨wi, pi, vi⟩ := hi
  obtain ⟨te, pe, ve⟩ := fam_e he
  obtain ⟨tt, pt, vt⟩ := fam_t ht
  obtain ⟨g, pg, vg⟩ := fam_g hg
  exact ⟨_, ps_setLc hc hN hy hyl hsw pi ok pg (fun s H C cl fp => pts_one (pt s H C cl fp)) pe hs, lc_heart vi vg hsub hG vt ve⟩
end
end T

set_option Elab.async false
set_option linter.all false
set_option maxRecDepth 100000
set_option maxHeartbeats 4000000
/-! T-layer, part G: statements, loops, defs. -/
namespace T
open PySem PySem.Spec PyProof.Rows L2

inductive Out where
  | nx (ρ : Rho) | rt (d : D) | bk (ρ : Rho) | ct (ρ : Rho) | ex (e : Exn) (ρ : Rho) | no
/-- the modes at a break, a continue; the mode of what is returned -/
structure LM where
  bk : List Mode
  ct : List Mode
  rt : Mode
def PostS (X : Cx) (W : WX) (L : LM) (G' : List Mode) (F B : Hp) (D : Ends) : Out → Prop
  | .nx ρ => ∀ (own : Own) (B' : Hp) (σ : L2.St) (H : Hp), Ext B B' → Good X.K F G' ρ own B' σ H → D.nx σ H
  | .bk ρ => ∀ (own : Own) (B' : Hp) (σ : L2.St) (H : Hp), Ext B B' → Good X.K F L.bk ρ own B' σ H → D.bk σ H
  | .ct ρ => ∀ (own : Own) (B' : Hp) (σ : L2.St) (H : Hp), Ext B B' → Good X.K F L.ct ρ own B' σ H → D.ct σ H
  | .rt d => ∀ (v : V) (own : Own) (B' H : Hp), Ext B B' → Ground F own B' H → VRep X.K B' H own L.rt [0] v d → D.rt v H
  | .ex e ρ => ∀ (c : Value) (dx : Option Addr) (B' : Hp) (σ : L2.St) (H : Hp), Ext B B' → Good X.K F [] ρ (fun _ => none) B' σ H → ExR X.K X.mg B' H e c dx → W c dx σ H
  | .no => False
def EvS (X : Cx) (W : WX) (L : LM) (G : List Mode) (t : TS) (f : Rho → Out) (G' : List Mode) : Prop :=
  ∀ (F : Hp) (ρ : Rho) (own : Own) (B : Hp) (σ : L2.St) (H : Hp) (D : Ends), Good X.K F G ρ own B σ H → PostS X W L G' F B D (f ρ) → t D σ H
def SJ (X : Cx) (W : WX) (L : LM) (G : List Mode) (st : Stmt) (f : Rho → Out) (G' : List Mode) : Prop := ∃ t, PS X st t ∧ EvS X W L G t f G'
def SsJ (X : Cx) (W : WX) (L : LM) (G : List Mode) (st : List Stmt) (f : Rho → Out) (G' : List Mode) : Prop := ∃ t, PSs X st t ∧ EvS X W L G t f G'
theorem PostS.ext {X : Cx} {W : WX} {L : LM} {G' : List Mode} {F B B1 : Hp} {D : Ends} (e : Ext B B1) : ∀ {o : Out}, PostS X W L G' F B D o → PostS X W L G' F B1 D o
  | .nx _, q => fun own B' σ H e' => q own B' σ H (e.trans e')
  | .bk _, q => fun own B' σ H e' => q own B' σ H (e.trans e')
  | .ct _, q => fun own B' σ H e' => q own B' σ H (e.trans e')
  | .rt _, q => fun v own B' H e' => q v own B' H (e.trans e')
  | .ex _ _, q => fun c dx B' σ H e' => q c dx B' σ H (e.trans e')
  | .no, q => q

/-! ### letting go: an owned slot freezes -/
theorem ExR.mono {K : PySem.W.Frag} {mg : Str → Option Value} {B B' H : Hp} {e : Exn} {c : Value} {dx : Option Addr} (x : ExR K mg B H e c dx) (h : Ext B B') : ExR K mg B' H e c dx := ⟨x.cls, by
  exact x.fs.mono h⟩
/-- slot j keeps its mode -/
def keepsM (G G2 : List Mode) (j : Nat) : Bool := decide (G2.getD j Mode.fz = G.getD j Mode.fz)
def leM (G2 G : List Mode) : Prop := ∀ j : Nat, G2.getD j Mode.fz = G.getD j Mode.fz ∨ G2.getD j Mode.fz = Mode.fz
def leB : List Mode → List Mode → Bool
  | [], _ => true
  | m :: ms, [] => decide (m = Mode.fz) && leB ms []
  | m :: ms, n :: ns => (decide (m = n) || decide (m = Mode.fz)) && leB ms ns
theorem leM_of : ∀ {G2 G : List Mode}, leB G2 G = true → leM G2 G
  | [], _, _, j => .inr (by simp)
  | m :: ms, [], h, j => by
    simp only [leB, Bool.and_eq_true, decide_eq_true_eq] at h
    cases j with
    | zero => exact .inr (by simpa using h.1)
    | succ j =>
      have := leM_of h.2 j
      simpa using this
  | m :: ms, n :: ns, h, j => by
    simp only [leB, Bool.and_eq_true, Bool.or_eq_true, decide_eq_true_eq] at h
    cases j with
    | zero => simpa using h.1
    | succ j =>
      have := leM_of h.2 j
      simpa using this
/-- what stays owned -/
def ownTo (G G2 : List Mode) (own : Own) : Own := fun a => match own a with
  | some ((j + 1) :: r) => if keepsM G G2 j then some ((j + 1) :: r) else none
  | _ => none
def baseTo (G G2 : List Mode) (own : Own) (B H : Hp) : Hp := fun a => match own a with
  | some ((j + 1) :: _) => if keepsM G G2 j then B a else H a
  | some _ => H a
  | none => B a
section
variable {K : PySem.W.Frag} {F B H : Hp} {own : Own} {G G2 : List Mode} {ρ : Rho} {σ : L2.St}
theorem baseTo_ext (g : Ground F own B H) : Ext B (baseTo G G2 own B H) := fun a o e => by
  unfold baseTo
  rw [(g.base a o e).2]
  exact e
theorem ground_to (g : Ground F own B H) : Ground F (ownTo G G2 own) (baseTo G G2 own B H) H where
  base := fun a o e => by
    unfold baseTo at e
    unfold ownTo
    split at e
    · rename_i j r hj
      rw [hj]
      split at e
      · have := g.bnone (a := a) (by rw [hj]; exact fun z => nomatch z)
        rw [this] at e
        cases e
      · rename_i hk
        simp [e, hk]
    · rename_i l hne hl
      refine ⟨e, ?_⟩
      rw [hl]
      split
      · rename_i j r hj
        cases hj
        exact (hne j r rfl).elim
      · rfl
    · rename_i hl
      rw [hl]
      exact ⟨(g.base a o e).1, rfl⟩
  frame := fun a o e => by
    obtain ⟨h1, h2, h3⟩ := g.frame a o e
    unfold ownTo baseTo
    rw [h2]
    exact ⟨h1, rfl, h3⟩
  live := fun a h => g.live a fun z => h (by unfold ownTo; rw [z])
theorem VRep.frozen (h0 : ∀ a o, B a = some o → own a = none) : ∀ {m : Mode} {j : Nat} {r : Lab} {v : V} {d : D}, keepsM G G2 j = false → VRep K B H own m ((j + 1) :: r) v d → Rp K (baseTo G G2 own B H) v d
  | .fz, j, r, v, d, hk, h => Rp.mono (fun a o e => by
      unfold baseTo
      rw [h0 a o e]
      exact e) h
  | .raw a dx, j, r, v, d, hk, ⟨h1, fs, h2, h3⟩ => by
    subst h1 h2
    exact .exc _ _
  | .own m, j, r, v, d, hk, ⟨l, vs, ds, hv, hd, ho, hl, hn, h⟩ => by
    subst hv hd
    refine .lst ?_ (RpA.of_get hn fun k v' d' h1 h2 => VRep.frozen h0 (r := r ++ [k]) hk (by simpa using h k v' d' h1 h2))
    unfold baseTo
    rw [ho]
    simp [hk, hl]
theorem VRep.kept (h0 : ∀ a o, B a = some o → own a = none) : ∀ {m : Mode} {j : Nat} {r : Lab} {v : V} {d : D}, keepsM G G2 j = true → VRep K B H own m ((j + 1) :: r) v d → VRep K (baseTo G G2 own B H) H (ownTo G G2 own) m ((j + 1) :: r) v d
  | .fz, j, r, v, d, hk, h => Rp.mono (fun a o e => by
      unfold baseTo
      rw [h0 a o e]
      exact e) h
  | .raw a dx, j, r, v, d, hk, ⟨h1, fs, h2, h3⟩ => ⟨h1, fs, h2, h3.mono fun a o e => by
      unfold baseTo
      rw [h0 a o e]
      exact e⟩
  | .own m, j, r, v, d, hk, ⟨l, vs, ds, hv, hd, ho, hl, hn, h⟩ =>
    ⟨l, vs, ds, hv, hd, by unfold ownTo; rw [ho]; simp [hk], hl, hn, fun k v' d' h1 h2 => VRep.kept h0 (r := r ++ [k]) hk (by simpa using h k v' d' h1 h2)⟩
/-- GHOST: slots freeze -/
theorem Good.to (g : Good K F G ρ own B σ H) (hle : leM G2 G) : Good K F G2 ρ (ownTo G G2 own) (baseTo G G2 own B H) σ H where
  gr := ground_to g.gr
  len := g.len
  slots := fun i d e => by
    obtain ⟨v, h1, h2⟩ := g.slots i d e
    refine ⟨v, h1, ?_⟩
    have h0 : ∀ a o, B a = some o → own a = none := fun a o e => (g.gr.base a o e).2
    by_cases hk : keepsM G G2 i = true
    · have e2 : G2.getD i Mode.fz = G.getD i Mode.fz := of_decide_eq_true hk
      rw [e2]
      exact VRep.kept h0 hk h2
    · have hk' : keepsM G G2 i = false := by simpa using hk
      rcases hle i with z | z
      · exact absurd (decide_eq_true z) hk
      · rw [z]
        exact VRep.frozen h0 hk' h2
theorem Good.all (g : Good K F G ρ own B σ H) : ∃ B', Ext B B' ∧ Good K F [] ρ (fun _ => none) B' σ H := by
  have hle : leM [] G := fun j => .inr (by simp)
  have g2 := g.to hle
  refine ⟨_, baseTo_ext (G := G) (G2 := []) g.gr, ⟨⟨fun a o e => ⟨(g2.gr.base a o e).1, rfl⟩, fun a o e => ⟨(g2.gr.frame a o e).1, rfl, (g2.gr.frame a o e).2.2⟩, fun a h => absurd rfl h⟩, g2.len, fun i d e => ?_⟩⟩
  obtain ⟨v, h1, h2⟩ := g2.slots i d e
  exact ⟨v, h1, h2⟩
end
section
variable {X : Cx} {W : WX} {L : LM} {G G' G2 : List Mode} {st : Stmt} {sts : List Stmt} {f : Rho → Out}
theorem ev_to {t : TS} (h : EvS X W L G2 t f G') (hle : leM G2 G) : EvS X W L G t f G' := fun F ρ own B σ H D gd q =>
  h F ρ _ _ σ H D (gd.to hle) (q.ext (baseTo_ext gd.gr))
theorem ev_out {t : TS} (h : EvS X W L G t f G') (hle : leM G2 G') : EvS X W L G t f G2 := fun F ρ own B σ H D gd q => by
  refine h F ρ own B σ H D gd ?_
  cases e : f ρ with
  | nx ρ' =>
    rw [e] at q
    exact fun own B' σ H e' g' => q _ _ σ H (e'.trans (baseTo_ext g'.gr)) (g'.to hle)
  | _ =>
    rw [e] at q
    exact q
theorem ssj_to (h : SsJ X W L G2 sts f G') (hle : leB G2 G = true) : SsJ X W L G sts f G' := let ⟨t, p, v⟩ := h; ⟨t, p, ev_to v (leM_of hle)⟩
theorem ssj_out (h : SsJ X W L G sts f G') (hle : leB G2 G' = true) : SsJ X W L G sts f G2 := let ⟨t, p, v⟩ := h; ⟨t, p, ev_out v (leM_of hle)⟩
theorem sj_to (h : SJ X W L G2 st f G') (hle : leB G2 G = true) : SJ X W L G st f G' := let ⟨t, p, v⟩ := h; ⟨t, p, ev_to v (leM_of hle)⟩

/-- an expression's exception leaves a statement -/
theorem WOk.out {F B H : Hp} {own : Own} {ρ : Rho} {σ : L2.St} {e : Exn} {D : Ends} (g : Good X.K F G ρ own B σ H) (q : PostS X W L G' F B D (.ex e ρ)) : WOk X.K X.mg W own F B H σ e := fun c dx B' H' s x => by
  obtain ⟨B2, e2, g2⟩ := (g.step s).all
  exact q c dx B2 σ H' (s.ext.trans e2) g2 (x.mono e2)
/-- what an expression gives goes on -/
def thenS {α : Type} (r : Res α) (ρ : Rho) (k : α → Out) : Out := match r with
  | .ok a => k a
  | .ex e => .ex e ρ
  | .no => .no
theorem thenS_has {α : Type} {r : Res α} {F B H : Hp} {own : Own} {ρ : Rho} {σ : L2.St} {D : Ends} {k : α → Out} (g : Good X.K F G ρ own B σ H) (q : PostS X W L G' F B D (thenS r ρ k)) : r.has (fun a => PostS X W L G' F B D (k a)) (WOk X.K X.mg W own F B H σ) := by
  cases r with
  | ok a => exact q
  | ex e => exact WOk.out g q
  | no => exact q

/-! ### blocks -/
def sSkip : Rho → Out := .nx
def sSeq (f g : Rho → Out) : Rho → Out := fun ρ => match f ρ with
  | .nx ρ' => g ρ'
  | o => o
theorem ssj_nil : SsJ X W L G [] sSkip G := ⟨_, pss_nil, fun F ρ own B σ H D gd q => q own B σ H (Same.refl B) gd⟩
theorem ssj_one (h : SJ X W L G st f G') : SsJ X W L G [st] f G' := let ⟨t, p, v⟩ := h; ⟨t, pss_one p, v⟩
theorem ssj_cons {g : Rho → Out} (h : SJ X W L G st f G2) (h' : SsJ X W L G2 sts g G') : SsJ X W L G (st :: sts) (sSeq f g) G' := by
  obtain ⟨t, p, v⟩ := h
  obtain ⟨u, p', v'⟩ := h'
  refine ⟨_, pss_cons p p', fun F ρ own B σ H D gd q => ?_⟩
  refine v F ρ own B σ H _ gd ?_
  unfold sSeq at q
  cases e : f ρ with
  | nx ρ' =>
    rw [e] at q
    exact fun own B' σ H e' g' => v' F ρ' own B' σ H D g' (q.ext e')
  | _ =>
    rw [e] at q
    exact q
theorem sj_pass {pos : Pos} : SJ X W L G (.Pass pos) sSkip G := ⟨_, ps_pass, fun F ρ own B σ H D gd q => q own B σ H (Same.refl B) gd⟩
theorem sj_break {pos : Pos} (h : leB L.bk G = true := by rfl) : SJ X W L G (.Break pos) .bk G' := ⟨_, ps_break, fun F ρ own B σ H D gd q => q _ _ σ H (baseTo_ext gd.gr) (gd.to (leM_of h))⟩
theorem sj_cont {pos : Pos} (h : leB L.ct G = true := by rfl) : SJ X W L G (.Continue pos) .ct G' := ⟨_, ps_continue, fun F ρ own B σ H D gd q => q _ _ σ H (baseTo_ext gd.gr) (gd.to (leM_of h))⟩
theorem sj_never : SJ X W L G st (fun _ => .no) G' := ⟨_, ps_never, fun F ρ own B σ H D gd q => q.elim⟩
def sIf (c : Rho → Res Bool) (f g : Rho → Out) : Rho → Out := fun ρ => thenS (c ρ) ρ fun b => if b = true then f ρ else g ρ
theorem sj_if {c : Expr} {a b : List Stmt} {gc : Rho → Res Bool} {g : Rho → Out} {pos : Pos} (hc : TJ X W G c gc) (ha : SsJ X W L G a f G') (hb : SsJ X W L G b g G') : SJ X W L G (.If c a b pos) (sIf gc f g) G' := by
  obtain ⟨tc, pc, vc⟩ := hc
  obtain ⟨ta, pa, va⟩ := ha
  obtain ⟨tb, pb, vb⟩ := hb
  refine ⟨_, ps_if pc pa pb, fun F ρ own B σ H D gd q => ?_⟩
  refine vc F ρ own B σ H _ gd (Res.has_mono (thenS_has gd q) (fun b q B' H' s => ?_) fun _ x => x)
  cases b with
  | true => exact va F ρ own B' σ H' D (gd.step s) (q.ext s.ext)
  | false => exact vb F ρ own B' σ H' D (gd.step s) (q.ext s.ext)

/-! ### assignments -/
variable {e : Expr} {x : Str} {i : Nat} {pos px : Pos}
def sSet (i : Nat) (g : Rho → Res D) : Rho → Out := fun ρ => thenS (g ρ) ρ fun d => .nx (ρ.set i (some d))
def sSetN (i : Nat) (g : Rho → Res (List D)) : Rho → Out := fun ρ => thenS (g ρ) ρ fun d => .nx (ρ.set i (some (.lst d)))
theorem ev_set {te : TE} {g : Rho → Res D} (v : Ev X W G te g) : EvS X W L G (tAsg te (gName i)) (sSet i g) (G.set i Mode.fz) := fun F ρ own B σ H D gd q => by
  refine v F ρ own B σ H _ gd (Res.has_mono (thenS_has gd q) (fun d q u B' H' s r => ?_) fun _ x => x)
  exact q _ B' _ H' s.ext ((gd.step s).set r)
theorem sj_set {g : Rho → Res D} (hN : X.N.Nodup) (hi : X.N[i]? = some x) (hx : Loc X.env.scope x) (he : EJ X W G e g) (hs : swapsWith e (some (.Name x px)) pos.line X.env = pure false := by rfl)
    (hf : X.fn x = true ∨ X.env.scope.names.lookup x = some .local := by first | exact .inl rfl | exact .inr rfl | assumption) : SJ X W L G (.Assign [.Name x px] e pos) (sSet i g) (G.set i Mode.fz) := by
  obtain ⟨te, pe, ve⟩ := he
  exact ⟨_, ps_set hN hi hx pe hs hf, ev_set ve⟩
/-- a new list becomes the slot's own -/
theorem Good.setN {K : PySem.W.Frag} {F B H B' H' : Hp} {own : Own} {ρ : Rho} {σ : L2.St} {p : Addr} {vs : List V} {ds : List D} (g : Good K F G ρ own B σ H) (s : Step own F B H B' H') (hB : B' p = none) (hF : F p = none) (ho : own p = none) (hp : H' p = some (.lst vs)) (r : RpA K B' vs ds)
    (hi : (G.set i (Mode.own Mode.fz)).getD i Mode.fz = Mode.own Mode.fz) : Good K F (G.set i (Mode.own Mode.fz)) (ρ.set i (some (.lst ds))) (fun a => if a = p then some [i + 1] else dropL own (i + 1) a) B' (σ.set i (some (.ref p))) H' := by
  have g1 := g.step s
  refine ⟨⟨fun a o e => ?_, fun a o e => ?_, fun a h => ?_⟩, by simpa using g.len, fun j d e => ?_⟩
  · have ne : a ≠ p := fun z => by
      rw [z, hB] at e
      cases e
    simp only [ne, if_false]
    exact ⟨(g1.gr.base a o e).1, none_back (fun a l h => dropL_some h) (g1.gr.base a o e).2⟩
  · have ne : a ≠ p := fun z => by
      rw [z, hF] at e
      cases e
    simp only [ne, if_false]
    exact ⟨(g1.gr.frame a o e).1, none_back (fun a l h => dropL_some h) (g1.gr.frame a o e).2.1, (g1.gr.frame a o e).2.2⟩
  · by_cases ha : a = p
    · rw [ha, hp]
      exact fun z => nomatch z
    · simp only [ha, if_false] at h
      exact g1.gr.live a fun z => h (none_back (fun a l h => dropL_some h) z)
  · have hl := g.len
    by_cases hj : i = j
    · subst hj
      have hlt : i < ρ.length := by
        have := (List.getElem?_eq_some_iff.mp e).1
        simpa using this
      rw [List.getElem?_set_self hlt] at e
      cases e
      refine ⟨.ref p, List.getElem?_set_self (by omega), ?_⟩
      rw [hi]
      refine ⟨p, vs, ds, rfl, rfl, by simp, hp, r.len, fun k v' d' h1 h2 => ?_⟩
      obtain ⟨d2, e1, e2⟩ := r.get' h1
      rw [h2] at e1
      cases e1
      exact e2
    · rw [List.getElem?_set_ne hj] at e
      obtain ⟨w, h1, h2⟩ := g1.slots j d e
      refine ⟨w, by rw [List.getElem?_set_ne hj]; exact h1, ?_⟩
      have e1 : (G.set i (Mode.own Mode.fz)).getD j Mode.fz = G.getD j Mode.fz := by simp [List.getD, List.getElem?_set_ne hj]
      rw [e1]
      refine VRep.own_congr (fun a r e => ?_) h2
      have ne : a ≠ p := fun z => by
        rw [z, ho] at e
        cases e
      simp only [ne, if_false]
      exact dropL_ne e (by omega)
theorem ev_setN {te : TE} {g : Rho → Res (List D)} (v : EvN X W G te g) (hi : (G.set i (Mode.own Mode.fz)).getD i Mode.fz = Mode.own Mode.fz) : EvS X W L G (tAsg te (gName i)) (sSetN i g) (G.set i (Mode.own Mode.fz)) := fun F ρ own B σ H D gd q => by
  refine v F ρ own B σ H _ gd (Res.has_mono (thenS_has gd q) (fun d q p vs B' H' s hB hF ho hp r => ?_) fun _ x => x)
  exact q _ B' _ H' s.ext (gd.setN s hB hF ho hp r hi)
theorem sj_setN {g : Rho → Res (List D)} (hN : X.N.Nodup) (hi : X.N[i]? = some x) (hx : Loc X.env.scope x) (he : NJ X W G e g) (hm : (G.set i (Mode.own Mode.fz)).getD i Mode.fz = Mode.own Mode.fz := by rfl) (hs : swapsWith e (some (.Name x px)) pos.line X.env = pure false := by rfl)
    (hf : X.fn x = true ∨ X.env.scope.names.lookup x = some .local := by first | exact .inl rfl | exact .inr rfl | assumption) : SJ X W L G (.Assign [.Name x px] e pos) (sSetN i g) (G.set i (Mode.own Mode.fz)) := by
  obtain ⟨te, pe, ve⟩ := he
  exact ⟨_, ps_set hN hi hx pe hs hf, ev_setN ve hm⟩
theorem sj_lc {g : Rho → Res (List D)} (h : LcJ X W G x px i e pos g) : SJ X W L G (.Assign [.Name x px] e pos) (sSet i (lstD g)) (G.set i Mode.fz) := by
  obtain ⟨te, ps, ve⟩ := h
  exact ⟨_, ps, ev_set ve.ev⟩
theorem sj_lcN {g : Rho → Res (List D)} (h : LcJ X W G x px i e pos g) (hm : (G.set i (Mode.own Mode.fz)).getD i Mode.fz = Mode.own Mode.fz := by rfl) : SJ X W L G (.Assign [.Name x px] e pos) (sSetN i g) (G.set i (Mode.own Mode.fz)) := by
  obtain ⟨te, ps, ve⟩ := h
  exact ⟨_, ps, ev_setN ve hm⟩
/-- a, b, .. = e -/
def sUnp (b : Bnd) (g : Rho → Res D) : Rho → Out := fun ρ => thenS (g ρ) ρ fun d => match b d ρ with
  | some ρ' => .nx ρ'
  | none => .no
theorem sj_unp {tg : Expr} {b : Bnd} {is : List Nat} {g : Rho → Res D} (he : EJ X W G e g) (hg : GJ X tg b is) (hG : ∀ i ∈ is, G.getD i Mode.fz = Mode.fz) (h1 : (assignEach [tg] X.env).map (·.2) = [assign tg X.env] := by rfl) (hs : swapsWithSole [tg] e pos.line X.env = pure false := by rfl) (hw : swappedStores [tg] e X.env = pure none := by rfl) :
    SJ X W L G (.Assign [tg] e pos) (sUnp b g) G := by
  obtain ⟨te, pe, ve⟩ := he
  obtain ⟨tg', pg, vg⟩ := hg
  refine ⟨_, ps_asg pe pg hs hw h1, fun F ρ own B σ H D gd q => ?_⟩
  refine ve F ρ own B σ H _ gd (Res.has_mono (thenS_has gd q) (fun d q u B' H' s r => ?_) fun _ x => x)
  cases hb : b d ρ with
  | none =>
    rw [hb] at q
    exact q.elim
  | some ρ' =>
    rw [hb] at q
    exact vg F own B' σ H' G ρ ρ' u d _ (gd.step s) r hb hG fun σ' g' _ => q own B' σ' H' s.ext g'
/-- x += e, ints -/
def sAug (h : Int → Int → Int) (i : Nat) (g : Rho → Res D) : Rho → Out := fun ρ => match ρ[i]? with
  | some (some (.int a)) => thenS (g ρ) ρ fun d => match d with
    | .int b => .nx (ρ.set i (some (.int (h a b))))
    | _ => .no
  | _ => .no
theorem sj_aug {g : Rho → Res D} {op : Operator} {h : Int → Int → Int} (ho : PIp X op (ipI h)) (hN : X.N.Nodup) (hi : X.N[i]? = some x) (hx : Loc X.env.scope x) (hm : G.getD i Mode.fz = Mode.fz) (he : BJ X W G e g)
    (hf : X.fn x = true ∨ X.env.scope.names.lookup x = some .local := by first | exact .inl rfl | exact .inr rfl | assumption) : SJ X W L G (.AugAssign (.Name x px) op e pos) (sAug h i g) G := by
  obtain ⟨te, pe, ve⟩ := he
  refine ⟨_, ps_aug hN hi hx pe ho hf, fun F ρ own B σ H D gd q => ?_⟩
  unfold sAug at q
  split at q
  · rename_i a ha
    obtain ⟨v, h1, h2⟩ := gd.slots i _ ha
    rw [hm] at h2
    cases h2
    refine ⟨_, h1, ve F ρ own B σ H _ gd (Res.has_mono (thenS_has gd q) (fun d q u B' H' s r => ?_) fun _ x => x)⟩
    cases d with
    | int b =>
      cases r.int
      exact ⟨a, b, rfl, rfl, q own B' _ H' s.ext ((gd.step s).set0 hm (.int _))⟩
    | _ => exact q.elim
  · exact q.elim

/-! ### an owned list changes -/
section
variable {K : PySem.W.Frag} {F B H : Hp} {own : Own} {ρ : Rho} {σ : L2.St}
theorem Good.ownAt {d : D} (g : Good K F G ρ own B σ H) (hG : G.getD i Mode.fz = Mode.own Mode.fz) (hρ : ρ[i]? = some (some d)) :
    ∃ (l : Addr) (vs : List V) (ds : List D), σ[i]? = some (some (.ref l)) ∧ d = .lst ds ∧ own l = some [i + 1] ∧ H l = some (.lst vs) ∧ RpA K B vs ds := by
  obtain ⟨v, h1, h2⟩ := g.slots i d hρ
  rw [hG] at h2
  obtain ⟨l, vs, ds, rfl, rfl, ho, hl, hn, h⟩ := h2
  exact ⟨l, vs, ds, h1, rfl, ho, hl, RpA.of_get hn h⟩
theorem VRep.upd {l : Addr} {o : HO} {lb : Lab} (ho : own l = some lb) : ∀ {m : Mode} {lab : Lab} {v : V} {d : D}, (∀ r, lab ++ r ≠ lb) → VRep K B H own m lab v d → VRep K B (upd H l o) own m lab v d
  | .fz, _, _, _, _, h => h
  | .raw _ _, _, _, _, _, h => h
  | .own m, lab, _, _, ne, ⟨l', vs, ds, hv, hd, ho', hl, hn, h⟩ =>
    ⟨l', vs, ds, hv, hd, ho', by
      rw [upd_ne]
      · exact hl
      · intro z
        rw [z, ho] at ho'
        exact ne [] (by simpa using (Option.some.inj ho').symm), hn, fun k v' d' h1 h2 => VRep.upd ho (fun r z => ne (k :: r) (by simpa using z)) (h k v' d' h1 h2)⟩
theorem Good.mut {l : Addr} {vs : List V} {ds : List D} (g : Good K F G ρ own B σ H) (hG : G.getD i Mode.fz = Mode.own Mode.fz) (hσ : σ[i]? = some (some (.ref l))) (ho : own l = some [i + 1]) (r : RpA K B vs ds) :
    Good K F G (ρ.set i (some (.lst ds))) own B σ (upd H l (.lst vs)) := by
  have hoN : own l ≠ none := by rw [ho]; exact fun z => nomatch z
  refine ⟨⟨fun a o e => ?_, fun a o e => ?_, fun a h => ?_⟩, by simpa using g.len, fun j d e => ?_⟩
  · have ne : a ≠ l := fun z => hoN (by rw [← z]; exact (g.gr.base a o e).2)
    rw [upd_ne ne]
    exact g.gr.base a o e
  · have ne : a ≠ l := fun z => hoN (by rw [← z]; exact (g.gr.frame a o e).2.1)
    rw [upd_ne ne]
    exact g.gr.frame a o e
  · by_cases ha : a = l
    · rw [ha, upd_same]
      exact fun z => nomatch z
    · rw [upd_ne ha]
      exact g.gr.live a h
  · by_cases hj : i = j
    · subst hj
      have hlt : i < ρ.length := by
        have := (List.getElem?_eq_some_iff.mp e).1
        simpa using this
      rw [List.getElem?_set_self hlt] at e
      cases e
      refine ⟨.ref l, hσ, ?_⟩
      rw [hG]
      refine ⟨l, vs, ds, rfl, rfl, ho, upd_same, r.len, fun k v' d' h1 h2 => ?_⟩
      obtain ⟨d2, e1, e2⟩ := r.get' h1
      rw [h2] at e1
      cases e1
      exact e2
    · rw [List.getElem?_set_ne hj] at e
      obtain ⟨w, h1, h2⟩ := g.slots j d e
      refine ⟨w, h1, VRep.upd ho (fun r z => ?_) h2⟩
      have := (List.cons.inj z).1
      omega
end
/-- what the owned list of slot i becomes -/
def atL (i : Nat) (ρ : Rho) (k : List D → Out) : Out := match ρ[i]? with
  | some (some (.lst xs)) => k xs
  | _ => .no
theorem atL_has {F B H : Hp} {own : Own} {ρ : Rho} {σ : L2.St} {D : Ends} {k : List T.D → Out} (g : Good X.K F G ρ own B σ H) (hG : G.getD i Mode.fz = Mode.own Mode.fz) (q : PostS X W L G' F B D (atL i ρ k)) :
    ∃ (l : Addr) (vs : List V) (ds : List T.D), σ[i]? = some (some (.ref l)) ∧ ρ[i]? = some (some (.lst ds)) ∧ own l = some [i + 1] ∧ H l = some (.lst vs) ∧ RpA X.K B vs ds ∧ PostS X W L G' F B D (k ds) := by
  unfold atL at q
  split at q
  · rename_i xs hx
    obtain ⟨l, vs, ds, h1, h2, h3, h4, h5⟩ := g.ownAt hG hx
    cases h2
    exact ⟨l, vs, xs, h1, hx, h3, h4, h5, q⟩
  · exact q.elim
def sApp (i : Nat) (g : Rho → Res D) : Rho → Out := fun ρ => atL i ρ fun xs => thenS (g ρ) ρ fun d => if xs.length < sizeLine then .nx (ρ.set i (some (.lst (xs ++ [d])))) else .no
variable {apos cpos : Pos}
theorem sj_app {g : Rho → Res D} (hv : PE X (.Name x px) (tVar i)) (hm : G.getD i Mode.fz = Mode.own Mode.fz) (he : EJ X W G e g)
    (hs : swapsWith (.Call (.Attribute (.Name x px) "append" apos) [e] [] cpos) none pos.line X.env = pure false := by rfl) (hbase : attributeBase (.Name x px) "append" X.env (eval (.Name x px) X.env) = eval (.Name x px) X.env := by rfl)
    (hfew : ((backTo cpos (starEach [e] X.env)).all (fun x => !x.1) && (backToKw cpos (keywordEach [] X.env)).all (fun x => x.1.isSome)
      && decide ([e].length + ([] : List Keyword).length + (if ([] : List Keyword).isEmpty then 0 else 1) < 30)) = true := by rfl)
    (hline : (apos.endLine == cpos.line) = true := by rfl) (hst : starEach [e] X.env = (false, eval e X.env) :: starEach [] X.env := by rfl) (hplain : (backTo cpos (starEach [] X.env)).any (·.1) = false := by rfl) :
    SJ X W L G (.Expr (.Call (.Attribute (.Name x px) "append" apos) [e] [] cpos) pos) (sApp i g) G := by
  obtain ⟨te, pe, ve⟩ := he
  refine ⟨_, ps_expr (pe_bm PySem.F.plainAttrs_list PySem.F.slot_list_append PySem.F.type_list_append mt_append hv (pa_cons pe pa_nil hst) hbase hfew hline hst hplain) hs, fun F ρ own B σ H D gd q => ?_⟩
  obtain ⟨l, vs, ds, h1, h2, h3, h4, h5, q⟩ := atL_has gd hm q
  refine ⟨.ref l, h1, .inl ⟨rfl, vs, .inl (.inl h4)⟩, ?_⟩
  refine ve F ρ own B σ H _ gd (Res.has_mono (thenS_has gd q) (fun d q u B' H' s r => ?_) fun _ x => x)
  split at q
  · rename_i hz
    have hoN : own l ≠ none := by rw [h3]; exact fun z => nomatch z
    refine ⟨l, vs, u, rfl, rfl, (s.ownd l hoN).1.trans h4, by rw [h5.len]; exact hz, ?_⟩
    exact q own B' σ _ s.ext ((gd.step s).mut hm h1 h3 ((h5.mono s.ext).app (.cons r .nil)))
  · exact q.elim
def sSetI (i : Nat) (gk g : Rho → Res D) : Rho → Out := fun ρ => thenS (g ρ) ρ fun d => atL i ρ fun xs => thenS (gk ρ) ρ fun k => match k with
  | .int k => match ixN xs.length k with
    | some j => .nx (ρ.set i (some (.lst (xs.set j d))))
    | none => .no
  | _ => .no
theorem sj_setI {k : Expr} {sp : Pos} {g gk : Rho → Res D} (hv : PE X (.Name x px) (tVar i)) (hm : G.getD i Mode.fz = Mode.own Mode.fz) (he : EJ X W G e g) (hk : BJ X W G k gk)
    (hg : ∀ {to ti : TE}, PE X (.Name x px) to → PE X k ti → PG X (.Subscript (.Name x px) k sp) (gSub to ti rSetL)) (h1 : (assignEach [.Subscript (.Name x px) k sp] X.env).map (·.2) = [assign (.Subscript (.Name x px) k sp) X.env] := by rfl) (hs : swapsWithSole [.Subscript (.Name x px) k sp] e pos.line X.env = pure false := by rfl) (hw : swappedStores [.Subscript (.Name x px) k sp] e X.env = pure none := by rfl) :
    SJ X W L G (.Assign [.Subscript (.Name x px) k sp] e pos) (sSetI i gk g) G := by
  obtain ⟨te, pe, ve⟩ := he
  obtain ⟨tk, pk, vk⟩ := hk
  refine ⟨_, ps_asg pe (hg hv pk) hs hw h1, fun F ρ own B σ H D gd q => ?_⟩
  refine ve F ρ own B σ H _ gd (Res.has_mono (thenS_has gd q) (fun d q u B' H' s r => ?_) fun _ x => x)
  have g1 := gd.step s
  obtain ⟨l, vs, ds, h1, h2, h3, h4, h5, q⟩ := atL_has g1 hm (q.ext s.ext)
  refine ⟨.ref l, h1, ?_⟩
  refine vk F ρ own B' σ H' _ g1 (Res.has_mono (thenS_has g1 q) (fun dk q w B2 H2 s2 r2 => ?_) fun _ x => x)
  cases dk with
  | int k =>
    cases r2.int
    simp only at q
    cases hj : ixN ds.length k with
    | none =>
      rw [hj] at q
      exact q.elim
    | some j =>
      rw [hj] at q
      have hoN : own l ≠ none := by rw [h3]; exact fun z => nomatch z
      refine ⟨l, vs, k, j, rfl, rfl, (s2.ownd l hoN).1.trans h4, by rw [h5.len]; exact hj, ?_⟩
      exact q own B2 σ _ s2.ext ((g1.step s2).mut hm h1 h3 ((h5.mono s2.ext).set j (r.mono s2.ext)))
  | _ => exact q.elim

/-! ### return -/
def sRet (g : Rho → Res D) : Rho → Out := fun ρ => thenS (g ρ) ρ .rt
def sRetN (g : Rho → Res (List D)) : Rho → Out := fun ρ => thenS (g ρ) ρ fun ds => .rt (.lst ds)
theorem sj_ret {g : Rho → Res D} (he : EJ X W G e g) (hm : L.rt = Mode.fz := by rfl) : SJ X W L G (.Return (some e) pos) (sRet g) G' := by
  obtain ⟨te, pe, ve⟩ := he
  refine ⟨_, ps_ret pe, fun F ρ own B σ H D gd q => ?_⟩
  refine ve F ρ own B σ H _ gd (Res.has_mono (thenS_has gd q) (fun d q u B' H' s r => ?_) fun _ x => x)
  refine q u own B' H' s.ext (gd.gr.step s) ?_
  rw [hm]
  exact r
theorem sj_retN {g : Rho → Res (List D)} (he : NJ X W G e g) (hm : L.rt = Mode.own Mode.fz := by rfl) : SJ X W L G (.Return (some e) pos) (sRetN g) G' := by
  obtain ⟨te, pe, ve⟩ := he
  refine ⟨_, ps_ret pe, fun F ρ own B σ H D gd q => ?_⟩
  refine ve F ρ own B σ H _ gd (Res.has_mono (thenS_has gd q) (fun d q p vs B' H' s hB hF ho hp r => ?_) fun _ x => x)
  have g1 := gd.gr.step s
  refine q (.ref p) (fun a => if a = p then some [0] else none) B' H' s.ext ⟨fun a o e => ⟨(g1.base a o e).1, ?_⟩, fun a o e => ⟨(g1.frame a o e).1, ?_, (g1.frame a o e).2.2⟩, fun a h => ?_⟩ ?_
  · have ne : a ≠ p := fun z => by
      rw [z, hB] at e
      cases e
    simp [ne]
  · have ne : a ≠ p := fun z => by
      rw [z, hF] at e
      cases e
    simp [ne]
  · by_cases ha : a = p
    · rw [ha, hp]
      exact fun z => nomatch z
    · simp [ha] at h
  · rw [hm]
    refine ⟨p, vs, d, rfl, rfl, by simp, hp, r.len, fun k v' d' h1 h2 => ?_⟩
    obtain ⟨d2, e1, e2⟩ := r.get' h1
    rw [h2] at e1
    cases e1
    exact e2
/-- return x, x an owned list -/
theorem sj_retV (hv : PE X (.Name x px) (tVar i)) (hG : G.getD i Mode.fz = Mode.own Mode.fz := by rfl) (hm : L.rt = Mode.own Mode.fz := by rfl) : SJ X W L G (.Return (some (.Name x px)) pos) (sRet (getV i)) G' := by
  refine ⟨_, ps_ret hv, fun F ρ own B σ H D gd q => ?_⟩
  unfold sRet getV at q
  cases e : ρ[i]? with
  | none =>
    rw [e] at q
    exact q.elim
  | some o =>
    cases o with
    | none =>
      rw [e] at q
      exact q.elim
    | some d =>
      rw [e] at q
      obtain ⟨l, vs, ds, h1, rfl, h3, h4, h5⟩ := gd.ownAt hG e
      refine ⟨_, h1, q (.ref l) (fun a => if a = l then some [0] else none) B H (Same.refl B) ⟨fun a o e => ⟨(gd.gr.base a o e).1, ?_⟩, fun a o e => ⟨(gd.gr.frame a o e).1, ?_, (gd.gr.frame a o e).2.2⟩, fun a h => ?_⟩ ?_⟩
      · have ne : a ≠ l := fun z => by
          have := (gd.gr.base a o e).2
          rw [z, h3] at this
          cases this
        simp [ne]
      · have ne : a ≠ l := fun z => by
          have := (gd.gr.frame a o e).2.1
          rw [z, h3] at this
          cases this
        simp [ne]
      · by_cases ha : a = l
        · rw [ha, h4]
          exact fun z => nomatch z
        · simp [ha] at h
      · rw [hm]
        refine ⟨l, vs, ds, rfl, rfl, by simp, h4, h5.len, fun k v' d' h1 h2 => ?_⟩
        obtain ⟨d2, e1, e2⟩ := h5.get' h1
        rw [h2] at e1
        cases e1
        exact e2
theorem sj_expr {g : Rho → Res D} (he : BJ X W G e g) (hs : swapsWith e none pos.line X.env = pure false := by rfl) : SJ X W L G (.Expr e pos) (fun ρ => thenS (g ρ) ρ fun _ => .nx ρ) G := by
  obtain ⟨te, pe, ve⟩ := he
  refine ⟨_, ps_expr pe hs, fun F ρ own B σ H D gd q => ?_⟩
  exact ve F ρ own B σ H _ gd (Res.has_mono (thenS_has gd q) (fun d q u B' H' s r => q own B' σ H' s.ext (gd.step s)) fun _ x => x)

/-! ### loops -/
def forM (b : Bnd) (body : Rho → Out) : List D → Rho → Out
  | [], ρ => .nx ρ
  | x :: xs, ρ => match b x ρ with
    | none => .no
    | some ρ1 => match body ρ1 with
      | .nx ρ2 => forM b body xs ρ2
      | .ct ρ2 => forM b body xs ρ2
      | .bk ρ2 => .nx ρ2
      | o => o
def sFor (src : Rho → Res (List D)) (b : Bnd) (body : Rho → Out) : Rho → Out := fun ρ => thenS (src ρ) ρ fun items => forM b body items ρ
theorem sj_for {tg iter : Expr} {body : List Stmt} {src : Rho → Res (List D)} {b : Bnd} {is : List Nat} {fb : Rho → Out} (hp : PassesOwn (model X.prog X.w) X.A X.env X.xe) (hc : X.calm = true) (hi : IJ X W G tg iter src) (hg : GJ X tg b is) (hG : ∀ i ∈ is, G.getD i Mode.fz = Mode.fz)
    (hb : SsJ X W ⟨G, G, L.rt⟩ G body fb G) (hs : ∀ x, foldedSetIterable iter X.env x = pure x := by intro _; rfl) : SJ X W L G (.For tg iter body [] pos) (sFor src b fb) G := by
  obtain ⟨wi, pi, vi⟩ := hi
  obtain ⟨g, pg, vg⟩ := hg
  obtain ⟨tb, pb, vb⟩ := hb
  refine ⟨_, ps_for hp hc pi pg pb hs, fun F ρ own B σ H D gd q => ?_⟩
  refine vi F ρ own B σ H _ gd (Res.has_mono (thenS_has gd q) (fun items q J B1 H1 s1 itr => ?_) fun _ x => x)
  refine ⟨fun i m σ' H' => m = items.length - i ∧ i ≤ items.length ∧ ∃ (ρ' : Rho) (own' : Own) (B' : Hp), Ext B1 B' ∧ Good X.K F G ρ' own' B' σ' H' ∧ PostS X W L G F B1 D (forM b fb (items.drop i) ρ'),
    ⟨items.length, by omega, Nat.zero_le _, ρ, own, B1, Same.refl B1, gd.step s1, by simpa using q.ext s1.ext⟩, fun i m σ' H' hW => ?_⟩
  obtain ⟨rfl, hile, ρ', own', B', e1, g1, q1⟩ := hW
  have itr' := itr own' B' H' e1 g1.gr i
  by_cases hi' : i = items.length
  · refine .inl ⟨itr'.1 hi', ?_⟩
    rw [hi', List.drop_length] at q1
    exact q1 own' B' σ' H' e1 g1
  · have hlt : i < items.length := by omega
    have hd : items[i]? = some items[i] := List.getElem?_eq_getElem hlt
    obtain ⟨go, yld⟩ := itr'.2 _ hd
    refine .inr ⟨go, _, fun σ4 H4 h4 => ⟨items.length - (i + 1), by omega, h4⟩, fun x H3 hy => ?_⟩
    obtain ⟨B3, s3, rx⟩ := yld x H3 hy
    rw [List.drop_eq_getElem_cons hlt] at q1
    simp only [forM] at q1
    cases hb : b items[i] ρ' with
    | none =>
      rw [hb] at q1
      exact q1.elim
    | some ρ1 =>
      rw [hb] at q1
      refine vg F own' B3 σ' H3 G ρ' ρ1 x _ _ (g1.step s3) rx hb hG fun σ2 g2 _ => ?_
      have e3 : Ext B1 B3 := e1.trans s3.ext
      refine vb F ρ1 own' B3 σ2 H3 _ g2 ?_
      simp only at q1
      cases ho : fb ρ1 with
      | nx ρ2 =>
        rw [ho] at q1
        exact fun own4 B4 σ4 H4 e4 g4 => ⟨rfl, by omega, ρ2, own4, B4, e3.trans e4, g4, q1⟩
      | ct ρ2 =>
        rw [ho] at q1
        exact fun own4 B4 σ4 H4 e4 g4 => ⟨rfl, by omega, ρ2, own4, B4, e3.trans e4, g4, q1⟩
      | bk ρ2 =>
        rw [ho] at q1
        exact fun own4 B4 σ4 H4 e4 g4 => q1 own4 B4 σ4 H4 (e3.trans e4) g4
      | rt d =>
        rw [ho] at q1
        exact fun v own4 B4 H4 e4 => q1 v own4 B4 H4 (e3.trans e4)
      | ex x ρ2 =>
        rw [ho] at q1
        exact fun c dx B4 σ4 H4 e4 => q1 c dx B4 σ4 H4 (e3.trans e4)
      | no =>
        rw [ho] at q1
        exact q1
def whileM (c : Rho → Res Bool) (body : Rho → Out) : Nat → Rho → Out
  | 0, _ => .no
  | n + 1, ρ => thenS (c ρ) ρ fun k => if k = true then match body ρ with
      | .nx ρ2 => whileM c body n ρ2
      | .ct ρ2 => whileM c body n ρ2
      | .bk ρ2 => .nx ρ2
      | o => o
    else .nx ρ
theorem sj_while {c : Expr} {body : List Stmt} {gc : Rho → Res Bool} {fb : Rho → Out} (n : Nat) (hp : PassesOwn (model X.prog X.w) X.A X.env X.xe) (hc : TJ X W G c gc) (hb : SsJ X W ⟨G, G, L.rt⟩ G body fb G) : SJ X W L G (.While c body [] pos) (whileM gc fb n) G := by
  obtain ⟨tc, pc, vc⟩ := hc
  obtain ⟨tb, pb, vb⟩ := hb
  refine ⟨_, ps_while hp pc pb, fun F ρ own B σ H D gd q => ?_⟩
  refine ⟨fun m σ' H' => ∃ (ρ' : Rho) (own' : Own) (B' : Hp), Good X.K F G ρ' own' B' σ' H' ∧ PostS X W L G F B' D (whileM gc fb m ρ'), ⟨n, ρ, own, B, gd, q⟩, fun m σ' H' hW => ?_⟩
  obtain ⟨ρ', own', B', g1, q1⟩ := hW
  cases m with
  | zero => exact q1.elim
  | succ m =>
    simp only [whileM] at q1
    refine vc F ρ' own' B' σ' H' _ g1 (Res.has_mono (thenS_has g1 q1) (fun k q2 B2 H2 s2 => ?_) fun _ x => x)
    have q3 := q2.ext s2.ext
    cases k with
    | false => exact q2 own' B2 σ' H2 s2.ext (g1.step s2)
    | true =>
      rw [if_pos rfl] at q3
      rw [if_pos rfl]
      refine ⟨fun σ4 H4 => ∃ (ρ4 : Rho) (own4 : Own) (B4 : Hp), Good X.K F G ρ4 own4 B4 σ4 H4 ∧ PostS X W L G F B4 D (whileM gc fb m ρ4), fun σ4 H4 h4 => ⟨m, Nat.lt_succ_self m, h4⟩, ?_⟩
      refine vb F ρ' own' B2 σ' H2 _ (g1.step s2) ?_
      cases ho : fb ρ' with
      | nx ρ2 =>
        rw [ho] at q3
        exact fun own4 B4 σ4 H4 e4 g4 => ⟨ρ2, own4, B4, g4, q3.ext e4⟩
      | ct ρ2 =>
        rw [ho] at q3
        exact fun own4 B4 σ4 H4 e4 g4 => ⟨ρ2, own4, B4, g4, q3.ext e4⟩
      | _ =>
        rw [ho] at q3
        exact q3
end

/-! ### defs -/
def startR (N : Nat) (ds : List D) : Rho := ds.map some ++ List.replicate (N - ds.length) none
/-- a def's mirror: n parameters, N names, its body -/
def runF (n N : Nat) (f : Rho → Out) : List D → Res D := fun ds => if ds.length = n then match f (startR N ds) with
    | .nx _ => .ok .non
    | .rt d => .ok d
    | .ex e _ => .ex e
    | _ => .no
  else .no
/-- a def's promise, by its mirror m -/
def spT (K : PySem.W.Frag) (mg : Str → Option Value) (md : Mode) (n : Nat) (m : List D → Res D) : Sp := fun vs H Q E => ∃ (ds : List D) (F B : Hp), ds.length = n ∧ RpA K B vs ds ∧ Ground F (fun _ => none) B H ∧
  (m ds).has (fun d => ∀ (v : V) (own : Own) (B' H' : Hp), Ext B B' → Ground F own B' H' → VRep K B' H' own md [0] v d → Q v H') fun e => ∀ (c : Value) (dx : Option Addr) (B' H' : Hp), Ext B B' → Ground F (fun _ => none) B' H' → ExR K mg B' H' e c dx → E c dx H'
abbrev WE1 (E : XK) : WX := fun cls d _ H => E cls d H
theorem good_start {K : PySem.W.Frag} {F B H : Hp} {G : List Mode} {N : Nat} {vs : List V} {ds : List D} {N' : List Str} (hN : N'.length = N) (g : Ground F (fun _ => none) B H) (r : RpA K B vs ds) (hG : ∀ j : Nat, G.getD j Mode.fz = Mode.fz) : Good K F G (startR N ds) (fun _ => none) B (L2.start N' vs) H := by
  refine ⟨g, by simp [startR, L2.start, r.len, hN], fun i d e => ?_⟩
  unfold startR at e
  rw [List.getElem?_append] at e
  split at e
  · rename_i hi
    rw [List.getElem?_map] at e
    obtain ⟨d', e1, e2⟩ := Option.map_eq_some_iff.mp e
    cases e2
    obtain ⟨v, h1, h2⟩ := r.get e1
    refine ⟨v, ?_, ?_⟩
    · unfold L2.start
      rw [List.getElem?_append_left (by simpa [r.len] using hi), List.getElem?_map, h1]
      rfl
    · rw [hG]
      exact h2
  · rename_i hi
    rw [List.getElem?_replicate] at e
    split at e <;> cases e
section
variable {P : Program} {w : World} {K : PySem.W.Frag} {mg : Str → Option Value} {base : Heap}
/-- THE RULE for a def -/
theorem fn_ok {x qual : Str} {st : Stmt} {f : Addr} {fd : FuncData} {N ps : List Str} {k : Nat} {md : Mode} {G : List Mode} {fm : Rho → Out} (Fn : Fun K x qual st f fd) (S : FnScope N ps (defScope st)) (n NN : Nat) (hn : ps.length = n := by rfl) (hNN : N.length = NN := by rfl) (hG : leB G [] = true := by rfl)
    (hm : ∀ ρ, md = Mode.fz ∨ ∀ ρ', fm ρ ≠ .nx ρ')
    (hbody : ∀ (cdv : Value) (A : Around) (outer : List Env) (s : Shared) (H : Hp) (E : XK), Room k (A.deeper (envOfC qual (defScope st) s.heap.objs.size f cdv)) →
      ∃ G', SsJ (cxOf (L2.CX P w) P w K mg base N qual (defScope st) f cdv A outer s H E) (WE1 E) ⟨[], [], md⟩ G (defBody st) fm G') : FnOk P w K mg base (L2.CX P w) (k + 1) f fd ps (spT K mg md n (runF n NN fm)) := by
  refine Fn.okX S (fun vs H Q E h => ?_) (fun cdv A outer s H vs Q E hr h => ?_)
  · obtain ⟨ds, F, B, h1, h2, _⟩ := h
    rw [h2.len, h1, hn]
  · obtain ⟨ds, F, B, h1, h2, h3, h4⟩ := h
    obtain ⟨G', t, p, v⟩ := hbody cdv A outer s H E hr
    refine ⟨t, p, v F (startR NN ds) (fun _ => none) B _ H _ (good_start hNN h3 h2 fun j => ?_) ?_⟩
    · rcases leM_of hG j with z | z
      · rw [z]
        simp
      · exact z
    · unfold runF at h4
      rw [if_pos h1] at h4
      cases e : fm (startR NN ds) with
      | nx ρ' =>
        rw [e] at h4
        rcases hm (startR NN ds) with z | z
        · subst z
          exact fun own B' σ H' e' g' => h4 .non own B' H' e' g'.gr .non
        · exact absurd e (z ρ')
      | rt d =>
        rw [e] at h4
        exact fun v own B' H' e' g' r => h4 v own B' H' e' g' r
      | ex x ρ' =>
        rw [e] at h4
        exact fun c dx B' σ H' e' g' r => h4 c dx B' H' e' g'.gr r
      | _ =>
        rw [e] at h4
        exact h4.elim
end

/-! ### calls of defs -/
/-- what the caller owns, others' for the callee -/
def lend (own : Own) (F H : Hp) : Hp := fun a => match own a with
  | some _ => H a
  | none => F a
section
variable {F B H B' H' : Hp} {own own' : Own}
theorem ground_lend (g : Ground F own B H) : Ground (lend own F H) (fun _ => none) B H where
  base := fun a o e => ⟨(g.base a o e).1, rfl⟩
  frame := fun a o e => by
    unfold lend at e
    split at e
    · rename_i l hl
      exact ⟨e, rfl, g.bnone (by rw [hl]; exact fun z => nomatch z)⟩
    · exact ⟨(g.frame a o e).1, rfl, (g.frame a o e).2.2⟩
  live := fun a h => absurd rfl h
theorem step_lend (g : Ground F own B H) (e : Ext B B') (g' : Ground (lend own F H) own' B' H') : Step own F B H B' H' where
  ext := e
  base := fun a o z => (g'.base a o z).1
  ownd := fun a h => by
    cases hH : H a with
    | none => exact absurd hH (g.live a h)
    | some o =>
      have hl : lend own F H a = some o := by
        unfold lend
        split
        · exact hH
        · rename_i z
          exact absurd z h
      exact ⟨(g'.frame a o hl).1, (g'.frame a o hl).2.2⟩
  frame := fun a o z => by
    have hl : lend own F H a = some o := by
      unfold lend
      rw [(g.frame a o z).2.1]
      exact z
    exact ⟨(g'.frame a o hl).1, (g'.frame a o hl).2.2⟩
end
section
variable {X : Cx} {W : WX} {G : List Mode} {e : Expr} {es : List Expr} {x : Str} {p pos : Pos} {k n : Nat} {f : Addr} {fd : FuncData} {ps : List Str} {m : List D → Res D}
theorem ej_call {g : Rho → Res (List D)} (hlen : ∀ ds, ds.length ≠ n → m ds = .no) (Fn : FnOk X.prog X.w X.K X.mg X.base (L2.CX X.prog X.w) k f fd ps (spT X.K X.mg Mode.fz n m)) (hr : Room k X.A) (hg : Gl X x) (hm : X.mg x = some (.ref f)) (hk : PySem.W.keepIn X.K (.ref f) = true) (hb : Binds X.K fd ps [])
    (tk : Takes X W) (ha : AJ X W G (e :: es) g) (hdb : (x == ("__debug__" : Str)) = false := by decide) (he : starEach (e :: es) X.env = (false, eval e X.env) :: starEach es X.env := by rfl) (hpl : (backTo pos (starEach es X.env)).any (·.1) = false := by rfl) :
    EJ X W G (.Call (.Name x p) (e :: es) [] pos) (callV m g) := by
  obtain ⟨t, pa, va⟩ := ha
  refine ⟨_, pe_callS Fn hr hg hm hk hb (fun σ => passAt tk σ) pa hdb he hpl, fun F ρ own B σ H Q gd q => ?_⟩
  refine va F ρ own B σ H _ gd (Res.has_mono (Res.has_bind q) (fun ds q vs B1 H1 s1 r => ?_) fun _ x => x)
  have g1 := (gd.step s1).gr
  have hl : ds.length = n := Classical.byContradiction fun z => by
    rw [hlen ds z] at q
    exact q
  refine ⟨ds, lend own F H1, B1, hl, r, ground_lend g1, Res.has_mono q (fun d q v own' B' H' e' g' r' => q v B' H' (s1.trans (step_lend g1 e' g')) r') fun x wk c dx B' H' e' g' xr => wk c dx B' H' (s1.trans (step_lend g1 e' g')) xr⟩
def asL : Res D → Res (List D)
  | .ok (.lst xs) => .ok xs
  | .ok _ => .no
  | .ex e => .ex e
  | .no => .no
def callN (m : List D → Res D) (g : Rho → Res (List D)) : Rho → Res (List D) := fun ρ => (g ρ).bind fun ds => asL (m ds)
theorem nj_call {g : Rho → Res (List D)} (hlen : ∀ ds, ds.length ≠ n → m ds = .no) (Fn : FnOk X.prog X.w X.K X.mg X.base (L2.CX X.prog X.w) k f fd ps (spT X.K X.mg (Mode.own Mode.fz) n m)) (hr : Room k X.A) (hg : Gl X x) (hm : X.mg x = some (.ref f)) (hk : PySem.W.keepIn X.K (.ref f) = true) (hb : Binds X.K fd ps [])
    (tk : Takes X W) (ha : AJ X W G (e :: es) g) (hdb : (x == ("__debug__" : Str)) = false := by decide) (he : starEach (e :: es) X.env = (false, eval e X.env) :: starEach es X.env := by rfl) (hpl : (backTo pos (starEach es X.env)).any (·.1) = false := by rfl) :
    NJ X W G (.Call (.Name x p) (e :: es) [] pos) (callN m g) := by
  obtain ⟨t, pa, va⟩ := ha
  refine ⟨_, pe_callS Fn hr hg hm hk hb (fun σ => passAt tk σ) pa hdb he hpl, fun F ρ own B σ H Q gd q => ?_⟩
  refine va F ρ own B σ H _ gd (Res.has_mono (Res.has_bind q) (fun ds q vs B1 H1 s1 r => ?_) fun _ x => x)
  have g1 := (gd.step s1).gr
  have hl : ds.length = n := Classical.byContradiction fun z => by
    rw [hlen ds z] at q
    exact q
  refine ⟨ds, lend own F H1, B1, hl, r, ground_lend g1, ?_⟩
  cases hd : m ds with
  | no =>
    rw [hd] at q
    exact q
  | ex x =>
    rw [hd] at q
    exact fun c dx B' H' e' g' xr => q c dx B' H' (s1.trans (step_lend g1 e' g')) xr
  | ok d =>
    rw [hd] at q
    rintro v own' B' H' e' g' ⟨l, us, es, rfl, rfl, ho, hl, hn, hr⟩
    have q' : ∀ (p : Addr) (vs : List V) (B' H' : Hp), Step own F B H B' H' → B' p = none → F p = none → own p = none → H' p = some (.lst vs) → RpA X.K B' vs es → Q (.ref p) H' := q
    have hlend : lend own F H1 l = none := by
      cases z : lend own F H1 l with
      | none => rfl
      | some o =>
        have := (g'.frame l o z).2.1
        rw [ho] at this
        cases this
    have hown : own l = none := by
      cases z : own l with
      | none => rfl
      | some lb =>
        unfold lend at hlend
        rw [z] at hlend
        exact absurd hlend (g1.live l (by rw [z]; exact fun z => nomatch z))
    have hF : F l = none := by
      unfold lend at hlend
      rw [hown] at hlend
      exact hlend
    exact q' l us B' H' (s1.trans (step_lend g1 e' g')) (g'.bnone (by rw [ho]; exact fun z => nomatch z)) hF hown hl (RpA.of_get hn hr)
theorem runF_len {n N : Nat} {f : Rho → Out} (ds : List D) (h : ds.length ≠ n) : runF n N f ds = .no := by
  unfold runF
  rw [if_neg h]
end
end T

set_option Elab.async false
set_option linter.all false
set_option maxRecDepth 100000
set_option maxHeartbeats 4000000
/-! T-layer, part H: short names, the law's end. -/
namespace T
open PySem PySem.Spec PyProof.Rows L2
def negV (f : Rho → Res D) : Rho → Res D := fun ρ => (f ρ).bind dNeg
def truV (f : Rho → Res D) : Rho → Res Bool := fun ρ => (f ρ).bind dTru
def itemsV (f : Rho → Res D) : Rho → Res (List D) := fun ρ => (f ρ).bind dItems
def ownItems (f : Rho → Res D) : Rho → Res (List D) := fun ρ => (f ρ).bind fun d => match d with
    | .lst xs => .ok xs
    | _ => .no
def sNever : Rho → Out := fun _ => .no
def sDrop (g : Rho → Res D) : Rho → Out := fun ρ => thenS (g ρ) ρ fun _ => .nx ρ

section
variable {X : Cx} {W : WX} {G : List Mode} {a b c : Expr} {pos : Pos}
theorem ev_test {t : TE} {g : Rho → Res D} (h : EvB X W G t g) : EvT X W G (tTest t) (toB g) := ev_toB h
theorem tj_cmp {op : CmpOp} {f : D → D → Res D} {ga gb : Rho → Res D} (ho : ∃ r, OpR X (compareOp op) r ∧ OpD X r f) (hf : Calm f) (hm : behindInMarks op b = false) (ha : BJ X W G a ga) (hb : BJ X W G b gb) : TJ X W G (.Compare a [op] [b] pos) (toB (bin f ga gb)) := by
  obtain ⟨r, h1, h2⟩ := ho
  obtain ⟨ta, pa, va⟩ := ha
  obtain ⟨tb, pb, vb⟩ := hb
  exact ⟨_, pt_cmpR h1 pa pb hm, ev_test (ev_op h2 hf va vb).b⟩
theorem tj_chain {op op' : CmpOp} {f g : D → D → Res D} {ga gb gc : Rho → Res D} (ho : ∃ r, OpR X (compareOp op) r ∧ OpD X r f) (hf : Calm f) (ho' : ∃ r, OpR X (compareOp op') r ∧ OpD X r g) (hg : Calm g) (ha : BJ X W G a ga) (hb : BJ X W G b gb) (hc : BJ X W G c gc)
    (hm : lastMarks [op, op'] [b, c] = false := by with_unfolding_all rfl) : TJ X W G (.Compare a [op, op'] [b, c] pos) (toB (chainV f g ga gb gc)) := by
  obtain ⟨r, h1, h2⟩ := ho
  obtain ⟨r', h1', h2'⟩ := ho'
  obtain ⟨ta, pa, va⟩ := ha
  obtain ⟨tb, pb, vb⟩ := hb
  obtain ⟨tc, pc, vc⟩ := hc
  exact ⟨_, pt_chain h1 h1' pa pb pc hm, ev_test (ev_chain h2 hf h2' hg va vb vc).b⟩
end
theorem RpA.of_ints {K : PySem.W.Frag} {B : Hp} : ∀ ys : List Int, RpA K B (ys.map V.int) (ys.map D.int)
  | [] => .nil
  | y :: ys => .cons (.int y) (RpA.of_ints ys)
def spLaw (K : PySem.W.Frag) : Sp := fun vs H Q _ => ∃ (a : Addr) (ns : List Int), vs = [.ref a] ∧ SqL K H a (ns.map V.int) ∧ ns.length ≤ 63 ∧ (∀ z ∈ ns, Builtin.Int.intBits z ≤ 1048576) ∧ ∀ H', Q (.bl true) H'
theorem law_imp {K : PySem.W.Frag} {mg : Str → Option Value} {f : List D → Res D} (goal : ∀ ns : List Int, ns.length ≤ 63 → (∀ z ∈ ns, Builtin.Int.intBits z ≤ 1048576) → f [.scr (ns.map D.int)] = .ok (.bl true)) (vs : List V) (H : Hp) (Q : VK) (E : XK) (h : spLaw K vs H Q E) : spT K mg Mode.fz 1 f vs H Q E := by
  obtain ⟨a, ns, rfl, hS, hl, hb, q⟩ := h
  refine ⟨[.scr (ns.map D.int)], fun _ => none, H, rfl, .cons (.scr hS (RpA.of_ints ns)) .nil, ⟨fun a o e => ⟨e, rfl⟩, fun a o e => (nomatch e), fun a h => absurd rfl h⟩, ?_⟩
  rw [goal ns hl hb]
  intro v own B' H' e g r
  cases r
  exact q H'
theorem cx_false {P : Program} {w : World} {outer : List Env} {H : Hp} {s : Shared} {e : Value} {s' : Shared} (h : L2.CX P w outer H s (fun _ _ _ => False) e s') : False := by
  obtain ⟨_, _, _, _, _, _, _, _, _, _, _, _, z⟩ := h
  exact z
end T

set_option Elab.async false
set_option linter.all false
set_option maxRecDepth 100000
set_option maxHeartbeats 4000000
/-! T-layer, part M: the mirrors, evaluated. -/
namespace T
open PySem L2
/-- so that simp does not take a theorem for a definitional one: the kernel would evaluate the tests of sizes -/
theorem mk_eq {α : Sort u} {a b : α} (h : a = b) : a = b := h
section
variable {α β : Type} {ρ : Rho} {f g : Rho → Out} {i : Nat} {d e : D}
theorem x_getV (h : ρ[i]? = some (some d)) : getV i ρ = .ok d := by
  unfold getV
  rw [h]
@[simp] theorem getV_0 {a : D} {r : Rho} : getV 0 (some a :: r) = .ok a := mk_eq rfl
@[simp] theorem getV_s {a : Option D} {r : Rho} : getV (i + 1) (a :: r) = getV i r := mk_eq rfl
@[simp] theorem conD_ap : conD d ρ = .ok d := mk_eq rfl
@[simp] theorem bin_ap {h : D → D → Res α} {a b : Rho → Res D} : bin h a b ρ = (a ρ).bind fun x => (b ρ).bind fun y => h x y := mk_eq rfl
@[simp] theorem toB_ap {a : Rho → Res D} : toB a ρ = (a ρ).bind fun d => match d with
  | .bl b => .ok b
  | _ => .no := rfl
@[simp] theorem truV_ap {a : Rho → Res D} : truV a ρ = (a ρ).bind dTru := mk_eq rfl
@[simp] theorem negV_ap {a : Rho → Res D} : negV a ρ = (a ρ).bind dNeg := mk_eq rfl
@[simp] theorem notV_ap {a : Rho → Res D} : notV a ρ = (a ρ).bind dNotB := mk_eq rfl
@[simp] theorem itemsV_ap {a : Rho → Res D} : itemsV a ρ = (a ρ).bind dItems := mk_eq rfl
@[simp] theorem andB_ap {a b : Rho → Res Bool} : andB a b ρ = (a ρ).bind fun k => if k = true then b ρ else .ok false := mk_eq rfl
@[simp] theorem orB_ap {a b : Rho → Res Bool} : orB a b ρ = (a ρ).bind fun k => if k = true then .ok true else b ρ := mk_eq rfl
@[simp] theorem notB_ap {a : Rho → Res Bool} : notB a ρ = (a ρ).bind fun k => .ok (!k) := mk_eq rfl
@[simp] theorem andV_ap {a b : Rho → Res D} : andV a b ρ = (a ρ).bind fun d => match d with
  | .bl k => if k = true then b ρ else .ok (.bl false)
  | _ => .no := rfl
@[simp] theorem orV_ap {a b : Rho → Res D} : orV a b ρ = (a ρ).bind fun d => match d with
  | .bl k => if k = true then .ok (.bl true) else b ρ
  | _ => .no := rfl
@[simp] theorem ifV_ap {c : Rho → Res Bool} {a b : Rho → Res D} : ifV c a b ρ = (c ρ).bind fun k => if k = true then a ρ else b ρ := mk_eq rfl
@[simp] theorem chainV_ap {h h' : D → D → Res D} {a b c : Rho → Res D} : chainV h h' a b c ρ = (a ρ).bind fun x => (b ρ).bind fun y => (h x y).bind fun z => match z with
  | .bl k => if k = true then (c ρ).bind fun w => h' y w else .ok (.bl false)
  | _ => .no := rfl
@[simp] theorem noA_ap : noA ρ = .ok [] := mk_eq rfl
@[simp] theorem consA_ap {a : Rho → Res D} {b : Rho → Res (List D)} : consA a b ρ = (a ρ).bind fun d => (b ρ).bind fun ds => .ok (d :: ds) := mk_eq rfl
@[simp] theorem callV_ap {h : List D → Res α} {b : Rho → Res (List D)} : callV h b ρ = (b ρ).bind h := mk_eq rfl
@[simp] theorem callN_ap {h : List D → Res D} {b : Rho → Res (List D)} : callN h b ρ = (b ρ).bind fun ds => asL (h ds) := mk_eq rfl
@[simp] theorem asL_lst {xs : List D} : asL (.ok (.lst xs)) = .ok xs := mk_eq rfl
@[simp] theorem lstD_ap {b : Rho → Res (List D)} : lstD b ρ = (b ρ).bind fun ds => .ok (.lst ds) := mk_eq rfl
@[simp] theorem lstV_ap {b : Rho → Res (List D)} : lstV b ρ = (b ρ).bind fun ds => if ds.length ≤ sizeLine then .ok ds else .no := mk_eq rfl
@[simp] theorem tupV_ap {b : Rho → Res (List D)} : tupV b ρ = (b ρ).bind fun ds => if ds.length ≤ sizeLine then .ok (.tup ds) else .no := mk_eq rfl
@[simp] theorem noPart_ap : noPart ρ = .ok none := mk_eq rfl
@[simp] theorem toPart_ap {a : Rho → Res D} : toPart a ρ = (a ρ).bind fun d => match d with
  | .int i => .ok (some i)
  | _ => .no := rfl
@[simp] theorem slV_ap {h : D → Option Int → Option Int → Res α} {a : Rho → Res D} {l k : Rho → Res (Option Int)} : slV h a l k ρ = (a ρ).bind fun x => (l ρ).bind fun l => (k ρ).bind fun k => h x l k := mk_eq rfl
@[simp] theorem methV_ap {n : String} {h : D → List D → Res α} {a : Rho → Res D} {b : Rho → Res (List D)} : methV n h a b ρ = (a ρ).bind fun d => if d.isTy n = true then (b ρ).bind fun ds => h d ds else .no := mk_eq rfl
@[simp] theorem compV_ap {s : Rho → Res (List D)} {b : Bnd} {c : Rho → Res Bool} {h : Rho → Res D} {vs : List Nat} : compV s b c h vs ρ = (s ρ).bind fun items => if items.length ≤ sizeLine then lcM b c h (wipeR ρ vs) items else .no := mk_eq rfl
@[simp] theorem yesB_ap : yesB ρ = .ok true := mk_eq rfl
@[simp] theorem ownItems_ap {a : Rho → Res D} : ownItems a ρ = (a ρ).bind fun d => match d with
    | .lst xs => .ok xs
    | _ => .no := rfl
/-! statements -/
@[simp] theorem thenS_ok {a : α} {k : α → Out} : thenS (.ok a) ρ k = k a := mk_eq rfl
@[simp] theorem thenS_no {k : α → Out} : thenS (.no : Res α) ρ k = .no := mk_eq rfl
@[simp] theorem thenS_ex {x : Exn} {k : α → Out} : thenS (.ex x : Res α) ρ k = .ex x ρ := mk_eq rfl
@[simp] theorem sSkip_ap : sSkip ρ = .nx ρ := mk_eq rfl
theorem sSeq_ap : sSeq f g ρ = match f ρ with
  | .nx ρ' => g ρ'
  | o => o := rfl
theorem sSeq_nx {ρ' : Rho} (h : f ρ = .nx ρ') : sSeq f g ρ = g ρ' := by rw [sSeq_ap, h]
theorem sSeq_rt (h : f ρ = .rt d) : sSeq f g ρ = .rt d := by rw [sSeq_ap, h]
@[simp] theorem sIf_ap {c : Rho → Res Bool} : sIf c f g ρ = thenS (c ρ) ρ fun b => if b = true then f ρ else g ρ := mk_eq rfl
@[simp] theorem sSet_ap {a : Rho → Res D} : sSet i a ρ = thenS (a ρ) ρ fun d => .nx (ρ.set i (some d)) := mk_eq rfl
@[simp] theorem sSetN_ap {a : Rho → Res (List D)} : sSetN i a ρ = thenS (a ρ) ρ fun d => .nx (ρ.set i (some (.lst d))) := mk_eq rfl
@[simp] theorem sRet_ap {a : Rho → Res D} : sRet a ρ = thenS (a ρ) ρ .rt := mk_eq rfl
@[simp] theorem sRetN_ap {a : Rho → Res (List D)} : sRetN a ρ = thenS (a ρ) ρ fun ds => .rt (.lst ds) := mk_eq rfl
@[simp] theorem sDrop_ap {a : Rho → Res D} : sDrop a ρ = thenS (a ρ) ρ fun _ => .nx ρ := mk_eq rfl
@[simp] theorem sNever_ap : sNever ρ = .no := mk_eq rfl
@[simp] theorem sUnp_ap {b : Bnd} {a : Rho → Res D} : sUnp b a ρ = thenS (a ρ) ρ fun d => match b d ρ with
  | some ρ' => .nx ρ'
  | none => .no := rfl
@[simp] theorem sApp_ap {a : Rho → Res D} : sApp i a ρ = atL i ρ fun xs => thenS (a ρ) ρ fun d => if xs.length < sizeLine then .nx (ρ.set i (some (.lst (xs ++ [d])))) else .no := mk_eq rfl
@[simp] theorem sSetI_ap {gk a : Rho → Res D} : sSetI i gk a ρ = thenS (a ρ) ρ fun d => atL i ρ fun xs => thenS (gk ρ) ρ fun k => match k with
  | .int k => match ixN xs.length k with
    | some j => .nx (ρ.set i (some (.lst (xs.set j d))))
    | none => .no
  | _ => .no := rfl
theorem x_atL {xs : List D} {k : List D → Out} (h : ρ[i]? = some (some (.lst xs))) : atL i ρ k = k xs := by
  unfold atL
  rw [h]
@[simp] theorem atL_0 {xs : List D} {r : Rho} {k : List D → Out} : atL 0 (some (.lst xs) :: r) k = k xs := mk_eq rfl
theorem atL_s {a : Option D} {r : Rho} {k : List D → Out} : atL (i + 1) (a :: r) k = atL i r k := mk_eq rfl
@[simp] theorem sFor_ap {s : Rho → Res (List D)} {b : Bnd} : sFor s b f ρ = thenS (s ρ) ρ fun items => forM b f items ρ := mk_eq rfl
@[simp] theorem bNm_ap : bNm i d ρ = some (ρ.set i (some d)) := mk_eq rfl
@[simp] theorem bNil_ap : bNil [] ρ = some ρ := mk_eq rfl
@[simp] theorem bCons_ap {b : Bnd} {c : BndA} {r : List D} : bCons b c (d :: r) ρ = (b d ρ).bind fun ρ' => c r ρ' := mk_eq rfl
@[simp] theorem bTp_tup {n : Nat} {b : BndA} {ds : List D} : bTp n b (.tup ds) ρ = if ds.length = n then b ds ρ else none := mk_eq rfl
@[simp] theorem bTp_lst {n : Nat} {b : BndA} {ds : List D} : bTp n b (.lst ds) ρ = if ds.length = n then b ds ρ else none := mk_eq rfl
/-! operations -/
variable {x y : Int} {s t : Str} {p q : Bool} {xs ys : List D}
@[simp] theorem dAdd_i : dAdd (.int x) (.int y) = .ok (.int (x + y)) := mk_eq rfl
@[simp] theorem dAdd_l : dAdd (.lst xs) (.lst ys) = if xs.length + ys.length ≤ sizeLine then .ok (.lst (xs ++ ys)) else .no := mk_eq rfl
@[simp] theorem dAdd_t : dAdd (.tup xs) (.tup ys) = if xs.length + ys.length ≤ sizeLine then .ok (.tup (xs ++ ys)) else .no := mk_eq rfl
@[simp] theorem dAdd_s : dAdd (.str s) (.str t) = if s.length + t.length ≤ sizeLine then .ok (.str (s ++ t)) else .no := mk_eq rfl
@[simp] theorem dCat_l : dCat (.lst xs) (.lst ys) = if xs.length + ys.length ≤ sizeLine then .ok (xs ++ ys) else .no := mk_eq rfl
@[simp] theorem dSub_i : dSub (.int x) (.int y) = .ok (.int (x - y)) := mk_eq rfl
theorem dMul_i : dMul (.int x) (.int y) = if CMulX x y then .ok (.int (x * y)) else .no := mk_eq rfl
theorem dMul_ok (h : CMulX x y) : dMul (.int x) (.int y) = .ok (.int (x * y)) := if_pos h
theorem dDiv_i : dDiv (.int x) (.int y) = if 0 < y ∧ y.natAbs.log2 < 9000 then .ok (.int (x / y)) else .no := mk_eq rfl
theorem dDiv_ok (h : 0 < y ∧ y.natAbs.log2 < 9000) : dDiv (.int x) (.int y) = .ok (.int (x / y)) := if_pos h
theorem dMod_i : dMod (.int x) (.int y) = if 0 < y then .ok (.int (x % y)) else .no := mk_eq rfl
theorem dMod_ok (h : 0 < y) : dMod (.int x) (.int y) = .ok (.int (x % y)) := if_pos h
@[simp] theorem dNeg_i : dNeg (.int x) = .ok (.int (-x)) := mk_eq rfl
@[simp] theorem dNotB_b : dNotB (.bl p) = .ok (.bl (!p)) := mk_eq rfl
@[simp] theorem dLt_i : dLt (.int x) (.int y) = .ok (.bl (decide (x < y))) := mk_eq rfl
@[simp] theorem dLe_i : dLe (.int x) (.int y) = .ok (.bl (decide (x ≤ y))) := mk_eq rfl
@[simp] theorem dGt_i : dGt (.int x) (.int y) = .ok (.bl (decide (y < x))) := mk_eq rfl
@[simp] theorem dGe_i : dGe (.int x) (.int y) = .ok (.bl (decide (y ≤ x))) := mk_eq rfl
@[simp] theorem dEq_i : dEq (.int x) (.int y) = .ok (.bl (decide (x = y))) := by
  show Res.ok (D.bl (x == y)) = _
  rw [show (x == y) = decide (x = y) by rw [Bool.eq_iff_iff]; simp]
@[simp] theorem dNe_i : dNe (.int x) (.int y) = .ok (.bl (!decide (x = y))) := by
  show Res.ok (D.bl (!(x == y))) = _
  rw [show (x == y) = decide (x = y) by rw [Bool.eq_iff_iff]; simp]
@[simp] theorem dEq_b : dEq (.bl p) (.bl q) = .ok (.bl (decide (p = q))) := by
  show Res.ok (D.bl (p == q)) = _
  rw [show (p == q) = decide (p = q) by rw [Bool.eq_iff_iff]; simp]
@[simp] theorem dNe_b : dNe (.bl p) (.bl q) = .ok (.bl (!decide (p = q))) := by
  show Res.ok (D.bl (!(p == q))) = _
  rw [show (p == q) = decide (p = q) by rw [Bool.eq_iff_iff]; simp]
@[simp] theorem dEq_s : dEq (.str s) (.str t) = .ok (.bl (decide (s = t))) := by
  show Res.ok (D.bl (s == t)) = _
  rw [show (s == t) = decide (s = t) by rw [Bool.eq_iff_iff]; simp]
@[simp] theorem dNe_s : dNe (.str s) (.str t) = .ok (.bl (!decide (s = t))) := by
  show Res.ok (D.bl (!(s == t))) = _
  rw [show (s == t) = decide (s = t) by rw [Bool.eq_iff_iff]; simp]
theorem dEq_d (h : D.dat 60 d = true) (h' : D.dat 60 e = true) : dEq d e = .ok (.bl (d.eqb e)) := if_pos ⟨h, h'⟩
theorem dNe_d (h : D.dat 60 d = true) (h' : D.dat 60 e = true) : dNe d e = .ok (.bl (!d.eqb e)) := if_pos ⟨h, h'⟩
@[simp] theorem dLen_l : dLen [.lst xs] = .ok (.int xs.length) := mk_eq rfl
@[simp] theorem dLen_t : dLen [.tup xs] = .ok (.int xs.length) := mk_eq rfl
@[simp] theorem dLen_c : dLen [.scr xs] = .ok (.int xs.length) := mk_eq rfl
@[simp] theorem dLen_s : dLen [.str s] = if s.length ≤ sizeLine then .ok (.int s.length) else .no := mk_eq rfl
@[simp] theorem dList_l : dList [.lst xs] = .ok xs := mk_eq rfl
@[simp] theorem dList_t : dList [.tup xs] = .ok xs := mk_eq rfl
@[simp] theorem dTuple_l : dTuple [.lst xs] = .ok (.tup xs) := mk_eq rfl
@[simp] theorem dTuple_t : dTuple [.tup xs] = .ok (.tup xs) := mk_eq rfl
@[simp] theorem dInt_i : dInt [.int x] = .ok (.int x) := mk_eq rfl
@[simp] theorem dMax2_i : dMax2 [.int x, .int y] = .ok (.int (if y > x then y else x)) := mk_eq rfl
@[simp] theorem dMin2_i : dMin2 [.int x, .int y] = .ok (.int (if y < x then y else x)) := mk_eq rfl
@[simp] theorem dItems_l : dItems (.lst xs) = .ok xs := mk_eq rfl
@[simp] theorem dItems_t : dItems (.tup xs) = .ok xs := mk_eq rfl
@[simp] theorem dItems_s : dItems (.str s) = .ok (s.cps.toList.map fun c => .str ⟨#[c]⟩) := mk_eq rfl
@[simp] theorem dTru_b : dTru (.bl p) = .ok p := mk_eq rfl
@[simp] theorem dSl_l {lo hi : Option Int} : dSl (.lst xs) lo hi = .ok (.lst (cutL xs lo hi)) := mk_eq rfl
@[simp] theorem dSl_t {lo hi : Option Int} : dSl (.tup xs) lo hi = .ok (.tup (cutL xs lo hi)) := mk_eq rfl
@[simp] theorem dSlN_l {lo hi : Option Int} : dSlN (.lst xs) lo hi = .ok (cutL xs lo hi) := mk_eq rfl
theorem dIx_l (h : atI xs x = some d) : dIx (.lst xs) (.int x) = .ok d := by
  show (match atI xs x with | some d => Res.ok d | none => .no) = _
  rw [h]
theorem dIx_t (h : atI xs x = some d) : dIx (.tup xs) (.int x) = .ok d := by
  show (match atI xs x with | some d => Res.ok d | none => .no) = _
  rw [h]
theorem dIx_c (h : atI xs x = some d) : dIx (.scr xs) (.int x) = .ok d := by
  show (match atI xs x with | some d => Res.ok d | none => .no) = _
  rw [h]
@[simp] theorem isi_ll : dIsi [.lst xs, .ty "list"] = .ok (.bl true) := by
  show (match kitB "list" "list" with | some r => Res.ok (D.bl r) | none => .no) = _
  rw [show kitB "list" "list" = some true by decide +kernel]
@[simp] theorem isi_tt : dIsi [.tup xs, .ty "tuple"] = .ok (.bl true) := by
  show (match kitB "tuple" "tuple" with | some r => Res.ok (D.bl r) | none => .no) = _
  rw [show kitB "tuple" "tuple" = some true by decide +kernel]
@[simp] theorem isi_ss : dIsi [.str s, .ty "str"] = .ok (.bl true) := by
  show (match kitB "str" "str" with | some r => Res.ok (D.bl r) | none => .no) = _
  rw [show kitB "str" "str" = some true by decide +kernel]
@[simp] theorem isi_ii : dIsi [.int x, .ty "int"] = .ok (.bl true) := by
  show (match kitB "int" "int" with | some r => Res.ok (D.bl r) | none => .no) = _
  rw [show kitB "int" "int" = some true by decide +kernel]
@[simp] theorem isi_ni : dIsi [.non, .ty "int"] = .ok (.bl false) := by
  show (match kitB "NoneType" "int" with | some r => Res.ok (D.bl r) | none => .no) = _
  rw [show kitB "NoneType" "int" = some false by decide +kernel]
@[simp] theorem dIs_n : dIs d .non = .ok (.bl d.isNon) := mk_eq rfl
@[simp] theorem dIs_b : dIs (.bl p) (.bl q) = .ok (.bl (p == q)) := mk_eq rfl
@[simp] theorem dIsNot_n : dIsNot d .non = .ok (.bl (!d.isNon)) := mk_eq rfl
@[simp] theorem dIsNot_b : dIsNot (.bl p) (.bl q) = .ok (.bl (!(p == q))) := mk_eq rfl
end

/-! ### data of one kind -/
theorem ints_map : ∀ ns : List Int, D.ints (ns.map D.int) = some ns
  | [] => rfl
  | n :: ns => by simp [D.ints, ints_map ns]
theorem bools_map : ∀ ns : List Bool, D.bools (ns.map D.bl) = some ns
  | [] => rfl
  | n :: ns => by simp [D.bools, bools_map ns]
theorem strs_map : ∀ ns : List Str, D.strs (ns.map D.str) = some ns
  | [] => rfl
  | n :: ns => by simp [D.strs, strs_map ns]
theorem eqbA_map {α : Type} [DecidableEq α] {f : α → D} (h : ∀ a b, (f a).eqb (f b) = decide (a = b)) : ∀ xs ys : List α, D.eqbA (xs.map f) (ys.map f) = decide (xs = ys)
  | [], [] => by simp [D.eqbA]
  | [], _ :: _ => by simp [D.eqbA]
  | _ :: _, [] => by simp [D.eqbA]
  | x :: xs, y :: ys => by
    simp only [List.map_cons, D.eqbA, h, eqbA_map h xs ys]
    by_cases h1 : x = y <;> by_cases h2 : xs = ys <;> simp [h1, h2]
theorem datA_map {α : Type} {f : α → D} {n : Nat} (h : ∀ a, D.dat n (f a) = true) : ∀ xs : List α, D.datA n (xs.map f) = true
  | [] => by simp [D.datA]
  | x :: xs => by simp [D.datA, h, datA_map h xs]
@[simp] theorem dat_int {n : Nat} {x : Int} : D.dat n (.int x) = true := by cases n <;> rfl
@[simp] theorem dat_str {n : Nat} {x : Str} : D.dat n (.str x) = true := by cases n <;> rfl
@[simp] theorem dat_bl {n : Nat} {x : Bool} : D.dat n (.bl x) = true := by cases n <;> rfl
@[simp] theorem dat_non {n : Nat} : D.dat n .non = true := by cases n <;> rfl
@[simp] theorem dat_lst {n : Nat} {xs : List D} : D.dat (n + 1) (.lst xs) = D.datA n xs := mk_eq rfl
@[simp] theorem dat_tup {n : Nat} {xs : List D} : D.dat (n + 1) (.tup xs) = D.datA n xs := mk_eq rfl
@[simp] theorem datA_nil {n : Nat} : D.datA n [] = true := by simp [D.datA]
@[simp] theorem datA_cons {n : Nat} {x : D} {xs : List D} : D.datA n (x :: xs) = (D.dat n x && D.datA n xs) := by simp [D.datA]
@[simp] theorem datA_ints {n : Nat} (ns : List Int) : D.datA n (ns.map D.int) = true := datA_map (fun _ => dat_int) ns
theorem eqb_int (a b : Int) : (D.int a).eqb (.int b) = decide (a = b) := by
  show (a == b) = _
  rw [Bool.eq_iff_iff]
  simp
theorem eqb_str (a b : Str) : (D.str a).eqb (.str b) = decide (a = b) := by
  show (a == b) = _
  rw [Bool.eq_iff_iff]
  simp
theorem eqbA_ints (xs ys : List Int) : D.eqbA (xs.map D.int) (ys.map D.int) = decide (xs = ys) := eqbA_map eqb_int xs ys

/-! ### loops -/
/-- a loop that stores: s the state, j what is forgotten; I by the turn -/
theorem forM_foldA {α σ τ : Type} {b : Bnd} {body : Rho → Out} {enc : α → D} (st : σ → τ → Rho) (f : σ → α → σ) (I : Nat → σ → Prop) : ∀ (xs : List α) (k : Nat), (∀ (i : Nat) s j x, xs[i]? = some x → I (k + i) s → ∃ ρ1 j', b (enc x) (st s j) = some ρ1 ∧ (body ρ1 = .nx (st (f s x) j') ∨ body ρ1 = .ct (st (f s x) j')) ∧ I (k + i + 1) (f s x)) →
    ∀ s j, I k s → ∃ j', forM b body (xs.map enc) (st s j) = .nx (st (xs.foldl f s) j') ∧ I (k + xs.length) (xs.foldl f s)
  | [], _, _, s, j, hI => ⟨j, rfl, hI⟩
  | x :: xs, k, h, s, j, hI => by
    obtain ⟨ρ1, j1, h1, h2, h3⟩ := h 0 s j x rfl hI
    obtain ⟨j2, h4, h5⟩ := forM_foldA st f I xs (k + 1) (fun i s j y hy hI => by
      have := h (i + 1) s j y (by simpa using hy) (by rw [show k + (i + 1) = k + 1 + i by omega]; exact hI)
      rw [show k + (i + 1) + 1 = k + 1 + i + 1 by omega] at this
      exact this) (f s x) j1 (by simpa using h3)
    refine ⟨j2, ?_, by rw [show k + (x :: xs).length = k + 1 + xs.length by simp; omega]; exact h5⟩
    simp only [List.map_cons, forM, h1]
    rcases h2 with h2 | h2
    · rw [h2]
      exact h4
    · rw [h2]
      exact h4
theorem forM_fold {α σ τ : Type} {b : Bnd} {body : Rho → Out} {enc : α → D} (st : σ → τ → Rho) (f : σ → α → σ) (I : Nat → σ → Prop) (xs : List α) (h : ∀ (i : Nat) s j x, xs[i]? = some x → I i s → ∃ ρ1 j', b (enc x) (st s j) = some ρ1 ∧ (body ρ1 = .nx (st (f s x) j') ∨ body ρ1 = .ct (st (f s x) j')) ∧ I (i + 1) (f s x))
    (s : σ) (j : τ) (hI : I 0 s) : ∃ j', forM b body (xs.map enc) (st s j) = .nx (st (xs.foldl f s) j') ∧ I xs.length (xs.foldl f s) := by
  have := forM_foldA st f I xs 0 (fun i s j x hx hI => by
    rw [Nat.zero_add] at hI ⊢
    exact h i s j x hx hI) s j hI
  rw [Nat.zero_add] at this
  exact this
/-- a comprehension whose elements never fail -/
theorem lcM_map {α β : Type} {b : Bnd} {f : Rho → Res D} {ρ : Rho} {enc : α → D} {dec : β → D} (g : α → β) : ∀ (xs : List α), (∀ x, x ∈ xs → ∃ ρ1, b (enc x) ρ = some ρ1 ∧ f ρ1 = .ok (dec (g x))) → lcM b yesB f ρ (xs.map enc) = .ok ((xs.map g).map dec)
  | [], _ => rfl
  | x :: xs, h => by
    obtain ⟨ρ1, h1, h2⟩ := h x List.mem_cons_self
    have ih := lcM_map (dec := dec) g xs fun y hy => h y (List.mem_cons_of_mem _ hy)
    simp only [List.map_cons, lcM, h1, yesB, Res.calm_ok, Res.bind_ok, if_true, h2, ih]
theorem lcM_filterMap {α β : Type} {b : Bnd} {c : Rho → Res Bool} {f : Rho → Res D} {ρ : Rho} {enc : α → D} {dec : β → D} (p : α → Bool) (g : α → β) : ∀ (xs : List α), (∀ x, x ∈ xs → ∃ ρ1, b (enc x) ρ = some ρ1 ∧ c ρ1 = .ok (p x) ∧ (p x = true → f ρ1 = .ok (dec (g x)))) →
    lcM b c f ρ (xs.map enc) = .ok (((xs.filter p).map g).map dec)
  | [], _ => rfl
  | x :: xs, h => by
    obtain ⟨ρ1, h1, h2, h3⟩ := h x List.mem_cons_self
    have ih := lcM_filterMap (dec := dec) p g xs fun y hy => h y (List.mem_cons_of_mem _ hy)
    simp only [List.map_cons, lcM, h1, h2, Res.calm_ok, Res.bind_ok, ih]
    cases hp : p x with
    | true => simp [hp, h3 hp]
    | false => simp [hp]
theorem upFrom_eq (lo : Int) (n : Nat) : upFrom lo n = (List.range n).map fun (i : Nat) => D.int (lo + i) := mk_eq rfl
theorem runF_rt {n N : Nat} {f : Rho → Out} {ds : List D} {d : D} (h : ds.length = n) (e : f (startR N ds) = .rt d) : runF n N f ds = .ok d := by
  unfold runF
  rw [if_pos h, e]
theorem atI_get {α : Type} {xs : List α} {i : Int} {j : Nat} {x : α} (h : i = (j : Int)) (e : xs[j]? = some x) : atI xs i = some x := by
  subst h
  exact atI_nat e
theorem sz1 {n : Nat} (h : n ≤ 1000000) : n ≤ sizeLine := Nat.le_trans h (by decide)
theorem sz2 {n : Nat} (h : n < 1000000) : n < sizeLine := Nat.lt_of_lt_of_le h (by decide)
end T

set_option Elab.async false
set_option linter.all false
set_option maxRecDepth 100000
set_option maxHeartbeats 4000000
/-! T-layer, part X: the draws of a law. -/
namespace T
open PySem L2
def mDraws : Rho → Out := (sSeq (sSetN 2 (lstV noA)) (sSeq (sFor (callV dRng1 (consA (getV 1) noA)) (bNm 3) (sSeq (sSet 4 (conD (.int 0))) (sSeq (sIf (toB (bin dGt (callV dLen (consA (getV 0) noA)) (conD (.int 0)))) (sSet 4 (callV dInt (consA (bin dIx (getV 0) (bin dMod (getV 3) (callV dLen (consA (getV 0) noA)))) noA))) sSkip) (sSeq (sIf (toB (bin dLt (getV 4) (conD (.int 0)))) (sSet 4 (bin dSub (conD (.int 1)) (bin dMul (conD (.int 2)) (getV 4)))) sSkip) (sSeq (sIf (orB (toB (bin dLt (getV 4) (conD (.int 1000000000)))) (toB (bin dGe (getV 3) (callV dLen (consA (getV 0) noA))))) (sSeq (sSet 4 (bin dMod (callV dInt (consA (bin dAdd (bin dMul (getV 4) (conD (.int 6364136223846793005))) (bin dMul (conD (.int 1442695040888963407)) (bin dAdd (getV 3) (conD (.int 1))))) noA)) (conD (.int 9223372036854775783)))) (sSet 4 (bin dMod (callV dInt (consA (bin dAdd (bin dAdd (bin dMul (getV 4) (conD (.int 2862933555777941757))) (conD (.int 3037000493))) (getV 3)) noA)) (conD (.int 18446744073709551557))))) sSkip) (sApp 2 (getV 4))))))) (sRet (getV 2))))
def cell0 (ns : List Int) (k : Nat) : Int := if 0 < ns.length then ns.getD (k % ns.length) 0 else 0
def cell1 (ns : List Int) (k : Nat) : Int := if cell0 ns k < 0 then 1 - 2 * cell0 ns k else cell0 ns k
def cellG (T0 A1 B1 M1 A2 C2 M2 : Int) (ns : List Int) (k : Nat) : Int := if cell1 ns k < T0 ∨ ns.length ≤ k then ((cell1 ns k * A1 + B1 * (k + 1)) % M1 * A2 + C2 + k) % M2 else cell1 ns k
def cell2 (ns : List Int) (k : Nat) : Int := cellG 1000000000 6364136223846793005 1442695040888963407 9223372036854775783 2862933555777941757 3037000493 18446744073709551557 ns k
/-- numbers of at most n bits -/
def Fits (n : Nat) (x : Int) : Prop := x.natAbs < 2 ^ n
theorem Fits.mono {n m : Nat} {x : Int} (h : Fits n x) (e : n ≤ m) : Fits m x := Nat.lt_of_lt_of_le h (Nat.pow_le_pow_right (by decide) e)
theorem Fits.mul {n m : Nat} {x y : Int} (h : Fits n x) (h' : Fits m y) (e : n + m ≤ 134217728) : CMulX x y := mulx_ok h h' e
theorem fits_of_bits {n : Nat} {x : Int} (h : Builtin.Int.intBits x ≤ n) : Fits n x := by
  unfold Builtin.Int.intBits at h
  unfold Fits
  by_cases hx : x = 0
  · subst hx
    simp
    exact Nat.two_pow_pos n
  · have h1 : (x == 0) = false := by simpa using hx
    rw [h1] at h
    simp only [if_neg Bool.false_ne_true] at h
    have h2 : x.natAbs ≠ 0 := by omega
    exact (Nat.log2_lt h2).mp (by omega)
theorem fits_small {x : Int} (h : -(2 ^ 64) < x) (h' : x < 2 ^ 64) : Fits 64 x := by
  unfold Fits
  have : (2 : Nat) ^ 64 = 18446744073709551616 := by decide
  rw [this]
  omega
theorem Fits.two {n : Nat} {x : Int} (h : Fits n x) : Fits (n + 2) (1 - 2 * x) := by
  unfold Fits at *
  have : (2 : Nat) ^ (n + 2) = 4 * 2 ^ n := by rw [Nat.pow_add]; omega
  omega
theorem Fits.pos {n : Nat} {x : Int} (h : Fits n x) (h0 : 0 < n) : 0 < n := h0
section
variable {ns : List Int} {n : Nat} (hn : n ≤ 2000000) (hb : ∀ z ∈ ns, Fits n z)
include hb
theorem cell0_fits (k : Nat) : Fits n (cell0 ns k) := by
  unfold cell0
  by_cases h : 0 < ns.length
  · rw [if_pos h]
    have hlt : k % ns.length < ns.length := Nat.mod_lt _ h
    rw [List.getD_eq_getElem?_getD, List.getElem?_eq_getElem hlt]
    exact hb _ (List.getElem_mem hlt)
  · rw [if_neg h]
    unfold Fits
    simp
    exact Nat.two_pow_pos n
theorem cell1_fits (k : Nat) : Fits (n + 2) (cell1 ns k) := by
  unfold cell1
  split
  · exact (cell0_fits hb k).two
  · exact (cell0_fits hb k).mono (by omega)
omit hb in
theorem cell1_nn (k : Nat) : 0 ≤ cell1 ns k := by
  unfold cell1
  split <;> omega
omit hb in
theorem cell2_nn (k : Nat) : 0 ≤ cell2 ns k := by
  unfold cell2 cellG
  split
  · exact Int.emod_nonneg _ (by decide)
  · exact cell1_nn k
theorem cell2_fits (k : Nat) : Fits (n + 66) (cell2 ns k) := by
  unfold cell2 cellG
  split
  · refine (fits_small ?_ ?_).mono (by omega)
    · exact Int.lt_of_lt_of_le (by decide) (Int.emod_nonneg _ (by decide))
    · exact Int.lt_trans (Int.emod_lt_of_pos _ (by decide)) (by decide)
  · exact (cell1_fits hb k).mono (by omega)
omit hn hb in
theorem draws_e0 (S C L K : D) (x : Nat) (hK : K = .int (x : Int)) (hS : S = .scr (ns.map D.int)) : (sIf (toB (bin dGt (callV dLen (consA (getV 0) noA)) (conD (.int 0)))) (sSet 4 (callV dInt (consA (bin dIx (getV 0) (bin dMod (getV 3) (callV dLen (consA (getV 0) noA)))) noA))) sSkip) [some S, some C, some L, some K, some (.int 0)] = .nx [some S, some C, some L, some K, some (.int (cell0 ns x))] := by
  subst hK hS
  by_cases h : 0 < ns.length
  · have hm : (0 : Int) < ns.length := by omega
    have hlt : x % ns.length < ns.length := Nat.mod_lt _ h
    have hix : dIx (.scr (ns.map D.int)) (.int ((x : Int) % ns.length)) = .ok (.int (cell0 ns x)) := by
      refine dIx_c (atI_get (j := x % ns.length) (by simp) ?_)
      rw [List.getElem?_map, List.getElem?_eq_getElem hlt]
      unfold cell0
      rw [if_pos h, List.getD_eq_getElem?_getD, List.getElem?_eq_getElem hlt]
      rfl
    simp only [sIf_ap, toB_ap, bin_ap, callV_ap, consA_ap, noA_ap, getV_s, getV_0, conD_ap, Res.bind_ok, dLen_c, List.length_map, dGt_i, hm, decide_true, thenS_ok, if_true, sSet_ap, dMod_ok hm, hix, dInt_i, List.set]
  · have hm : ¬ (0 : Int) < ns.length := by omega
    simp only [sIf_ap, toB_ap, bin_ap, callV_ap, consA_ap, noA_ap, getV_s, getV_0, conD_ap, Res.bind_ok, dLen_c, List.length_map, dGt_i, hm, decide_false, thenS_ok, if_false, Bool.false_eq_true, sSkip_ap, cell0, h]
include hn
theorem draws_e1 (S C L K : D) (x : Nat) : (sIf (toB (bin dLt (getV 4) (conD (.int 0)))) (sSet 4 (bin dSub (conD (.int 1)) (bin dMul (conD (.int 2)) (getV 4)))) sSkip) [some S, some C, some L, some K, some (.int (cell0 ns x))] = .nx [some S, some C, some L, some K, some (.int (cell1 ns x))] := by
  have hmul : CMulX 2 (cell0 ns x) := (fits_small (by decide) (by decide) : Fits 64 2).mul (cell0_fits hb x) (by omega)
  by_cases h : cell0 ns x < 0
  · simp [h, dMul_ok hmul, cell1]
  · simp [h, cell1]
omit hn hb in
theorem draws_a (S C L : D) (k c A1 B1 M1 : Int) (hM1 : 0 < M1) (m1 : CMulX c A1) (m2 : CMulX B1 (k + 1)) : (bin dMod (callV dInt (consA (bin dAdd (bin dMul (getV 4) (conD (.int A1))) (bin dMul (conD (.int B1)) (bin dAdd (getV 3) (conD (.int 1))))) noA)) (conD (.int M1))) [some S, some C, some L, some (.int k), some (.int c)] = .ok (.int ((c * A1 + B1 * (k + 1)) % M1)) := by
  have a : (bin dMul (conD (.int B1)) (bin dAdd (getV 3) (conD (.int 1)))) [some S, some C, some L, some (.int k), some (.int c)] = .ok (.int (B1 * (k + 1))) := by
    simp only [bin_ap, getV_s, getV_0, conD_ap, Res.bind_ok, dAdd_i, dMul_ok m2]
  have b : (bin dAdd (bin dMul (getV 4) (conD (.int A1))) (bin dMul (conD (.int B1)) (bin dAdd (getV 3) (conD (.int 1))))) [some S, some C, some L, some (.int k), some (.int c)] = .ok (.int (c * A1 + B1 * (k + 1))) := by
    rw [bin_ap, a]
    simp only [bin_ap, getV_s, getV_0, conD_ap, Res.bind_ok, dMul_ok m1, dAdd_i]
  rw [bin_ap, callV_ap, consA_ap, b]
  simp only [noA_ap, Res.bind_ok, dInt_i, dMod_ok hM1, conD_ap]
omit hn hb in
theorem draws_b (S C L : D) (k c A2 C2 M2 : Int) (hM2 : 0 < M2) (m3 : CMulX c A2) : (bin dMod (callV dInt (consA (bin dAdd (bin dAdd (bin dMul (getV 4) (conD (.int A2))) (conD (.int C2))) (getV 3)) noA)) (conD (.int M2))) [some S, some C, some L, some (.int k), some (.int c)] = .ok (.int ((c * A2 + C2 + k) % M2)) := by
  simp only [bin_ap, callV_ap, consA_ap, getV_s, getV_0, conD_ap, noA_ap, Res.bind_ok, dMul_ok m3, dAdd_i, dInt_i, dMod_ok hM2]
omit hn hb in
theorem draws_g (T0 A1 B1 M1 A2 C2 M2 : Int) (S C L K : D) (x : Nat) (hM1 : 0 < M1) (hM2 : 0 < M2) (m1 : CMulX (cell1 ns x) A1) (m2 : CMulX B1 ((x : Int) + 1)) (m3 : CMulX ((cell1 ns x * A1 + B1 * ((x : Int) + 1)) % M1) A2) (hK : K = .int (x : Int)) (hS : S = .scr (ns.map D.int)) :
    (sIf (orB (toB (bin dLt (getV 4) (conD (.int T0)))) (toB (bin dGe (getV 3) (callV dLen (consA (getV 0) noA))))) (sSeq (sSet 4 (bin dMod (callV dInt (consA (bin dAdd (bin dMul (getV 4) (conD (.int A1))) (bin dMul (conD (.int B1)) (bin dAdd (getV 3) (conD (.int 1))))) noA)) (conD (.int M1)))) (sSet 4 (bin dMod (callV dInt (consA (bin dAdd (bin dAdd (bin dMul (getV 4) (conD (.int A2))) (conD (.int C2))) (getV 3)) noA)) (conD (.int M2))))) sSkip) [some S, some C, some L, some K, some (.int (cell1 ns x))] = .nx [some S, some C, some L, some K, some (.int (cellG T0 A1 B1 M1 A2 C2 M2 ns x))] := by
  subst hK hS
  have h1 := draws_a (.scr (ns.map D.int)) C L (x : Int) (cell1 ns x) A1 B1 M1 hM1 m1 m2
  have h2 := draws_b (.scr (ns.map D.int)) C L (x : Int) ((cell1 ns x * A1 + B1 * ((x : Int) + 1)) % M1) A2 C2 M2 hM2 m3
  have h3 : sSeq (sSet 4 (bin dMod (callV dInt (consA (bin dAdd (bin dMul (getV 4) (conD (.int A1))) (bin dMul (conD (.int B1)) (bin dAdd (getV 3) (conD (.int 1))))) noA)) (conD (.int M1)))) (sSet 4 (bin dMod (callV dInt (consA (bin dAdd (bin dAdd (bin dMul (getV 4) (conD (.int A2))) (conD (.int C2))) (getV 3)) noA)) (conD (.int M2)))) [some (.scr (ns.map D.int)), some C, some L, some (.int (x : Int)), some (.int (cell1 ns x))] = .nx [some (.scr (ns.map D.int)), some C, some L, some (.int (x : Int)), some (.int (((cell1 ns x * A1 + B1 * ((x : Int) + 1)) % M1 * A2 + C2 + (x : Int)) % M2))] := by
    rw [sSeq_nx (ρ' := [some (.scr (ns.map D.int)), some C, some L, some (.int (x : Int)), some (.int ((cell1 ns x * A1 + B1 * ((x : Int) + 1)) % M1))]) (by rw [sSet_ap, h1]; rfl), sSet_ap, h2]
    rfl
  have h4 : (orB (toB (bin dLt (getV 4) (conD (.int T0)))) (toB (bin dGe (getV 3) (callV dLen (consA (getV 0) noA))))) [some (.scr (ns.map D.int)), some C, some L, some (.int (x : Int)), some (.int (cell1 ns x))] = .ok (decide (cell1 ns x < T0 ∨ ns.length ≤ x)) := by
    simp only [orB_ap, toB_ap, bin_ap, callV_ap, consA_ap, getV_s, getV_0, conD_ap, noA_ap, Res.bind_ok, dLt_i, dGe_i, dLen_c, List.length_map, Int.ofNat_le]
    by_cases h : cell1 ns x < T0 <;> simp [h]
  rw [sIf_ap, h4, thenS_ok]
  unfold cellG
  by_cases h : cell1 ns x < T0 ∨ ns.length ≤ x
  · rw [decide_eq_true h, if_pos rfl, if_pos h]
    exact h3
  · rw [decide_eq_false h, if_neg Bool.false_ne_true, if_neg h]
    rfl
theorem draws_e2 (S C L K : D) (x : Nat) (hx : x < 100000) (hK : K = .int (x : Int)) (hS : S = .scr (ns.map D.int)) : (sIf (orB (toB (bin dLt (getV 4) (conD (.int 1000000000)))) (toB (bin dGe (getV 3) (callV dLen (consA (getV 0) noA))))) (sSeq (sSet 4 (bin dMod (callV dInt (consA (bin dAdd (bin dMul (getV 4) (conD (.int 6364136223846793005))) (bin dMul (conD (.int 1442695040888963407)) (bin dAdd (getV 3) (conD (.int 1))))) noA)) (conD (.int 9223372036854775783)))) (sSet 4 (bin dMod (callV dInt (consA (bin dAdd (bin dAdd (bin dMul (getV 4) (conD (.int 2862933555777941757))) (conD (.int 3037000493))) (getV 3)) noA)) (conD (.int 18446744073709551557))))) sSkip) [some S, some C, some L, some K, some (.int (cell1 ns x))] = .nx [some S, some C, some L, some K, some (.int (cell2 ns x))] :=
  draws_g _ _ _ _ _ _ _ S C L K x (by decide) (by decide) ((cell1_fits hb x).mul (fits_small (by decide) (by decide)) (by omega)) (Fits.mul (m := 64) (fits_small (by decide) (by decide)) (fits_small (by omega) (by omega)) (by omega))
    (Fits.mul (n := 64) (m := 64) (fits_small (Int.lt_of_lt_of_le (by decide) (Int.emod_nonneg _ (by decide))) (Int.lt_trans (Int.emod_lt_of_pos _ (by decide)) (by decide))) (fits_small (by decide) (by decide)) (by omega)) hK hS
def bDraws : Rho → Out := (sSeq (sSet 4 (conD (.int 0))) (sSeq (sIf (toB (bin dGt (callV dLen (consA (getV 0) noA)) (conD (.int 0)))) (sSet 4 (callV dInt (consA (bin dIx (getV 0) (bin dMod (getV 3) (callV dLen (consA (getV 0) noA)))) noA))) sSkip) (sSeq (sIf (toB (bin dLt (getV 4) (conD (.int 0)))) (sSet 4 (bin dSub (conD (.int 1)) (bin dMul (conD (.int 2)) (getV 4)))) sSkip) (sSeq (sIf (orB (toB (bin dLt (getV 4) (conD (.int 1000000000)))) (toB (bin dGe (getV 3) (callV dLen (consA (getV 0) noA))))) (sSeq (sSet 4 (bin dMod (callV dInt (consA (bin dAdd (bin dMul (getV 4) (conD (.int 6364136223846793005))) (bin dMul (conD (.int 1442695040888963407)) (bin dAdd (getV 3) (conD (.int 1))))) noA)) (conD (.int 9223372036854775783)))) (sSet 4 (bin dMod (callV dInt (consA (bin dAdd (bin dAdd (bin dMul (getV 4) (conD (.int 2862933555777941757))) (conD (.int 3037000493))) (getV 3)) noA)) (conD (.int 18446744073709551557))))) sSkip) (sApp 2 (getV 4))))))
omit hn hb in
theorem draws_app (S C K : D) (s : List Int) (z : Int) (hs : s.length < 100000) : sApp 2 (getV 4) [some S, some C, some (.lst (s.map D.int)), some K, some (.int z)] = .nx [some S, some C, some (.lst ((s ++ [z]).map D.int)), some K, some (.int z)] := by
  have e3 : (s.map D.int).length < sizeLine := sz2 (by simp; omega)
  rw [sApp_ap, x_atL (xs := s.map D.int) rfl, x_getV (d := .int z) rfl, thenS_ok, if_pos e3, List.map_append]
  rfl
theorem draws_body (hl : ns.length ≤ 63) (x : Nat) (hx : x < 100000) (C : D) (a : Option D) (s : List Int) (hs : s.length < 100000) : bDraws [some (.scr (ns.map D.int)), some C, some (.lst (s.map D.int)), some (.int (x : Int)), a] = .nx [some (.scr (ns.map D.int)), some C, some (.lst ((s ++ [cell2 ns x]).map D.int)), some (.int (x : Int)), some (.int (cell2 ns x))] := by
  have e := draws_e2 hn hb (.scr (ns.map D.int)) C (.lst (s.map D.int)) (.int (x : Int)) x hx rfl rfl
  generalize cell2 ns x = z at e ⊢
  unfold bDraws
  rw [sSeq_nx (f := sSet 4 (conD (.int 0))) (ρ' := [some (.scr (ns.map D.int)), some C, some (.lst (s.map D.int)), some (.int (x : Int)), some (.int 0)]) rfl, sSeq_nx (draws_e0 _ _ _ _ x rfl rfl), sSeq_nx (draws_e1 hn hb _ _ _ _ x), sSeq_nx e]
  exact draws_app _ _ _ s z hs
omit hn hb in
theorem draws_loop (body : Rho → Out) (cell : Nat → Int) (S : D) (c : Nat) (hc : c ≤ 100000) (h : ∀ (x : Nat), x < 100000 → ∀ (C : D) (a : Option D) (s : List Int), s.length < 100000 → body [some S, some C, some (.lst (s.map D.int)), some (.int (x : Int)), a] = .nx [some S, some C, some (.lst ((s ++ [cell x]).map D.int)), some (.int (x : Int)), some (.int (cell x))]) :
    runF 2 5 (sSeq (sSetN 2 (lstV noA)) (sSeq (sFor (callV dRng1 (consA (getV 1) noA)) (bNm 3) body) (sRet (getV 2)))) [S, .int c] = .ok (.lst (((List.range c).map cell).map D.int)) := by
  refine runF_rt rfl ?_
  rw [sSeq_nx (f := sSetN 2 (lstV noA)) (ρ' := [some S, some (.int c), some (.lst []), none, none]) rfl]
  obtain ⟨j, hj, hI⟩ := forM_fold (b := bNm 3) (enc := fun (i : Nat) => D.int i) (body := body) (fun (s : List Int) (j : Option D × Option D) => [some S, some (.int c), some (.lst (s.map D.int)), j.1, j.2]) (fun s k => s ++ [cell k]) (fun i s => s = (List.range i).map cell) (List.range c) (fun i s j x hx hI => by
    have hx' : x = i ∧ i < c := by
      obtain ⟨h1, h2⟩ := List.getElem?_eq_some_iff.mp hx
      simp at h1 h2
      omega
    obtain ⟨rfl, hic⟩ := hx'
    refine ⟨_, (some (.int (x : Int)), some (.int (cell x))), rfl, .inl (h x (by omega) _ _ s ?_), ?_⟩
    · rw [hI, List.length_map, List.length_range]
      omega
    · rw [hI, List.range_succ, List.map_append]
      rfl) [] (none, none) rfl
  have hr : callV dRng1 (consA (getV 1) noA) [some S, some (.int c), some (.lst []), none, none] = .ok ((List.range c).map fun (i : Nat) => D.int i) := by
    simp only [callV_ap, consA_ap, getV_s, getV_0, Res.bind_ok, noA_ap, dRng1, upFrom]
    rw [if_pos (by omega)]
    simp
  rw [List.length_range] at hI
  rw [hI] at hj
  rw [sSeq_nx (f := sFor (callV dRng1 (consA (getV 1) noA)) (bNm 3) body) (by
    rw [sFor_ap, hr, thenS_ok]
    exact hj)]
  rfl
theorem draws_run (hl : ns.length ≤ 63) (c : Nat) (hc : c ≤ 100000) : runF 2 5 mDraws [.scr (ns.map D.int), .int c] = .ok (.lst (((List.range c).map (cell2 ns)).map D.int)) :=
  draws_loop bDraws (cell2 ns) _ c hc fun x hx C a s hs => draws_body hn hb hl x hx C a s hs
end
/-- the draws, as a list of numbers that are not negative -/
theorem draws_ok {ns : List Int} (hl : ns.length ≤ 63) (hb : ∀ z ∈ ns, Builtin.Int.intBits z ≤ 1048576) (c : Nat) (hc : c ≤ 100000) : ∃ ds : List Int, ds.length = c ∧ (∀ d ∈ ds, 0 ≤ d ∧ Fits 1048650 d) ∧ runF 2 5 mDraws [.scr (ns.map D.int), .int c] = .ok (.lst (ds.map D.int)) := by
  have hb' : ∀ z ∈ ns, Fits 1048576 z := fun z hz => fits_of_bits (hb z hz)
  refine ⟨(List.range c).map (cell2 ns), by simp, fun d hd => ?_, draws_run (n := 1048576) (by omega) hb' hl c hc⟩
  obtain ⟨k, _, rfl⟩ := List.mem_map.mp hd
  exact ⟨cell2_nn k, (cell2_fits hb' k).mono (by omega)⟩
end T

set_option Elab.async false
set_option linter.all false
set_option maxRecDepth 100000
set_option maxHeartbeats 4000000
/-! T-layer, part N: going through a mirror; texts. -/
namespace T
open PySem L2
section
variable {ρ ρ' : Rho} {f g : Rho → Out} {o : Out} {d : D} {c : Rho → Res Bool}
theorem seq_nx (h : f ρ = .nx ρ') (h' : g ρ' = o) : sSeq f g ρ = o := by rw [sSeq_nx h, h']
theorem seq_rt (h : f ρ = .rt d) : sSeq f g ρ = .rt d := sSeq_rt h
theorem seq_ex {e : Exn} (h : f ρ = .ex e ρ') : sSeq f g ρ = .ex e ρ' := by rw [sSeq_ap, h]
theorem if_t (h : c ρ = .ok true) (h' : f ρ = o) : sIf c f g ρ = o := by rw [sIf_ap, h, thenS_ok, if_pos rfl, h']
theorem if_f (h : c ρ = .ok false) (h' : g ρ = o) : sIf c f g ρ = o := by rw [sIf_ap, h, thenS_ok, if_neg Bool.false_ne_true, h']
/-- a test that is not met, ahead of the rest -/
theorem seq_no (h : c ρ = .ok false) (h' : g ρ = o) : sSeq (sIf c f sSkip) g ρ = o := seq_nx (if_f h rfl) h'
theorem set_ok {i : Nat} {a : Rho → Res D} (h : a ρ = .ok d) : sSet i a ρ = .nx (ρ.set i (some d)) := by rw [sSet_ap, h, thenS_ok]
theorem setN_ok {i : Nat} {a : Rho → Res (List D)} {ds : List D} (h : a ρ = .ok ds) : sSetN i a ρ = .nx (ρ.set i (some (.lst ds))) := by rw [sSetN_ap, h, thenS_ok]
theorem ret_ok {a : Rho → Res D} (h : a ρ = .ok d) : sRet a ρ = .rt d := by rw [sRet_ap, h, thenS_ok]
theorem app_ok {i : Nat} {a : Rho → Res D} {xs : List D} (h0 : ρ[i]? = some (some (.lst xs))) (h : a ρ = .ok d) (hs : xs.length < 1000000) : sApp i a ρ = .nx (ρ.set i (some (.lst (xs ++ [d])))) := by
  rw [sApp_ap, x_atL h0, h, thenS_ok, if_pos (sz2 hs)]
theorem for_ok {s : Rho → Res (List D)} {b : Bnd} {items : List D} (h : s ρ = .ok items) (h' : forM b f items ρ = o) : sFor s b f ρ = o := by rw [sFor_ap, h, thenS_ok, h']
theorem orB_f {a b : Rho → Res Bool} (h : a ρ = .ok false) (h' : b ρ = .ok false) : orB a b ρ = .ok false := by rw [orB_ap, h, Res.bind_ok, if_neg Bool.false_ne_true, h']
theorem orB_t {a b : Rho → Res Bool} (h : a ρ = .ok true) : orB a b ρ = .ok true := by rw [orB_ap, h, Res.bind_ok, if_pos rfl]
theorem orB_r {a b : Rho → Res Bool} {k : Bool} (h : a ρ = .ok false) (h' : b ρ = .ok k) : orB a b ρ = .ok k := by rw [orB_ap, h, Res.bind_ok, if_neg Bool.false_ne_true, h']
theorem andB_f {a b : Rho → Res Bool} (h : a ρ = .ok false) : andB a b ρ = .ok false := by rw [andB_ap, h, Res.bind_ok, if_neg Bool.false_ne_true]
theorem andB_r {a b : Rho → Res Bool} {k : Bool} (h : a ρ = .ok true) (h' : b ρ = .ok k) : andB a b ρ = .ok k := by rw [andB_ap, h, Res.bind_ok, if_pos rfl, h']
theorem orB_ok {a b : Rho → Res Bool} {k l : Bool} (h : a ρ = .ok k) (h' : b ρ = .ok l) : orB a b ρ = .ok (k || l) := by
  rw [orB_ap, h, Res.bind_ok]
  cases k with
  | true => rfl
  | false => simpa using h'
theorem andB_ok {a b : Rho → Res Bool} {k l : Bool} (h : a ρ = .ok k) (h' : k = true → b ρ = .ok l) : andB a b ρ = .ok (k && l) := by
  rw [andB_ap, h, Res.bind_ok]
  cases k with
  | true => simpa using h' rfl
  | false => rfl
theorem notB_ok {a : Rho → Res Bool} {k : Bool} (h : a ρ = .ok k) : notB a ρ = .ok (!k) := by rw [notB_ap, h, Res.bind_ok]
theorem toB_ok {a : Rho → Res D} {k : Bool} (h : a ρ = .ok (.bl k)) : toB a ρ = .ok k := by rw [toB_ap, h, Res.bind_ok]
theorem bin_ok {α : Type} {h : D → D → Res α} {a b : Rho → Res D} {x y : D} {z : Res α} (ha : a ρ = .ok x) (hb : b ρ = .ok y) (hh : h x y = z) : bin h a b ρ = z := by rw [bin_ap, ha, Res.bind_ok, hb, Res.bind_ok, hh]
theorem call1_ok {α : Type} {h : List D → Res α} {a : Rho → Res D} {x : D} {z : Res α} (ha : a ρ = .ok x) (hh : h [x] = z) : callV h (consA a noA) ρ = z := by rw [callV_ap, consA_ap, ha, Res.bind_ok, noA_ap, Res.bind_ok, Res.bind_ok, hh]
theorem call2_ok {α : Type} {h : List D → Res α} {a b : Rho → Res D} {x y : D} {z : Res α} (ha : a ρ = .ok x) (hb : b ρ = .ok y) (hh : h [x, y] = z) : callV h (consA a (consA b noA)) ρ = z := by
  rw [callV_ap, consA_ap, ha, Res.bind_ok, consA_ap, hb, Res.bind_ok, noA_ap, Res.bind_ok, Res.bind_ok, Res.bind_ok, hh]
theorem call3_ok {α : Type} {h : List D → Res α} {a b c : Rho → Res D} {x y w : D} {z : Res α} (ha : a ρ = .ok x) (hb : b ρ = .ok y) (hc : c ρ = .ok w) (hh : h [x, y, w] = z) : callV h (consA a (consA b (consA c noA))) ρ = z := by
  rw [callV_ap, consA_ap, ha, Res.bind_ok, consA_ap, hb, Res.bind_ok, consA_ap, hc, Res.bind_ok, noA_ap, Res.bind_ok, Res.bind_ok, Res.bind_ok, Res.bind_ok, hh]
theorem lstD_ok {a : Rho → Res (List D)} {ds : List D} (h : a ρ = .ok ds) : lstD a ρ = .ok (.lst ds) := by rw [lstD_ap, h, Res.bind_ok]
/-- an item of a list of numbers -/
theorem ix_ints {a b : Rho → Res D} {ns : List Int} {i : Int} {j : Nat} (ha : a ρ = .ok (.lst (ns.map D.int))) (hb : b ρ = .ok (.int i)) (hi : i = (j : Int)) (hj : j < ns.length) : bin dIx a b ρ = .ok (.int (ns.getD j 0)) := by
  refine bin_ok ha hb (dIx_l (atI_get hi ?_))
  rw [List.getElem?_map, List.getElem?_eq_getElem hj, List.getD_eq_getElem?_getD, List.getElem?_eq_getElem hj]
  rfl
end
theorem getD_mem {ns : List Int} {j : Nat} (h : j < ns.length) : ns.getD j 0 ∈ ns := by
  rw [List.getD_eq_getElem?_getD, List.getElem?_eq_getElem h]
  exact List.getElem_mem h
theorem rng1_ok {n : Nat} (h : n ≤ 1000000) : dRng1 [.int n] = .ok ((List.range n).map fun (i : Nat) => D.int i) := by
  unfold dRng1
  simp only
  rw [if_pos (by omega)]
  simp [upFrom]
theorem rng1_int {z : Int} (h0 : 0 ≤ z) (h : z ≤ 1000000) : dRng1 [.int z] = .ok ((List.range z.toNat).map fun (i : Nat) => D.int i) := by
  have := rng1_ok (n := z.toNat) (by omega)
  rw [Int.toNat_of_nonneg h0] at this
  exact this
theorem joinL_nil : ∀ ys : List (List Nat), TL.joinL [] ys = ys.flatten
  | [] => rfl
  | [p] => by simp [TL.joinL]
  | p :: q :: r => by
    show p ++ ([] ++ TL.joinL [] (q :: r)) = _
    rw [joinL_nil (q :: r)]
    simp
theorem join_nil (ys : List (List Nat)) : Txt.join (SX.S []) (ys.map SX.S) = SX.S ys.flatten := by rw [SX.join_S, joinL_nil]
end T

set_option Elab.async false
set_option linter.all false
set_option maxRecDepth 100000
set_option maxHeartbeats 4000000
/-! T-layer, part O: tables (an owned list of owned lists). -/
namespace T
open PySem PySem.Spec PyProof.Rows L2

abbrev lsts (rows : List (List D)) : List D := rows.map D.lst
/-- rows at addresses -/
def RowsAt (K : PySem.W.Frag) (B H : Hp) (ps : List Addr) (rows : List (List D)) : Prop := ps.length = rows.length ∧ ∀ (k : Nat) (a : Addr) (row : List D), ps[k]? = some a → rows[k]? = some row → ∃ vs, H a = some (.lst vs) ∧ RpA K B vs row
def Fresh (B F : Hp) (own : Own) (a : Addr) : Prop := B a = none ∧ F a = none ∧ own a = none
/-- to a new list of new lists -/
def EvNN (X : Cx) (W : WX) (G : List Mode) (t : TE) (g : Rho → Res (List (List D))) : Prop :=
  ∀ (F : Hp) (ρ : Rho) (own : Own) (B : Hp) (σ : L2.St) (H : Hp) (Q : VK), Good X.K F G ρ own B σ H →
    (g ρ).has (fun rows => ∀ (p : Addr) (ps : List Addr) (B' H' : Hp), Step own F B H B' H' → (∀ a ∈ p :: ps, Fresh B' F own a) → (p :: ps).Nodup → H' p = some (.lst (ps.map V.ref)) → RowsAt X.K B' H' ps rows → Q (.ref p) H') (WOk X.K X.mg W own F B H σ) → t σ H Q
def lcNM (b : Bnd) (f : Rho → Res (List D)) (ρ : Rho) : List D → Res (List (List D))
  | [] => .ok []
  | x :: xs => match b x ρ with
    | none => .no
    | some ρ' => (f ρ').calm.bind fun y => (lcNM b f ρ xs).bind fun ys => .ok (y :: ys)
def compNV (src : Rho → Res (List D)) (b : Bnd) (f : Rho → Res (List D)) (vs : List Nat) : Rho → Res (List (List D)) := fun ρ => (src ρ).bind fun items => if items.length ≤ sizeLine then lcNM b f (wipeR ρ vs) items else .no
/-- these are owned (label 0) while it is made -/
def ownS (own : Own) (S : List Addr) : Own := fun a => if a ∈ S then some [0] else own a
theorem ownS_in {own : Own} {S : List Addr} {a : Addr} (h : a ∈ S) : ownS own S a ≠ none := by simp [ownS, h]
theorem ownS_out {own : Own} {S : List Addr} {a : Addr} (h : a ∉ S) : ownS own S a = own a := by simp [ownS, h]
theorem ownS_up {own : Own} {S : List Addr} {a : Addr} (h : own a ≠ none) : ownS own S a ≠ none := by
  unfold ownS
  split
  · exact fun z => nomatch z
  · exact h
theorem VRep.moreS {K : PySem.W.Frag} {B H H' : Hp} {own : Own} {S : List Addr} (hD : ∀ a ∈ S, own a = none) (hH : ∀ a, own a ≠ none → H' a = H a) : ∀ {m : Mode} {lab : Lab} {v : V} {d : D}, VRep K B H own m lab v d → VRep K B H' (ownS own S) m lab v d
  | .fz, _, _, _, h => h
  | .raw _ _, _, _, _, h => h
  | .own m, lab, _, _, ⟨l, vs, ds, hv, hd, ho, hl, hn, h⟩ =>
    have ho' : own l ≠ none := by rw [ho]; exact fun z => nomatch z
    ⟨l, vs, ds, hv, hd, by rw [ownS_out (fun z => ho' (hD l z))]; exact ho, by rw [hH l ho']; exact hl, hn, fun k v' d' h1 h2 => VRep.moreS hD hH (h k v' d' h1 h2)⟩
theorem RowsAt.step {K : PySem.W.Frag} {F B H B' H' : Hp} {own : Own} {ps : List Addr} {rows : List (List D)} (r : RowsAt K B H ps rows) (s : Step own F B H B' H') (ho : ∀ a ∈ ps, own a ≠ none) : RowsAt K B' H' ps rows :=
  ⟨r.1, fun k a row h1 h2 => by
    obtain ⟨vs, h3, h4⟩ := r.2 k a row h1 h2
    exact ⟨vs, by rw [(s.ownd a (ho a (List.mem_of_getElem? h1))).1]; exact h3, h4.mono s.ext⟩⟩
theorem RowsAt.snoc {K : PySem.W.Frag} {B H : Hp} {ps : List Addr} {rows : List (List D)} {a : Addr} {row : List D} {vs : List V} (r : RowsAt K B H ps rows) (h : H a = some (.lst vs)) (h' : RpA K B vs row) : RowsAt K B H (ps ++ [a]) (rows ++ [row]) :=
  ⟨by simp [r.1], fun k b row' h1 h2 => by
    by_cases hk : k < ps.length
    · rw [List.getElem?_append_left hk] at h1
      rw [List.getElem?_append_left (by rw [← r.1]; exact hk)] at h2
      exact r.2 k b row' h1 h2
    · rw [List.getElem?_append_right (by omega)] at h1
      rw [List.getElem?_append_right (by rw [← r.1]; omega), ← r.1] at h2
      have hk0 : k - ps.length = 0 := by
        have := (List.getElem?_eq_some_iff.mp h1).1
        simp at this
        omega
      rw [hk0] at h1 h2
      simp at h1 h2
      subst h1 h2
      exact ⟨vs, h, h'⟩⟩
section
variable {X : Cx} {W : WX} {G : List Mode} {tg iter elt c : Expr} {scope : Scope}
theorem fam_n {f : Rho → Res (List D)} (h : ∀ s H C cl fp, NJ (Blk X scope s H C cl fp) W0 G elt f) : ∃ te, (∀ s H C cl fp, PE (Blk X scope s H C cl fp) elt te) ∧ EvN X W0 G te f := by
  refine ⟨fun σ H Q => ∀ s H0 C cl fp, (h s H0 C cl fp).choose σ H Q, fun s H0 C cl fp => ⟨fun pins s1 σ H Q I q => ?_⟩, fun F ρ own B σ H Q gd q s H0 C cl fp => ?_⟩
  · exact (h s H0 C cl fp).choose_spec.1.run pins s1 σ H Q I (q s H0 C cl fp)
  · exact (h s H0 C cl fp).choose_spec.2 F ρ own B σ H Q gd q
theorem lcNM_calm {b : Bnd} {f : Rho → Res (List D)} {ρ : Rho} : ∀ {xs : List D} {e : Exn}, lcNM b f ρ xs ≠ .ex e
  | [], _, h => nomatch h
  | x :: xs, e, h => by
    simp only [lcNM] at h
    split at h
    · cases h
    · rename_i ρ' _
      cases h2 : f ρ' with
      | ok y =>
        rw [h2] at h
        simp only [Res.calm_ok, Res.bind_ok] at h
        cases h3 : lcNM b f ρ xs with
        | ok zs =>
          rw [h3] at h
          cases h
        | no =>
          rw [h3] at h
          cases h
        | ex z => exact lcNM_calm h3
      | ex _ =>
        rw [h2] at h
        cases h
      | no =>
        rw [h2] at h
        cases h
/-- the heart: the source's items walked, the new list of new lists made -/
theorem lc_heartN {own0 : List Nat} {wi : TI} {g : TG} {tt : TT} {te : TE} {b : Bnd} {f : Rho → Res (List D)} {src : Rho → Res (List D)} {is : List Nat} (hi : EvIB X W G wi src)
    (hg : ∀ (F : Hp) (own : Own) (B : Hp) (σ : L2.St) (H : Hp) (G : List Mode) (ρ ρ' : Rho) (v : V) (d : T.D) (Q : L2.St → Hp → Prop), Good X.K F G ρ own B σ H → Rp X.K B v d → b d ρ = some ρ' → (∀ i ∈ is, G.getD i .fz = .fz) →
      (∀ σ', Good X.K F G ρ' own B σ' H → OnlyAt is σ σ' → Q σ' H) → g v σ H Q)
    (hsub : ∀ i ∈ is, i ∈ own0) (hG : ∀ i ∈ is, G.getD i Mode.fz = Mode.fz) (ht : EvT X W0 G tt yesB) (he : EvN X W0 G te f) : EvNN X W G (tLc wi g tt te own0) (compNV src b f own0) := fun F ρ own B σ H Q gd q => by
  refine hi F ρ own B σ H _ gd (Res.has_mono (Res.has_bind q) (fun items q J B1 H1 s1 itr => ?_) fun _ x => x)
  split at q
  case isFalse => exact q.elim
  rename_i hz
  intro D hD
  have g1 := gd.step s1
  have hDo := g1.gr.ofresh hD
  have hDb := g1.gr.bfresh hD
  have hDf := g1.gr.ffresh hD
  refine ⟨fun i m H' => m = items.length - i ∧ i ≤ items.length ∧ ∃ (B' : Hp) (ps : List Addr) (rows : List (List T.D)), Step own F B1 H1 B' H' ∧ (∀ a ∈ D :: ps, Fresh B' F own a ∧ H' a ≠ none) ∧ (D :: ps).Nodup ∧ H' D = some (.lst (ps.map V.ref)) ∧ RowsAt X.K B' H' ps rows ∧ ps.length = i ∧
      (lcNM b f (wipeR ρ own0) (items.drop i)).has (fun rest => ∀ (p : Addr) (ps : List Addr) (B' H' : Hp), Step own F B H B' H' → (∀ a ∈ p :: ps, Fresh B' F own a) → (p :: ps).Nodup → H' p = some (.lst (ps.map V.ref)) → RowsAt X.K B' H' ps (rows ++ rest) → Q (.ref p) H') (fun _ => False),
    ⟨items.length, by omega, Nat.zero_le _, B1, [], [], .garbage g1.gr _ hD, fun a ha => ?_, by simp, upd_same, ⟨rfl, fun k a row h => by simp at h⟩, rfl, ?_⟩, fun i m H' hW => ?_⟩
  · rw [List.mem_singleton.mp ha]
    exact ⟨⟨hDb, hDf, hDo⟩, by rw [upd_same]; exact fun z => nomatch z⟩
  · simp only [List.drop_zero, List.nil_append]
    cases e : lcNM b f (wipeR ρ own0) items with
    | ok ds =>
      rw [e] at q
      exact q
    | no =>
      rw [e] at q
      exact q
    | ex x => exact (lcNM_calm e).elim
  · obtain ⟨rfl, hile, B', ps, rows, s2, hfr, hnd, hHD, hrows, hlen, rest⟩ := hW
    have g2 := g1.step s2
    have hS : ∀ a ∈ D :: ps, own a = none := fun a ha => (hfr a ha).1.2.2
    have grD : Ground F (ownS own (D :: ps)) B' H' := ⟨fun a o e => ⟨(g2.gr.base a o e).1, by
        rw [ownS_out (fun z => by rw [(hfr a z).1.1] at e; cases e)]
        exact (g2.gr.base a o e).2⟩, fun a o e => ⟨(g2.gr.frame a o e).1, by
        rw [ownS_out (fun z => by rw [(hfr a z).1.2.1] at e; cases e)]
        exact (g2.gr.frame a o e).2.1, (g2.gr.frame a o e).2.2⟩, fun a h => by
        by_cases ha : a ∈ D :: ps
        · exact (hfr a ha).2
        · rw [ownS_out ha] at h
          exact g2.gr.live a h⟩
    have gdD : Good X.K F G (wipeR ρ own0) (ownS own (D :: ps)) B' (wipe σ own0) H' := by
      have gw := g2.wipe own0
      exact ⟨grD, gw.len, fun j d e => by
        obtain ⟨v, h1, h2⟩ := gw.slots j d e
        exact ⟨v, h1, VRep.moreS hS (fun a _ => rfl) h2⟩⟩
    have itr' := itr (ownS own (D :: ps)) B' H' s2.ext (fun a h => ⟨ownS_up h, (s2.ownd a h).1⟩) grD i
    by_cases hi' : i = items.length
    · refine .inl ⟨itr'.1 hi', ?_⟩
      rw [hi', List.drop_length] at rest
      have rest' : ∀ (p : Addr) (ps : List Addr) (B' H' : Hp), Step own F B H B' H' → (∀ a ∈ p :: ps, Fresh B' F own a) → (p :: ps).Nodup → H' p = some (.lst (ps.map V.ref)) → RowsAt X.K B' H' ps (rows ++ []) → Q (.ref p) H' := rest
      rw [List.append_nil] at rest'
      exact rest' D ps B' H' (s1.trans s2) (fun a ha => (hfr a ha).1) hnd hHD hrows
    · have hlt : i < items.length := by omega
      have hd : items[i]? = some items[i] := List.getElem?_eq_getElem hlt
      obtain ⟨go, yld⟩ := itr'.2 _ hd
      refine .inr ⟨go, _, fun H4 h4 => ⟨items.length - (i + 1), by omega, h4⟩, fun x H3 hy => ?_⟩
      obtain ⟨B3, s3, rx⟩ := yld x H3 hy
      rw [List.drop_eq_getElem_cons hlt] at rest
      simp only [lcNM] at rest
      split at rest
      · exact rest.elim
      · rename_i ρ' hb
        have gd3 := gdD.step s3
        have down : ∀ {Ba Ha Bb Hb : Hp}, Step (ownS own (D :: ps)) F Ba Ha Bb Hb → Step own F Ba Ha Bb Hb := fun {Ba Ha Bb Hb} s => ⟨s.ext, s.base, fun a h => s.ownd a (ownS_up h), s.frame⟩
        refine hg F (ownS own (D :: ps)) B3 (wipe σ own0) H3 G _ ρ' x _ _ gd3 rx hb hG fun σ' gd4 o4 => ⟨wipe_only o4 hsub, ?_⟩
        refine ht F ρ' (ownS own (D :: ps)) B3 σ' H3 _ gd4 (fun B5 H5 s5 => ?_)
        refine he F ρ' (ownS own (D :: ps)) B5 σ' H5 _ (gd4.step s5) (Res.has_mono (Res.has_cb (E' := fun _ => False) rest) (fun y rest r vs B6 H6 s6 hrB hrF hro hrH hrr => ?_) fun _ x => x.elim)
        have s36 := (s3.trans s5).trans s6
        have sA6 := s2.trans (down s36)
        have hown : ∀ a ∈ D :: ps, ownS own (D :: ps) a ≠ none := fun a ha => ownS_in ha
        have hH6 : H6 D = some (.lst (ps.map V.ref)) := by
          rw [(s36.ownd D (hown D (List.mem_cons_self ..))).1]
          exact hHD
        have hrN : r ∉ D :: ps := fun z => hown r z hro
        have hroN : own r = none := by rw [ownS_out hrN] at hro; exact hro
        have hDr : D ≠ r := fun z => hrN (by rw [← z]; exact List.mem_cons_self ..)
        have hDps : D ∉ ps := (List.nodup_cons.mp hnd).1
        refine ⟨ps.map V.ref, hH6, by simp; omega, rfl, by omega, B6, ps ++ [r], rows ++ [y], ?_, fun a ha => ?_, ?_, ?_, ?_, by simp; omega, ?_⟩
        · exact ⟨sA6.ext, fun a o e => by
              rw [upd_ne (fun z => by rw [z, (s36.ownd D (hown D (List.mem_cons_self ..))).2] at e; cases e)]
              exact sA6.base a o e, fun a ho => by
              have ne : a ≠ D := fun z => ho (by rw [z]; exact hDo)
              rw [upd_ne ne]
              exact sA6.ownd a ho, fun a o e => by
              rw [upd_ne (fun z => by rw [z, hDf] at e; cases e)]
              exact sA6.frame a o e⟩
        · have ha' : a ∈ D :: ps ∨ a = r := by
            rcases List.mem_cons.mp ha with h | h
            · exact .inl (by rw [h]; exact List.mem_cons_self ..)
            · rcases List.mem_append.mp h with h | h
              · exact .inl (List.mem_cons_of_mem _ h)
              · exact .inr (List.mem_singleton.mp h)
          rcases ha' with h | h
          · obtain ⟨h1, h2⟩ := s36.ownd a (hown a h)
            refine ⟨⟨h2, (hfr a h).1.2.1, hS a h⟩, ?_⟩
            by_cases hz : a = D
            · rw [hz, upd_same]
              exact fun z => nomatch z
            · rw [upd_ne hz, h1]
              exact (hfr a h).2
          · subst h
            refine ⟨⟨hrB, hrF, hroN⟩, ?_⟩
            rw [upd_ne (Ne.symm hDr), hrH]
            exact fun z => nomatch z
        · have : (D :: ps ++ [r]).Nodup := by
            rw [List.nodup_append]
            exact ⟨hnd, by simp, fun a ha b hb z => hrN (by rw [← List.mem_singleton.mp hb, ← z]; exact ha)⟩
          exact this
        · rw [upd_same, List.map_append]
          rfl
        · have hr6 := hrows.step s36 (fun a ha => hown a (List.mem_cons_of_mem _ ha))
          have hr7 := hr6.snoc hrH hrr
          refine ⟨hr7.1, fun k a row h1 h2 => ?_⟩
          obtain ⟨us, h3, h4⟩ := hr7.2 k a row h1 h2
          refine ⟨us, ?_, h4⟩
          rw [upd_ne]
          · exact h3
          · intro z
            have := List.mem_of_getElem? h1
            rw [z] at this
            rcases List.mem_append.mp this with h | h
            · exact hDps h
            · exact hDr (List.mem_singleton.mp h)
        · refine Res.has_mono (Res.has_bind rest) (fun ys q p ps' B' H' s7 h1 h2 h3 h4 => ?_) fun _ x => x
          have q' : ∀ (p : Addr) (ps : List Addr) (B' H' : Hp), Step own F B H B' H' → (∀ a ∈ p :: ps, Fresh B' F own a) → (p :: ps).Nodup → H' p = some (.lst (ps.map V.ref)) → RowsAt X.K B' H' ps (rows ++ y :: ys) → Q (.ref p) H' := q
          exact q' p ps' B' H' s7 h1 h2 h3 (by simpa using h4)
end

section
variable {X : Cx} {W : WX} {L : LM} {G G' : List Mode} {tg iter elt c e : Expr} {scope : Scope} {own0 : List (Str × Nat)} {b : Bnd} {src : Rho → Res (List D)} {is : List Nat} {pos spos py px : Pos} {i : Nat} {x y : Str}
abbrev Mode.tab : Mode := .own (.own .fz)
/-- y = [[..] for ..], y in slot i -/
def LcNJ (X : Cx) (W : WX) (G : List Mode) (y : Str) (py : Pos) (i : Nat) (e : Expr) (spos : Pos) (g : Rho → Res (List (List D))) : Prop := ∃ te, PS X (.Assign [.Name y py] e spos) (tAsg te (gName i)) ∧ EvNN X W G te g
theorem lcjN {f : Rho → Res (List D)} (hc : X.calm = true) (hN : X.N.Nodup) (hy : X.N[i]? = some y) (hyl : X.env.scope.names.lookup y = some .local)
    (hsw : swapsWith (.ListComp elt [⟨tg, iter, [], 0⟩] scope pos) (some (.Name y py)) spos.line X.env = pure true) (hi : IBJ X W G tg iter src) (ok : BlkOk X.N X.env.scope scope own0) (hg : ∀ s H C cl fp, GJ (Blk X scope s H C cl fp) tg b is) (hsub : ∀ i ∈ is, i ∈ own0.map (·.2))
    (hG : ∀ i ∈ is, G.getD i Mode.fz = Mode.fz) (he : ∀ s H C cl fp, NJ (Blk X scope s H C cl fp) W0 G elt f) (hs : ∀ x, foldedSetIterable iter X.env x = pure x := by intro _; rfl) : LcNJ X W G y py i (.ListComp elt [⟨tg, iter, [], 0⟩] scope pos) spos (compNV src b f (own0.map (·.2))) := by
  obtain ⟨wi, pi, vi⟩ := hi
  obtain ⟨te, pe, ve⟩ := fam_n he
  obtain ⟨g, pg, vg⟩ := fam_g hg
  exact ⟨_, ps_setLc hc hN hy hyl hsw pi ok pg (fun _ _ _ _ _ => pts_nil) pe hs, lc_heartN vi vg hsub hG (fun F ρ own B σ H Q gd q => q B H (.refl gd.gr)) ve⟩
def sSetNN (i : Nat) (g : Rho → Res (List (List D))) : Rho → Out := fun ρ => thenS (g ρ) ρ fun rows => .nx (ρ.set i (some (.lst (lsts rows))))
/-- the labels of a table -/
def ownT (own : Own) (i : Nat) (p : Addr) (ps : List Addr) : Own := fun a => if a = p then some [i + 1] else if a ∈ ps then some [i + 1, ps.idxOf a] else dropL own (i + 1) a
theorem Good.setNN {K : PySem.W.Frag} {F B H B' H' : Hp} {own : Own} {ρ : Rho} {σ : L2.St} {p : Addr} {ps : List Addr} {rows : List (List D)} (g : Good K F G ρ own B σ H) (s : Step own F B H B' H') (hfr : ∀ a ∈ p :: ps, Fresh B' F own a) (hnd : (p :: ps).Nodup) (hp : H' p = some (.lst (ps.map V.ref))) (r : RowsAt K B' H' ps rows)
    (hi : (G.set i Mode.tab).getD i Mode.fz = Mode.tab) : Good K F (G.set i Mode.tab) (ρ.set i (some (.lst (lsts rows)))) (ownT own i p ps) B' (σ.set i (some (.ref p))) H' := by
  have g1 := g.step s
  have hout : ∀ {a : Addr}, a ∉ p :: ps → ownT own i p ps a = dropL own (i + 1) a := fun {a} h => by
    rw [List.mem_cons, not_or] at h
    unfold ownT
    rw [if_neg h.1, if_neg h.2]
  have hpn : p ∉ ps := (List.nodup_cons.mp hnd).1
  have hnd2 : ps.Nodup := (List.nodup_cons.mp hnd).2
  refine ⟨⟨fun a o e => ?_, fun a o e => ?_, fun a h => ?_⟩, by simpa using g.len, fun j d e => ?_⟩
  · have ne : a ∉ p :: ps := fun z => by
      rw [(hfr a z).1] at e
      cases e
    rw [hout ne]
    exact ⟨(g1.gr.base a o e).1, none_back (fun a l h => dropL_some h) (g1.gr.base a o e).2⟩
  · have ne : a ∉ p :: ps := fun z => by
      rw [(hfr a z).2.1] at e
      cases e
    rw [hout ne]
    exact ⟨(g1.gr.frame a o e).1, none_back (fun a l h => dropL_some h) (g1.gr.frame a o e).2.1, (g1.gr.frame a o e).2.2⟩
  · by_cases ha : a ∈ p :: ps
    · rcases List.mem_cons.mp ha with z | z
      · rw [z, hp]
        exact fun z => nomatch z
      · obtain ⟨k, hk⟩ := List.getElem?_of_mem z
        have hkl : k < rows.length := by rw [← r.1]; exact (List.getElem?_eq_some_iff.mp hk).1
        obtain ⟨vs, h3, _⟩ := r.2 k a rows[k] hk (List.getElem?_eq_getElem hkl)
        rw [h3]
        exact fun z => nomatch z
    · rw [hout ha] at h
      exact g1.gr.live a fun z => h (none_back (fun a l h => dropL_some h) z)
  · have hl := g.len
    by_cases hj : i = j
    · subst hj
      have hlt : i < ρ.length := by
        have := (List.getElem?_eq_some_iff.mp e).1
        simpa using this
      rw [List.getElem?_set_self hlt] at e
      cases e
      refine ⟨.ref p, List.getElem?_set_self (by omega), ?_⟩
      rw [hi]
      refine ⟨p, ps.map V.ref, lsts rows, rfl, rfl, by simp [ownT], hp, by simp [r.1], fun k v' d' h1 h2 => ?_⟩
      rw [List.getElem?_map] at h1 h2
      obtain ⟨a, ha, rfl⟩ := Option.map_eq_some_iff.mp h1
      obtain ⟨row, hr, rfl⟩ := Option.map_eq_some_iff.mp h2
      obtain ⟨vs, h3, h4⟩ := r.2 k a row ha hr
      have hkl : k < ps.length := (List.getElem?_eq_some_iff.mp ha).1
      have hak : ps[k] = a := (List.getElem?_eq_some_iff.mp ha).2
      refine ⟨a, vs, row, rfl, rfl, ?_, h3, h4.len, fun k2 v2 d2 e1 e2 => ?_⟩
      · have hm : a ∈ ps := List.mem_of_getElem? ha
        unfold ownT
        rw [if_neg (fun z : a = p => hpn (by rw [← z]; exact hm)), if_pos hm]
        have : ps.idxOf a = k := by
          rw [← hak]
          exact hnd2.idxOf_getElem k hkl
        rw [this]
        rfl
      · obtain ⟨d3, e3, e4⟩ := h4.get' e1
        rw [e2] at e3
        cases e3
        exact e4
    · rw [List.getElem?_set_ne hj] at e
      obtain ⟨w, h1, h2⟩ := g1.slots j d e
      refine ⟨w, by rw [List.getElem?_set_ne hj]; exact h1, ?_⟩
      have e1 : (G.set i Mode.tab).getD j Mode.fz = G.getD j Mode.fz := by simp [List.getD, List.getElem?_set_ne hj]
      rw [e1]
      refine VRep.own_congr (fun a r e => ?_) h2
      have ne : a ∉ p :: ps := fun z => by
        rw [(hfr a z).2.2] at e
        cases e
      rw [hout ne]
      exact dropL_ne e (by omega)
theorem sj_lcNN {g : Rho → Res (List (List D))} (h : LcNJ X W G x px i e pos g) (hm : (G.set i Mode.tab).getD i Mode.fz = Mode.tab := by rfl) : SJ X W L G (.Assign [.Name x px] e pos) (sSetNN i g) (G.set i Mode.tab) := by
  obtain ⟨te, ps, ve⟩ := h
  refine ⟨_, ps, fun F ρ own B σ H D gd q => ?_⟩
  refine ve F ρ own B σ H _ gd (Res.has_mono (thenS_has gd q) (fun rows q p ps B' H' s hfr hnd hp r => ?_) fun _ x => x)
  exact q _ B' _ H' s.ext (gd.setNN s hfr hnd hp r hm)

/-! ### a row, borrowed -/
section
variable {K : PySem.W.Frag} {F B H : Hp} {own : Own} {ρ : Rho} {σ : L2.St}
theorem Good.tabAt {d : D} (g : Good K F G ρ own B σ H) (hG : G.getD i Mode.fz = Mode.tab) (hρ : ρ[i]? = some (some d)) :
    ∃ (l : Addr) (vs : List V) (ds : List D), σ[i]? = some (some (.ref l)) ∧ d = .lst ds ∧ own l = some [i + 1] ∧ H l = some (.lst vs) ∧ vs.length = ds.length ∧
      ∀ (k : Nat) (v' : V) (d' : D), vs[k]? = some v' → ds[k]? = some d' → ∃ (a : Addr) (us : List V) (es : List D), v' = .ref a ∧ d' = .lst es ∧ own a = some [i + 1, k] ∧ H a = some (.lst us) ∧ RpA K B us es := by
  obtain ⟨v, h1, h2⟩ := g.slots i d hρ
  rw [hG] at h2
  obtain ⟨l, vs, ds, rfl, rfl, ho, hl, hn, h⟩ := h2
  refine ⟨l, vs, ds, h1, rfl, ho, hl, hn, fun k v' d' e1 e2 => ?_⟩
  obtain ⟨a, us, es, rfl, rfl, h3, h4, h5, h6⟩ := h k v' d' e1 e2
  exact ⟨a, us, es, rfl, rfl, h3, h4, RpA.of_get h5 h6⟩
end
def ixT (i : Nat) (gk : Rho → Res D) : Rho → Res D := bin dIx (getV i) gk
theorem get_ixN {α β : Type} {vs : List α} {ds : List β} {k : Int} {d : β} (hn : vs.length = ds.length) (h : atI ds k = some d) : ∃ (j : Nat) (v : α), ixN vs.length k = some j ∧ vs[j]? = some v ∧ ds[j]? = some d := by
  unfold atI at h
  obtain ⟨j, h1, h2⟩ := Option.bind_eq_some_iff.mp h
  have hj : j < ds.length := (List.getElem?_eq_some_iff.mp h2).1
  exact ⟨j, vs[j], by rw [hn]; exact h1, List.getElem?_eq_getElem (by omega), h2⟩
theorem ev_row {tk : TE} {gk : Rho → Res D} (hG : G.getD i Mode.fz = Mode.tab) (hk : EvB X W G tk gk) : EvB X W G (tOp (rIx X.K) (tVar i) tk) (bin dIx (getV i) gk) := fun F ρ own B σ H Q gd q => by
  unfold bin getV at q
  cases e : ρ[i]? with
  | none =>
    rw [e] at q
    exact q.elim
  | some o =>
    cases o with
    | none =>
      rw [e] at q
      exact q.elim
    | some d =>
      rw [e] at q
      simp only [Res.bind_ok] at q
      obtain ⟨l, vs, ds, h1, rfl, h3, h4, h5, h6⟩ := gd.tabAt hG e
      refine ⟨.ref l, h1, ?_⟩
      refine hk F ρ own B σ H _ gd (Res.has_mono (Res.has_bind q) (fun dk q w B2 H2 s2 r2 => ?_) fun _ x => x)
      cases dk with
      | int k =>
        cases r2.int
        have q : (dIx (.lst ds) (.int k)).has (fun d => ∀ (v : V) (B' H' : Hp), Step own F B H B' H' → Sn X.K own B' H' v d → Q v H') (WOk X.K X.mg W own F B H σ) := q
        unfold dIx at q
        simp only at q
        split at q
        · rename_i d hd
          obtain ⟨j, v, j1, j2, j3⟩ := get_ixN h5 hd
          obtain ⟨a, us, es, rfl, rfl, a1, a2, a3⟩ := h6 j v d j2 j3
          have hl : H2 l = some (.lst vs) := (s2.ownd l (by rw [h3]; exact fun z => nomatch z)).1.trans h4
          have ha : H2 a = some (.lst us) := (s2.ownd a (by rw [a1]; exact fun z => nomatch z)).1.trans a2
          refine .inl ⟨l, vs, _, .ref a, rfl, rfl, .inl (.inl hl), ?_, q _ _ _ s2 (.inr ⟨a, us, es, rfl, rfl, (by rw [a1]; exact (fun z => nomatch z)), ha, a3.mono s2.ext⟩)⟩
          first
            | (unfold atI; rw [j1]; exact j2)
            | (rw [j1]; exact j2)
        · exact q.elim
      | _ => exact q.elim
theorem bj_row {k : Expr} {gk : Rho → Res D} {sp : Pos} (hv : PE X (.Name x px) (tVar i)) (hk : BJ X W G k gk) (hm : G.getD i Mode.fz = Mode.tab := by rfl) (hs : PlainIx k := by exact fun _ _ => rfl) : BJ X W G (.Subscript (.Name x px) k sp) (bin dIx (getV i) gk) := by
  obtain ⟨tk, pk, vk⟩ := hk
  exact ⟨_, pe_ix ix_seq hv pk hs, ev_row hm vk⟩

/-! ### table[a][b] = e -/
def sSetII (i : Nat) (ga gb g : Rho → Res D) : Rho → Out := fun ρ => thenS (g ρ) ρ fun d => atL i ρ fun xs => thenS (ga ρ) ρ fun a => match a with
  | .int a => match ixN xs.length a with
    | some j => match xs[j]? with
      | some (.lst row) => thenS (gb ρ) ρ fun b => match b with
        | .int b => match ixN row.length b with
          | some k => .nx (ρ.set i (some (.lst (xs.set j (.lst (row.set k d))))))
          | none => .no
        | _ => .no
      | _ => .no
    | none => .no
  | _ => .no
theorem Good.mutII {K : PySem.W.Frag} {F B H : Hp} {own : Own} {ρ : Rho} {σ : L2.St} {l a : Addr} {vs us : List V} {ds es : List D} {j : Nat} (g : Good K F G ρ own B σ H) (hG : G.getD i Mode.fz = Mode.tab) (hρ : ρ[i]? = some (some (.lst ds))) (hσ : σ[i]? = some (some (.ref l))) (hol : own l = some [i + 1]) (hl : H l = some (.lst vs)) (hv : vs[j]? = some (.ref a)) (ho : own a = some [i + 1, j]) (r : RpA K B us es) :
    Good K F G (ρ.set i (some (.lst (ds.set j (.lst es))))) own B σ (upd H a (.lst us)) := by
  have hoN : own a ≠ none := by rw [ho]; exact fun z => nomatch z
  refine ⟨⟨fun a' o e => ?_, fun a' o e => ?_, fun a' h => ?_⟩, by simpa using g.len, fun j' d e => ?_⟩
  · have ne : a' ≠ a := fun z => hoN (by rw [← z]; exact (g.gr.base a' o e).2)
    rw [upd_ne ne]
    exact g.gr.base a' o e
  · have ne : a' ≠ a := fun z => hoN (by rw [← z]; exact (g.gr.frame a' o e).2.1)
    rw [upd_ne ne]
    exact g.gr.frame a' o e
  · by_cases ha : a' = a
    · rw [ha, upd_same]
      exact fun z => nomatch z
    · rw [upd_ne ha]
      exact g.gr.live a' h
  · by_cases hj : i = j'
    · subst hj
      have hlt : i < ρ.length := (List.getElem?_eq_some_iff.mp hρ).1
      rw [List.getElem?_set_self hlt] at e
      cases e
      refine ⟨.ref l, hσ, ?_⟩
      rw [hG]
      obtain ⟨v, h1, h2⟩ := g.slots i _ hρ
      rw [hG] at h2
      obtain ⟨l', vs', ds', rfl, e', ho', hl', hn, h⟩ := h2
      cases e'
      rw [hσ] at h1
      cases h1
      rw [hl] at hl'
      cases hl'
      have hla : l ≠ a := fun z => by
        rw [z, ho] at hol
        simp at hol
      refine ⟨l, vs, _, rfl, rfl, hol, by rw [upd_ne hla]; exact hl, by simpa using hn, fun k v' d' e1 e2 => ?_⟩
      by_cases hk : j = k
      · subst hk
        rw [hv] at e1
        cases e1
        have hjl : j < ds.length := by
          have := (List.getElem?_eq_some_iff.mp e2).1
          simpa using this
        rw [List.getElem?_set_self hjl] at e2
        cases e2
        refine ⟨a, us, es, rfl, rfl, by rw [ho]; rfl, upd_same, r.len, fun k2 v2 d2 f1 f2 => ?_⟩
        obtain ⟨d3, f3, f4⟩ := r.get' f1
        rw [f2] at f3
        cases f3
        exact f4
      · rw [List.getElem?_set_ne hk] at e2
        refine VRep.upd ho (fun r z => ?_) (h k v' d' e1 e2)
        simp at z
        exact hk z.1.symm
    · rw [List.getElem?_set_ne hj] at e
      obtain ⟨w, h1, h2⟩ := g.slots j' d e
      refine ⟨w, h1, VRep.upd ho (fun r z => ?_) h2⟩
      have := (List.cons.inj z).1
      omega
theorem sj_setII {ka kb : Expr} {sp sp2 : Pos} {g ga gb : Rho → Res D} (hv : PE X (.Name x px) (tVar i)) (hm : G.getD i Mode.fz = Mode.tab) (he : EJ X W G e g) (ha : BJ X W G ka ga) (hb : BJ X W G kb gb)
    (hg : ∀ {to ti : TE}, PE X (.Subscript (.Name x px) ka sp2) to → PE X kb ti → PG X (.Subscript (.Subscript (.Name x px) ka sp2) kb sp) (gSub to ti rSetL)) (hsa : PlainIx ka := by exact fun _ _ => rfl) (h1 : (assignEach [.Subscript (.Subscript (.Name x px) ka sp2) kb sp] X.env).map (·.2) = [assign (.Subscript (.Subscript (.Name x px) ka sp2) kb sp) X.env] := by rfl) (hs : swapsWithSole [.Subscript (.Subscript (.Name x px) ka sp2) kb sp] e pos.line X.env = pure false := by rfl) (hw : swappedStores [.Subscript (.Subscript (.Name x px) ka sp2) kb sp] e X.env = pure none := by rfl) :
    SJ X W L G (.Assign [.Subscript (.Subscript (.Name x px) ka sp2) kb sp] e pos) (sSetII i ga gb g) G := by
  obtain ⟨te, pe, ve⟩ := he
  obtain ⟨ta, pa, va⟩ := ha
  obtain ⟨tb, pb, vb⟩ := hb
  refine ⟨_, ps_asg pe (hg (pe_ix ix_seq hv pa hsa) pb) hs hw h1, fun F ρ own B σ H D gd q => ?_⟩
  refine ve F ρ own B σ H _ gd (Res.has_mono (thenS_has gd q) (fun d q u B' H' s r => ?_) fun _ x => x)
  have g1 := gd.step s
  have q := q.ext s.ext
  unfold atL at q
  split at q
  case h_2 => exact q.elim
  rename_i xs hx
  obtain ⟨l, vs, ds, h1, h2, h3, h4, h5, h6⟩ := g1.tabAt hm hx
  cases h2
  refine ⟨.ref l, h1, ?_⟩
  refine va F ρ own B' σ H' _ g1 (Res.has_mono (thenS_has g1 q) (fun da q w B2 H2 s2 r2 => ?_) fun _ x => x)
  have g2 := g1.step s2
  have hl2 : H2 l = some (.lst vs) := (s2.ownd l (by rw [h3]; exact fun z => nomatch z)).1.trans h4
  have q := q.ext s2.ext
  cases da with
  | int k =>
    cases r2.int
    simp only at q
    cases hj : ixN xs.length k with
    | none =>
      rw [hj] at q
      exact q.elim
    | some j =>
      rw [hj] at q
      simp only at q
      split at q
      case h_2 => exact q.elim
      rename_i row hrow
      have hjl : j < xs.length := (List.getElem?_eq_some_iff.mp hrow).1
      have hjv : vs[j]? = some vs[j] := List.getElem?_eq_getElem (by omega)
      obtain ⟨a, us, es, e1, e2, a1, a2, a3⟩ := h6 j _ _ hjv hrow
      cases e2
      rw [e1] at hjv
      have ha2 : H2 a = some (.lst us) := (s2.ownd a (by rw [a1]; exact fun z => nomatch z)).1.trans a2
      refine .inl ⟨l, vs, k, .ref a, rfl, rfl, .inl (.inl hl2), ?_, ?_⟩
      · first
          | (unfold atI; rw [h5, hj]; exact hjv)
          | (rw [h5, hj]; exact hjv)
      refine vb F ρ own B2 σ H2 _ g2 (Res.has_mono (thenS_has g2 q) (fun db q w B3 H3 s3 r3 => ?_) fun _ x => x)
      cases db with
      | int b =>
        cases r3.int
        simp only at q
        cases hk : ixN row.length b with
        | none =>
          rw [hk] at q
          exact q.elim
        | some m =>
          rw [hk] at q
          have ha3 : H3 a = some (.lst us) := (s3.ownd a (by rw [a1]; exact fun z => nomatch z)).1.trans ha2
          have hl3 : H3 l = some (.lst vs) := (s3.ownd l (by rw [h3]; exact fun z => nomatch z)).1.trans hl2
          have r3 := ((a3.mono s2.ext).mono s3.ext)
          refine ⟨a, us, b, m, rfl, rfl, ha3, by rw [r3.len]; exact hk, ?_⟩
          exact q own B3 σ _ s3.ext ((g2.step s3).mutII hm hx h1 h3 hl3 hjv a1 (r3.set m ((r.mono s2.ext).mono s3.ext)))
      | _ => exact q.elim
  | _ => exact q.elim
end
end T

set_option Elab.async false
set_option linter.all false
set_option maxRecDepth 100000
set_option maxHeartbeats 4000000
/-! T-layer, part P: loops by what holds at each turn; sequences as arguments. -/
namespace T
open PySem L2
/-- a for loop: I at each turn; Bk where it breaks -/
theorem forM_inv {b : Bnd} {body : Rho → Out} (I : Nat → Rho → Prop) (Bk : Rho → Prop) : ∀ (xs : List D) (k : Nat), (∀ (i : Nat) (x : D) (ρ : Rho), xs[i]? = some x → I (k + i) ρ → ∃ ρ1, b x ρ = some ρ1 ∧ ((∃ ρ2, (body ρ1 = .nx ρ2 ∨ body ρ1 = .ct ρ2) ∧ I (k + i + 1) ρ2) ∨ ∃ ρ2, body ρ1 = .bk ρ2 ∧ Bk ρ2)) →
    ∀ ρ, I k ρ → ∃ ρ', forM b body xs ρ = .nx ρ' ∧ (I (k + xs.length) ρ' ∨ Bk ρ')
  | [], _, _, ρ, hI => ⟨ρ, rfl, .inl hI⟩
  | x :: xs, k, h, ρ, hI => by
    obtain ⟨ρ1, h1, h2⟩ := h 0 x ρ rfl hI
    simp only [forM, h1]
    rcases h2 with ⟨ρ2, h2, h3⟩ | ⟨ρ2, h2, h3⟩
    · have ih := forM_inv I Bk xs (k + 1) (fun i y ρ hy hI => by
        have := h (i + 1) y ρ (by simpa using hy) (by rw [show k + (i + 1) = k + 1 + i by omega]; exact hI)
        rw [show k + (i + 1) + 1 = k + 1 + i + 1 by omega] at this
        exact this) ρ2 (by simpa using h3)
      rw [show k + (x :: xs).length = k + 1 + xs.length by simp; omega]
      rcases h2 with h2 | h2
      · rw [h2]
        exact ih
      · rw [h2]
        exact ih
    · rw [h2]
      exact ⟨ρ2, rfl, .inr h3⟩
theorem for_inv {b : Bnd} {body : Rho → Out} (I : Nat → Rho → Prop) (xs : List D) (h : ∀ (i : Nat) (x : D) (ρ : Rho), xs[i]? = some x → I i ρ → ∃ ρ1, b x ρ = some ρ1 ∧ ∃ ρ2, (body ρ1 = .nx ρ2 ∨ body ρ1 = .ct ρ2) ∧ I (i + 1) ρ2) {ρ : Rho} (hI : I 0 ρ) : ∃ ρ', forM b body xs ρ = .nx ρ' ∧ I xs.length ρ' := by
  obtain ⟨ρ', h1, h2⟩ := forM_inv I (fun _ => False) xs 0 (fun i x ρ hx hI => by
    rw [Nat.zero_add] at hI ⊢
    obtain ⟨ρ1, h1, h2⟩ := h i x ρ hx hI
    exact ⟨ρ1, h1, .inl h2⟩) ρ hI
  rw [Nat.zero_add] at h2
  exact ⟨ρ', h1, h2.resolve_right id⟩
theorem for_invB {b : Bnd} {body : Rho → Out} (I : Nat → Rho → Prop) (Bk : Rho → Prop) (xs : List D) (h : ∀ (i : Nat) (x : D) (ρ : Rho), xs[i]? = some x → I i ρ → ∃ ρ1, b x ρ = some ρ1 ∧ ((∃ ρ2, (body ρ1 = .nx ρ2 ∨ body ρ1 = .ct ρ2) ∧ I (i + 1) ρ2) ∨ ∃ ρ2, body ρ1 = .bk ρ2 ∧ Bk ρ2)) {ρ : Rho} (hI : I 0 ρ) : ∃ ρ', forM b body xs ρ = .nx ρ' ∧ (I xs.length ρ' ∨ Bk ρ') := by
  obtain ⟨ρ', h1, h2⟩ := forM_inv I Bk xs 0 (fun i x ρ hx hI => by
    rw [Nat.zero_add] at hI ⊢
    exact h i x ρ hx hI) ρ hI
  rw [Nat.zero_add] at h2
  exact ⟨ρ', h1, h2⟩
/-- a while loop: I with what is left -/
theorem while_inv {c : Rho → Res Bool} {body : Rho → Out} (I : Nat → Rho → Prop) (Post : Rho → Prop) (h : ∀ n ρ, I n ρ → (c ρ = .ok false ∧ Post ρ) ∨ (c ρ = .ok true ∧ ((∃ ρ2 k, (body ρ = .nx ρ2 ∨ body ρ = .ct ρ2) ∧ k < n ∧ I k ρ2) ∨ ∃ ρ2, body ρ = .bk ρ2 ∧ Post ρ2))) :
    ∀ (fuel n : Nat) (ρ : Rho), n < fuel → I n ρ → ∃ ρ', whileM c body fuel ρ = .nx ρ' ∧ Post ρ'
  | 0, _, _, hn, _ => absurd hn (Nat.not_lt_zero _)
  | fuel + 1, n, ρ, hn, hI => by
    rcases h n ρ hI with ⟨h1, h2⟩ | ⟨h1, ⟨ρ2, k, h2, h3, h4⟩ | ⟨ρ2, h2, h3⟩⟩
    · refine ⟨ρ, ?_, h2⟩
      simp [whileM, h1]
    · obtain ⟨ρ', e, hp⟩ := while_inv I Post h fuel k ρ2 (by omega) h4
      refine ⟨ρ', ?_, hp⟩
      rcases h2 with h2 | h2 <;> simp [whileM, h1, h2, e]
    · refine ⟨ρ2, ?_, h3⟩
      simp [whileM, h1, h2]
theorem seq_bk {f g : Rho → Out} {ρ ρ' : Rho} (h : f ρ = .bk ρ') : sSeq f g ρ = .bk ρ' := by rw [sSeq_ap, h]
theorem seq_ct {f g : Rho → Out} {ρ ρ' : Rho} (h : f ρ = .ct ρ') : sSeq f g ρ = .ct ρ' := by rw [sSeq_ap, h]
theorem cut_from {α : Type} (xs : List α) (i : Nat) (z : Int) (hz : z = (i : Int)) (h : i ≤ xs.length) : cutL xs (some z) none = xs.drop i := by
  subst hz
  have h1 : HT.sIx xs.length 0 (some (i : Int)) = i := by
    rw [HT.sIx_nat]
    omega
  have h2 : HT.sIx xs.length xs.length none = xs.length := rfl
  unfold cutL
  rw [h1, h2]
  exact List.take_of_length_le (by simp)
theorem cut_to {α : Type} (xs : List α) (i : Nat) (z : Int) (hz : z = (i : Int)) (h : i ≤ xs.length) : cutL xs none (some z) = xs.take i := by
  subst hz
  have h1 : HT.sIx xs.length xs.length (some (i : Int)) = i := by
    rw [HT.sIx_nat]
    omega
  have h2 : HT.sIx xs.length 0 none = 0 := rfl
  unfold cutL
  rw [h1, h2]
  simp
theorem cut_mid {α : Type} (xs : List α) (i j : Nat) (y z : Int) (hy : y = (i : Int)) (hz : z = (j : Int)) (hi : i ≤ xs.length) (h : j ≤ xs.length) : cutL xs (some y) (some z) = (xs.drop i).take (j - i) := by
  subst hy hz
  have h1 : HT.sIx xs.length xs.length (some (j : Int)) = j := by
    rw [HT.sIx_nat]
    omega
  have h2 : HT.sIx xs.length 0 (some (i : Int)) = i := by
    rw [HT.sIx_nat]
    omega
  unfold cutL
  rw [h1, h2]
theorem while_ok {c : Rho → Res Bool} {body : Rho → Out} {fuel : Nat} {ρ ρ' : Rho} {g : Rho → Out} {o : Out} (h : whileM c body fuel ρ = .nx ρ') (h' : g ρ' = o) : sSeq (whileM c body fuel) g ρ = o := seq_nx h h'
theorem rngD_ok {n : Nat} (h : n ≤ 1000000) : dRngD [.int ((n : Int) - 1), .int (-1), .int (-1)] = .ok ((List.range n).map fun k => D.int (((n - 1 - k : Nat) : Int))) := by
  unfold dRngD
  simp only
  rw [if_pos (by omega)]
  unfold downFrom
  rw [show ((n : Int) - 1 - -1).toNat = n by omega]
  refine congrArg Res.ok (List.map_congr_left fun k hk => ?_)
  have := List.mem_range.mp hk
  exact congrArg D.int (by omega)
theorem runF_nx {n N : Nat} {f : Rho → Out} {ds : List D} {ρ : Rho} (h : ds.length = n) (e : f (startR N ds) = .nx ρ) : runF n N f ds = .ok .non := by
  unfold runF
  rw [if_pos h, e]
theorem runF_ex {n N : Nat} {f : Rho → Out} {ds : List D} {ρ : Rho} {x : Exn} (h : ds.length = n) (e : f (startR N ds) = .ex x ρ) : runF n N f ds = .ex x := by
  unfold runF
  rw [if_pos h, e]
/-- a sequence of things -/
structure Sq {α : Type} (enc : α → D) (S : D) (xs : List α) : Prop where
  ix : ∀ (j : Nat) (x : α), xs[j]? = some x → dIx S (.int (j : Int)) = .ok (enc x)
  len : dLen [S] = .ok (.int xs.length)
theorem sq_l {α : Type} {enc : α → D} (xs : List α) : Sq enc (.lst (xs.map enc)) xs :=
  ⟨fun j x h => dIx_l (atI_get rfl (by rw [List.getElem?_map, h]; rfl)), by simp⟩
theorem sq_t {α : Type} {enc : α → D} (xs : List α) : Sq enc (.tup (xs.map enc)) xs :=
  ⟨fun j x h => dIx_t (atI_get rfl (by rw [List.getElem?_map, h]; rfl)), by simp⟩
section
variable {ρ : Rho} {a b : Rho → Res D} {i : Int} {j : Nat}
theorem ix_ok {α : Type} {enc : α → D} {S : D} {xs : List α} {x : α} (hs : Sq enc S xs) (ha : a ρ = .ok S) (hb : b ρ = .ok (.int i)) (hi : i = (j : Int)) (hx : xs[j]? = some x) : bin dIx a b ρ = .ok (enc x) := by
  refine bin_ok ha hb ?_
  rw [hi]
  exact hs.ix j x hx
theorem len_ok {α : Type} {enc : α → D} {S : D} {xs : List α} (hs : Sq enc S xs) (ha : a ρ = .ok S) : callV dLen (consA a noA) ρ = .ok (.int xs.length) := call1_ok ha hs.len
theorem add_ok {x y : Int} (ha : a ρ = .ok (.int x)) (hb : b ρ = .ok (.int y)) : bin dAdd a b ρ = .ok (.int (x + y)) := bin_ok ha hb dAdd_i
theorem sub_ok {x y : Int} (ha : a ρ = .ok (.int x)) (hb : b ρ = .ok (.int y)) : bin dSub a b ρ = .ok (.int (x - y)) := bin_ok ha hb dSub_i
theorem mod_ok {x y : Int} (ha : a ρ = .ok (.int x)) (hb : b ρ = .ok (.int y)) (h : 0 < y) : bin dMod a b ρ = .ok (.int (x % y)) := bin_ok ha hb (dMod_ok h)
theorem div_ok {x y : Int} (ha : a ρ = .ok (.int x)) (hb : b ρ = .ok (.int y)) (h : 0 < y ∧ y.natAbs.log2 < 9000) : bin dDiv a b ρ = .ok (.int (x / y)) := bin_ok ha hb (dDiv_ok h)
theorem lt_ok {x y : Int} (ha : a ρ = .ok (.int x)) (hb : b ρ = .ok (.int y)) : toB (bin dLt a b) ρ = .ok (decide (x < y)) := toB_ok (bin_ok ha hb dLt_i)
theorem le_ok {x y : Int} (ha : a ρ = .ok (.int x)) (hb : b ρ = .ok (.int y)) : toB (bin dLe a b) ρ = .ok (decide (x ≤ y)) := toB_ok (bin_ok ha hb dLe_i)
theorem gt_ok {x y : Int} (ha : a ρ = .ok (.int x)) (hb : b ρ = .ok (.int y)) : toB (bin dGt a b) ρ = .ok (decide (y < x)) := toB_ok (bin_ok ha hb dGt_i)
theorem ge_ok {x y : Int} (ha : a ρ = .ok (.int x)) (hb : b ρ = .ok (.int y)) : toB (bin dGe a b) ρ = .ok (decide (y ≤ x)) := toB_ok (bin_ok ha hb dGe_i)
theorem eq_ok {x y : Int} (ha : a ρ = .ok (.int x)) (hb : b ρ = .ok (.int y)) : toB (bin dEq a b) ρ = .ok (decide (x = y)) := toB_ok (bin_ok ha hb dEq_i)
theorem ne_ok {x y : Int} (ha : a ρ = .ok (.int x)) (hb : b ρ = .ok (.int y)) : toB (bin dNe a b) ρ = .ok (!decide (x = y)) := toB_ok (bin_ok ha hb dNe_i)
theorem int_ok {x : Int} (ha : a ρ = .ok (.int x)) : callV dInt (consA a noA) ρ = .ok (.int x) := call1_ok ha dInt_i
theorem max_ok {x y : Int} (ha : a ρ = .ok (.int x)) (hb : b ρ = .ok (.int y)) : callV dMax2 (consA a (consA b noA)) ρ = .ok (.int (max x y)) := by
  refine call2_ok ha hb ?_
  rw [dMax2_i]
  refine congrArg _ (congrArg _ ?_)
  split <;> omega
theorem tup1_ok {x : D} (ha : a ρ = .ok x) : tupV (consA a noA) ρ = .ok (.tup [x]) := by
  rw [tupV_ap, consA_ap, ha, noA_ap]
  simp [sz1]
theorem tup2_ok {x y : D} (ha : a ρ = .ok x) (hb : b ρ = .ok y) : tupV (consA a (consA b noA)) ρ = .ok (.tup [x, y]) := by
  rw [tupV_ap, consA_ap, ha, consA_ap, hb, noA_ap]
  simp [sz1]
theorem tup3_ok {c : Rho → Res D} {x y z : D} (ha : a ρ = .ok x) (hb : b ρ = .ok y) (hc : c ρ = .ok z) : tupV (consA a (consA b (consA c noA))) ρ = .ok (.tup [x, y, z]) := by
  rw [tupV_ap, consA_ap, ha, consA_ap, hb, consA_ap, hc, noA_ap]
  simp [sz1]
theorem isi_l {xs : List D} (ha : a ρ = .ok (.lst xs)) : truV (callV dIsi (consA a (consA (conD (.ty "list")) noA))) ρ = .ok true := by rw [truV_ap, call2_ok ha rfl isi_ll, Res.bind_ok, dTru_b]
theorem isi_t {xs : List D} (ha : a ρ = .ok (.tup xs)) : truV (callV dIsi (consA a (consA (conD (.ty "tuple")) noA))) ρ = .ok true := by rw [truV_ap, call2_ok ha rfl isi_tt, Res.bind_ok, dTru_b]
theorem isi_s {x : Str} (ha : a ρ = .ok (.str x)) : truV (callV dIsi (consA a (consA (conD (.ty "str")) noA))) ρ = .ok true := by rw [truV_ap, call2_ok ha rfl isi_ss, Res.bind_ok, dTru_b]
theorem isi_i {x : Int} (ha : a ρ = .ok (.int x)) : truV (callV dIsi (consA a (consA (conD (.ty "int")) noA))) ρ = .ok true := by rw [truV_ap, call2_ok ha rfl isi_ii, Res.bind_ok, dTru_b]
end
theorem rng1_of {z : Int} {n : Nat} (e : z = (n : Int)) (h : n ≤ 1000000) : dRng1 [.int z] = .ok ((List.range n).map fun (i : Nat) => D.int i) := by
  rw [e]
  exact rng1_ok h
theorem rngD_of {z : Int} {n : Nat} (e : z = (n : Int) - 1) (h : n ≤ 1000000) : dRngD [.int z, .int (-1), .int (-1)] = .ok ((List.range n).map fun k => D.int (((n - 1 - k : Nat) : Int))) := by
  rw [e]
  exact rngD_ok h
theorem rep_flat {β : Type} (x : β) : ∀ n : Nat, (List.replicate n [x]).flatten = List.replicate n x
  | 0 => rfl
  | n + 1 => by rw [List.replicate_succ, List.flatten_cons, rep_flat x n]; rfl
theorem rep_of {x : D} {z : Int} {n : Nat} (e : z = (n : Int)) (h : n ≤ 1000000) : dRep (.lst [x]) (.int z) = .ok (List.replicate n x) := by
  rw [e]
  unfold dRep
  simp only
  rw [if_pos ⟨by omega, by omega, by simpa using sz1 h⟩, Int.toNat_natCast, rep_flat]
theorem ok_b {k l : Bool} {f : Rho → Res Bool} {ρ : Rho} (h : f ρ = .ok k) (e : k = l) : f ρ = .ok l := by rw [h, e]

mutual
theorem D.dat_self : ∀ (d : D) (n : Nat), D.dat n d = true → D.eqb d d = true
  | .non, _, _ => rfl
  | .bl b, _, _ => by simp [D.eqb]
  | .int b, _, _ => by simp [D.eqb]
  | .str b, _, _ => by simp [D.eqb]
  | .lst xs, 0, h => by simp [D.dat] at h
  | .lst xs, n + 1, h => by
    rw [D.eqb]
    exact D.datA_self xs n (by simpa [D.dat] using h)
  | .scr xs, 0, h => by simp [D.dat] at h
  | .scr xs, n + 1, h => by
    rw [D.eqb]
    exact D.datA_self xs n (by simpa [D.dat] using h)
  | .tup xs, 0, h => by simp [D.dat] at h
  | .tup xs, n + 1, h => by
    rw [D.eqb]
    exact D.datA_self xs n (by simpa [D.dat] using h)
  | .dct _, 0, h => by simp [D.dat] at h
  | .dct _, n + 1, h => by simp [D.dat] at h
  | .exc _, 0, h => by simp [D.dat] at h
  | .exc _, n + 1, h => by simp [D.dat] at h
  | .ty _, 0, h => by simp [D.dat] at h
  | .ty _, n + 1, h => by simp [D.dat] at h
theorem D.datA_self : ∀ (ds : List D) (n : Nat), D.datA n ds = true → D.eqbA ds ds = true
  | [], _, _ => by simp [D.eqbA]
  | d :: ds, n, h => by
    simp only [D.datA, Bool.and_eq_true] at h
    rw [D.eqbA, D.dat_self d n h.1, D.datA_self ds n h.2]
    rfl
end
theorem dEq_self {d : D} (h : D.dat 60 d = true) : dEq d d = .ok (.bl true) := by rw [dEq_d h h, D.dat_self d 60 h]
theorem dNe_self {d : D} (h : D.dat 60 d = true) : dNe d d = .ok (.bl false) := by rw [dNe_d h h, D.dat_self d 60 h]; rfl
theorem in_ints {i : List Int} {x : Int} : dIn (.int x) (.lst (i.map D.int)) = .ok (.bl (decide (x ∈ i))) := by
  show (if D.dat 60 (.int x) = true ∧ D.datA 60 (i.map D.int) = true then _ else _) = _
  rw [if_pos ⟨dat_int, datA_ints i⟩]
  refine congrArg Res.ok (congrArg D.bl ?_)
  rw [List.any_map, Bool.eq_iff_iff]
  simp only [List.any_eq_true, Function.comp, eqb_int, decide_eq_true_eq]
  exact ⟨fun ⟨y, h1, h2⟩ => h2 ▸ h1, fun h => ⟨x, h, rfl⟩⟩
end T

set_option Elab.async false
set_option linter.all false
set_option maxRecDepth 100000
set_option maxHeartbeats 4000000
/-! T-layer, part Q: raise of own exceptions, try. -/
namespace T
open PySem PySem.Spec PyProof.Rows L2

/-- what the text says of an own exception class without __init__ -/
structure XCls (K : PySem.W.Frag) (mg : Str → Option Value) (x : Str) (C : Addr) : Prop where
  g : mg x = some (.ref C)
  kp : PySem.W.keepIn K (.ref C) = true
  sub : PySem.W.subIn K (.ref C) (.type "BaseException") = some true
  ty : PySem.W.typeIn K (.ref C) = some (.type "type")
  dct : PySem.W.hasDictIn K C = true
structure XNew (K : PySem.W.Frag) (C : Addr) (B newId initId : String) (bmB : List Value) : Prop where
  F : ExcBaseFacts B newId initId bmB
  q : PySem.W.excIn K C bmB newId = true
section
variable {X : Cx} {W : WX} {L : LM} {G G' : List Mode} {C : Addr} {bmB : List Value} {Bs newId initId : String} {x : Str} {e : Expr} {es : List Expr} {p pos pos' : Pos}
theorem pmk_own0 (N : XNew X.K C Bs newId initId bmB) (Tx : XCls X.K X.mg x C) (hg : Gl X x) (hdb : (x == ("__debug__" : Str)) = false := by decide) : PMk X (.Call (.Name x p) [] [] pos) (fun _ H Q => Q (.ref C) none H) := by
  intro pins s σ H Q I h
  refine wpAny_Call_Name_kw (ld_glob I hg Tx.g ?_ hdb)
  refine PySem.W.callWith_K0 I.kIn Tx.kp ?_
  show wpAny _ _ (call (.ref C) []) _ _ _
  obtain ⟨bm, N', nm, qn, bs, hdct, sn, sub, ab, col, dd, k0, k1, k2, k3, k5, mN, hC, hN, hni, T'⟩ := exc_obj I.kIn N.q
  refine wpAny_call_exc_subT N.F T' hC hN hni (fun h' e hm => ?_) (Nat.zero_le _)
  exact mk_of I hm (raises_own Tx.sub Tx.ty) h (I.hok.gone hm.new)
/-- raise X() -/
def sRaise (c : Str) : Rho → Out := fun ρ => .ex ⟨c, []⟩ ρ
theorem sj_raise0 (hc : X.calm = true) (tk : Takes X W) (N : XNew X.K C Bs newId initId bmB) (Tx : XCls X.K X.mg x C) (hg : Gl X x) (hdb : (x == ("__debug__" : Str)) = false := by decide) : SJ X W L G (.Raise (some (.Call (.Name x p) [] [] pos)) none pos') (sRaise x) G' := by
  refine ⟨_, ps_raise hc tk (pmk_own0 N Tx hg hdb), fun F ρ own B σ H D gd q => ?_⟩
  obtain ⟨B', e', g'⟩ := gd.all
  exact q (.ref C) none B' σ H e' g' ⟨Tx.g, .inl ⟨rfl, rfl⟩⟩
/-- raise X(e, ..) -/
def sRaiseA (c : Str) (g : Rho → Res (List D)) : Rho → Out := fun ρ => thenS (g ρ) ρ fun ds => if ds.length ≤ sizeLine then .ex ⟨c, []⟩ ρ else .no
theorem SnA.len {K : PySem.W.Frag} {own : Own} {B H : Hp} : ∀ {vs : List V} {ds : List D}, SnA K own B H vs ds → vs.length = ds.length
  | _, _, .nil => rfl
  | _, _, .cons _ r => congrArg (· + 1) (SnA.len r)
theorem sj_raiseA {g : Rho → Res (List D)} (hc : X.calm = true) (tk : Takes X W) (N : XNew X.K C Bs newId initId bmB) (Tx : XCls X.K X.mg x C) (hg : Gl X x) (ha : BAJ X W G (e :: es) g) (hdb : (x == ("__debug__" : Str)) = false := by decide)
    (he : starEach (e :: es) X.env = (false, eval e X.env) :: starEach es X.env := by rfl) (hpl : (backTo pos (starEach es X.env)).any (·.1) = false := by rfl) : SJ X W L G (.Raise (some (.Call (.Name x p) (e :: es) [] pos)) none pos') (sRaiseA x g) G' := by
  obtain ⟨t, pa, va⟩ := ha
  refine ⟨_, ps_raise hc tk (pmk_ownA N.F N.q Tx.g Tx.kp (raises_own Tx.sub Tx.ty) hg pa hdb he hpl), fun F ρ own B σ H D gd q => ?_⟩
  refine va F ρ own B σ H _ gd (Res.has_mono (thenS_has gd q) (fun ds q vs B' H' s r => ?_) fun _ x => x)
  split at q
  · rename_i hz
    refine ⟨by rw [r.len]; exact hz, ?_⟩
    obtain ⟨B2, e2, g2⟩ := (gd.step s).all
    exact q (.ref C) none B2 σ H' (s.ext.trans e2) g2 ⟨Tx.g, .inl ⟨rfl, rfl⟩⟩
  · exact q.elim

/-! ### try -/
/-- the classes of the text, and who is whose child -/
structure Subs (K : PySem.W.Frag) (mg : Str → Option Value) (cl : List Str) (sub : Str → Str → Bool) : Prop where
  ok : ∀ a ∈ cl, ∀ c ∈ cl, ∀ va vc : Value, mg a = some va → mg c = some vc → PySem.W.exmOne K va vc = some (sub a c)
theorem subs_one {K : PySem.W.Frag} {mg : Str → Option Value} {a c : Str} {A C va vc : Value} {b b' : Bool} (ha : mg a = some A) (hc : mg c = some C) (h1 : mg a = some va) (h2 : mg c = some vc) (h : PySem.W.exmOne K A C = some b) (e : b = b') : PySem.W.exmOne K va vc = some b' := by
  rw [ha] at h1
  rw [hc] at h2
  cases h1
  cases h2
  rw [h, e]
/-- a suite may not raise -/
def noEx : Out → Out
  | .ex _ _ => .no
  | o => o
/-- the first clause that takes it -/
def pickS (sub : Str → Str → Bool) (e : Exn) : List (Str × (Exn → Rho → Out)) → Rho → Out
  | [], ρ => .ex e ρ
  | (c, g) :: r, ρ => if sub e.cls c = true then noEx (g e ρ) else pickS sub e r ρ
def sTry (cl : List Str) (sub : Str → Str → Bool) (f : Rho → Out) (hs : List (Str × (Exn → Rho → Out))) : Rho → Out := fun ρ => match f ρ with
  | .ex e ρ' => if e.cls ∈ cl then pickS sub e hs ρ' else .no
  | o => o
/-- a suite, for every exception that it may get -/
def SuiJ (X : Cx) (L : LM) (suite : List Stmt) (g : Exn → Rho → Out) (G' : List Mode) : Prop :=
  ∀ (a : Addr) (oe : Obj) (cls : Value) (d : Option Addr) (pn : List (Addr × Obj)) (e : Exn), Zc cls d oe → (∃ vs, oe.data = .fields vs) → SsJ (X.suite a ((a, oe) :: pn)) W0 L [] suite (g e) G'
def suiT {X : Cx} {L : LM} {suite : List Stmt} {g : Exn → Rho → Out} {G' : List Mode} (h : SuiJ X L suite g G') (a : Addr) (cls : Value) (d : Option Addr) : TS :=
  fun D σ H => ∃ e : Exn, ∀ (oe : Obj) (pn : List (Addr × Obj)) (hz : Zc cls d oe) (hf : ∃ vs, oe.data = .fields vs), (h a oe cls d pn e hz hf).choose D σ H
theorem suiT_ok {X : Cx} {L : LM} {suite : List Stmt} {g : Exn → Rho → Out} {G' : List Mode} (h : SuiJ X L suite g G') (a : Addr) (oe : Obj) (cls : Value) (d : Option Addr) (pn : List (Addr × Obj)) (hz : Zc cls d oe) (hf : ∃ vs, oe.data = .fields vs) :
    PSs (X.suite a ((a, oe) :: pn)) suite (suiT h a cls d) := by
  refine ⟨fun pins s σ H D I q => ?_⟩
  obtain ⟨e, q⟩ := q
  exact (h a oe cls d pn e hz hf).choose_spec.1.run pins s σ H D I (q oe pn hz hf)
/-- the clauses of a try -/
inductive HdsJ (X : Cx) (L : LM) (G' : List Mode) (cl : List Str) : List ExceptHandler → List (Str × (Exn → Rho → Out)) → Prop
  | nil : HdsJ X L G' cl [] []
  | cons {y : Str} {C : Addr} {b₀ : Stmt} {suite : List Stmt} {np pos' : Pos} {g : Exn → Rho → Out} {hds : List ExceptHandler} {l : List (Str × (Exn → Rho → Out))} (hm : y ∈ cl) (Tx : XCls X.K X.mg y C) (hg : Gl X y) (hdb : (y == ("__debug__" : Str)) = false) (hsu : SuiJ X L (b₀ :: suite) g G') (r : HdsJ X L G' cl hds l) :
      HdsJ X L G' cl (.ExceptHandler (some (.Name y np)) none (b₀ :: suite) pos' :: hds) ((y, g) :: l)
theorem HdsJ.hds {cl : List Str} : ∀ {hds : List ExceptHandler} {l : List (Str × (Exn → Rho → Out))}, HdsJ X L G' cl hds l → ∃ l' : List (Value × (Addr → Value → Option Addr → TS)), HdsOk X hds l' ∧
    ∀ (sub : Str → Str → Bool), Subs X.K X.mg cl sub → ∀ (F B : Hp) (D : Ends) (e : Exn) (ρ : Rho), e.cls ∈ cl → PostS X W L G' F B D (pickS sub e l ρ) →
      ∀ (c : Value) (dx : Option Addr) (B' : Hp) (σ : L2.St) (H : Hp), Ext B B' → Good X.K F [] ρ (fun _ => none) B' σ H → ExR X.K X.mg B' H e c dx → wMany X.K W D l' c dx σ H
  | _, _, .nil => ⟨[], .nil, fun sub hs F B D e ρ hc q c dx B' σ H e' g' x => q c dx B' σ H e' g' x⟩
  | _, _, .cons (g := g) (l := l) hm Tx hg hdb hsu r => by
    obtain ⟨l', h1, h2⟩ := HdsJ.hds r
    refine ⟨_, .cons (c := .ref _) (ts := suiT hsu) ⟨hg, hdb, .inl Tx.g⟩ (fun a oe cls d pn hz hf => suiT_ok hsu a oe cls d pn hz hf) h1, fun sub hs F B D e ρ hc q c dx B' σ H e' g' x => ?_⟩
    refine ⟨_, hs.ok e.cls hc _ hm c _ x.cls Tx.g, fun hb a ha => ⟨e, fun oe pn hz hf => ?_⟩, fun hb => ?_⟩
    · rw [pickS, if_pos hb] at q
      refine (hsu a oe c dx pn e hz hf).choose_spec.2 F ρ (fun _ => none) B' σ H D g' ?_
      cases ho : g e ρ with
      | nx ρ2 =>
        rw [ho] at q
        exact fun own B2 σ2 H2 e2 g2 => q own B2 σ2 H2 (e'.trans e2) g2
      | bk ρ2 =>
        rw [ho] at q
        exact fun own B2 σ2 H2 e2 g2 => q own B2 σ2 H2 (e'.trans e2) g2
      | ct ρ2 =>
        rw [ho] at q
        exact fun own B2 σ2 H2 e2 g2 => q own B2 σ2 H2 (e'.trans e2) g2
      | rt d =>
        rw [ho] at q
        exact fun v own B2 H2 e2 => q v own B2 H2 (e'.trans e2)
      | ex e2 ρ2 =>
        rw [ho] at q
        exact q.elim
      | no =>
        rw [ho] at q
        exact q.elim
    · rw [pickS, if_neg (by rw [hb]; exact Bool.false_ne_true)] at q
      exact h2 sub hs F B D e ρ hc q c dx B' σ H e' g' x
theorem sj_try {cl : List Str} {sub : Str → Str → Bool} {body : List Stmt} {h₀ : ExceptHandler} {hds : List ExceptHandler} {f : Rho → Out} {l : List (Str × (Exn → Rho → Out))} (hs : X.stack = X.env :: X.outer) (hf : X.env.frame = some X.env.locals) (tk : Takes X W) (hsub : Subs X.K X.mg cl sub)
    (hb : ∀ (W : WX) (pn : List (Addr × Obj)) (xe : Value → Shared → Prop), Takes (X.tr pn xe) W → PassesOwn (model X.prog X.w) X.A X.env xe → SsJ (X.tr pn xe) W L G body f G')
    (hh : HdsJ X L G' cl (h₀ :: hds) l) : SJ X W L G (.Try body (h₀ :: hds) [] [] pos) (sTry cl sub f l) G' := by
  obtain ⟨l', h1, h2⟩ := hh.hds (W := W)
  refine ⟨_, ps_try_many hs hf tk (tb := fun W D σ H => ∀ pn xe (t1 : Takes (X.tr pn xe) W) (t2 : PassesOwn (model X.prog X.w) X.A X.env xe), (hb W pn xe t1 t2).choose D σ H) (fun W pn xe t1 t2 => ⟨fun pins s σ H D I q => (hb W pn xe t1 t2).choose_spec.1.run pins s σ H D I (q pn xe t1 t2)⟩) h1, fun F ρ own B σ H D gd q => ?_⟩
  intro pn xe t1 t2
  refine (hb _ pn xe t1 t2).choose_spec.2 F ρ own B σ H D gd ?_
  unfold sTry at q
  cases ho : f ρ with
  | ex e ρ2 =>
    rw [ho] at q
    simp only at q
    split at q
    · rename_i hc
      exact fun c dx B' σ' H' e' g' x => h2 sub hsub F B D e ρ2 hc q c dx B' σ' H' e' g' x
    · exact q.elim
  | nx ρ2 =>
    rw [ho] at q
    exact q
  | bk ρ2 =>
    rw [ho] at q
    exact q
  | ct ρ2 =>
    rw [ho] at q
    exact q
  | rt d =>
    rw [ho] at q
    exact q
  | no =>
    rw [ho] at q
    exact q.elim
end
end T

set_option Elab.async false
set_option linter.all false
set_option maxRecDepth 100000
set_option maxHeartbeats 4000000
/-! T-layer, part R: sorted, of pairs of numbers. -/
namespace T
open PySem PySem.Spec PyProof.Rows L2
def leP (p q : Int × Int) : Prop := p.1 < q.1 ∨ (p.1 = q.1 ∧ p.2 ≤ q.2)
instance (p q : Int × Int) : Decidable (leP p q) := by unfold leP; infer_instance
def insP (x : Int × Int) : List (Int × Int) → List (Int × Int)
  | [] => [x]
  | y :: ys => if leP x y then x :: y :: ys else y :: insP x ys
def sortP : List (Int × Int) → List (Int × Int)
  | [] => []
  | x :: xs => insP x (sortP xs)
theorem insP_perm (x : Int × Int) : ∀ ys, (insP x ys).Perm (x :: ys)
  | [] => .refl _
  | y :: ys => by
    unfold insP
    split
    · exact .refl _
    · exact ((insP_perm x ys).cons y).trans (.swap x y ys)
theorem sortP_perm : ∀ xs, (sortP xs).Perm xs
  | [] => .refl _
  | x :: xs => (insP_perm x (sortP xs)).trans ((sortP_perm xs).cons x)
theorem insP_sorted {x : Int × Int} : ∀ {ys}, List.Pairwise leP ys → List.Pairwise leP (insP x ys)
  | [], _ => by simp [insP]
  | y :: ys, h => by
    obtain ⟨h1, h2⟩ := List.pairwise_cons.mp h
    unfold insP
    split
    · rename_i hxy
      refine List.pairwise_cons.mpr ⟨fun z hz => ?_, h⟩
      rcases List.mem_cons.mp hz with rfl | hz
      · exact hxy
      · have := h1 z hz
        unfold leP at *
        omega
    · rename_i hxy
      refine List.pairwise_cons.mpr ⟨fun z hz => ?_, insP_sorted h2⟩
      rcases List.mem_cons.mp ((insP_perm x ys).mem_iff.mp hz) with rfl | hz
      · unfold leP at *
        omega
      · exact h1 z hz
theorem sortP_sorted : ∀ xs, List.Pairwise leP (sortP xs)
  | [] => List.Pairwise.nil
  | x :: xs => insP_sorted (sortP_sorted xs)
theorem sorted_uniq : ∀ {l m : List (Int × Int)}, List.Pairwise leP l → List.Pairwise leP m → l.Perm m → l = m
  | [], m, _, _, h => (List.nil_perm.mp h).symm
  | x :: l, [], _, _, h => by simpa using h.length_eq
  | x :: l, y :: m, h1, h2, h => by
    obtain ⟨a1, a2⟩ := List.pairwise_cons.mp h1
    obtain ⟨b1, b2⟩ := List.pairwise_cons.mp h2
    have e : x = y := by
      rcases List.mem_cons.mp (h.mem_iff.mp List.mem_cons_self) with e | hx
      · exact e
      · rcases List.mem_cons.mp (h.symm.mem_iff.mp List.mem_cons_self) with e | hy
        · exact e.symm
        · have p1 := a1 y hy
          have p2 := b1 x hx
          unfold leP at p1 p2
          exact Prod.ext (by omega) (by omega)
    subst e
    rw [sorted_uniq a2 b2 (List.Perm.cons_inv h)]
/-- sorted, a pair may be frozen -/
def rSortedPT (K : PySem.W.Frag) : List V → Hp → VK → Prop := fun vs H Q => ∃ (a : Addr) (xs : List V) (ps : List (Int × Int)), vs = [V.ref a] ∧ SqL K H a xs ∧ xs.length = ps.length ∧ (∀ (m : Nat) (x : V) (p : Int × Int), xs[m]? = some x → ps[m]? = some p → ∃ t, x = V.ref t ∧ SqT K H t [.int p.1, .int p.2]) ∧
  ∀ (zs : List (V × (Int × Int))) (p : Addr), zs.Perm (xs.zip ps) → List.Pairwise leP (zs.map (·.2)) → H p = none → Q (.ref p) (upd H p (.lst (zs.map (·.1))))
theorem zip_k {α β : Type} (k : α → β) : ∀ l : List α, l.zip (l.map k) = l.map fun y => (y, k y)
  | [] => rfl
  | x :: l => by rw [List.map_cons, List.zip_cons_cons, zip_k k l]; rfl
theorem cr_sortedPT {X : Cx} : CallR X (.builtin "sorted") (rSortedPT X.K) := by
  intro pins s σ H vs us Q I r h
  obtain ⟨a, xs, ps, rfl, hs, hlen, hx, q⟩ := h
  obtain ⟨its, rv, hl, hz⟩ := I.list hs
  obtain ⟨u, rfl, ru⟩ := vals1 r
  obtain rfl : u = Value.ref a := ru
  -- what each thing says
  have hk : ∃ k : V → Int × Int, ∀ (m : Nat) (x : V) (p : Int × Int), xs[m]? = some x → ps[m]? = some p → k x = p := by
    refine ⟨fun x => Classical.epsilon fun p => ∃ m : Nat, xs[m]? = some x ∧ ps[m]? = some p, fun m x p h1 h2 => ?_⟩
    obtain ⟨m', e1, e2⟩ := Classical.epsilon_spec (p := fun p => ∃ m : Nat, xs[m]? = some x ∧ ps[m]? = some p) ⟨p, m, h1, h2⟩
    obtain ⟨t, e, h3⟩ := hx m x p h1 h2
    obtain ⟨t', e', h4⟩ := hx m' x _ e1 e2
    rw [e] at e'
    cases e'
    have := I.tuple_inj h4 h3
    simp at this
    exact Prod.ext this.1 this.2
  obtain ⟨k, hk⟩ := hk
  have hat : ∀ x ∈ xs, ∃ t, x = V.ref t ∧ SqT X.K H t [.int (k x).1, .int (k x).2] := fun x hm => by
    obtain ⟨m, hm⟩ := List.getElem?_of_mem hm
    have hml : m < ps.length := by rw [← hlen]; exact (List.getElem?_eq_some_iff.mp hm).1
    rw [hk m x ps[m] hm (List.getElem?_eq_getElem hml)]
    exact hx m x ps[m] hm (List.getElem?_eq_getElem hml)
  have hps : ps = xs.map k := by
    refine List.ext_getElem? fun m => ?_
    rw [List.getElem?_map]
    cases e : xs[m]? with
    | none =>
      have := List.getElem?_eq_none_iff.mp e
      rw [List.getElem?_eq_none (by omega)]
      rfl
    | some x =>
      have hml : m < ps.length := by rw [← hlen]; exact (List.getElem?_eq_some_iff.mp e).1
      rw [List.getElem?_eq_getElem hml, ← hk m x ps[m] e (List.getElem?_eq_getElem hml)]
      rfl
  obtain ⟨e1, e2⟩ := refs_back rv fun x m => by
    obtain ⟨t, e, _⟩ := hat x m
    exact ⟨t, e⟩
  refine SrtO.sorted_pairsO (k := fun u => k (backV u)) hl.isList (by rw [← rv.length]; exact hz) (fun v hv => ?_) fun h' d out h1 h2 kp hd hn => ?_
  · obtain ⟨t, rfl⟩ := e2 v hv
    have hm : V.ref t ∈ xs := by rw [e1]; exact List.mem_map.mpr ⟨_, hv, rfl⟩
    obtain ⟨t', e, ht⟩ := hat _ hm
    cases e
    obtain ⟨its2, r2, tt, _⟩ := I.tuple ht
    obtain ⟨u1, u2, rfl, ri, rj⟩ := vals2 r2
    obtain ⟨t1, rfl⟩ := ri
    obtain ⟨t2, rfl⟩ := rj
    obtain ⟨o, ho, hc, n, hd⟩ := tt
    exact ⟨t, o, t1, t2, n, rfl, ho, hc, hd⟩
  · have h3 : ∀ u ∈ out, ∃ a, u = Value.ref a := fun u hu => e2 u (h2.perm.mem_iff.mp hu)
    obtain ⟨n, hn⟩ := hn
    have hb : SrtO.Stb (ltP k) (out.map backV) xs := by
      rw [e1]
      exact SrtO.Stb.map (ltP_swo k) backV h2
    have hsrt : SrtO.Srtd (ltP k) (out.map backV) := SrtO.srtd_map h1
    have hvb : Vals (out.map backV) out := vals_back h3
    generalize out.map backV = ys at *
    have hz1 : (ys.map fun y => (y, k y)).map (·.1) = ys := by
      rw [List.map_map]
      exact List.map_id ys
    have hz2 : (ys.map fun y => (y, k y)).Perm (xs.zip ps) := by
      rw [hps, zip_k k xs]
      exact hb.perm.map _
    have q' := q (ys.map fun y => (y, k y)) d hz2 ?_ (I.hok.fresh hd)
    · rw [hz1] at q'
      refine ⟨.ref d, upd H d (.lst ys), I.laid (t' := s.toks) kp hd ⟨?_, out, n, ?_, hn⟩, rfl, q'⟩
      · rw [hb.len]
        exact hz
      · exact hvb
    · rw [List.map_map]
      refine List.pairwise_map.mpr (List.Pairwise.imp (fun {x y} h => ?_) hsrt)
      have := SrtO.lexB_no.mp h
      show leP (k x) (k y)
      unfold leP
      omega

def D.pairs : List D → Option (List (Int × Int))
  | [] => some []
  | .tup [.int i, .int j] :: r => (D.pairs r).map ((i, j) :: ·)
  | _ => none
def dPair (p : Int × Int) : D := .tup [.int p.1, .int p.2]
def dSortedP : List D → Res (List D)
  | [.lst xs] => match D.pairs xs with
    | some ps => .ok ((sortP ps).map dPair)
    | none => .no
  | _ => .no
theorem pairs_eq : ∀ {ds : List D} {ps : List (Int × Int)}, D.pairs ds = some ps → ds = ps.map dPair
  | [], ps, h => by
    simp [D.pairs] at h
    subst h
    rfl
  | d :: ds, ps, h => by
    unfold D.pairs at h
    split at h
    · rename_i he; cases he
    · rename_i i j r he
      cases he
      cases h2 : D.pairs ds with
      | none =>
        rw [h2] at h
        cases h
      | some qs =>
        rw [h2] at h
        cases h
        rw [pairs_eq h2]
        rfl
    · cases h
theorem pairs_map : ∀ ps : List (Int × Int), D.pairs (ps.map dPair) = some ps
  | [] => rfl
  | p :: ps => by
    show (D.pairs (ps.map dPair)).map ((p.1, p.2) :: ·) = _
    rw [pairs_map ps]
    rfl
theorem fn_sortedP {X : Cx} : ∃ r, CallR X (.builtin "sorted") r ∧ CallN X r dSortedP := by
  refine ⟨_, cr_sortedPT, fun ds e h => ?_, fun F own B H vs ds Q g hx q => ?_⟩
  · unfold dSortedP at h
    split at h
    · split at h <;> cases h
    · cases h
  · unfold dSortedP at q
    split at q
    · rename_i xs
      obtain ⟨v, rfl, hv⟩ := hx.one
      obtain ⟨l, vs, rfl, hl, rv⟩ := hv.lst g
      cases hp : D.pairs xs with
      | none =>
        rw [hp] at q
        exact q.elim
      | some ps =>
        rw [hp] at q
        have hxs := pairs_eq hp
        subst hxs
        have hlen : vs.length = ps.length := by rw [rv.len, List.length_map]
        have hat : ∀ (m : Nat) (x : V) (p : Int × Int), vs[m]? = some x → ps[m]? = some p → Rp X.K B x (dPair p) := fun m x p h1 h2 => by
          obtain ⟨d, h3, h4⟩ := rv.get' h1
          rw [List.getElem?_map, h2] at h3
          cases h3
          exact h4
        refine ⟨l, vs, ps, rfl, .inl (.inl hl), hlen, fun m x p h1 h2 => ?_, fun zs p hz hsort hn => ?_⟩
        · cases hat m x p h1 h2 with
          | tup ha r =>
            cases r with
            | cons r1 r2 =>
              cases r2 with
              | cons r2 r3 =>
                cases r3
                cases r1
                cases r2
                exact ⟨_, rfl, Ext.seqT g.same ha⟩
        · have hzs : zs.map (·.2) = sortP ps := by
            refine sorted_uniq hsort (sortP_sorted ps) ?_
            have := hz.map (·.2)
            rw [List.map_snd_zip (by omega)] at this
            exact this.trans (sortP_perm ps).symm
          have hrep : RpA X.K B (zs.map (·.1)) ((sortP ps).map dPair) := by
            rw [← hzs, List.map_map]
            refine RpA.of_get (by simp) fun m x d h1 h2 => ?_
            rw [List.getElem?_map] at h1 h2
            obtain ⟨z, hz1, rfl⟩ := Option.map_eq_some_iff.mp h1
            rw [hz1] at h2
            cases h2
            have hmem : z ∈ vs.zip ps := hz.mem_iff.mp (List.mem_of_getElem? hz1)
            obtain ⟨j, hj⟩ := List.getElem?_of_mem hmem
            rw [List.getElem?_zip_eq_some] at hj
            exact hat j z.1 z.2 hj.1 hj.2
          exact new_lstN g hrep q p hn
    · exact q.elim
end T

set_option Elab.async false
set_option linter.all false
set_option maxRecDepth 100000
set_option maxHeartbeats 4000000
/-! T-layer, part S: f-strings, xs[::-1]. -/
namespace T
open PySem PySem.Spec PyProof.Rows L2
def dFmt : D → Res D
  | .str y => if y.length ≤ sizeLine then .ok (.str y) else .no
  | .int i => if i.natAbs.log2 < 1920 then .ok (.str (toString i)) else .no
  | _ => .no
def fmtV (g : Rho → Res D) : Rho → Res D := fun ρ => (g ρ).bind dFmt
/-- the parts one behind the other -/
def fsNil : Str → Rho → Res Str := fun acc _ => .ok acc
def fsCons (g : Rho → Res D) (r : Str → Rho → Res Str) : Str → Rho → Res Str := fun acc ρ => (g ρ).bind fun d => match d with
  | .str y => if (acc ++ y).length ≤ sizeLine then r (acc ++ y) ρ else .no
  | _ => .no
def fsV (r : Str → Rho → Res Str) : Rho → Res D := fun ρ => (r Str.empty ρ).bind fun s => .ok (.str s)
section
variable {X : Cx} {W : WX} {G : List Mode} {e : Expr} {es : List Expr} {pos : Pos}
theorem ej_fmt {g : Rho → Res D} (h : BJ X W G e g) : EJ X W G (.FormattedValue e (-1) none pos) (fmtV g) := by
  obtain ⟨t, p, v⟩ := h
  refine ⟨_, pe_fmt p, fun F ρ own B σ H Q gd q => ?_⟩
  refine v F ρ own B σ H _ gd (Res.has_mono (Res.has_bind q) (fun d q u B' H' s r => ?_) fun _ x => x)
  unfold dFmt at q
  split at q
  · rename_i y
    split at q
    · rename_i hz
      cases r.frz (fun ds z => nomatch z)
      exact .inl ⟨y, rfl, hz, q _ B' H' s (.str y)⟩
    · exact q.elim
  · rename_i i
    split at q
    · rename_i hz
      cases r.frz (fun ds z => nomatch z)
      exact .inr ⟨i, rfl, hz, q _ B' H' s (.str _)⟩
    · exact q.elim
  · exact q.elim
def FJ (X : Cx) (W : WX) (G : List Mode) (es : List Expr) (r : Str → Rho → Res Str) : Prop := ∃ ts, PJ X es ts ∧ ∀ (F : Hp) (ρ : Rho) (own : Own) (B : Hp) (σ : L2.St) (H : Hp) (acc : Str) (Q : Str → Hp → Prop), Good X.K F G ρ own B σ H →
    (r acc ρ).has (fun s => ∀ (B' H' : Hp), Step own F B H B' H' → Q s H') (WOk X.K X.mg W own F B H σ) → tJs ts acc σ H Q
theorem fj_nil : FJ X W G [] fsNil := ⟨_, .nil, fun F ρ own B σ H acc Q gd q => q B H (.refl gd.gr)⟩
theorem fj_cons {g : Rho → Res D} {r : Str → Rho → Res Str} (h : EJ X W G e g) (h' : FJ X W G es r) : FJ X W G (e :: es) (fsCons g r) := by
  obtain ⟨t, p, v⟩ := h
  obtain ⟨ts, ps, vs⟩ := h'
  refine ⟨_, .cons p ps, fun F ρ own B σ H acc Q gd q => ?_⟩
  refine v F ρ own B σ H _ gd (Res.has_mono (Res.has_bind q) (fun d q u B' H' s rr => ?_) fun _ x => x)
  cases d with
  | str y =>
    simp only at q
    split at q
    · rename_i hz
      cases rr
      exact ⟨y, rfl, hz, vs F ρ own B' σ H' (acc ++ y) Q (gd.step s) (Res.has_mono q (fun s' q B2 H2 s2 => q B2 H2 (s.trans s2)) fun _ x => x.step s)⟩
    · exact q.elim
  | _ => exact q.elim
theorem ej_fs {v1 v2 : Expr} {rest : List Expr} {r : Str → Rho → Res Str} (h : FJ X W G (v1 :: v2 :: rest) r) : EJ X W G (.JoinedStr (v1 :: v2 :: rest) pos) (fsV r) := by
  obtain ⟨ts, p, v⟩ := h
  refine ⟨_, pe_joined p, fun F ρ own B σ H Q gd q => ?_⟩
  exact v F ρ own B σ H Str.empty _ gd (Res.has_mono (Res.has_bind q) (fun s q B' H' st => q _ B' H' st (.str s)) fun _ x => x)
theorem ej_fs1 {g : Rho → Res D} (h : EJ X W G e g) : EJ X W G (.JoinedStr [e] pos) g := by
  obtain ⟨t, p, v⟩ := h
  exact ⟨_, pe_joined1 p, v⟩
/-! xs[::-1] -/
def dRev : D → Res (List D)
  | .lst xs => .ok xs.reverse
  | .scr xs => .ok xs.reverse
  | _ => .no
def revV (g : Rho → Res D) : Rho → Res (List D) := fun ρ => (g ρ).bind dRev
theorem nj_rev {g : Rho → Res D} {k : Nat} {p1 p2 p3 : Pos} (h : BJ X W G e g) : NJ X W G (.Subscript e (.Slice none none (some (.UnaryOp .USub (.Constant (.int 1) k p1) p2)) p3) pos) (revV g) := by
  obtain ⟨t, p, v⟩ := h
  refine ⟨_, pe_revL p, fun F ρ own B σ H Q gd q => ?_⟩
  refine v F ρ own B σ H _ gd (Res.has_mono (Res.has_bind q) (fun d q u B' H' s r => ?_) fun _ x => x)
  have g' := gd.gr.step s
  have fin : ∀ {us : List V} {ds : List D} {p : Addr}, RpA X.K B' us ds → H' p = none → (∀ (p : Addr) (vs : List V) (B2 H2 : Hp), Step own F B H B2 H2 → B2 p = none → F p = none → own p = none → H2 p = some (.lst vs) → RpA X.K B2 vs ds.reverse → Q (.ref p) H2) → Q (.ref p) (upd H' p (.lst us.reverse)) := fun {us ds p} r hn q =>
    q p us.reverse B' _ (s.trans (.garbage g' _ hn)) (g'.bfresh hn) (g'.ffresh hn) (g'.ofresh hn) upd_same r.rev
  cases d with
  | lst xs =>
    obtain ⟨l, vs, rfl, hl, rv⟩ := r.lst g'
    exact ⟨l, vs, rfl, .inl (.inl hl), fun p hn => fin rv hn q⟩
  | scr xs =>
    obtain ⟨l, vs, rfl, hl, rv⟩ := r.scr
    exact ⟨l, vs, rfl, Same.seq g'.same hl, fun p hn => fin rv hn q⟩
  | _ => exact q.elim
end
end T

set_option Elab.async false
set_option linter.all false
set_option maxRecDepth 100000
set_option maxHeartbeats 4000000
/-! T-layer, part T: texts as lists of codes. -/
namespace T
open PySem L2
abbrev dS (l : List Nat) : D := .str (SX.S l)
theorem dS_of {s : Str} {l : List Nat} (h : s = SX.S l) : (D.str s) = dS l := by rw [h]
section
variable {a b : List Nat}
theorem S_len' (a : List Nat) : (SX.S a).length = a.length := SX.S_len a
theorem dAdd_S (h : a.length + b.length ≤ 1000000) : dAdd (dS a) (dS b) = .ok (dS (a ++ b)) := by
  rw [dAdd_s, if_pos (sz1 (by rw [SX.S_len, SX.S_len]; exact h)), SX.S_cat]
theorem dLen_S (h : a.length ≤ 1000000) : dLen [dS a] = .ok (.int a.length) := by
  rw [dLen_s, if_pos (sz1 (by rw [SX.S_len]; exact h)), SX.S_len]
theorem dEq_S : dEq (dS a) (dS b) = .ok (.bl (decide (a = b))) := by
  rw [dEq_s]
  refine congrArg Res.ok (congrArg D.bl ?_)
  rw [Bool.eq_iff_iff]
  simp only [decide_eq_true_eq]
  exact ⟨SX.S_inj, fun h => by rw [h]⟩
theorem dNe_S : dNe (dS a) (dS b) = .ok (.bl (!decide (a = b))) := by
  rw [dNe_s]
  refine congrArg Res.ok (congrArg D.bl (congrArg not ?_))
  rw [Bool.eq_iff_iff]
  simp only [decide_eq_true_eq]
  exact ⟨SX.S_inj, fun h => by rw [h]⟩
theorem dIn_S {c : Nat} : dIn (dS [c]) (dS a) = .ok (.bl (decide (c ∈ a))) := by
  show Res.ok (D.bl (!(Builtin.Str.occurrences (SX.S a) (SX.S [c]) 0 (SX.S a).length 1).isEmpty)) = _
  rw [SX.in_one]
theorem dNotIn_S {c : Nat} : dNotIn (dS [c]) (dS a) = .ok (.bl (!decide (c ∈ a))) := by
  unfold dNotIn
  rw [dIn_S, Res.bind_ok, dNotB_b]
theorem dOrd_S {c : Nat} : dOrd [dS [c]] = .ok (.int (c : Int)) := by
  show (if (SX.S [c]).length = 1 then Res.ok (D.int ((SX.S [c]).cps.getD 0 0 : Nat)) else .no) = _
  rw [if_pos (show (SX.S [c]).length = 1 from SX.S_len [c])]
  rfl
theorem dIx_S {i : Int} {j c : Nat} (hi : i = (j : Int)) (h : a[j]? = some c) (hl : a.length ≤ 1000000) : dIx (dS a) (.int i) = .ok (dS [c]) := by
  unfold dIx
  simp only
  rw [if_pos (sz1 (by rw [SX.S_len]; exact hl)), atI_get hi h]
theorem num_fits {n : Nat} (h : n < 10 ^ 20) : ((n : Int)).natAbs.log2 < 1920 := by
  rw [Int.natAbs_natCast]
  by_cases h0 : n = 0
  · subst h0
    decide
  · exact (Nat.log2_lt h0).mpr (Nat.lt_of_lt_of_le h (Nat.le_trans (show 10 ^ 20 ≤ 2 ^ 70 by decide) (Nat.pow_le_pow_right (by decide) (by decide))))
theorem dFmt_n {n : Nat} (h : n < 10 ^ 20) : dFmt (.int (n : Int)) = .ok (dS (TL.numL n)) := by
  unfold dFmt
  simp only
  rw [if_pos (num_fits h)]
  exact congrArg (fun s => Res.ok (D.str s)) (SX.num_S n)
theorem dStrI_n {n : Nat} (h : n < 10 ^ 20) : dStrI [.int (n : Int)] = .ok (dS (TL.numL n)) := by
  unfold dStrI
  simp only
  rw [if_pos (num_fits h)]
  exact congrArg (fun s => Res.ok (D.str s)) (SX.num_S n)
theorem dSl_S {lo hi : Option Int} (h : a.length ≤ 1000000) : dSl (dS a) lo hi = .ok (dS (cutL a lo hi)) := by
  show (if (SX.S a).length ≤ sizeLine then Res.ok (D.str (cutS (SX.S a) lo hi)) else .no) = _
  rw [if_pos (sz1 (by rw [SX.S_len]; exact h))]
  unfold cutS cutL
  rw [SX.S_len]
theorem dSplit_S {c : Nat} (hc : c < 256) (h : a.length + 2 ≤ 1000000) : dSplit (dS a) [dS [c]] = .ok ((TL.spl [c] 0 [] a).map dS) := by
  unfold dSplit
  simp only
  rw [if_pos ⟨by rw [SX.S_len]; rfl, sz1 (by rw [SX.S_len]; exact h)⟩, SX.split_S (List.cons_ne_nil _ _) (by simpa using hc), List.map_map]
  rfl
theorem dJoin_nil {ls : List (List Nat)} (h : ls.flatten.length ≤ 1000000) : dJoin (dS []) [.lst (ls.map dS)] = .ok (dS ls.flatten) := by
  unfold dJoin
  simp only
  rw [show ls.map dS = (ls.map SX.S).map D.str by rw [List.map_map]; rfl, strs_map]
  simp only
  rw [if_pos, join_nil]
  rw [SX.S_len]
  have : ((ls.map SX.S).map fun (x : Str) => x.length).sum = ls.flatten.length := by
    rw [SX.lens, List.length_flatten]
  rw [show ((ls.map SX.S).map (·.length)).sum = ls.flatten.length from this, List.length_nil, Nat.mul_zero]
  omega
theorem fs_cons {g : Rho → Res D} {r : Str → Rho → Res Str} {ρ : Rho} {acc : List Nat} {z : Res Str} (h : g ρ = .ok (dS b)) (hl : acc.length + b.length ≤ 1000000) (h' : r (SX.S (acc ++ b)) ρ = z) : fsCons g r (SX.S acc) ρ = z := by
  unfold fsCons
  rw [h, Res.bind_ok]
  simp only
  rw [SX.S_cat, if_pos (sz1 (by rw [SX.S_len, List.length_append]; exact hl)), h']
theorem fs_ok {r : Str → Rho → Res Str} {ρ : Rho} {l : List Nat} (h : r (SX.S []) ρ = .ok (SX.S l)) : fsV r ρ = .ok (dS l) := by
  unfold fsV
  rw [show Str.empty = SX.S [] from rfl, h, Res.bind_ok]
end
end T

set_option Elab.async false
set_option linter.all false
set_option maxRecDepth 100000
set_option maxHeartbeats 4000000
/-! T-layer, part U: lemmas for evaluation by a tactic. -/
namespace T
open PySem L2
section
variable {ρ ρ' : Rho} {f g : Rho → Out} {o : Out} {d : D} {c : Rho → Res Bool} {a b : Rho → Res D} {k l : Bool}
theorem u_tru (h : a ρ = .ok d) (h' : dTru d = .ok k) : truV a ρ = .ok k := by rw [truV_ap, h, Res.bind_ok, h']
theorem ok_d {d' : D} (h : a ρ = .ok d) (e : d = d') : a ρ = .ok d' := by rw [h, e]
theorem u_neg {e : D} (h : a ρ = .ok d) (h' : dNeg d = .ok e) : negV a ρ = .ok e := by rw [negV_ap, h, Res.bind_ok, h']
theorem u_notV {e : D} (h : a ρ = .ok d) (h' : dNotB d = .ok e) : notV a ρ = .ok e := by rw [notV_ap, h, Res.bind_ok, h']
theorem u_items {ds : List D} (h : a ρ = .ok d) (h' : dItems d = .ok ds) : itemsV a ρ = .ok ds := by rw [itemsV_ap, h, Res.bind_ok, h']
theorem u_chain {f g : D → D → Res D} {a b c : Rho → Res D} {x y z : D} {p q : Bool} (ha : a ρ = .ok x) (hb : b ρ = .ok y) (h1 : f x y = .ok (.bl p)) (hc : c ρ = .ok z) (h2 : g y z = .ok (.bl q)) : chainV f g a b c ρ = .ok (.bl (p && q)) := by
  rw [chainV_ap, ha, Res.bind_ok, hb, Res.bind_ok, h1, Res.bind_ok]
  cases p with
  | true => simpa [hc] using h2
  | false => rfl
theorem u_andV (h : a ρ = .ok (.bl k)) (h' : b ρ = .ok (.bl l)) : andV a b ρ = .ok (.bl (k && l)) := by
  rw [andV_ap, h, Res.bind_ok]
  cases k with
  | true => simpa using h'
  | false => rfl
theorem u_orV (h : a ρ = .ok (.bl k)) (h' : b ρ = .ok (.bl l)) : orV a b ρ = .ok (.bl (k || l)) := by
  rw [orV_ap, h, Res.bind_ok]
  cases k with
  | true => rfl
  | false => simpa using h'
theorem u_orV_t (h : a ρ = .ok (.bl true)) : orV a b ρ = .ok (.bl true) := by
  rw [orV_ap, h, Res.bind_ok]
  rfl
theorem u_orV_r (h : a ρ = .ok (.bl false)) (h' : b ρ = .ok d) : orV a b ρ = .ok d := by
  rw [orV_ap, h, Res.bind_ok]
  exact h'
theorem u_andV_f (h : a ρ = .ok (.bl false)) : andV a b ρ = .ok (.bl false) := by
  rw [andV_ap, h, Res.bind_ok]
  rfl
theorem u_andV_r (h : a ρ = .ok (.bl true)) (h' : b ρ = .ok d) : andV a b ρ = .ok d := by
  rw [andV_ap, h, Res.bind_ok]
  exact h'
theorem u_and {a b : Rho → Res Bool} (h : a ρ = .ok k) (h' : b ρ = .ok l) : andB a b ρ = .ok (k && l) := andB_ok h fun _ => h'
theorem u_sl {α : Type} {h : D → Option Int → Option Int → Res α} {p q : Rho → Res (Option Int)} {i j : Option Int} {z : Res α} (ha : a ρ = .ok d) (hp : p ρ = .ok i) (hq : q ρ = .ok j) (hh : h d i j = z) : slV h a p q ρ = z := by rw [slV_ap, ha, Res.bind_ok, hp, Res.bind_ok, hq, Res.bind_ok, hh]
theorem u_part {i : Int} (h : a ρ = .ok (.int i)) : toPart a ρ = .ok (some i) := by rw [toPart_ap, h, Res.bind_ok]
theorem u_meth {α : Type} {n : String} {h : D → List D → Res α} {p : Rho → Res (List D)} {ds : List D} {z : Res α} (ha : a ρ = .ok d) (ht : d.isTy n = true) (hp : p ρ = .ok ds) (hh : h d ds = z) : methV n h a p ρ = z := by rw [methV_ap, ha, Res.bind_ok, if_pos ht, hp, Res.bind_ok, hh]
theorem u_call {α : Type} {h : List D → Res α} {p : Rho → Res (List D)} {ds : List D} {z : Res α} (hp : p ρ = .ok ds) (hh : h ds = z) : callV h p ρ = z := by rw [callV_ap, hp, Res.bind_ok, hh]
theorem u_callN {h : List D → Res D} {p : Rho → Res (List D)} {ds xs : List D} (hp : p ρ = .ok ds) (hh : h ds = .ok (.lst xs)) : callN h p ρ = .ok xs := by rw [callN_ap, hp, Res.bind_ok, hh, asL_lst]
theorem u_consA {p : Rho → Res (List D)} {ds : List D} (ha : a ρ = .ok d) (hp : p ρ = .ok ds) : consA a p ρ = .ok (d :: ds) := by rw [consA_ap, ha, Res.bind_ok, hp, Res.bind_ok]
theorem u_tup {p : Rho → Res (List D)} {ds : List D} (hp : p ρ = .ok ds) (hl : ds.length ≤ 1000000) : tupV p ρ = .ok (.tup ds) := by rw [tupV_ap, hp, Res.bind_ok, if_pos (sz1 hl)]
theorem u_lst {p : Rho → Res (List D)} {ds : List D} (hp : p ρ = .ok ds) (hl : ds.length ≤ 1000000) : lstV p ρ = .ok ds := by rw [lstV_ap, hp, Res.bind_ok, if_pos (sz1 hl)]
theorem u_own {ds : List D} (h : a ρ = .ok (.lst ds)) : ownItems a ρ = .ok ds := by rw [ownItems_ap, h, Res.bind_ok]
theorem u_if {z : Res D} (hc : c ρ = .ok k) (h1 : k = true → a ρ = z) (h2 : k = false → b ρ = z) : ifV c a b ρ = z := by
  rw [ifV_ap, hc, Res.bind_ok]
  cases k with
  | true => exact h1 rfl
  | false => exact h2 rfl
/-- a test, either way -/
theorem if_c (h : c ρ = .ok k) (h1 : k = true → f ρ = o) (h2 : k = false → g ρ = o) : sIf c f g ρ = o := by
  rw [sIf_ap, h, thenS_ok]
  cases k with
  | true => exact h1 rfl
  | false => exact h2 rfl
theorem if_k (h : c ρ = .ok k) (e : k = true) (h1 : f ρ = o) : sIf c f g ρ = o := if_t (h.trans (by rw [e])) h1
theorem if_n (h : c ρ = .ok k) (e : k = false) (h1 : g ρ = o) : sIf c f g ρ = o := if_f (h.trans (by rw [e])) h1
/-- a guard that does not hold -/
theorem seq_g (h : c ρ = .ok k) (e : k = false) (h' : g ρ = o) : sSeq (sIf c f sSkip) g ρ = o := seq_no (h.trans (by rw [e])) h'
/-- a guard that leaves -/
theorem seq_gt (h : c ρ = .ok k) (e : k = true) (h' : f ρ = .rt d) : sSeq (sIf c f sSkip) g ρ = .rt d := seq_rt (if_t (h.trans (by rw [e])) h')
theorem seq_gx {x : Exn} (h : c ρ = .ok k) (e : k = true) (h' : f ρ = .ex x ρ') : sSeq (sIf c f sSkip) g ρ = .ex x ρ' := seq_ex (if_t (h.trans (by rw [e])) h')
/-- a guard that may leave -/
theorem seq_gc (h : c ρ = .ok k) (h1 : k = true → f ρ = .rt d) (h' : k = false → g ρ = .rt d) : sSeq (sIf c f sSkip) g ρ = .rt d := by
  cases k with
  | true => exact seq_gt h rfl (h1 rfl)
  | false => exact seq_g h rfl (h' rfl)
theorem set_eq {i : Nat} {a : Rho → Res D} {ρ' : Rho} (h : a ρ = .ok d) (e : ρ.set i (some d) = ρ') : sSet i a ρ = .nx ρ' := by rw [set_ok h, e]
theorem setN_eq {i : Nat} {a : Rho → Res (List D)} {ds : List D} {ρ' : Rho} (h : a ρ = .ok ds) (e : ρ.set i (some (.lst ds)) = ρ') : sSetN i a ρ = .nx ρ' := by rw [setN_ok h, e]
theorem ret_eq {a : Rho → Res D} {d' : D} (h : a ρ = .ok d) (e : d = d') : sRet a ρ = .rt d' := by rw [ret_ok h, e]
theorem app_eq {i : Nat} {a : Rho → Res D} {xs : List D} {ρ' : Rho} (h0 : ρ[i]? = some (some (.lst xs))) (h : a ρ = .ok d) (hs : xs.length < 1000000) (e : ρ.set i (some (.lst (xs ++ [d]))) = ρ') : sApp i a ρ = .nx ρ' := by rw [app_ok h0 h hs, e]
theorem skip_eq (e : ρ = ρ') : sSkip ρ = .nx ρ' := by rw [sSkip_ap, e]
theorem u_app {i : Nat} {a : Rho → Res D} {xs : List D} (h0 : ρ[i]? = some (some (.lst xs))) (h : a ρ = .ok d) (hs : xs.length < 1000000) : sApp i a ρ = .nx (ρ.set i (some (.lst (xs ++ [d])))) := app_ok h0 h hs
end
section
variable {α : Type} {enc : α → D}
theorem dAdd_L {a b : List α} (h : a.length + b.length ≤ 1000000) : dAdd (.lst (a.map enc)) (.lst (b.map enc)) = .ok (.lst ((a ++ b).map enc)) := by
  rw [dAdd_l, if_pos (sz1 (by simpa using h)), List.map_append]
theorem dAdd_l' {a b : List D} (h : a.length + b.length ≤ 1000000) : dAdd (.lst a) (.lst b) = .ok (.lst (a ++ b)) := by
  rw [dAdd_l, if_pos (sz1 h)]
theorem dAdd_t' {a b : List D} (h : a.length + b.length ≤ 1000000) : dAdd (.tup a) (.tup b) = .ok (.tup (a ++ b)) := by
  rw [dAdd_t, if_pos (sz1 h)]
theorem dAdd_T {a b : List α} (h : a.length + b.length ≤ 1000000) : dAdd (.tup (a.map enc)) (.tup (b.map enc)) = .ok (.tup ((a ++ b).map enc)) := by
  rw [dAdd_t, if_pos (sz1 (by simpa using h)), List.map_append]
theorem dCat_l' {a b : List D} (h : a.length + b.length ≤ 1000000) : dCat (.lst a) (.lst b) = .ok (a ++ b) := by
  rw [dCat_l, if_pos (sz1 h)]
/-- all([..]) -/
theorem all_comp {src : Rho → Res (List D)} {b : Bnd} {h : Rho → Res D} {vs : List Nat} {ρ : Rho} {xs : List α} (p : α → Bool) (hs : src ρ = .ok (xs.map enc)) (hl : xs.length ≤ 1000000) (hf : ∀ x ∈ xs, ∃ ρ1, b (enc x) (wipeR ρ vs) = some ρ1 ∧ h ρ1 = .ok (.bl (p x))) :
    callV dAll (consA (lstD (compV src b yesB h vs)) noA) ρ = .ok (.bl (xs.all p)) := by
  have h1 : compV src b yesB h vs ρ = .ok ((xs.map p).map D.bl) := by
    rw [compV_ap, hs, Res.bind_ok, if_pos (sz1 (by simpa using hl))]
    exact lcM_map p xs hf
  rw [callV_ap, consA_ap, lstD_ap, h1, Res.bind_ok, Res.bind_ok, noA_ap, Res.bind_ok, Res.bind_ok]
  show (match D.bools ((xs.map p).map D.bl) with | some bs => Res.ok (D.bl (bs.all id)) | none => .no) = _
  rw [bools_map]
  refine congrArg Res.ok (congrArg D.bl ?_)
  rw [List.all_map]
  rfl
theorem rev_ok {ρ : Rho} {g : Rho → Res D} {xs : List D} (h : g ρ = .ok (.lst xs)) : revV g ρ = .ok xs.reverse := by
  unfold revV
  rw [h, Res.bind_ok]
  rfl
theorem dIx_last {a : List α} {l : α} : dIx (.lst ((a ++ [l]).map enc)) (.int (-1)) = .ok (enc l) := by
  rw [List.map_append]
  refine dIx_l ?_
  show atI (a.map enc ++ [enc l]) (-1) = _
  unfold atI
  have e : ixN ((a.map enc).length + 1) (-1) = some (a.map enc).length := by
    unfold ixN
    simp
    omega
  rw [List.length_append, List.length_singleton, e]
  simp
theorem setI_last {ρ : Rho} {i : Nat} {gk g : Rho → Res D} {a : List α} {l m : α} (hg : g ρ = .ok (enc m)) (h0 : ρ[i]? = some (some (.lst ((a ++ [l]).map enc)))) (hk : gk ρ = .ok (.int (-1))) : sSetI i gk g ρ = .nx (ρ.set i (some (.lst ((a ++ [m]).map enc)))) := by
  rw [sSetI_ap, hg, thenS_ok, x_atL h0, hk, thenS_ok]
  have e : ixN (((a ++ [l]).map enc).length) (-1) = some a.length := by
    unfold ixN
    simp
    omega
  simp only [e]
  simp
theorem setI_at {ρ : Rho} {i : Nat} {gk g : Rho → Res D} {xs : List D} {d : D} {z : Int} {j : Nat} (hg : g ρ = .ok d) (h0 : ρ[i]? = some (some (.lst xs))) (hk : gk ρ = .ok (.int z)) (hz : z = (j : Int)) (hj : j < xs.length) : sSetI i gk g ρ = .nx (ρ.set i (some (.lst (xs.set j d)))) := by
  rw [sSetI_ap, hg, thenS_ok, x_atL h0, hk, thenS_ok]
  have e : ixN xs.length z = some j := by
    subst hz
    unfold ixN
    simp
    omega
  simp only [e]
theorem dIn_l' (x : D) (ys : List D) : dIn x (.lst ys) = if D.dat 60 x = true ∧ D.datA 60 ys = true then .ok (.bl (ys.any fun y => y.eqb x)) else .no := by
  cases x <;> rfl
end
theorem for_cons {b : Bnd} {body : Rho → Out} {x : D} {xs : List D} {ρ ρ1 ρ2 : Rho} {o : Out} (h : b x ρ = some ρ1) (h1 : body ρ1 = .nx ρ2) (h2 : forM b body xs ρ2 = o) : forM b body (x :: xs) ρ = o := by
  simp only [forM, h, h1, h2]
theorem for_nil {b : Bnd} {body : Rho → Out} {ρ : Rho} : forM b body [] ρ = .nx ρ := rfl
theorem isi_k {x : D} {n : String} {t : String} {r : Bool} (h : dIsi [x, .ty t] = .ok (.bl r)) : dIsi [x, .ty t] = .ok (.bl r) := h
@[simp] theorem isi_bi {p : Bool} : dIsi [.bl p, .ty "int"] = .ok (.bl true) := by
  show (match kitB "bool" "int" with | some r => Res.ok (D.bl r) | none => .no) = _
  rw [show kitB "bool" "int" = some true by decide +kernel]
theorem dTru_l {xs : List D} : dTru (.lst xs) = .ok (!xs.isEmpty) := mk_eq rfl
end T

set_option Elab.async false
set_option linter.all false
set_option maxRecDepth 100000
set_option maxHeartbeats 4000000
/-! T-layer, part V: except X as n; isinstance of n; its fields. -/
namespace T
open PySem PySem.Spec PyProof.Rows L2
/-- the slot of the error is let go -/
def dropO (i : Nat) : Out → Out
  | .nx ρ => .nx (ρ.set i none)
  | .bk ρ => .bk (ρ.set i none)
  | .ct ρ => .ct (ρ.set i none)
  | o => o
def sTryAs (cl : List Str) (sub : Str → Str → Bool) (f : Rho → Out) (i : Nat) (c : Str) (g : Exn → Rho → Out) : Rho → Out := fun ρ => match f ρ with
  | .ex e ρ' => if e.cls ∈ cl then (if sub e.cls c = true then dropO i (noEx (g e (ρ'.set i (some (.exc e.fs))))) else .ex e ρ') else .no
  | o => o
section
variable {K : PySem.W.Frag} {F B H : Hp} {own : Own} {G G2 : List Mode} {ρ : Rho} {σ : L2.St} {i : Nat}
theorem Good.raw {a : Addr} {d : Option Addr} {fs : List (Str × D)} (g : Good K F [] ρ (fun _ => none) B σ H) (h0 : ∀ j, j ≠ i → G.getD j Mode.fz = Mode.fz) (hi : G.getD i Mode.fz = Mode.raw a d) (hx : ExcFs K B d fs) :
    Good K F G (ρ.set i (some (.exc fs))) (fun _ => none) B (σ.set i (some (.ref a))) H where
  gr := g.gr
  len := by simpa using g.len
  slots := fun j e he => by
    by_cases hj : j = i
    · subst hj
      have hl := (List.getElem?_eq_some_iff.mp he).1
      rw [List.length_set] at hl
      rw [List.getElem?_set_self hl] at he
      cases he
      refine ⟨.ref a, ?_, ?_⟩
      · rw [List.getElem?_set_self (by rw [g.len]; exact hl)]
      · rw [hi]
        exact ⟨rfl, fs, rfl, hx⟩
    · rw [List.getElem?_set_ne (Ne.symm hj)] at he
      obtain ⟨v, h1, h2⟩ := g.slots j e he
      refine ⟨v, by rw [List.getElem?_set_ne (Ne.symm hj)]; exact h1, ?_⟩
      rw [h0 j hj]
      simpa using h2
theorem Good.drop1 (g : Good K F G ρ own B σ H) (h : ∀ j, j ≠ i → G2.getD j Mode.fz = G.getD j Mode.fz) : Good K F G2 (ρ.set i none) own B (σ.set i none) H where
  gr := g.gr
  len := by simpa using g.len
  slots := fun j e he => by
    have hj : j ≠ i := fun z => by
      subst z
      have hl := (List.getElem?_eq_some_iff.mp he).1
      rw [List.length_set] at hl
      rw [List.getElem?_set_self hl] at he
      cases he
    rw [List.getElem?_set_ne (Ne.symm hj)] at he
    obtain ⟨v, h1, h2⟩ := g.slots j e he
    refine ⟨v, by rw [List.getElem?_set_ne (Ne.symm hj)]; exact h1, ?_⟩
    rw [h j hj]
    exact h2
end
/-- alike but at i -/
def alike (i : Nat) (G2 G : List Mode) : Bool := (List.range (max G2.length G.length)).all fun j => j == i || decide (G2.getD j Mode.fz = G.getD j Mode.fz)
theorem alike_ok {i : Nat} {G2 G : List Mode} (h : alike i G2 G = true) (j : Nat) (hj : j ≠ i) : G2.getD j Mode.fz = G.getD j Mode.fz := by
  by_cases hl : j < max G2.length G.length
  · have := List.all_eq_true.mp h j (List.mem_range.mpr hl)
    simp only [Bool.or_eq_true, beq_iff_eq, decide_eq_true_eq] at this
    exact this.resolve_left hj
  · have h1 : G2.length ≤ j := by omega
    have h2 : G.length ≤ j := by omega
    rw [List.getD_eq_getElem?_getD, List.getD_eq_getElem?_getD, List.getElem?_eq_none h1, List.getElem?_eq_none h2]
/-- the suite of except X as n, for every exception that it may get -/
def SuiA (X : Cx) (cl : List Str) (sub : Str → Str → Bool) (c : Str) (i : Nat) (L : LM) (suite : List Stmt) (g : Exn → Rho → Out) (G' : List Mode) : Prop :=
  ∀ (a : Addr) (oe : Obj) (cls : Value) (d : Option Addr) (pn : List (Addr × Obj)) (e : Exn), Zc cls d oe → (∃ vs, oe.data = .fields vs) → X.mg e.cls = some cls → e.cls ∈ cl →
    ∃ (G0 G1 : List Mode), SsJ (X.suite a ((a, oe) :: pn)) W0 ⟨L.bk.set i (Mode.raw a d), L.ct.set i (Mode.raw a d), L.rt⟩ G0 suite (g e) G1 ∧ alike i [] G0 = true ∧ G0.getD i Mode.fz = Mode.raw a d ∧ alike i G' G1 = true
theorem getD_setne {i : Nat} {l : List Mode} {m : Mode} (j : Nat) (hj : j ≠ i) : l.getD j Mode.fz = (l.set i m).getD j Mode.fz := by
  rw [List.getD_eq_getElem?_getD, List.getD_eq_getElem?_getD, List.getElem?_set_ne (Ne.symm hj)]
section
variable {X : Cx} {W : WX} {L : LM} {G G' : List Mode} {cl : List Str} {sub : Str → Str → Bool} {c : Str} {i : Nat} {pos : Pos}
def suiAT {suite : List Stmt} {g : Exn → Rho → Out} (h : SuiA X cl sub c i L suite g G') (a : Addr) (cls : Value) (d : Option Addr) : TS :=
  fun D σ H => ∃ (e : Exn) (h1 : X.mg e.cls = some cls) (h2 : e.cls ∈ cl), ∀ (oe : Obj) (pn : List (Addr × Obj)) (hz : Zc cls d oe) (hf : ∃ vs, oe.data = .fields vs), (h a oe cls d pn e hz hf h1 h2).choose_spec.choose_spec.1.choose D σ H
theorem suiAT_ok {suite : List Stmt} {g : Exn → Rho → Out} (h : SuiA X cl sub c i L suite g G') (a : Addr) (oe : Obj) (cls : Value) (d : Option Addr) (pn : List (Addr × Obj)) (hz : Zc cls d oe) (hf : ∃ vs, oe.data = .fields vs) :
    PSs (X.suite a ((a, oe) :: pn)) suite (suiAT h a cls d) := by
  refine ⟨fun pins s σ H D I q => ?_⟩
  obtain ⟨e, h1, h2, q⟩ := q
  exact (h a oe cls d pn e hz hf h1 h2).choose_spec.choose_spec.1.choose_spec.1.run pins s σ H D I (q oe pn hz hf)
theorem sj_tryAs {body suite : List Stmt} {b₀ : Stmt} {n : Str} {C : Addr} {np pos' : Pos} {f : Rho → Out} {g : Exn → Rho → Out} (hs : X.stack = X.env :: X.outer) (hf : X.env.frame = some X.env.locals) (tk : Takes X W) (hsub : Subs X.K X.mg cl sub)
    (hN : X.N.Nodup) (hi : X.N[i]? = some n) (hln : X.env.kindOf n = some .local) (hm : c ∈ cl) (Tx : XCls X.K X.mg c C) (hg : Gl X c) (hdb : (c == ("__debug__" : Str)) = false)
    (hb : ∀ (W : WX) (pn : List (Addr × Obj)) (xe : Value → Shared → Prop), Takes (X.tr pn xe) W → PassesOwn (model X.prog X.w) X.A X.env xe → SsJ (X.tr pn xe) W L G body f G')
    (hsu : SuiA X cl sub c i L (b₀ :: suite) g G') : SJ X W L G (.Try body [.ExceptHandler (some (.Name c np)) (some n) (b₀ :: suite) pos'] [] [] pos) (sTryAs cl sub f i c g) G' := by
  refine ⟨_, ps_try_as (c := .ref C) hs hf hN hi hln ⟨hg, hdb, .inl Tx.g⟩ tk (tb := fun W D σ H => ∀ pn xe (t1 : Takes (X.tr pn xe) W) (t2 : PassesOwn (model X.prog X.w) X.A X.env xe), (hb W pn xe t1 t2).choose D σ H) (fun W pn xe t1 t2 => ⟨fun pins s σ H D I q => (hb W pn xe t1 t2).choose_spec.1.run pins s σ H D I (q pn xe t1 t2)⟩)
    (ts := suiAT hsu) (fun a oe cls d pn hz hf => suiAT_ok hsu a oe cls d pn hz hf), fun F ρ own B σ H D gd q => ?_⟩
  intro pn xe t1 t2
  refine (hb _ pn xe t1 t2).choose_spec.2 F ρ own B σ H D gd ?_
  unfold sTryAs at q
  cases ho : f ρ with
  | ex e ρ2 =>
    rw [ho] at q
    simp only at q
    split at q
    · rename_i hc
      intro cv dx B' σ' H' e' g' x
      refine ⟨_, hsub.ok e.cls hc _ hm cv _ x.cls Tx.g, fun hb2 a ha => ⟨e, x.cls, hc, fun oe pn hz hf => ?_⟩, fun hb2 => ?_⟩
      · rw [if_pos hb2] at q
        obtain ⟨h1, h2, h3⟩ := (hsu a oe cv dx pn e hz hf x.cls hc).choose_spec.choose_spec.2
        have hL := (hsu a oe cv dx pn e hz hf x.cls hc).choose_spec.choose_spec.1.choose_spec.2
        have g2 := Good.raw (i := i) (a := a) (d := dx) g' (fun j hj => (alike_ok h1 j hj).symm.trans (by simp)) h2 x.fs
        refine hL F _ (fun _ => none) B' _ H' _ g2 ?_
        cases ho2 : g e (ρ2.set i (some (.exc e.fs))) with
        | nx ρ3 =>
          rw [ho2] at q
          exact fun own B2 σ2 H2 e2 g3 => q own B2 _ H2 (e'.trans e2) (g3.drop1 fun j hj => alike_ok h3 j hj)
        | bk ρ3 =>
          rw [ho2] at q
          exact fun own B2 σ2 H2 e2 g3 => q own B2 _ H2 (e'.trans e2) (g3.drop1 fun j hj => getD_setne j hj)
        | ct ρ3 =>
          rw [ho2] at q
          exact fun own B2 σ2 H2 e2 g3 => q own B2 _ H2 (e'.trans e2) (g3.drop1 fun j hj => getD_setne j hj)
        | rt d =>
          rw [ho2] at q
          exact fun v own B2 H2 e2 g3 r => q v own B2 H2 (e'.trans e2) g3 r
        | ex e2 ρ3 =>
          rw [ho2] at q
          exact q.elim
        | no =>
          rw [ho2] at q
          exact q.elim
      · rw [if_neg (by rw [hb2]; exact Bool.false_ne_true)] at q
        exact q cv dx B' σ' H' e' g' x
    · exact q.elim
  | nx ρ2 =>
    rw [ho] at q
    exact q
  | bk ρ2 =>
    rw [ho] at q
    exact q
  | ct ρ2 =>
    rw [ho] at q
    exact q
  | rt d =>
    rw [ho] at q
    exact q
  | no =>
    rw [ho] at q
    exact q.elim
/-! ### isinstance(n, C) in the suite; n without fields -/
structure IsEs (K : PySem.W.Frag) (mg : Str → Option Value) (cl : List Str) (sub : Str → Str → Bool) : Prop where
  ok : ∀ a ∈ cl, ∀ va : Value, mg a = some va → ∃ A, va = .ref A ∧ ExcC K A ∧ ∀ c ∈ cl, ∀ C : Addr, mg c = some (.ref C) → PySem.W.kitOne K (.ref A) (.ref C) = some (sub a c)
theorem kit_ref {K : PySem.W.Frag} {A C : Addr} {b : Bool} (hs : PySem.W.subIn K (.ref A) (.ref C) = some b) (hself : PySem.W.subIn K (.ref A) (.ref A) = some true) (hd : PySem.W.hasDictIn K C = true) (ht : PySem.W.typeIn K (.ref C) = some (.type "type")) : PySem.W.kitOne K (.ref A) (.ref C) = some b := by
  unfold PySem.W.kitOne
  by_cases h : A = C
  · subst h
    rw [hs] at hself
    rw [if_pos (by simp)]
    exact hself.symm
  · rw [if_neg (by simpa using h)]
    obtain ⟨cd, hc, _⟩ := PySem.W.any_some hd
    unfold PySem.W.kitCls
    simp only
    rw [hc, ht, if_pos (by rfl)]
    exact hs
theorem isEs_one {K : PySem.W.Frag} {mg : Str → Option Value} {c : Str} {A C C' : Addr} {b b' : Bool} (hc : mg c = some (.ref C)) (h2 : mg c = some (.ref C')) (h : PySem.W.kitOne K (.ref A) (.ref C) = some b) (e : b = b') : PySem.W.kitOne K (.ref A) (.ref C') = some b' := by
  rw [hc] at h2
  cases h2
  rw [h, e]
def isE (sub : Str → Str → Bool) (e : Exn) (c : Str) (g : Rho → Res D) : Rho → Res D := fun ρ => (g ρ).bind fun d => match d with
  | .exc [] => .ok (.bl (sub e.cls c))
  | _ => .no
theorem ej_isE {a : Addr} {oe : Obj} {cls : Value} {d : Option Addr} {pn : List (Addr × Obj)} {e : Exn} {n : Str} {C : Addr} {p p1 p2 : Pos} {nm : Str} (hI : IsEs X.K X.mg cl sub) (hz : Zc cls d oe) (hf : ∃ vs, oe.data = .fields vs) (he : X.mg e.cls = some cls) (hcl : e.cls ∈ cl)
    (hg : Gl (X.suite a ((a, oe) :: pn)) nm) (hm : X.mg nm = none) (hv : bootBuiltins nm = some (.builtin "isinstance")) (hn : nm ≠ "__name__") (hdb : (nm == ("__debug__" : Str)) = false)
    (pv : PE (X.suite a ((a, oe) :: pn)) (.Name n p1) (tVar i)) (hG : G.getD i Mode.fz = Mode.raw a d)
    (hc : c ∈ cl) (Tx : XCls X.K X.mg c C) (hgc : Gl (X.suite a ((a, oe) :: pn)) c) (hdc : (c == ("__debug__" : Str)) = false) :
    EJ (X.suite a ((a, oe) :: pn)) W G (.Call (.Name nm p) [.Name n p1, .Name c p2] [] pos) (isE sub e c (getV i)) := by
  obtain ⟨A, rfl, hE, hk⟩ := hI.ok e.cls hcl cls he
  by_cases hd : d = none
  · subst hd
    refine ⟨_, pe_callB (call_isE hE hz hf) hg hm hv (pa_cons pv (pa_cons (pe_glob (v := .ref C) hgc Tx.g rfl hdc) pa_nil)) hn hdb, fun F ρ own B σ H Q gd q => ?_⟩
    unfold isE getV at q
    cases hi : ρ[i]? with
    | none =>
      rw [hi] at q
      exact q.elim
    | some o =>
      cases o with
      | none =>
        rw [hi] at q
        exact q.elim
      | some dv =>
        rw [hi] at q
        obtain ⟨v, h1, h2⟩ := gd.slots i dv hi
        rw [hG] at h2
        obtain ⟨rfl, fs, rfl, hx⟩ := h2
        cases fs with
        | nil => exact ⟨_, h1, .ref C, .ref C, _, rfl, fun u hu => hu, hk c hc C Tx.g, q _ B H (.refl gd.gr) (.bl _)⟩
        | cons f fs => exact q.elim
  · refine ⟨fun _ _ _ => False, ⟨fun _ _ _ _ _ _ z => z.elim⟩, fun F ρ own B σ H Q gd q => ?_⟩
    unfold isE getV at q
    cases hi : ρ[i]? with
    | none =>
      rw [hi] at q
      exact q
    | some o =>
      cases o with
      | none =>
        rw [hi] at q
        exact q
      | some dv =>
        rw [hi] at q
        obtain ⟨v, h1, h2⟩ := gd.slots i dv hi
        rw [hG] at h2
        obtain ⟨rfl, fs, rfl, hx⟩ := h2
        cases fs with
        | nil =>
          rcases hx with ⟨_, hx⟩ | ⟨dd, vs, h3, _⟩
          · exact hd hx
          · exact h3 rfl
        | cons f fs => exact q
end
end T

set_option Elab.async false
set_option linter.all false
set_option maxRecDepth 100000
set_option maxHeartbeats 4000000
/-! T-layer, part W: written dicts, read by a key. -/
namespace T
open PySem PySem.Spec PyProof.Rows L2
def kD : Key → D
  | .inl i => .int i
  | .inr x => .str x
def pairsV (kvs : List (Key × Key)) : List (Key × V) := kvs.map fun kv => (kv.1, kV kv.2)
def pairsD (kvs : List (Key × Key)) : List (D × D) := kvs.map fun kv => (kD kv.1, kD kv.2)
section
variable {X : Cx} {W : WX} {G : List Mode} {pos : Pos}
theorem rp_k {K : PySem.W.Frag} {B : Hp} (k : Key) : Rp K B (kV k) (kD k) := by
  cases k with
  | inl i => exact .int i
  | inr x => exact .str x
theorem rpP_pairs {K : PySem.W.Frag} {B : Hp} : ∀ kvs : List (Key × Key), RpP K B (pairsV kvs) (pairsD kvs)
  | [] => .nil
  | (.inl i, v) :: r => .consI (rp_k v) (rpP_pairs r)
  | (.inr x, v) :: r => .consS (rp_k v) (rpP_pairs r)
/-- a display of constants -/
def CJ (X : Cx) (pos : Pos) (ks : List (Option Expr)) (vs : List Expr) (kvs : List (Key × Key)) : Prop :=
  ∃ trs, PPs X pos ks vs trs ∧ ∀ (σ : L2.St) (H : Hp) (Q : List (V × V) → Hp → Prop), Q ((pairsV kvs).map fun kv => (kV kv.1, kv.2)) H → tPairs trs σ H Q
theorem cj_nil : CJ X pos [] [] [] := ⟨_, pps_nil, fun σ H Q q => q⟩
def ConE (X : Cx) (e : Expr) (k : Key) : Prop := PE X e (tC (kV k))
theorem con_i {i : Int} {j p} : ConE X (.Constant (.int i) j p) (.inl i) := pe_int
theorem con_s {x : Str} {j p} : ConE X (.Constant (.str x) j p) (.inr x) := pe_str
theorem cj_cons {k v : Expr} {ks : List (Option Expr)} {vs : List Expr} {a b : Key} {kvs : List (Key × Key)} (hk : ConE X k a) (hv : ConE X v b) (hr : CJ X pos ks vs kvs) : CJ X pos (some k :: ks) (v :: vs) ((a, b) :: kvs) := by
  obtain ⟨trs, h1, h2⟩ := hr
  exact ⟨_, pps_cons hk hv h1, fun σ H Q q => h2 σ H _ q⟩
theorem ej_dct {ks : List (Option Expr)} {vs : List Expr} {kvs : List (Key × Key)} (h : CJ X pos ks vs kvs) (hm : mergeK [] (pairsV kvs) = pairsV kvs) (hall : ks.all (·.isSome) = true) (hl : ks.length = vs.length) (h0 : ks ≠ []) (h15 : ks.length ≤ 15) (hz : kvs.length ≤ 15) :
    EJ X W G (.Dict ks vs pos) (conD (.dct (pairsD kvs))) := by
  obtain ⟨trs, h1, h2⟩ := h
  refine ⟨_, pe_disp h1 hall hl h0 h15, fun F ρ own B σ H Q gd q => ?_⟩
  intro p hp
  refine h2 σ _ _ ⟨upd_same, pairsV kvs, rfl, by simpa [pairsV] using hz, ?_⟩
  rw [upd_upd, hm]
  exact q (.ref p) (upd B p (.dK (pairsV kvs))) _ (Step.new gd.gr _ hp) (.dct upd_same (rpP_pairs kvs))
/-- d[k] -/
def keyOf : D → Option Key
  | .int i => some (.inl i)
  | .str x => some (.inr x)
  | _ => none
def lookD (ds : List (D × D)) (k : Key) : Option D := (ds.find? fun kv => decide (keyOf kv.1 = some k)).map (·.2)
def dGetK : D → D → Res D
  | .dct ds, y => match keyOf y with
    | some k => match lookD ds k with
      | some d => .ok d
      | none => .no
    | none => .no
  | _, _ => .no
theorem RpP.look {K : PySem.W.Frag} {B : Hp} {k : Key} : ∀ {kvs : List (Key × V)} {ds : List (D × D)} {d : D}, RpP K B kvs ds → lookD ds k = some d → ∃ v, valV kvs k = some v ∧ Rp K B v d
  | _, _, _, .nil, h => by cases h
  | _, _, d, .consI (n := n) (v := v) (d := d0) r rs, h => by
    unfold lookD at h
    unfold valV
    by_cases e : (Sum.inl n : Key) = k
    · subst e
      simp [keyOf] at h ⊢
      subst h
      exact r
    · have e' : ¬ (some (Sum.inl n : Key) = some k) := fun z => e (Option.some.inj z)
      rw [List.find?_cons, show decide (keyOf (D.int n) = some k) = false from decide_eq_false e'] at h
      obtain ⟨v', h1, h2⟩ := RpP.look (k := k) rs h
      refine ⟨v', ?_, h2⟩
      rw [List.find?_cons, show decide ((Sum.inl n : Key) = k) = false from decide_eq_false e]
      exact h1
  | _, _, d, .consS (x := n) (v := v) (d := d0) r rs, h => by
    unfold lookD at h
    unfold valV
    by_cases e : (Sum.inr n : Key) = k
    · subst e
      simp [keyOf] at h ⊢
      subst h
      exact r
    · have e' : ¬ (some (Sum.inr n : Key) = some k) := fun z => e (Option.some.inj z)
      rw [List.find?_cons, show decide (keyOf (D.str n) = some k) = false from decide_eq_false e'] at h
      obtain ⟨v', h1, h2⟩ := RpP.look (k := k) rs h
      refine ⟨v', ?_, h2⟩
      rw [List.find?_cons, show decide ((Sum.inr n : Key) = k) = false from decide_eq_false e]
      exact h1
theorem key_v {K : PySem.W.Frag} {B : Hp} {y : V} {d : D} {k : Key} (h : Rp K B y d) (e : keyOf d = some k) : y = kV k := by
  unfold keyOf at e
  split at e
  · cases e
    cases h
    rfl
  · cases e
    cases h
    rfl
  · cases e
theorem ej_dget {o i : Expr} {ga gb : Rho → Res D} (hu : X.A.units + 1 < cLine) (ha : EJ X W G o ga) (hb : EJ X W G i gb) (hs : NoSl i := by exact fun _ _ => rfl) : EJ X W G (.Subscript o i pos) (bin dGetK ga gb) := by
  obtain ⟨ta, pa, va⟩ := ha
  obtain ⟨tb, pb, vb⟩ := hb
  refine ⟨_, pe_dget hu pa pb hs, fun F ρ own B σ H Q gd q => ?_⟩
  refine va F ρ own B σ H _ gd (Res.has_mono (Res.has_bind q) (fun dx q v B1 H1 s1 r1 => ?_) fun _ x => x)
  refine vb F ρ own B1 σ H1 _ (gd.step s1) (Res.has_mono (Res.has_bind q) (fun dy q w B2 H2 s2 r2 => ?_) fun _ x => x.step s1)
  unfold dGetK at q
  cases dx with
  | dct ds =>
    simp only at q
    cases hk : keyOf dy with
    | none =>
      rw [hk] at q
      exact q.elim
    | some k =>
      rw [hk] at q
      simp only at q
      cases hl : lookD ds k with
      | none =>
        rw [hl] at q
        exact q.elim
      | some d =>
        rw [hl] at q
        have r1' := r1.mono s2.ext
        cases r1' with
        | dct h rp =>
          obtain ⟨u, h1, h2⟩ := rp.look hl
          refine ⟨_, u, rfl, ?_, q u B2 H2 (s1.trans s2) h2⟩
          have e := key_v r2 hk
          subst e
          rw [← h1]
          exact DGet.k (s2.base _ _ h)
  | _ => exact q.elim
end
/-! ### xs.count(text) -/
def eqt (k : Str) (v : Value) : Bool := match v with
  | .str n _ => n == k
  | _ => false
theorem eqt_all {k : Str} {t : Tok} : ∀ {ns : List Str} {us : List Value}, Vals (ns.map V.str) us → us.countP (eqt k) = ns.count k ∧ ∀ y ∈ us, MeetsSeq.EqGives y (.str k t) (eqt k y)
  | [], us, h => by
    cases h
    exact ⟨rfl, fun y hy => by simp at hy⟩
  | n :: ns, us, h => by
    cases h with
    | cons r rs =>
      obtain ⟨t', rfl⟩ := r
      obtain ⟨h1, h2⟩ := eqt_all (k := k) (t := t) rs
      refine ⟨?_, fun y hy => ?_⟩
      · rw [List.countP_cons, List.count_cons, h1]
        rfl
      · rcases List.mem_cons.mp hy with e | e
        · rw [e]
          have z := SeqRoads2.EqGives.str n k t' t
          rw [PySem.SeqAt.str_beq] at z
          exact z
        · exact h2 y e
def rCntS (K : PySem.W.Frag) : V → List V → Hp → VK → Prop := fun x xs H Q => ∃ (p : Addr) (ns : List Str) (k : Str), x = .ref p ∧ xs = [.str k] ∧ SqL K H p (ns.map V.str) ∧ Q (.int (ns.count k : Nat)) H
theorem mt_lcountS {X : Cx} : MtR X "list.count" (rCntS X.K) := by
  intro pins s σ H x xs v us Q I rx rxs h
  obtain ⟨p, ns, k, rfl, rfl, hs, q⟩ := h
  cases rx
  obtain ⟨u, rfl, ru⟩ := rxs.one
  obtain ⟨t, rfl⟩ := ru
  obtain ⟨its, rv, ⟨⟨cls, dd, data, sl⟩, n, ho, hc, hdn, hd⟩, hlen⟩ := I.list hs
  simp only at hc hd
  subst hc hd
  obtain ⟨h1, h2⟩ := eqt_all (k := k) (t := t) rv
  refine call_meets PySem.F.slot_list_count ⟨_, ho, rfl⟩ PySem.F.entry_list_count (PySem.F.args_list_count_2 _ _)
    (SeqAt.list_countAt p its.toArray n dd sl (.str k t) (eqt k)) ⟨ho, fun y hy => (h2 y (by simpa using hy)).at _ _, ?_⟩
  refine ⟨.int (ns.count k : Nat), H, I.tok _, ⟨s.toks, ?_⟩, q⟩
  show Value.int ((its.toArray.toList.countP (eqt k) : Nat) : Int) s.toks = Value.int ((ns.count k : Nat) : Int) s.toks
  rw [show its.toArray.toList = its from rfl, h1]
def dCountS : D → List D → Res D
  | .lst xs, [.str k] => match D.strs xs with
    | some ns => .ok (.int (ns.count k : Nat))
    | none => .no
  | _, _ => .no
theorem mth_countS {X : Cx} : ∃ r, MtR X "list.count" r ∧ MethD X r dCountS := by
  refine ⟨_, mt_lcountS, fun d ds e h => ?_, fun F own B H v d vs ds Q g hv hx q => ?_⟩
  · unfold dCountS at h
    split at h <;> (try split at h) <;> cases h
  · unfold dCountS at q
    split at q
    · rename_i xs k
      split at q
      · rename_i ns hns
        obtain ⟨l, ws, rfl, hl, rv⟩ := hv.lst g
        obtain ⟨w, rfl, hw⟩ := hx.one
        cases hw.str
        have e2 := RpA.strs rv hns
        subst e2
        exact ⟨l, ns, k, rfl, rfl, .inl (.inl hl), q _ _ _ (.refl g) (.int _)⟩
      · exact q.elim
    · exact q.elim
end T

set_option Elab.async false
set_option linter.all false
set_option maxRecDepth 100000
set_option maxHeartbeats 4000000
/-! T-layer, part Y: max of four, extend, tuples repeated. -/
namespace PySem
section
variable {prog : Program} {w : World} {A : Around} {E : Value → Shared → Prop} {s : Shared}
theorem args_max4 (a b c d : Value) : argsOk "max" ⟨[a, b, c, d], []⟩ := by unfold argsOk; kernel_rfl
theorem call_max_four {a b c d : Value} {Q : Value → Shared → Prop}
    (h : wpAny (model prog w) A.in1 (pyIter (.ref s.heap.objs.size)) (fun it s₂ => ∃ I fp wr n P St bt, it = .ref I ∧ Walks prog w A.in1 I fp wr n P St ∧ St 0 s₂.heap ∧ (∀ b ∈ fp, b < s₂.heap.objs.size) ∧ 0 < n ∧ CmpOf prog w A.in1 .Gt P bt ∧
      ∀ v h' tk, P (argBest bt (n - 1)) v → (∀ b o, b ∉ wr → s₂.heap.get? b = some o → h'.get? b = some o) → Q v { s₂ with heap := h', toks := tk }) E
      { s with heap := s.heap.push { cls := .type "tuple", data := .seq #[a, b, c, d] } }) :
    wpAny (model prog w) A (call (.builtin "max") [a, b, c, d]) Q E s := by
  have hname : (toString "max" ++ toString ".loop" : String) = "max.loop" := by decide
  refine call_function_tree F.kind_max F.plain_max F.entry_max (args_max4 _ _ _ _) ?_
  show wpAny _ A.in1 (Builtin.Builtins.bindParams "max" ["key", "default"] 0 ⟨[], []⟩ >>= _) _ _ s
  refine wpAny_bind (wpAny_of_eq (show Builtin.Builtins.bindParams "max" ["key", "default"] 0 ⟨[], []⟩ = pure [none, none] from rfl) ?_)
  show wpAny _ A.in1 (newTuple [a, b, c, d] >>= _) _ _ s
  refine wpAny_bind (wpAny_newObj_type ?_)
  refine wpAny_bind (wpAny_mono h (fun it s₂ h₂ => ?_) fun _ _ e => e)
  obtain ⟨I, fp, wr, n, P, St, bt, rfl, W, hst, hfp, hn, hcmp, hQ⟩ := h₂
  refine wpAny_bind (wpAny_newObj_type ?_)
  have hSf : s₂.heap.objs.size ∉ fp := fun hm => Nat.lt_irrefl _ (hfp _ hm)
  rw [hname]
  refine wpAny_pure ⟨plainId_quiet F.plain_max_loop _, codeAny_max_loop_first W bt hcmp s₂.heap.objs.size hSf hn (W.frame _ _ _ hst fun b _ o e => Heap.get?_push_of_some _ e) (Heap.get?_push_size _ rfl) fun v h' tk hP hk => ?_⟩
  exact hQ v h' tk hP fun b o hbw e => hk b o hbw (Nat.ne_of_lt (Heap.lt_size e)) (Heap.get?_push_of_some _ e)
theorem max_four_ints {a b c d : Int} {t u v x : Tok} {Q : Value → Shared → Prop} (hh : A.handled = none)
    (h : ∀ h' tk M t', (∀ c o, s.heap.get? c = some o → h'.get? c = some o) → M = max (max a b) (max c d) → Q (.int M t') { s with heap := h', toks := tk }) :
    wpAny (model prog w) A (call (.builtin "max") [.int a t, .int b u, .int c v, .int d x]) Q E s := by
  have hT : (s.heap.push { cls := .type "tuple", data := .seq #[.int a t, .int b u, .int c v, .int d x] }).IsTuple s.heap.objs.size (intItems #[(a, t), (b, u), (c, v), (d, x)]) := ⟨_, Heap.get?_push_size _ rfl, rfl, 0, by simp [intItems]⟩
  refine call_max_four (wpAny_pyIter_tuple hT ?_)
  have hsz : (s.heap.push { cls := .type "tuple", data := .seq #[.int a t, .int b u, .int c v, .int d x] }).objs.size = s.heap.objs.size + 1 := Heap.size_push ..
  refine ⟨_, [_, s.heap.objs.size], [_], _, _, _, _, rfl, Walks.tuple (A := A.in1) hh _ s.heap.objs.size (by rw [hsz]; exact Nat.ne_of_lt (Nat.lt_succ_self _)) (intItems #[(a, t), (b, u), (c, v), (d, x)]),
    ⟨⟨_, Heap.get?_push_size _ rfl, rfl, rfl⟩, hT.push _⟩, fun c hc => ?_, by simp [intItems], CmpOf.ints_gt (numAt #[(a, t), (b, u), (c, v), (d, x)]) (fun _ _ => intItems_at), fun v' h' tk hP hk => ?_⟩
  · show c < ((s.heap.push _).push _).objs.size
    rw [Heap.size_push, hsz]
    rcases List.mem_cons.mp hc with rfl | hc
    · rw [hsz]; exact Nat.lt_succ_self _
    · rcases List.mem_cons.mp hc with rfl | hc
      · exact Nat.lt_succ_of_lt (Nat.lt_succ_self _)
      · cases hc
  · have hold : ∀ c o, s.heap.get? c = some o → h'.get? c = some o := fun c o e => by
      refine hk c o (fun hm => ?_) (Heap.get?_push_of_some _ (Heap.get?_push_of_some _ e))
      rcases List.mem_cons.mp hm with e1 | hm
      · have := Heap.lt_size e; rw [e1, hsz] at this; exact Nat.lt_irrefl _ (Nat.lt_of_succ_lt this)
      · cases hm
    obtain ⟨t', rfl⟩ := intItems_at hP
    have hs4 : (intItems #[(a, t), (b, u), (c, v), (d, x)]).size - 1 = 3 := by simp [intItems]
    rw [hs4]
    obtain ⟨h1, h2⟩ := argBest_gt (numAt #[(a, t), (b, u), (c, v), (d, x)]) 3
    refine h h' tk _ t' hold ?_
    generalize argBest (fun i j => decide (numAt #[(a, t), (b, u), (c, v), (d, x)] i > numAt #[(a, t), (b, u), (c, v), (d, x)] j)) 3 = k at *
    have m0 := h2 0 (by omega)
    have m1 := h2 1 (by omega)
    have m2 := h2 2 (by omega)
    have m3 := h2 3 (by omega)
    have e0 : numAt #[(a, t), (b, u), (c, v), (d, x)] 0 = a := rfl
    have e1 : numAt #[(a, t), (b, u), (c, v), (d, x)] 1 = b := rfl
    have e2 : numAt #[(a, t), (b, u), (c, v), (d, x)] 2 = c := rfl
    have e3 : numAt #[(a, t), (b, u), (c, v), (d, x)] 3 = d := rfl
    rw [e0] at m0
    rw [e1] at m1
    rw [e2] at m2
    rw [e3] at m3
    have hk' : k = 0 ∨ k = 1 ∨ k = 2 ∨ k = 3 := by omega
    rcases hk' with rfl | rfl | rfl | rfl
    · rw [e0] at *; omega
    · rw [e1] at *; omega
    · rw [e2] at *; omega
    · rw [e3] at *; omega
end
end PySem
namespace T
open PySem PySem.Spec PyProof.Rows L2
section
variable {X : Cx} {W : WX} {L : LM} {G G' : List Mode} {x : Str} {px pos : Pos} {i : Nat}
theorem call_max4 (hc : X.calm = true) : CallR X (.builtin "max") (fun xs H Q => ∃ i j k l, xs = [.int i, .int j, .int k, .int l] ∧ Q (.int (max (max i j) (max k l))) H) := by
  intro pins s σ H xs us Q I r h
  obtain ⟨i, j, k, l, rfl, q⟩ := h
  cases r with
  | cons r1 r =>
    cases r with
    | cons r2 r =>
      cases r with
      | cons r3 r =>
        cases r with
        | cons r4 r =>
          cases r
          obtain ⟨t1, rfl⟩ := r1
          obtain ⟨t2, rfl⟩ := r2
          obtain ⟨t3, rfl⟩ := r3
          obtain ⟨t4, rfl⟩ := r4
          exact max_four_ints (I.ok.hd hc) fun h' tk M t' kk e => ⟨.int (max (max i j) (max k l)), H, I.kept kk, (by rw [e]; exact ⟨t', rfl⟩), q⟩
def dMax4 : List D → Res D
  | [.int i, .int j, .int k, .int l] => .ok (.int (max (max i j) (max k l)))
  | _ => .no
theorem fn_max4 (hc : X.calm = true) : ∃ r, CallR X (.builtin "max") r ∧ CallD X r dMax4 := by
  refine ⟨_, call_max4 hc, fun ds e h => ?_, fun F own B H vs ds Q g hx q => ?_⟩
  · unfold dMax4 at h
    split at h <;> cases h
  · unfold dMax4 at q
    split at q
    · cases hx with
      | cons r1 hx =>
        cases hx with
        | cons r2 hx =>
          cases hx with
          | cons r3 hx =>
            cases hx with
            | cons r4 hx =>
              cases hx
              cases r1.int
              cases r2.int
              cases r3.int
              cases r4.int
              exact ⟨_, _, _, _, rfl, q _ _ _ (.refl g) (.int _)⟩
    · exact q.elim
/-! ### xs.extend(ys) -/
def sExt (i : Nat) (g : Rho → Res D) : Rho → Out := fun ρ => atL i ρ fun xs => thenS (g ρ) ρ fun d => match d with
  | .lst ys => if xs.length + ys.length ≤ sizeLine then .nx (ρ.set i (some (.lst (xs ++ ys)))) else .no
  | _ => .no
variable {e : Expr} {apos cpos : Pos}
theorem sj_ext {g : Rho → Res D} (hv : PE X (.Name x px) (tVar i)) (hm : G.getD i Mode.fz = Mode.own Mode.fz) (he : EJ X W G e g)
    (hs : swapsWith (.Call (.Attribute (.Name x px) "extend" apos) [e] [] cpos) none pos.line X.env = pure false := by rfl) (hbase : attributeBase (.Name x px) "extend" X.env (eval (.Name x px) X.env) = eval (.Name x px) X.env := by rfl)
    (hfew : ((backTo cpos (starEach [e] X.env)).all (fun x => !x.1) && (backToKw cpos (keywordEach [] X.env)).all (fun x => x.1.isSome)
      && decide ([e].length + ([] : List Keyword).length + (if ([] : List Keyword).isEmpty then 0 else 1) < 30)) = true := by rfl)
    (hline : (apos.endLine == cpos.line) = true := by rfl) (hst : starEach [e] X.env = (false, eval e X.env) :: starEach [] X.env := by rfl) (hplain : (backTo cpos (starEach [] X.env)).any (·.1) = false := by rfl) :
    SJ X W L G (.Expr (.Call (.Attribute (.Name x px) "extend" apos) [e] [] cpos) pos) (sExt i g) G := by
  obtain ⟨te, pe, ve⟩ := he
  refine ⟨_, ps_expr (pe_bm PySem.F.plainAttrs_list PySem.F.slot_list_extend PySem.F.type_list_extend mt_extend hv (pa_cons pe pa_nil hst) hbase hfew hline hst hplain) hs, fun F ρ own B σ H D gd q => ?_⟩
  obtain ⟨l, vs, ds, h1, h2, h3, h4, h5, q⟩ := atL_has gd hm q
  refine ⟨.ref l, h1, .inl ⟨rfl, vs, .inl (.inl h4)⟩, ?_⟩
  refine ve F ρ own B σ H _ gd (Res.has_mono (thenS_has gd q) (fun d q u B' H' s r => ?_) fun _ x => x)
  cases d with
  | lst ys =>
    simp only at q
    split at q
    · rename_i hz
      have hoN : own l ≠ none := by rw [h3]; exact fun z => nomatch z
      cases r with
      | lst hb ra =>
        refine ⟨l, _, vs, _, rfl, rfl, (s.ownd l hoN).1.trans h4, s.base _ _ hb, by rw [h5.len, ra.len]; exact hz, ?_⟩
        exact q own B' σ _ s.ext ((gd.step s).mut hm h1 h3 ((h5.mono s.ext).app ra))
    · exact q.elim
  | _ => exact q.elim
/-! ### tuples repeated -/
def dRepT : D → D → Res D
  | .tup xs, .int k => if xs ≠ [] ∧ 2 ≤ k ∧ k ≤ 1000 ∧ xs.length ≤ 1000 then .ok (.tup (List.replicate k.toNat xs).flatten) else .no
  | _, _ => .no
theorem calm_repT : Calm dRepT := fun x y e h => by
  unfold dRepT at h
  split at h <;> (try split at h) <;> cases h
theorem rpa_reps {K : PySem.W.Frag} {B : Hp} {vs : List V} {ds : List D} (h : RpA K B vs ds) : ∀ n : Nat, RpA K B (List.replicate n vs).flatten (List.replicate n ds).flatten
  | 0 => .nil
  | n + 1 => by
    rw [List.replicate_succ, List.replicate_succ, List.flatten_cons, List.flatten_cons]
    exact h.app (rpa_reps h n)
theorem bin_repT : ∃ r, OpR X (binaryOp .Mult) r ∧ OpD X r dRepT := by
  refine ⟨_, op_repT, fun F own B H x y dx dy Q g hx hy q => ?_⟩
  unfold dRepT at q
  split at q
  · rename_i xs k
    split at q
    · rename_i hz
      obtain ⟨l, vs, rfl, hl, rv⟩ := hx.tup
      cases hy.int
      refine ⟨l, k, vs, rfl, rfl, Ext.seqT g.same hl, fun z => hz.1 ?_, hz.2.1, hz.2.2.1, by rw [rv.len]; exact hz.2.2.2, fun p hp => ?_⟩
      · subst z
        cases rv
        rfl
      · exact q (.ref p) (upd B p (.tup (List.replicate k.toNat vs).flatten)) _ (Step.new g _ hp) (.tup (.inl (.inl upd_same)) ((rpa_reps rv k.toNat).mono (ext_upd (g.bfresh hp))))
    · exact q.elim
  · exact q.elim
end
end T

set_option Elab.async false
set_option linter.all false
set_option maxRecDepth 100000
set_option maxHeartbeats 4000000
namespace Law
open PySem PySem.Spec PyProof.Rows L2 T
def topS (i : Nat) : Stmt := PySem.Challenge.pw_tideland_k03_sums_of_pages_and_contents.main.body.getD i (.Pass ⟨0, 0, 0, 0⟩)
abbrev d_MODULUS : D := (.int 65521)
abbrev d_NUMBER_LIMIT : D := (.int 4294967296)
abbrev d_BLOCK_LIMIT : D := (.int 48)
abbrev d_PAGE_LIMIT : D := (.int 32)
abbrev d_ENTRY_LIMIT : D := (.int 48)
abbrev d_VALUE_LIMIT : D := (.int 448)
abbrev d_CHILDREN : D := (.int 32)
def d_classes : List Str := ["InvalidContent"]
def d_sub (a c : Str) : Bool := (a == "InvalidContent" && c == "InvalidContent")
abbrev s_summed_octets : Stmt := topS 2
abbrev N_summed_octets : List Str := ["page"]
theorem sc_summed_octets : FnScope N_summed_octets ["page"] (defScope s_summed_octets) := ⟨rfl, rfl, rfl, by decide +kernel, rfl, by decide +kernel, by decide +kernel⟩
def m_summed_octets : Rho → Out := (sRet (bin dAdd (lstD (lstV (consA (bin dIx (getV 0) (conD (.int 0))) noA))) (lstD (callV dList (consA (slV dSl (getV 0) (toPart (conD (.int 5))) noPart) noA)))))
def f_summed_octets : List D → Res D := runF 1 1 m_summed_octets
abbrev s_page_sums : Stmt := topS 3
abbrev N_page_sums : List Str := ["page", "octets", "first", "second", "passed", "octet"]
theorem sc_page_sums : FnScope N_page_sums ["page"] (defScope s_page_sums) := ⟨rfl, rfl, rfl, by decide +kernel, rfl, by decide +kernel, by decide +kernel⟩
def m_page_sums_b1 : Rho → Out := (sSeq (sAug (fun i j => i + j) 4 (getV 5)) (sAug (fun i j => i + j) 3 (getV 4)))
def m_page_sums : Rho → Out := (sSeq (sSet 1 (callV f_summed_octets (consA (getV 0) noA))) (sSeq (sSet 2 (callV dSum (consA (getV 1) noA))) (sSeq (sSet 3 (conD (.int 0))) (sSeq (sSet 4 (conD (.int 0))) (sSeq (sFor (itemsV (getV 1)) (bNm 5) m_page_sums_b1) (sRet (tupV (consA (bin dMod (callV dInt (consA (getV 2) noA)) (conD d_MODULUS)) (consA (bin dMod (callV dInt (consA (getV 3) noA)) (conD d_MODULUS)) noA)))))))))
def f_page_sums : List D → Res D := runF 1 6 m_page_sums
abbrev s_number_row : Stmt := topS 8
abbrev N_number_row : List Str := ["number", "width", "row", "_"]
theorem sc_number_row : FnScope N_number_row ["number", "width"] (defScope s_number_row) := ⟨rfl, rfl, rfl, by decide +kernel, rfl, by decide +kernel, by decide +kernel⟩
def m_number_row_b1 : Rho → Out := (sSeq (sApp 2 (bin dMod (callV dInt (consA (getV 0) noA)) (conD (.int 256)))) (sSet 0 (bin dDiv (getV 0) (conD (.int 256)))))
def m_number_row : Rho → Out := (sSeq (sSetN 2 (lstV noA)) (sSeq (sFor (callV dRng1 (consA (getV 1) noA)) (bNm 3) m_number_row_b1) (sRet (lstD (revV (getV 2))))))
def f_number_row : List D → Res D := runF 2 4 m_number_row
abbrev s_is_number : Stmt := topS 16
abbrev N_is_number : List Str := ["number"]
theorem sc_is_number : FnScope N_is_number ["number"] (defScope s_is_number) := ⟨rfl, rfl, rfl, by decide +kernel, rfl, by decide +kernel, by decide +kernel⟩
def m_is_number : Rho → Out := (sRet (chainV dLe dLt (conD (.int 0)) (getV 0) (conD d_NUMBER_LIMIT)))
def f_is_number : List D → Res D := runF 1 1 m_is_number
abbrev s_is_block : Stmt := topS 17
abbrev N_is_block : List Str := ["block"]
theorem sc_is_block : FnScope N_is_block ["block"] (defScope s_is_block) := ⟨rfl, rfl, rfl, by decide +kernel, rfl, by decide +kernel, by decide +kernel⟩
def m_is_block : Rho → Out := (sRet (chainV dLe dLt (conD (.int 0)) (getV 0) (conD d_BLOCK_LIMIT)))
def f_is_block : List D → Res D := runF 1 1 m_is_block
abbrev s_is_address : Stmt := topS 18
abbrev N_is_address : List Str := ["address"]
theorem sc_is_address : FnScope N_is_address ["address"] (defScope s_is_address) := ⟨rfl, rfl, rfl, by decide +kernel, rfl, by decide +kernel, by decide +kernel⟩
def m_is_address : Rho → Out := (sRet (orV (bin dIs (getV 0) (conD .non)) (andV (callV f_is_block (consA (bin dIx (getV 0) (conD (.int 0))) noA)) (chainV dLe dLt (conD (.int 0)) (bin dIx (getV 0) (conD (.int 1))) (conD d_PAGE_LIMIT)))))
def f_is_address : List D → Res D := runF 1 1 m_is_address
abbrev s_root_fits : Stmt := topS 19
abbrev N_root_fits : List Str := ["root", "number", "epoch", "tree", "journal", "places", "erases", "bad", "place", "block", "count"]
theorem sc_root_fits : FnScope N_root_fits ["root"] (defScope s_root_fits) := ⟨rfl, rfl, rfl, by decide +kernel, rfl, by decide +kernel, by decide +kernel⟩
def m_root_fits : Rho → Out := (sSeq (sUnp (bTp 7 (bCons (bNm 1) (bCons (bNm 2) (bCons (bNm 3) (bCons (bNm 4) (bCons (bNm 5) (bCons (bNm 6) (bCons (bNm 7) bNil)))))))) (slV dSl (getV 0) (toPart (conD (.int 1))) noPart)) (sSeq (sIf (orB (notB (truV (callV f_is_number (consA (getV 1) noA)))) (orB (notB (truV (callV f_is_number (consA (getV 2) noA)))) (notB (truV (callV f_is_address (consA (getV 3) noA)))))) (sRet (conD (.bl false))) sSkip) (sSeq (sIf (toB (bin dGt (callV dMax4 (consA (callV dLen (consA (getV 4) noA)) (consA (callV dLen (consA (getV 5) noA)) (consA (callV dLen (consA (getV 6) noA)) (consA (callV dLen (consA (getV 7) noA)) noA))))) (conD d_ENTRY_LIMIT))) (sRet (conD (.bl false))) sSkip) (sSeq (sIf (notB (truV (callV dAll (consA (lstD (compV (itemsV (getV 5)) (bNm 8) yesB (orV (bin dIs (getV 8) (conD .non)) (callV f_is_block (consA (getV 8) noA))) [8])) noA)))) (sRet (conD (.bl false))) sSkip) (sRet (andV (callV dAll (consA (lstD (compV (itemsV (bin dAdd (getV 4) (getV 7))) (bNm 9) yesB (callV f_is_block (consA (getV 9) noA)) [9])) noA)) (callV dAll (consA (lstD (compV (itemsV (getV 6)) (bNm 10) yesB (callV f_is_number (consA (getV 10) noA)) [10])) noA))))))))
def f_root_fits : List D → Res D := runF 1 11 m_root_fits
abbrev s_item_fits : Stmt := topS 20
abbrev N_item_fits : List Str := ["item", "epoch", "index", "key", "value", "octet"]
theorem sc_item_fits : FnScope N_item_fits ["item"] (defScope s_item_fits) := ⟨rfl, rfl, rfl, by decide +kernel, rfl, by decide +kernel, by decide +kernel⟩
def m_item_fits : Rho → Out := (sSeq (sUnp (bTp 4 (bCons (bNm 1) (bCons (bNm 2) (bCons (bNm 3) (bCons (bNm 4) bNil))))) (tupV (consA (bin dIx (getV 0) (conD (.int 1))) (consA (bin dIx (getV 0) (conD (.int 2))) (consA (bin dIx (getV 0) (conD (.int 4))) (consA (bin dIx (getV 0) (conD (.int 5))) noA)))))) (sSeq (sIf (orB (notB (truV (callV f_is_number (consA (getV 1) noA)))) (orB (notB (truV (callV f_is_number (consA (getV 2) noA)))) (notB (truV (callV f_is_number (consA (getV 3) noA)))))) (sRet (conD (.bl false))) sSkip) (sRet (orV (bin dIs (getV 4) (conD .non)) (andV (bin dLe (callV dLen (consA (getV 4) noA)) (conD d_VALUE_LIMIT)) (callV dAll (consA (lstD (compV (itemsV (getV 4)) (bNm 5) yesB (chainV dLe dLt (conD (.int 0)) (getV 5) (conD (.int 256))) [5])) noA)))))))
def f_item_fits : List D → Res D := runF 1 6 m_item_fits
abbrev s_fits_page : Stmt := topS 21
abbrev N_fits_page : List Str := ["content", "children", "child"]
theorem sc_fits_page : FnScope N_fits_page ["content"] (defScope s_fits_page) := ⟨rfl, rfl, rfl, by decide +kernel, rfl, by decide +kernel, by decide +kernel⟩
def m_fits_page : Rho → Out := (sSeq (sIf (toB (bin dEq (bin dIx (getV 0) (conD (.int 0))) (conD (.str "root")))) (sRet (callV f_root_fits (consA (getV 0) noA))) sSkip) (sSeq (sIf (toB (bin dEq (bin dIx (getV 0) (conD (.int 0))) (conD (.str "item")))) (sRet (callV f_item_fits (consA (getV 0) noA))) sSkip) (sSeq (sIf (toB (bin dEq (bin dIx (getV 0) (conD (.int 0))) (conD (.str "node")))) (sSeq (sSet 1 (bin dIx (getV 0) (conD (.int 2)))) (sRet (andV (chainV dLe dLt (conD (.int 0)) (bin dIx (getV 0) (conD (.int 1))) (conD (.int 256))) (andV (bin dEq (callV dLen (consA (getV 1) noA)) (conD d_CHILDREN)) (callV dAll (consA (lstD (compV (itemsV (getV 1)) (bNm 2) yesB (callV f_is_address (consA (getV 2) noA)) [2])) noA)))))) sSkip) (sRet (callV f_is_number (consA (bin dIx (getV 0) (conD (.int 1))) noA))))))
def f_fits_page : List D → Res D := runF 1 3 m_fits_page
abbrev s_address_row : Stmt := topS 22
abbrev N_address_row : List Str := ["address"]
theorem sc_address_row : FnScope N_address_row ["address"] (defScope s_address_row) := ⟨rfl, rfl, rfl, by decide +kernel, rfl, by decide +kernel, by decide +kernel⟩
def m_address_row : Rho → Out := (sSeq (sIf (toB (bin dIs (getV 0) (conD .non))) (sRet (lstD (lstV (consA (conD (.int 255)) (consA (conD (.int 255)) noA))))) sSkip) (sRet (lstD (lstV (consA (bin dIx (getV 0) (conD (.int 0))) (consA (bin dIx (getV 0) (conD (.int 1))) noA))))))
def f_address_row : List D → Res D := runF 1 1 m_address_row
abbrev s_place_row : Stmt := topS 23
abbrev N_place_row : List Str := ["place"]
theorem sc_place_row : FnScope N_place_row ["place"] (defScope s_place_row) := ⟨rfl, rfl, rfl, by decide +kernel, rfl, by decide +kernel, by decide +kernel⟩
def m_place_row : Rho → Out := (sSeq (sIf (toB (bin dIs (getV 0) (conD .non))) (sRet (lstD (lstV (consA (conD (.int 255)) noA)))) sSkip) (sRet (lstD (lstV (consA (getV 0) noA)))))
def f_place_row : List D → Res D := runF 1 1 m_place_row
abbrev s_root_body : Stmt := topS 24
abbrev N_root_body : List Str := ["root", "body", "place", "count", "number", "epoch", "tree", "journal", "places", "erases", "bad"]
theorem sc_root_body : FnScope N_root_body ["root"] (defScope s_root_body) := ⟨rfl, rfl, rfl, by decide +kernel, rfl, by decide +kernel, by decide +kernel⟩
def m_root_body_b2 : Rho → Out := (sExt 1 (callV f_number_row (consA (getV 3) (consA (conD (.int 4)) noA))))
def m_root_body_b1 : Rho → Out := (sExt 1 (callV f_place_row (consA (getV 2) noA)))
def m_root_body : Rho → Out := (sSeq (sUnp (bTp 7 (bCons (bNm 4) (bCons (bNm 5) (bCons (bNm 6) (bCons (bNm 7) (bCons (bNm 8) (bCons (bNm 9) (bCons (bNm 10) bNil)))))))) (slV dSl (getV 0) (toPart (conD (.int 1))) noPart)) (sSeq (sSetN 1 (bin dCat (bin dAdd (callV f_number_row (consA (getV 4) (consA (conD (.int 4)) noA))) (callV f_number_row (consA (getV 5) (consA (conD (.int 4)) noA)))) (callV f_address_row (consA (getV 6) noA)))) (sSeq (sSetN 1 (bin dCat (bin dAdd (bin dAdd (getV 1) (lstD (lstV (consA (callV dLen (consA (getV 7) noA)) noA)))) (lstD (callV dList (consA (getV 7) noA)))) (lstD (lstV (consA (callV dLen (consA (getV 8) noA)) noA))))) (sSeq (sFor (itemsV (getV 8)) (bNm 2) m_root_body_b1) (sSeq (sApp 1 (callV dLen (consA (getV 9) noA))) (sSeq (sFor (itemsV (getV 9)) (bNm 3) m_root_body_b2) (sRet (bin dAdd (bin dAdd (getV 1) (lstD (lstV (consA (callV dLen (consA (getV 10) noA)) noA)))) (lstD (callV dList (consA (getV 10) noA)))))))))))
def f_root_body : List D → Res D := runF 1 11 m_root_body
abbrev s_item_body : Stmt := topS 25
abbrev N_item_body : List Str := ["item", "body", "epoch", "index", "last", "key", "value"]
theorem sc_item_body : FnScope N_item_body ["item"] (defScope s_item_body) := ⟨rfl, rfl, rfl, by decide +kernel, rfl, by decide +kernel, by decide +kernel⟩
def m_item_body : Rho → Out := (sSeq (sUnp (bTp 5 (bCons (bNm 2) (bCons (bNm 3) (bCons (bNm 4) (bCons (bNm 5) (bCons (bNm 6) bNil)))))) (slV dSl (getV 0) (toPart (conD (.int 1))) noPart)) (sSeq (sSet 1 (bin dAdd (bin dAdd (bin dAdd (callV f_number_row (consA (getV 2) (consA (conD (.int 4)) noA))) (callV f_number_row (consA (getV 3) (consA (conD (.int 4)) noA)))) (lstD (lstV (consA (ifV (truV (getV 4)) (conD (.int 1)) (conD (.int 0))) noA)))) (callV f_number_row (consA (getV 5) (consA (conD (.int 4)) noA))))) (sSeq (sIf (toB (bin dIs (getV 6) (conD .non))) (sRet (bin dAdd (getV 1) (lstD (lstV (consA (conD (.int 0)) noA))))) sSkip) (sRet (bin dAdd (bin dAdd (bin dAdd (getV 1) (lstD (lstV (consA (conD (.int 1)) noA)))) (callV f_number_row (consA (callV dLen (consA (getV 6) noA)) (consA (conD (.int 2)) noA)))) (lstD (callV dList (consA (getV 6) noA))))))))
def f_item_body : List D → Res D := runF 1 7 m_item_body
abbrev s_content_body : Stmt := topS 26
abbrev N_content_body : List Str := ["content", "body", "child"]
theorem sc_content_body : FnScope N_content_body ["content"] (defScope s_content_body) := ⟨rfl, rfl, rfl, by decide +kernel, rfl, by decide +kernel, by decide +kernel⟩
def m_content_body_b1 : Rho → Out := (sExt 1 (callV f_address_row (consA (getV 2) noA)))
def m_content_body : Rho → Out := (sSeq (sIf (notB (truV (callV f_fits_page (consA (getV 0) noA)))) (sRaiseA "InvalidContent" (consA (bin dIx (getV 0) (conD (.int 0))) noA)) sSkip) (sSeq (sIf (toB (bin dEq (bin dIx (getV 0) (conD (.int 0))) (conD (.str "root")))) (sRet (callV f_root_body (consA (getV 0) noA))) sSkip) (sSeq (sIf (toB (bin dEq (bin dIx (getV 0) (conD (.int 0))) (conD (.str "item")))) (sRet (callV f_item_body (consA (getV 0) noA))) sSkip) (sSeq (sIf (toB (bin dEq (bin dIx (getV 0) (conD (.int 0))) (conD (.str "node")))) (sSeq (sSetN 1 (lstV (consA (bin dIx (getV 0) (conD (.int 1))) noA))) (sSeq (sFor (itemsV (bin dIx (getV 0) (conD (.int 2)))) (bNm 2) m_content_body_b1) (sRet (getV 1)))) sSkip) (sRet (callV f_number_row (consA (bin dIx (getV 0) (conD (.int 1))) (consA (conD (.int 4)) noA))))))))
def f_content_body : List D → Res D := runF 1 3 m_content_body
abbrev s__law_draws : Stmt := topS 28
abbrev N__law_draws : List Str := ["script", "count", "draws", "k", "cell"]
theorem sc__law_draws : FnScope N__law_draws ["script", "count"] (defScope s__law_draws) := ⟨rfl, rfl, rfl, by decide +kernel, rfl, by decide +kernel, by decide +kernel⟩
def m__law_draws_b1 : Rho → Out := (sSeq (sSet 4 (conD (.int 0))) (sSeq (sIf (toB (bin dGt (callV dLen (consA (getV 0) noA)) (conD (.int 0)))) (sSet 4 (callV dInt (consA (bin dIx (getV 0) (bin dMod (getV 3) (callV dLen (consA (getV 0) noA)))) noA))) sSkip) (sSeq (sIf (toB (bin dLt (getV 4) (conD (.int 0)))) (sSet 4 (bin dSub (conD (.int 1)) (bin dMul (conD (.int 2)) (getV 4)))) sSkip) (sSeq (sIf (orB (toB (bin dLt (getV 4) (conD (.int 1000000000)))) (toB (bin dGe (getV 3) (callV dLen (consA (getV 0) noA))))) (sSeq (sSet 4 (bin dMod (callV dInt (consA (bin dAdd (bin dMul (getV 4) (conD (.int 6364136223846793005))) (bin dMul (conD (.int 1442695040888963407)) (bin dAdd (getV 3) (conD (.int 1))))) noA)) (conD (.int 9223372036854775783)))) (sSet 4 (bin dMod (callV dInt (consA (bin dAdd (bin dAdd (bin dMul (getV 4) (conD (.int 2862933555777941757))) (conD (.int 3037000493))) (getV 3)) noA)) (conD (.int 18446744073709551557))))) sSkip) (sApp 2 (getV 4))))))
def m__law_draws : Rho → Out := (sSeq (sSetN 2 (lstV noA)) (sSeq (sFor (callV dRng1 (consA (getV 1) noA)) (bNm 3) m__law_draws_b1) (sRet (getV 2))))
def f__law_draws : List D → Res D := runF 2 5 m__law_draws
abbrev s__law_asks_first : Stmt := topS 29
abbrev N__law_asks_first : List Str := ["script", "draws", "page", "draw", "octets", "first", "second", "k", "other", "due"]
theorem sc__law_asks_first : FnScope N__law_asks_first ["script"] (defScope s__law_asks_first) := ⟨rfl, rfl, rfl, by decide +kernel, rfl, by decide +kernel, by decide +kernel⟩
def m__law_asks_first_b2 : Rho → Out := (sSeq (sSet 5 (bin dAdd (getV 5) (bin dIx (getV 4) (getV 7)))) (sSet 6 (bin dAdd (getV 6) (bin dMul (bin dIx (getV 4) (getV 7)) (bin dSub (conD (.int 508)) (getV 7))))))
def m__law_asks_first_b1 : Rho → Out := (sSetI 2 (bin dMod (getV 3) (conD (.int 512))) (bin dMod (bin dDiv (getV 3) (conD (.int 512))) (conD (.int 256))))
def m__law_asks_first : Rho → Out := (sSeq (sSet 1 (callV f__law_draws (consA (getV 0) (consA (conD (.int 11)) noA)))) (sSeq (sSetN 2 (bin dRep (lstD (lstV (consA (conD (.int 0)) noA))) (conD (.int 512)))) (sSeq (sIf (toB (bin dEq (bin dMod (bin dIx (getV 1) (conD (.int 0))) (conD (.int 5))) (conD (.int 0)))) (sSetN 2 (bin dRep (lstD (lstV (consA (conD (.int 255)) noA))) (conD (.int 512)))) sSkip) (sSeq (sFor (itemsV (slV dSl (getV 1) (toPart (conD (.int 2))) (toPart (bin dAdd (conD (.int 2)) (bin dMod (bin dIx (getV 1) (conD (.int 1))) (conD (.int 10))))))) (bNm 3) m__law_asks_first_b1) (sSeq (sIf (toB (bin dEq (bin dMod (bin dIx (getV 1) (conD (.int 0))) (conD (.int 5))) (conD (.int 1)))) (sSetN 2 (compV (callV dRng1 (consA (conD (.int 512)) noA)) (bNm 7) yesB (bin dMod (callV dInt (consA (bin dAdd (bin dDiv (bin dIx (getV 1) (conD (.int 1))) (bin dAdd (getV 7) (conD (.int 1)))) (bin dMul (conD (.int 91)) (getV 7))) noA)) (conD (.int 256))) [7])) sSkip) (sSeq (sSet 4 (bin dAdd (lstD (lstV (consA (bin dIx (getV 2) (conD (.int 0))) noA))) (slV dSl (getV 2) (toPart (conD (.int 5))) noPart))) (sSeq (sSet 5 (conD (.int 0))) (sSeq (sSet 6 (conD (.int 0))) (sSeq (sFor (callV dRng1 (consA (conD (.int 508)) noA)) (bNm 7) m__law_asks_first_b2) (sSeq (sSet 8 (bin dAdd (lstD (lstV (consA (bin dIx (getV 2) (conD (.int 0))) (consA (bin dMod (bin dIx (getV 1) (conD (.int 2))) (conD (.int 256))) (consA (bin dMod (bin dIx (getV 1) (conD (.int 3))) (conD (.int 256))) (consA (bin dMod (bin dIx (getV 1) (conD (.int 4))) (conD (.int 256))) (consA (bin dMod (bin dIx (getV 1) (conD (.int 5))) (conD (.int 256))) noA))))))) (slV dSl (getV 2) (toPart (conD (.int 5))) noPart))) (sSeq (sSet 9 (tupV (consA (bin dMod (callV dInt (consA (getV 5) noA)) (conD (.int 65521))) (consA (bin dMod (callV dInt (consA (getV 6) noA)) (conD (.int 65521))) noA)))) (sRet (andV (bin dEq (callV f_page_sums (consA (slV dSl (getV 2) noPart noPart) noA)) (getV 9)) (bin dEq (callV f_page_sums (consA (getV 8) noA)) (getV 9)))))))))))))))
def f__law_asks_first : List D → Res D := runF 1 10 m__law_asks_first
abbrev s__law_number : Stmt := topS 30
abbrev N__law_number : List Str := ["draw"]
theorem sc__law_number : FnScope N__law_number ["draw"] (defScope s__law_number) := ⟨rfl, rfl, rfl, by decide +kernel, rfl, by decide +kernel, by decide +kernel⟩
def m__law_number : Rho → Out := (sSeq (sIf (toB (bin dEq (bin dMod (getV 0) (conD (.int 4))) (conD (.int 0)))) (sRet (bin dSub (conD (.int 4294967295)) (bin dMod (bin dDiv (getV 0) (conD (.int 4))) (conD (.int 3))))) sSkip) (sRet (bin dMod (bin dDiv (getV 0) (conD (.int 4))) (conD (.int 70000)))))
def f__law_number : List D → Res D := runF 1 1 m__law_number
abbrev s__law_address : Stmt := topS 31
abbrev N__law_address : List Str := ["draw"]
theorem sc__law_address : FnScope N__law_address ["draw"] (defScope s__law_address) := ⟨rfl, rfl, rfl, by decide +kernel, rfl, by decide +kernel, by decide +kernel⟩
def m__law_address : Rho → Out := (sSeq (sIf (toB (bin dEq (bin dMod (getV 0) (conD (.int 5))) (conD (.int 0)))) (sRet (conD .non)) sSkip) (sRet (tupV (consA (bin dMod (bin dDiv (getV 0) (conD (.int 5))) (conD (.int 48))) (consA (bin dMod (bin dDiv (getV 0) (conD (.int 240))) (conD (.int 32))) noA)))))
def f__law_address : List D → Res D := runF 1 1 m__law_address
abbrev s__law_place : Stmt := topS 32
abbrev N__law_place : List Str := ["draw"]
theorem sc__law_place : FnScope N__law_place ["draw"] (defScope s__law_place) := ⟨rfl, rfl, rfl, by decide +kernel, rfl, by decide +kernel, by decide +kernel⟩
def m__law_place : Rho → Out := (sSeq (sIf (toB (bin dEq (bin dMod (getV 0) (conD (.int 4))) (conD (.int 0)))) (sRet (conD .non)) sSkip) (sRet (bin dMod (bin dDiv (getV 0) (conD (.int 4))) (conD (.int 48)))))
def f__law_place : List D → Res D := runF 1 1 m__law_place
abbrev s__law_count : Stmt := topS 33
abbrev N__law_count : List Str := ["draw"]
theorem sc__law_count : FnScope N__law_count ["draw"] (defScope s__law_count) := ⟨rfl, rfl, rfl, by decide +kernel, rfl, by decide +kernel, by decide +kernel⟩
def m__law_count : Rho → Out := (sSeq (sIf (toB (bin dEq (bin dMod (getV 0) (conD (.int 9))) (conD (.int 0)))) (sRet (bin dAdd (conD (.int 46)) (bin dMod (bin dDiv (getV 0) (conD (.int 9))) (conD (.int 3))))) sSkip) (sRet (bin dMod (bin dDiv (getV 0) (conD (.int 9))) (conD (.int 6)))))
def f__law_count : List D → Res D := runF 1 1 m__law_count
abbrev s__law_octets : Stmt := topS 34
abbrev N__law_octets : List Str := ["draw", "count", "k"]
theorem sc__law_octets : FnScope N__law_octets ["draw", "count"] (defScope s__law_octets) := ⟨rfl, rfl, rfl, by decide +kernel, rfl, by decide +kernel, by decide +kernel⟩
def m__law_octets : Rho → Out := (sRet (callV dTuple (consA (lstD (compV (callV dRng1 (consA (getV 1) noA)) (bNm 2) yesB (bin dMod (callV dInt (consA (bin dAdd (bin dDiv (getV 0) (bin dAdd (getV 2) (conD (.int 1)))) (bin dMul (bin dMul (conD (.int 37)) (getV 2)) (bin dMod (getV 0) (conD (.int 7))))) noA)) (conD (.int 256))) [2])) noA)))
def f__law_octets : List D → Res D := runF 2 3 m__law_octets
abbrev s__law_content : Stmt := topS 35
abbrev N__law_content : List Str := ["draw", "other", "kind", "journal", "places", "erases", "bad", "children", "value", "last", "k"]
theorem sc__law_content : FnScope N__law_content ["draw", "other"] (defScope s__law_content) := ⟨rfl, rfl, rfl, by decide +kernel, rfl, by decide +kernel, by decide +kernel⟩
def m__law_content : Rho → Out := (sSeq (sSet 2 (bin dMod (getV 0) (conD (.int 4)))) (sSeq (sIf (toB (bin dEq (getV 2) (conD (.int 0)))) (sRet (tupV (consA (conD (.str "mark")) (consA (callV f__law_number (consA (bin dDiv (getV 0) (conD (.int 4))) noA)) noA)))) sSkip) (sSeq (sIf (toB (bin dEq (getV 2) (conD (.int 1)))) (sSeq (sSet 7 (lstD (compV (callV dRng1 (consA (conD (.int 32)) noA)) (bNm 10) yesB (callV f__law_address (consA (bin dAdd (bin dDiv (getV 1) (bin dAdd (getV 10) (conD (.int 1)))) (bin dMul (getV 10) (bin dDiv (getV 0) (conD (.int 4))))) noA)) [10]))) (sRet (tupV (consA (conD (.str "node")) (consA (bin dMod (bin dDiv (getV 0) (conD (.int 4))) (conD (.int 256))) (consA (callV dTuple (consA (getV 7) noA)) noA)))))) sSkip) (sSeq (sIf (toB (bin dEq (getV 2) (conD (.int 2)))) (sSeq (sSet 8 (conD .non)) (sSeq (sIf (toB (bin dGt (bin dMod (getV 1) (conD (.int 6))) (conD (.int 0)))) (sSet 8 (callV f__law_octets (consA (bin dDiv (getV 1) (conD (.int 7))) (consA (ifV (toB (bin dEq (bin dMod (getV 1) (conD (.int 6))) (conD (.int 1)))) (bin dAdd (conD (.int 440)) (bin dMod (bin dDiv (getV 1) (conD (.int 49))) (conD (.int 9)))) (bin dMod (bin dDiv (getV 1) (conD (.int 49))) (conD (.int 13)))) noA)))) sSkip) (sSeq (sSet 9 (bin dEq (bin dMod (bin dDiv (getV 0) (conD (.int 8))) (conD (.int 2))) (conD (.int 1)))) (sRet (tupV (consA (conD (.str "item")) (consA (callV f__law_number (consA (bin dDiv (getV 0) (conD (.int 16))) noA)) (consA (callV f__law_number (consA (bin dDiv (getV 1) (conD (.int 5))) noA)) (consA (getV 9) (consA (callV f__law_number (consA (bin dDiv (getV 0) (conD (.int 64))) noA)) (consA (getV 8) noA))))))))))) sSkip) (sSeq (sSet 3 (callV dTuple (consA (lstD (compV (callV dRng1 (consA (callV f__law_count (consA (bin dDiv (getV 0) (conD (.int 4))) noA)) noA)) (bNm 10) yesB (bin dMod (callV dInt (consA (bin dDiv (getV 0) (bin dAdd (getV 10) (conD (.int 3)))) noA)) (conD (.int 48))) [10])) noA))) (sSeq (sSet 4 (callV dTuple (consA (lstD (compV (callV dRng1 (consA (callV f__law_count (consA (bin dDiv (getV 1) (conD (.int 4))) noA)) noA)) (bNm 10) yesB (callV f__law_place (consA (bin dAdd (bin dDiv (getV 1) (bin dAdd (getV 10) (conD (.int 1)))) (getV 10)) noA)) [10])) noA))) (sSeq (sSet 5 (callV dTuple (consA (lstD (compV (callV dRng1 (consA (callV f__law_count (consA (bin dDiv (getV 0) (conD (.int 11))) noA)) noA)) (bNm 10) yesB (callV f__law_number (consA (bin dAdd (bin dDiv (getV 1) (bin dAdd (getV 10) (conD (.int 2)))) (getV 10)) noA)) [10])) noA))) (sSeq (sSet 6 (callV dTuple (consA (lstD (compV (callV dRng1 (consA (callV f__law_count (consA (bin dDiv (getV 1) (conD (.int 13))) noA)) noA)) (bNm 10) yesB (bin dMod (callV dInt (consA (bin dDiv (getV 1) (bin dAdd (getV 10) (conD (.int 5)))) noA)) (conD (.int 48))) [10])) noA))) (sRet (tupV (consA (conD (.str "root")) (consA (callV f__law_number (consA (bin dDiv (getV 0) (conD (.int 3))) noA)) (consA (callV f__law_number (consA (bin dDiv (getV 1) (conD (.int 3))) noA)) (consA (callV f__law_address (consA (bin dDiv (getV 0) (conD (.int 17))) noA)) (consA (getV 3) (consA (getV 4) (consA (getV 5) (consA (getV 6) noA))))))))))))))))))
def f__law_content : List D → Res D := runF 2 11 m__law_content
abbrev s__law_changed : Stmt := topS 36
abbrev N__law_changed : List Str := ["content", "draw", "over", "number", "parts", "which", "child", "value"]
theorem sc__law_changed : FnScope N__law_changed ["content", "draw"] (defScope s__law_changed) := ⟨rfl, rfl, rfl, by decide +kernel, rfl, by decide +kernel, by decide +kernel⟩
def m__law_changed : Rho → Out := (sSeq (sSet 2 (bin dMod (getV 1) (conD (.int 2)))) (sSeq (sSet 3 (bin dAdd (conD (.int 4294967295)) (getV 2))) (sSeq (sIf (toB (bin dEq (bin dIx (getV 0) (conD (.int 0))) (conD (.str "mark")))) (sRet (tupV (consA (conD (.str "mark")) (consA (getV 3) noA)))) sSkip) (sSeq (sIf (toB (bin dEq (bin dIx (getV 0) (conD (.int 0))) (conD (.str "node")))) (sSeq (sSet 5 (bin dMod (bin dDiv (getV 1) (conD (.int 2))) (conD (.int 4)))) (sSeq (sIf (toB (bin dEq (getV 5) (conD (.int 0)))) (sRet (tupV (consA (conD (.str "node")) (consA (bin dAdd (conD (.int 255)) (getV 2)) (consA (bin dIx (getV 0) (conD (.int 2))) noA))))) sSkip) (sSeq (sIf (toB (bin dEq (getV 5) (conD (.int 1)))) (sRet (tupV (consA (conD (.str "node")) (consA (bin dIx (getV 0) (conD (.int 1))) (consA (slV dSl (bin dIx (getV 0) (conD (.int 2))) noPart (toPart (bin dSub (bin dAdd (conD (.int 31)) (conD (.int 1))) (getV 2)))) noA))))) sSkip) (sSeq (sSet 6 (ifV (toB (bin dEq (getV 5) (conD (.int 2)))) (tupV (consA (bin dAdd (conD (.int 47)) (getV 2)) (consA (conD (.int 3)) noA))) (tupV (consA (conD (.int 3)) (consA (bin dAdd (conD (.int 31)) (getV 2)) noA))))) (sRet (tupV (consA (conD (.str "node")) (consA (bin dIx (getV 0) (conD (.int 1))) (consA (bin dAdd (slV dSl (bin dIx (getV 0) (conD (.int 2))) noPart (toPart (conD (.int 31)))) (tupV (consA (getV 6) noA))) noA))))))))) sSkip) (sSeq (sIf (toB (bin dEq (bin dIx (getV 0) (conD (.int 0))) (conD (.str "item")))) (sSeq (sSet 5 (bin dMod (bin dDiv (getV 1) (conD (.int 2))) (conD (.int 5)))) (sSeq (sIf (toB (bin dEq (getV 5) (conD (.int 0)))) (sRet (tupV (consA (conD (.str "item")) (consA (getV 3) (consA (bin dIx (getV 0) (conD (.int 2))) (consA (bin dIx (getV 0) (conD (.int 3))) (consA (bin dIx (getV 0) (conD (.int 4))) (consA (bin dIx (getV 0) (conD (.int 5))) noA)))))))) sSkip) (sSeq (sIf (toB (bin dEq (getV 5) (conD (.int 1)))) (sRet (tupV (consA (conD (.str "item")) (consA (bin dIx (getV 0) (conD (.int 1))) (consA (getV 3) (consA (bin dIx (getV 0) (conD (.int 3))) (consA (bin dIx (getV 0) (conD (.int 4))) (consA (bin dIx (getV 0) (conD (.int 5))) noA)))))))) sSkip) (sSeq (sIf (toB (bin dEq (getV 5) (conD (.int 2)))) (sRet (tupV (consA (conD (.str "item")) (consA (bin dIx (getV 0) (conD (.int 1))) (consA (bin dIx (getV 0) (conD (.int 2))) (consA (bin dIx (getV 0) (conD (.int 3))) (consA (getV 3) (consA (bin dIx (getV 0) (conD (.int 5))) noA)))))))) sSkip) (sSeq (sSet 7 (ifV (toB (bin dEq (getV 5) (conD (.int 3)))) (bin dRepT (tupV (consA (conD (.int 7)) noA)) (bin dAdd (conD (.int 448)) (getV 2))) (tupV (consA (conD (.int 1)) (consA (bin dAdd (conD (.int 255)) (getV 2)) noA))))) (sRet (tupV (consA (conD (.str "item")) (consA (bin dIx (getV 0) (conD (.int 1))) (consA (bin dIx (getV 0) (conD (.int 2))) (consA (bin dIx (getV 0) (conD (.int 3))) (consA (bin dIx (getV 0) (conD (.int 4))) (consA (getV 7) noA))))))))))))) sSkip) (sSeq (sSetN 4 (callV dList (consA (getV 0) noA))) (sSeq (sSet 5 (bin dMod (bin dDiv (getV 1) (conD (.int 2))) (conD (.int 10)))) (sSeq (sIf (orB (toB (bin dEq (getV 5) (conD (.int 0)))) (toB (bin dEq (getV 5) (conD (.int 1))))) (sSetI 4 (bin dAdd (conD (.int 1)) (getV 5)) (getV 3)) (sIf (toB (bin dEq (getV 5) (conD (.int 2)))) (sSetI 4 (conD (.int 3)) (tupV (consA (bin dAdd (conD (.int 47)) (getV 2)) (consA (conD (.int 31)) noA)))) (sIf (toB (bin dEq (getV 5) (conD (.int 3)))) (sSetI 4 (conD (.int 3)) (tupV (consA (conD (.int 0)) (consA (bin dAdd (conD (.int 31)) (getV 2)) noA)))) (sIf (toB (bin dEq (getV 5) (conD (.int 4)))) (sSetI 4 (conD (.int 4)) (tupV (consA (bin dAdd (conD (.int 47)) (getV 2)) noA))) (sIf (toB (bin dEq (getV 5) (conD (.int 5)))) (sSetI 4 (conD (.int 5)) (tupV (consA (conD .non) (consA (bin dAdd (conD (.int 47)) (getV 2)) noA)))) (sIf (toB (bin dEq (getV 5) (conD (.int 6)))) (sSetI 4 (conD (.int 6)) (tupV (consA (conD (.int 0)) (consA (getV 3) noA)))) (sIf (toB (bin dEq (getV 5) (conD (.int 7)))) (sSetI 4 (conD (.int 7)) (tupV (consA (bin dAdd (conD (.int 47)) (getV 2)) noA))) (sSetI 4 (bin dAdd (bin dMod (bin dDiv (getV 1) (conD (.int 20))) (conD (.int 4))) (conD (.int 4))) (bin dRepT (tupV (consA (conD (.int 5)) noA)) (bin dAdd (conD (.int 48)) (getV 2))))))))))) (sRet (callV dTuple (consA (getV 4) noA)))))))))))
def f__law_changed : List D → Res D := runF 2 8 m__law_changed
abbrev s__law_has_body : Stmt := topS 37
abbrev N__law_has_body : List Str := ["content"]
theorem sc__law_has_body : FnScope N__law_has_body ["content"] (defScope s__law_has_body) := ⟨rfl, rfl, rfl, by decide +kernel, rfl, by decide +kernel, by decide +kernel⟩
def m__law_has_body : Rho → Out := (sSeq (sTry d_classes d_sub (sDrop (callV f_content_body (consA (getV 0) noA))) [("InvalidContent", fun _ => (sRet (conD (.bl false))))]) (sRet (conD (.bl true))))
def f__law_has_body : List D → Res D := runF 1 1 m__law_has_body
abbrev s__law_asks_second : Stmt := topS 38
abbrev N__law_asks_second : List Str := ["script", "draws", "content", "draw", "changed", "fits"]
theorem sc__law_asks_second : FnScope N__law_asks_second ["script"] (defScope s__law_asks_second) := ⟨rfl, rfl, rfl, by decide +kernel, rfl, by decide +kernel, by decide +kernel⟩
def m__law_asks_second_b1 : Rho → Out := (sSeq (sSet 4 (callV f__law_changed (consA (getV 2) (consA (getV 3) noA)))) (sSeq (sSet 5 (bin dEq (bin dMod (getV 3) (conD (.int 2))) (conD (.int 0)))) (sIf (orB (toB (bin dNe (callV f_fits_page (consA (getV 4) noA)) (getV 5))) (toB (bin dNe (callV f__law_has_body (consA (getV 4) noA)) (getV 5)))) (sRet (conD (.bl false))) sSkip)))
def m__law_asks_second : Rho → Out := (sSeq (sSet 1 (callV f__law_draws (consA (getV 0) (consA (conD (.int 8)) noA)))) (sSeq (sSet 2 (callV f__law_content (consA (bin dIx (getV 1) (conD (.int 0))) (consA (bin dIx (getV 1) (conD (.int 1))) noA)))) (sSeq (sIf (orB (toB (bin dIsNot (callV f_fits_page (consA (getV 2) noA)) (conD (.bl true)))) (notB (truV (callV f__law_has_body (consA (getV 2) noA))))) (sRet (conD (.bl false))) sSkip) (sSeq (sFor (itemsV (slV dSl (getV 1) (toPart (conD (.int 2))) noPart)) (bNm 3) m__law_asks_second_b1) (sRet (conD (.bl true)))))))
def f__law_asks_second : List D → Res D := runF 1 6 m__law_asks_second
abbrev s_law : Stmt := topS 39
abbrev N_law : List Str := ["script"]
theorem sc_law : FnScope N_law ["script"] (defScope s_law) := ⟨rfl, rfl, rfl, by decide +kernel, rfl, by decide +kernel, by decide +kernel⟩
def m_law : Rho → Out := (sRet (andV (callV f__law_asks_first (consA (getV 0) noA)) (callV f__law_asks_second (consA (getV 0) noA))))
def f_law : List D → Res D := runF 1 1 m_law
/-! the facts of the text -/
structure Txt (K : PySem.W.Frag) (mg : Str → Option Value) where
  a_summed_octets : Addr
  fd_summed_octets : FuncData
  F_summed_octets : Fun K "summed_octets" "summed_octets" s_summed_octets a_summed_octets fd_summed_octets
  g_summed_octets : mg "summed_octets" = some (.ref a_summed_octets)
  b_summed_octets : Binds K fd_summed_octets ["page"] []
  a_page_sums : Addr
  fd_page_sums : FuncData
  F_page_sums : Fun K "page_sums" "page_sums" s_page_sums a_page_sums fd_page_sums
  g_page_sums : mg "page_sums" = some (.ref a_page_sums)
  b_page_sums : Binds K fd_page_sums ["page"] []
  a_number_row : Addr
  fd_number_row : FuncData
  F_number_row : Fun K "number_row" "number_row" s_number_row a_number_row fd_number_row
  g_number_row : mg "number_row" = some (.ref a_number_row)
  b_number_row : Binds K fd_number_row ["number", "width"] []
  a_is_number : Addr
  fd_is_number : FuncData
  F_is_number : Fun K "is_number" "is_number" s_is_number a_is_number fd_is_number
  g_is_number : mg "is_number" = some (.ref a_is_number)
  b_is_number : Binds K fd_is_number ["number"] []
  a_is_block : Addr
  fd_is_block : FuncData
  F_is_block : Fun K "is_block" "is_block" s_is_block a_is_block fd_is_block
  g_is_block : mg "is_block" = some (.ref a_is_block)
  b_is_block : Binds K fd_is_block ["block"] []
  a_is_address : Addr
  fd_is_address : FuncData
  F_is_address : Fun K "is_address" "is_address" s_is_address a_is_address fd_is_address
  g_is_address : mg "is_address" = some (.ref a_is_address)
  b_is_address : Binds K fd_is_address ["address"] []
  a_root_fits : Addr
  fd_root_fits : FuncData
  F_root_fits : Fun K "root_fits" "root_fits" s_root_fits a_root_fits fd_root_fits
  g_root_fits : mg "root_fits" = some (.ref a_root_fits)
  b_root_fits : Binds K fd_root_fits ["root"] []
  a_item_fits : Addr
  fd_item_fits : FuncData
  F_item_fits : Fun K "item_fits" "item_fits" s_item_fits a_item_fits fd_item_fits
  g_item_fits : mg "item_fits" = some (.ref a_item_fits)
  b_item_fits : Binds K fd_item_fits ["item"] []
  a_fits_page : Addr
  fd_fits_page : FuncData
  F_fits_page : Fun K "fits_page" "fits_page" s_fits_page a_fits_page fd_fits_page
  g_fits_page : mg "fits_page" = some (.ref a_fits_page)
  b_fits_page : Binds K fd_fits_page ["content"] []
  a_address_row : Addr
  fd_address_row : FuncData
  F_address_row : Fun K "address_row" "address_row" s_address_row a_address_row fd_address_row
  g_address_row : mg "address_row" = some (.ref a_address_row)
  b_address_row : Binds K fd_address_row ["address"] []
  a_place_row : Addr
  fd_place_row : FuncData
  F_place_row : Fun K "place_row" "place_row" s_place_row a_place_row fd_place_row
  g_place_row : mg "place_row" = some (.ref a_place_row)
  b_place_row : Binds K fd_place_row ["place"] []
  a_root_body : Addr
  fd_root_body : FuncData
  F_root_body : Fun K "root_body" "root_body" s_root_body a_root_body fd_root_body
  g_root_body : mg "root_body" = some (.ref a_root_body)
  b_root_body : Binds K fd_root_body ["root"] []
  a_item_body : Addr
  fd_item_body : FuncData
  F_item_body : Fun K "item_body" "item_body" s_item_body a_item_body fd_item_body
  g_item_body : mg "item_body" = some (.ref a_item_body)
  b_item_body : Binds K fd_item_body ["item"] []
  a_content_body : Addr
  fd_content_body : FuncData
  F_content_body : Fun K "content_body" "content_body" s_content_body a_content_body fd_content_body
  g_content_body : mg "content_body" = some (.ref a_content_body)
  b_content_body : Binds K fd_content_body ["content"] []
  a__law_draws : Addr
  fd__law_draws : FuncData
  F__law_draws : Fun K "_law_draws" "_law_draws" s__law_draws a__law_draws fd__law_draws
  g__law_draws : mg "_law_draws" = some (.ref a__law_draws)
  b__law_draws : Binds K fd__law_draws ["script", "count"] []
  a__law_asks_first : Addr
  fd__law_asks_first : FuncData
  F__law_asks_first : Fun K "_law_asks_first" "_law_asks_first" s__law_asks_first a__law_asks_first fd__law_asks_first
  g__law_asks_first : mg "_law_asks_first" = some (.ref a__law_asks_first)
  b__law_asks_first : Binds K fd__law_asks_first ["script"] []
  a__law_number : Addr
  fd__law_number : FuncData
  F__law_number : Fun K "_law_number" "_law_number" s__law_number a__law_number fd__law_number
  g__law_number : mg "_law_number" = some (.ref a__law_number)
  b__law_number : Binds K fd__law_number ["draw"] []
  a__law_address : Addr
  fd__law_address : FuncData
  F__law_address : Fun K "_law_address" "_law_address" s__law_address a__law_address fd__law_address
  g__law_address : mg "_law_address" = some (.ref a__law_address)
  b__law_address : Binds K fd__law_address ["draw"] []
  a__law_place : Addr
  fd__law_place : FuncData
  F__law_place : Fun K "_law_place" "_law_place" s__law_place a__law_place fd__law_place
  g__law_place : mg "_law_place" = some (.ref a__law_place)
  b__law_place : Binds K fd__law_place ["draw"] []
  a__law_count : Addr
  fd__law_count : FuncData
  F__law_count : Fun K "_law_count" "_law_count" s__law_count a__law_count fd__law_count
  g__law_count : mg "_law_count" = some (.ref a__law_count)
  b__law_count : Binds K fd__law_count ["draw"] []
  a__law_octets : Addr
  fd__law_octets : FuncData
  F__law_octets : Fun K "_law_octets" "_law_octets" s__law_octets a__law_octets fd__law_octets
  g__law_octets : mg "_law_octets" = some (.ref a__law_octets)
  b__law_octets : Binds K fd__law_octets ["draw", "count"] []
  a__law_content : Addr
  fd__law_content : FuncData
  F__law_content : Fun K "_law_content" "_law_content" s__law_content a__law_content fd__law_content
  g__law_content : mg "_law_content" = some (.ref a__law_content)
  b__law_content : Binds K fd__law_content ["draw", "other"] []
  a__law_changed : Addr
  fd__law_changed : FuncData
  F__law_changed : Fun K "_law_changed" "_law_changed" s__law_changed a__law_changed fd__law_changed
  g__law_changed : mg "_law_changed" = some (.ref a__law_changed)
  b__law_changed : Binds K fd__law_changed ["content", "draw"] []
  a__law_has_body : Addr
  fd__law_has_body : FuncData
  F__law_has_body : Fun K "_law_has_body" "_law_has_body" s__law_has_body a__law_has_body fd__law_has_body
  g__law_has_body : mg "_law_has_body" = some (.ref a__law_has_body)
  b__law_has_body : Binds K fd__law_has_body ["content"] []
  a__law_asks_second : Addr
  fd__law_asks_second : FuncData
  F__law_asks_second : Fun K "_law_asks_second" "_law_asks_second" s__law_asks_second a__law_asks_second fd__law_asks_second
  g__law_asks_second : mg "_law_asks_second" = some (.ref a__law_asks_second)
  b__law_asks_second : Binds K fd__law_asks_second ["script"] []
  a_law : Addr
  fd_law : FuncData
  F_law : Fun K "law" "law" s_law a_law fd_law
  g_law : mg "law" = some (.ref a_law)
  b_law : Binds K fd_law ["script"] []
  c_MODULUS : ∃ u, mg "MODULUS" = some u ∧ ∃ v, RelV v u ∧ ∀ B, Rp K B v d_MODULUS
  c_NUMBER_LIMIT : ∃ u, mg "NUMBER_LIMIT" = some u ∧ ∃ v, RelV v u ∧ ∀ B, Rp K B v d_NUMBER_LIMIT
  c_BLOCK_LIMIT : ∃ u, mg "BLOCK_LIMIT" = some u ∧ ∃ v, RelV v u ∧ ∀ B, Rp K B v d_BLOCK_LIMIT
  c_PAGE_LIMIT : ∃ u, mg "PAGE_LIMIT" = some u ∧ ∃ v, RelV v u ∧ ∀ B, Rp K B v d_PAGE_LIMIT
  c_ENTRY_LIMIT : ∃ u, mg "ENTRY_LIMIT" = some u ∧ ∃ v, RelV v u ∧ ∀ B, Rp K B v d_ENTRY_LIMIT
  c_VALUE_LIMIT : ∃ u, mg "VALUE_LIMIT" = some u ∧ ∃ v, RelV v u ∧ ∀ B, Rp K B v d_VALUE_LIMIT
  c_CHILDREN : ∃ u, mg "CHILDREN" = some u ∧ ∃ v, RelV v u ∧ ∀ B, Rp K B v d_CHILDREN
  A_InvalidContent : Addr
  x_InvalidContent : XCls K mg "InvalidContent" A_InvalidContent
  y_InvalidContent : XNew K A_InvalidContent "ValueError" "ValueError.__new__" "ValueError.__init__" [.type "ValueError", .type "Exception", .type "BaseException", .type "object"]
  subs : Subs K mg d_classes d_sub
  n_all : mg "all" = none
  n_int : mg "int" = none
  n_len : mg "len" = none
  n_list : mg "list" = none
  n_max : mg "max" = none
  n_range : mg "range" = none
  n_sum : mg "sum" = none
  n_tuple : mg "tuple" = none
section
variable {K : PySem.W.Frag} {mg : Str → Option Value}
theorem Txt.e_MODULUS (T : Txt K mg) {X : Cx} {W : WX} {G : List Mode} {pos : Pos} (hg : Gl X "MODULUS") (hK : X.K = K := by rfl) (hm : X.mg = mg := by rfl) : EJ X W G (.Name "MODULUS" pos) (conD d_MODULUS) := by
  subst hK hm
  obtain ⟨u, h1, v, h2, h3⟩ := T.c_MODULUS
  exact ej_glob hg h1 h2 h3
theorem Txt.e_NUMBER_LIMIT (T : Txt K mg) {X : Cx} {W : WX} {G : List Mode} {pos : Pos} (hg : Gl X "NUMBER_LIMIT") (hK : X.K = K := by rfl) (hm : X.mg = mg := by rfl) : EJ X W G (.Name "NUMBER_LIMIT" pos) (conD d_NUMBER_LIMIT) := by
  subst hK hm
  obtain ⟨u, h1, v, h2, h3⟩ := T.c_NUMBER_LIMIT
  exact ej_glob hg h1 h2 h3
theorem Txt.e_BLOCK_LIMIT (T : Txt K mg) {X : Cx} {W : WX} {G : List Mode} {pos : Pos} (hg : Gl X "BLOCK_LIMIT") (hK : X.K = K := by rfl) (hm : X.mg = mg := by rfl) : EJ X W G (.Name "BLOCK_LIMIT" pos) (conD d_BLOCK_LIMIT) := by
  subst hK hm
  obtain ⟨u, h1, v, h2, h3⟩ := T.c_BLOCK_LIMIT
  exact ej_glob hg h1 h2 h3
theorem Txt.e_PAGE_LIMIT (T : Txt K mg) {X : Cx} {W : WX} {G : List Mode} {pos : Pos} (hg : Gl X "PAGE_LIMIT") (hK : X.K = K := by rfl) (hm : X.mg = mg := by rfl) : EJ X W G (.Name "PAGE_LIMIT" pos) (conD d_PAGE_LIMIT) := by
  subst hK hm
  obtain ⟨u, h1, v, h2, h3⟩ := T.c_PAGE_LIMIT
  exact ej_glob hg h1 h2 h3
theorem Txt.e_ENTRY_LIMIT (T : Txt K mg) {X : Cx} {W : WX} {G : List Mode} {pos : Pos} (hg : Gl X "ENTRY_LIMIT") (hK : X.K = K := by rfl) (hm : X.mg = mg := by rfl) : EJ X W G (.Name "ENTRY_LIMIT" pos) (conD d_ENTRY_LIMIT) := by
  subst hK hm
  obtain ⟨u, h1, v, h2, h3⟩ := T.c_ENTRY_LIMIT
  exact ej_glob hg h1 h2 h3
theorem Txt.e_VALUE_LIMIT (T : Txt K mg) {X : Cx} {W : WX} {G : List Mode} {pos : Pos} (hg : Gl X "VALUE_LIMIT") (hK : X.K = K := by rfl) (hm : X.mg = mg := by rfl) : EJ X W G (.Name "VALUE_LIMIT" pos) (conD d_VALUE_LIMIT) := by
  subst hK hm
  obtain ⟨u, h1, v, h2, h3⟩ := T.c_VALUE_LIMIT
  exact ej_glob hg h1 h2 h3
theorem Txt.e_CHILDREN (T : Txt K mg) {X : Cx} {W : WX} {G : List Mode} {pos : Pos} (hg : Gl X "CHILDREN") (hK : X.K = K := by rfl) (hm : X.mg = mg := by rfl) : EJ X W G (.Name "CHILDREN" pos) (conD d_CHILDREN) := by
  subst hK hm
  obtain ⟨u, h1, v, h2, h3⟩ := T.c_CHILDREN
  exact ej_glob hg h1 h2 h3
theorem ok_summed_octets (T : Txt K mg) {P : Program} {w : World} {base : Heap} : FnOk P w K mg base (L2.CX P w) 1 T.a_summed_octets T.fd_summed_octets ["page"] (spT K mg (Mode.fz) 1 f_summed_octets) := by
  refine fn_ok (md := Mode.fz) (G := [Mode.fz]) T.F_summed_octets sc_summed_octets 1 1 rfl rfl rfl (fun ρ => .inl rfl) fun cdv A outer s H E hr => ⟨[], ?_⟩
  have tk : Takes (cxOf (L2.CX P w) P w K mg base N_summed_octets "summed_octets" (defScope s_summed_octets) T.a_summed_octets cdv A outer s H E) (WE1 E) := takes_of rfl rfl rfl rfl
  exact (ssj_one (sj_ret (ej_bin bin_add calm_add (EJ.bj (NJ.ej (nj_lst (aj_cons (ej_ix (EJ.bj (ej_var 0 (pv 0))) (EJ.bj ej_int)) aj_nil)))) (EJ.bj (NJ.ej (nj_Ty fn_list (by rfl) T.n_list PyProof.Rows.boot_list (baj_cons (EJ.bj (ej_sl (EJ.bj (ej_var 0 (pv 0))) (oj_some (EJ.bj ej_int)) oj_none)) baj_nil)))))))
theorem ok_page_sums (T : Txt K mg) {P : Program} {w : World} {base : Heap} : FnOk P w K mg base (L2.CX P w) 2 T.a_page_sums T.fd_page_sums ["page"] (spT K mg (Mode.fz) 1 f_page_sums) := by
  refine fn_ok (md := Mode.fz) (G := [Mode.fz, Mode.fz, Mode.fz, Mode.fz, Mode.fz, Mode.fz]) T.F_page_sums sc_page_sums 1 6 rfl rfl rfl (fun ρ => .inl rfl) fun cdv A outer s H E hr => ⟨[], ?_⟩
  have tk : Takes (cxOf (L2.CX P w) P w K mg base N_page_sums "page_sums" (defScope s_page_sums) T.a_page_sums cdv A outer s H E) (WE1 E) := takes_of rfl rfl rfl rfl
  exact (ssj_cons (sj_set (i := 1) sc_page_sums.nd rfl (by first | exact .inl rfl | exact .inr rfl) (ej_call (k := 1) runF_len (ok_summed_octets T) (hr.mono (by decide : 1 ≤ 1)) (by rfl) T.g_summed_octets T.F_summed_octets.kp T.b_summed_octets tk (aj_cons (ej_var 0 (pv 0)) aj_nil))) (ssj_cons (sj_set (i := 2) sc_page_sums.nd rfl (by first | exact .inl rfl | exact .inr rfl) (ej_B (fn_sum rfl) (by rfl) T.n_sum boot_sum (baj_cons (EJ.bj (ej_var 1 (pv 1))) baj_nil))) (ssj_cons (sj_set (i := 3) sc_page_sums.nd rfl (by first | exact .inl rfl | exact .inr rfl) ej_int) (ssj_cons (sj_set (i := 4) sc_page_sums.nd rfl (by first | exact .inl rfl | exact .inr rfl) ej_int) (ssj_cons (sj_for (passes_of rfl) rfl (ij_seq (ej_var 1 (pv 1))) (gj_nm (pg_name (i := 5) sc_page_sums.nd rfl (by first | exact .inl rfl | exact .inr rfl))) (by decide) (ssj_cons (sj_aug (i := 4) ip_add sc_page_sums.nd rfl (by first | exact .inl rfl | exact .inr rfl) rfl (EJ.bj (ej_var 5 (pv 5)))) (ssj_one (sj_aug (i := 3) ip_add sc_page_sums.nd rfl (by first | exact .inl rfl | exact .inr rfl) rfl (EJ.bj (ej_var 4 (pv 4))))))) (ssj_one (sj_ret (ej_tup (aj_cons (ej_bin bin_mod calm_mod (EJ.bj (ej_Ty fn_int (by rfl) T.n_int PyProof.Rows.boot_int (baj_cons (EJ.bj (ej_var 2 (pv 2))) baj_nil))) (EJ.bj (T.e_MODULUS rfl))) (aj_cons (ej_bin bin_mod calm_mod (EJ.bj (ej_Ty fn_int (by rfl) T.n_int PyProof.Rows.boot_int (baj_cons (EJ.bj (ej_var 3 (pv 3))) baj_nil))) (EJ.bj (T.e_MODULUS rfl))) aj_nil))))))))))
theorem ok_number_row (T : Txt K mg) {P : Program} {w : World} {base : Heap} : FnOk P w K mg base (L2.CX P w) 1 T.a_number_row T.fd_number_row ["number", "width"] (spT K mg (Mode.fz) 2 f_number_row) := by
  refine fn_ok (md := Mode.fz) (G := [Mode.fz, Mode.fz, Mode.fz, Mode.fz]) T.F_number_row sc_number_row 2 4 rfl rfl rfl (fun ρ => .inl rfl) fun cdv A outer s H E hr => ⟨[], ?_⟩
  have tk : Takes (cxOf (L2.CX P w) P w K mg base N_number_row "number_row" (defScope s_number_row) T.a_number_row cdv A outer s H E) (WE1 E) := takes_of rfl rfl rfl rfl
  exact (ssj_cons (sj_setN (i := 2) sc_number_row.nd rfl (by first | exact .inl rfl | exact .inr rfl) (nj_lst aj_nil)) (ssj_cons (sj_for (passes_of rfl) rfl (ij_range1 (by rfl) T.n_range (aj_cons (ej_var 1 (pv 1)) aj_nil)) (gj_nm (pg_name (i := 3) sc_number_row.nd rfl (by first | exact .inl rfl | exact .inr rfl))) (by decide) (ssj_cons (sj_app (i := 2) (pv 2) rfl (ej_bin bin_mod calm_mod (EJ.bj (ej_Ty fn_int (by rfl) T.n_int PyProof.Rows.boot_int (baj_cons (EJ.bj (ej_var 0 (pv 0))) baj_nil))) (EJ.bj ej_int))) (ssj_one (sj_set (i := 0) sc_number_row.nd rfl (by first | exact .inl rfl | exact .inr rfl) (ej_bin bin_div calm_div (EJ.bj (ej_var 0 (pv 0))) (EJ.bj ej_int)))))) (ssj_one (sj_ret (NJ.ej (nj_rev (bj_var 2 (pv 2))))))))
theorem ok_is_number (T : Txt K mg) {P : Program} {w : World} {base : Heap} : FnOk P w K mg base (L2.CX P w) 1 T.a_is_number T.fd_is_number ["number"] (spT K mg (Mode.fz) 1 f_is_number) := by
  refine fn_ok (md := Mode.fz) (G := [Mode.fz]) T.F_is_number sc_is_number 1 1 rfl rfl rfl (fun ρ => .inl rfl) fun cdv A outer s H E hr => ⟨[], ?_⟩
  have tk : Takes (cxOf (L2.CX P w) P w K mg base N_is_number "is_number" (defScope s_is_number) T.a_is_number cdv A outer s H E) (WE1 E) := takes_of rfl rfl rfl rfl
  exact (ssj_one (sj_ret (ej_chain cmp_le calm_le cmp_lt calm_lt (EJ.bj ej_int) (EJ.bj (ej_var 0 (pv 0))) (EJ.bj (T.e_NUMBER_LIMIT rfl)))))
theorem ok_is_block (T : Txt K mg) {P : Program} {w : World} {base : Heap} : FnOk P w K mg base (L2.CX P w) 1 T.a_is_block T.fd_is_block ["block"] (spT K mg (Mode.fz) 1 f_is_block) := by
  refine fn_ok (md := Mode.fz) (G := [Mode.fz]) T.F_is_block sc_is_block 1 1 rfl rfl rfl (fun ρ => .inl rfl) fun cdv A outer s H E hr => ⟨[], ?_⟩
  have tk : Takes (cxOf (L2.CX P w) P w K mg base N_is_block "is_block" (defScope s_is_block) T.a_is_block cdv A outer s H E) (WE1 E) := takes_of rfl rfl rfl rfl
  exact (ssj_one (sj_ret (ej_chain cmp_le calm_le cmp_lt calm_lt (EJ.bj ej_int) (EJ.bj (ej_var 0 (pv 0))) (EJ.bj (T.e_BLOCK_LIMIT rfl)))))
theorem ok_is_address (T : Txt K mg) {P : Program} {w : World} {base : Heap} : FnOk P w K mg base (L2.CX P w) 2 T.a_is_address T.fd_is_address ["address"] (spT K mg (Mode.fz) 1 f_is_address) := by
  refine fn_ok (md := Mode.fz) (G := [Mode.fz]) T.F_is_address sc_is_address 1 1 rfl rfl rfl (fun ρ => .inl rfl) fun cdv A outer s H E hr => ⟨[], ?_⟩
  have tk : Takes (cxOf (L2.CX P w) P w K mg base N_is_address "is_address" (defScope s_is_address) T.a_is_address cdv A outer s H E) (WE1 E) := takes_of rfl rfl rfl rfl
  exact (ssj_one (sj_ret (ej_orV (EJ.bj (ej_cmp cmp_is calm_is (nomark _) (EJ.bj (ej_var 0 (pv 0))) (EJ.bj ej_non))) (ej_one (ej_andV (EJ.bj (ej_call (k := 1) runF_len (ok_is_block T) (hr.mono (by decide : 1 ≤ 1)) (by rfl) T.g_is_block T.F_is_block.kp T.b_is_block tk (aj_cons (ej_ix (EJ.bj (ej_var 0 (pv 0))) (EJ.bj ej_int)) aj_nil))) (ej_one (ej_chain cmp_le calm_le cmp_lt calm_lt (EJ.bj ej_int) (EJ.bj (ej_ix (EJ.bj (ej_var 0 (pv 0))) (EJ.bj ej_int))) (EJ.bj (T.e_PAGE_LIMIT rfl)))))))))
theorem ok_root_fits (T : Txt K mg) {P : Program} {w : World} {base : Heap} : FnOk P w K mg base (L2.CX P w) 3 T.a_root_fits T.fd_root_fits ["root"] (spT K mg (Mode.fz) 1 f_root_fits) := by
  refine fn_ok (md := Mode.fz) (G := [Mode.fz, Mode.fz, Mode.fz, Mode.fz, Mode.fz, Mode.fz, Mode.fz, Mode.fz, Mode.fz, Mode.fz, Mode.fz]) T.F_root_fits sc_root_fits 1 11 rfl rfl rfl (fun ρ => .inl rfl) fun cdv A outer s H E hr => ⟨[], ?_⟩
  have tk : Takes (cxOf (L2.CX P w) P w K mg base N_root_fits "root_fits" (defScope s_root_fits) T.a_root_fits cdv A outer s H E) (WE1 E) := takes_of rfl rfl rfl rfl
  exact (ssj_cons (sj_unp (ej_sl (EJ.bj (ej_var 0 (pv 0))) (oj_some (EJ.bj ej_int)) oj_none) (gj_tp rfl (gaj_cons (gj_nm (pg_name (i := 1) sc_root_fits.nd rfl (by first | exact .inl rfl | exact .inr rfl))) (gaj_cons (gj_nm (pg_name (i := 2) sc_root_fits.nd rfl (by first | exact .inl rfl | exact .inr rfl))) (gaj_cons (gj_nm (pg_name (i := 3) sc_root_fits.nd rfl (by first | exact .inl rfl | exact .inr rfl))) (gaj_cons (gj_nm (pg_name (i := 4) sc_root_fits.nd rfl (by first | exact .inl rfl | exact .inr rfl))) (gaj_cons (gj_nm (pg_name (i := 5) sc_root_fits.nd rfl (by first | exact .inl rfl | exact .inr rfl))) (gaj_cons (gj_nm (pg_name (i := 6) sc_root_fits.nd rfl (by first | exact .inl rfl | exact .inr rfl))) (gaj_cons (gj_nm (pg_name (i := 7) sc_root_fits.nd rfl (by first | exact .inl rfl | exact .inr rfl))) gaj_nil)))))))) (by decide)) (ssj_cons (sj_if (WJ.tj (wj_or (tj_not (tj_tru (EJ.bj (ej_call (k := 1) runF_len (ok_is_number T) (hr.mono (by decide : 1 ≤ 2)) (by rfl) T.g_is_number T.F_is_number.kp T.b_is_number tk (aj_cons (ej_var 1 (pv 1)) aj_nil))))) (wj_or (tj_not (tj_tru (EJ.bj (ej_call (k := 1) runF_len (ok_is_number T) (hr.mono (by decide : 1 ≤ 2)) (by rfl) T.g_is_number T.F_is_number.kp T.b_is_number tk (aj_cons (ej_var 2 (pv 2)) aj_nil))))) (wj_or1 (tj_not (tj_tru (EJ.bj (ej_call (k := 2) runF_len (ok_is_address T) (hr.mono (by decide : 2 ≤ 2)) (by rfl) T.g_is_address T.F_is_address.kp T.b_is_address tk (aj_cons (ej_var 3 (pv 3)) aj_nil))))))))) (ssj_one (sj_ret ej_bl)) ssj_nil) (ssj_cons (sj_if (tj_cmp cmp_gt calm_gt (nomark _) (EJ.bj (ej_B (fn_max4 rfl) (by rfl) T.n_max boot_max (baj_cons (EJ.bj (ej_B fn_len (by rfl) T.n_len PySem.boot_len (baj_cons (EJ.bj (ej_var 4 (pv 4))) baj_nil))) (baj_cons (EJ.bj (ej_B fn_len (by rfl) T.n_len PySem.boot_len (baj_cons (EJ.bj (ej_var 5 (pv 5))) baj_nil))) (baj_cons (EJ.bj (ej_B fn_len (by rfl) T.n_len PySem.boot_len (baj_cons (EJ.bj (ej_var 6 (pv 6))) baj_nil))) (baj_cons (EJ.bj (ej_B fn_len (by rfl) T.n_len PySem.boot_len (baj_cons (EJ.bj (ej_var 7 (pv 7))) baj_nil))) baj_nil)))))) (EJ.bj (T.e_ENTRY_LIMIT rfl))) (ssj_one (sj_ret ej_bl)) ssj_nil) (ssj_cons (sj_if (tj_not (tj_tru (EJ.bj (ej_B (fn_all rfl) (by rfl) T.n_all boot_all (baj_cons (EJ.bj (NJ.ej (nj_lc (own0 := [("place", 8)]) rfl sc_root_fits.nd (IJ.b (ij_seq (ej_var 5 (pv 5)))) (blkOk_by (N := N_root_fits) (sc := defScope s_root_fits) (by decide +kernel)) (fun _ _ _ _ _ => (gj_nm (pg_name (i := 8) sc_root_fits.nd rfl (by first | exact .inl rfl | exact .inr rfl)))) (by decide) (by decide) (fun _ _ _ _ _ => (ej_orV (EJ.bj (ej_cmp cmp_is calm_is (nomark _) (EJ.bj (ej_var 8 (pv 8))) (EJ.bj ej_non))) (ej_one (ej_call (k := 1) runF_len (ok_is_block T) (hr.mono (by decide : 1 ≤ 2)) (by rfl) T.g_is_block T.F_is_block.kp T.b_is_block takes0 (aj_cons (ej_var 8 (pv 8)) aj_nil)))))))) baj_nil))))) (ssj_one (sj_ret ej_bl)) ssj_nil) (ssj_one (sj_ret (ej_andV (EJ.bj (ej_B (fn_all rfl) (by rfl) T.n_all boot_all (baj_cons (EJ.bj (NJ.ej (nj_lc (own0 := [("block", 9)]) rfl sc_root_fits.nd (IJ.b (ij_seq (ej_bin bin_add calm_add (EJ.bj (ej_var 4 (pv 4))) (EJ.bj (ej_var 7 (pv 7)))))) (blkOk_by (N := N_root_fits) (sc := defScope s_root_fits) (by decide +kernel)) (fun _ _ _ _ _ => (gj_nm (pg_name (i := 9) sc_root_fits.nd rfl (by first | exact .inl rfl | exact .inr rfl)))) (by decide) (by decide) (fun _ _ _ _ _ => (ej_call (k := 1) runF_len (ok_is_block T) (hr.mono (by decide : 1 ≤ 2)) (by rfl) T.g_is_block T.F_is_block.kp T.b_is_block takes0 (aj_cons (ej_var 9 (pv 9)) aj_nil)))))) baj_nil))) (ej_one (ej_B (fn_all rfl) (by rfl) T.n_all boot_all (baj_cons (EJ.bj (NJ.ej (nj_lc (own0 := [("count", 10)]) rfl sc_root_fits.nd (IJ.b (ij_seq (ej_var 6 (pv 6)))) (blkOk_by (N := N_root_fits) (sc := defScope s_root_fits) (by decide +kernel)) (fun _ _ _ _ _ => (gj_nm (pg_name (i := 10) sc_root_fits.nd rfl (by first | exact .inl rfl | exact .inr rfl)))) (by decide) (by decide) (fun _ _ _ _ _ => (ej_call (k := 1) runF_len (ok_is_number T) (hr.mono (by decide : 1 ≤ 2)) (by rfl) T.g_is_number T.F_is_number.kp T.b_is_number takes0 (aj_cons (ej_var 10 (pv 10)) aj_nil)))))) baj_nil))))))))))
theorem ok_item_fits (T : Txt K mg) {P : Program} {w : World} {base : Heap} : FnOk P w K mg base (L2.CX P w) 2 T.a_item_fits T.fd_item_fits ["item"] (spT K mg (Mode.fz) 1 f_item_fits) := by
  refine fn_ok (md := Mode.fz) (G := [Mode.fz, Mode.fz, Mode.fz, Mode.fz, Mode.fz, Mode.fz]) T.F_item_fits sc_item_fits 1 6 rfl rfl rfl (fun ρ => .inl rfl) fun cdv A outer s H E hr => ⟨[], ?_⟩
  have tk : Takes (cxOf (L2.CX P w) P w K mg base N_item_fits "item_fits" (defScope s_item_fits) T.a_item_fits cdv A outer s H E) (WE1 E) := takes_of rfl rfl rfl rfl
  exact (ssj_cons (sj_unp (ej_tup (aj_cons (ej_ix (EJ.bj (ej_var 0 (pv 0))) (EJ.bj ej_int)) (aj_cons (ej_ix (EJ.bj (ej_var 0 (pv 0))) (EJ.bj ej_int)) (aj_cons (ej_ix (EJ.bj (ej_var 0 (pv 0))) (EJ.bj ej_int)) (aj_cons (ej_ix (EJ.bj (ej_var 0 (pv 0))) (EJ.bj ej_int)) aj_nil))))) (gj_tp rfl (gaj_cons (gj_nm (pg_name (i := 1) sc_item_fits.nd rfl (by first | exact .inl rfl | exact .inr rfl))) (gaj_cons (gj_nm (pg_name (i := 2) sc_item_fits.nd rfl (by first | exact .inl rfl | exact .inr rfl))) (gaj_cons (gj_nm (pg_name (i := 3) sc_item_fits.nd rfl (by first | exact .inl rfl | exact .inr rfl))) (gaj_cons (gj_nm (pg_name (i := 4) sc_item_fits.nd rfl (by first | exact .inl rfl | exact .inr rfl))) gaj_nil))))) (by decide)) (ssj_cons (sj_if (WJ.tj (wj_or (tj_not (tj_tru (EJ.bj (ej_call (k := 1) runF_len (ok_is_number T) (hr.mono (by decide : 1 ≤ 1)) (by rfl) T.g_is_number T.F_is_number.kp T.b_is_number tk (aj_cons (ej_var 1 (pv 1)) aj_nil))))) (wj_or (tj_not (tj_tru (EJ.bj (ej_call (k := 1) runF_len (ok_is_number T) (hr.mono (by decide : 1 ≤ 1)) (by rfl) T.g_is_number T.F_is_number.kp T.b_is_number tk (aj_cons (ej_var 2 (pv 2)) aj_nil))))) (wj_or1 (tj_not (tj_tru (EJ.bj (ej_call (k := 1) runF_len (ok_is_number T) (hr.mono (by decide : 1 ≤ 1)) (by rfl) T.g_is_number T.F_is_number.kp T.b_is_number tk (aj_cons (ej_var 3 (pv 3)) aj_nil))))))))) (ssj_one (sj_ret ej_bl)) ssj_nil) (ssj_one (sj_ret (ej_orV (EJ.bj (ej_cmp cmp_is calm_is (nomark _) (EJ.bj (ej_var 4 (pv 4))) (EJ.bj ej_non))) (ej_one (ej_andV (EJ.bj (ej_cmp cmp_le calm_le (nomark _) (EJ.bj (ej_B fn_len (by rfl) T.n_len PySem.boot_len (baj_cons (EJ.bj (ej_var 4 (pv 4))) baj_nil))) (EJ.bj (T.e_VALUE_LIMIT rfl)))) (ej_one (ej_B (fn_all rfl) (by rfl) T.n_all boot_all (baj_cons (EJ.bj (NJ.ej (nj_lc (own0 := [("octet", 5)]) rfl sc_item_fits.nd (IJ.b (ij_seq (ej_var 4 (pv 4)))) (blkOk_by (N := N_item_fits) (sc := defScope s_item_fits) (by decide +kernel)) (fun _ _ _ _ _ => (gj_nm (pg_name (i := 5) sc_item_fits.nd rfl (by first | exact .inl rfl | exact .inr rfl)))) (by decide) (by decide) (fun _ _ _ _ _ => (ej_chain cmp_le calm_le cmp_lt calm_lt (EJ.bj ej_int) (EJ.bj (ej_var 5 (pv 5))) (EJ.bj ej_int)))))) baj_nil))))))))))
theorem ok_fits_page (T : Txt K mg) {P : Program} {w : World} {base : Heap} : FnOk P w K mg base (L2.CX P w) 4 T.a_fits_page T.fd_fits_page ["content"] (spT K mg (Mode.fz) 1 f_fits_page) := by
  refine fn_ok (md := Mode.fz) (G := [Mode.fz, Mode.fz, Mode.fz]) T.F_fits_page sc_fits_page 1 3 rfl rfl rfl (fun ρ => .inl rfl) fun cdv A outer s H E hr => ⟨[], ?_⟩
  have tk : Takes (cxOf (L2.CX P w) P w K mg base N_fits_page "fits_page" (defScope s_fits_page) T.a_fits_page cdv A outer s H E) (WE1 E) := takes_of rfl rfl rfl rfl
  exact (ssj_cons (sj_if (tj_cmp (cmp_eq hr.units) calm_eq (nomark _) (EJ.bj (ej_ix (EJ.bj (ej_var 0 (pv 0))) (EJ.bj ej_int))) (EJ.bj ej_str)) (ssj_one (sj_ret (ej_call (k := 3) runF_len (ok_root_fits T) (hr.mono (by decide : 3 ≤ 3)) (by rfl) T.g_root_fits T.F_root_fits.kp T.b_root_fits tk (aj_cons (ej_var 0 (pv 0)) aj_nil)))) ssj_nil) (ssj_cons (sj_if (tj_cmp (cmp_eq hr.units) calm_eq (nomark _) (EJ.bj (ej_ix (EJ.bj (ej_var 0 (pv 0))) (EJ.bj ej_int))) (EJ.bj ej_str)) (ssj_one (sj_ret (ej_call (k := 2) runF_len (ok_item_fits T) (hr.mono (by decide : 2 ≤ 3)) (by rfl) T.g_item_fits T.F_item_fits.kp T.b_item_fits tk (aj_cons (ej_var 0 (pv 0)) aj_nil)))) ssj_nil) (ssj_cons (sj_if (tj_cmp (cmp_eq hr.units) calm_eq (nomark _) (EJ.bj (ej_ix (EJ.bj (ej_var 0 (pv 0))) (EJ.bj ej_int))) (EJ.bj ej_str)) (ssj_cons (sj_set (i := 1) sc_fits_page.nd rfl (by first | exact .inl rfl | exact .inr rfl) (ej_ix (EJ.bj (ej_var 0 (pv 0))) (EJ.bj ej_int))) (ssj_one (sj_ret (ej_andV (EJ.bj (ej_chain cmp_le calm_le cmp_lt calm_lt (EJ.bj ej_int) (EJ.bj (ej_ix (EJ.bj (ej_var 0 (pv 0))) (EJ.bj ej_int))) (EJ.bj ej_int))) (ej_andV (EJ.bj (ej_cmp (cmp_eq hr.units) calm_eq (nomark _) (EJ.bj (ej_B fn_len (by rfl) T.n_len PySem.boot_len (baj_cons (EJ.bj (ej_var 1 (pv 1))) baj_nil))) (EJ.bj (T.e_CHILDREN rfl)))) (ej_one (ej_B (fn_all rfl) (by rfl) T.n_all boot_all (baj_cons (EJ.bj (NJ.ej (nj_lc (own0 := [("child", 2)]) rfl sc_fits_page.nd (IJ.b (ij_seq (ej_var 1 (pv 1)))) (blkOk_by (N := N_fits_page) (sc := defScope s_fits_page) (by decide +kernel)) (fun _ _ _ _ _ => (gj_nm (pg_name (i := 2) sc_fits_page.nd rfl (by first | exact .inl rfl | exact .inr rfl)))) (by decide) (by decide) (fun _ _ _ _ _ => (ej_call (k := 2) runF_len (ok_is_address T) (hr.mono (by decide : 2 ≤ 3)) (by rfl) T.g_is_address T.F_is_address.kp T.b_is_address takes0 (aj_cons (ej_var 2 (pv 2)) aj_nil)))))) baj_nil)))))))) ssj_nil) (ssj_one (sj_ret (ej_call (k := 1) runF_len (ok_is_number T) (hr.mono (by decide : 1 ≤ 3)) (by rfl) T.g_is_number T.F_is_number.kp T.b_is_number tk (aj_cons (ej_ix (EJ.bj (ej_var 0 (pv 0))) (EJ.bj ej_int)) aj_nil)))))))
theorem ok_address_row (T : Txt K mg) {P : Program} {w : World} {base : Heap} : FnOk P w K mg base (L2.CX P w) 1 T.a_address_row T.fd_address_row ["address"] (spT K mg (Mode.fz) 1 f_address_row) := by
  refine fn_ok (md := Mode.fz) (G := [Mode.fz]) T.F_address_row sc_address_row 1 1 rfl rfl rfl (fun ρ => .inl rfl) fun cdv A outer s H E hr => ⟨[], ?_⟩
  have tk : Takes (cxOf (L2.CX P w) P w K mg base N_address_row "address_row" (defScope s_address_row) T.a_address_row cdv A outer s H E) (WE1 E) := takes_of rfl rfl rfl rfl
  exact (ssj_cons (sj_if (tj_cmp cmp_is calm_is (nomark _) (EJ.bj (ej_var 0 (pv 0))) (EJ.bj ej_non)) (ssj_one (sj_ret (NJ.ej (nj_lst (aj_cons ej_int (aj_cons ej_int aj_nil)))))) ssj_nil) (ssj_one (sj_ret (NJ.ej (nj_lst (aj_cons (ej_ix (EJ.bj (ej_var 0 (pv 0))) (EJ.bj ej_int)) (aj_cons (ej_ix (EJ.bj (ej_var 0 (pv 0))) (EJ.bj ej_int)) aj_nil)))))))
theorem ok_place_row (T : Txt K mg) {P : Program} {w : World} {base : Heap} : FnOk P w K mg base (L2.CX P w) 1 T.a_place_row T.fd_place_row ["place"] (spT K mg (Mode.fz) 1 f_place_row) := by
  refine fn_ok (md := Mode.fz) (G := [Mode.fz]) T.F_place_row sc_place_row 1 1 rfl rfl rfl (fun ρ => .inl rfl) fun cdv A outer s H E hr => ⟨[], ?_⟩
  have tk : Takes (cxOf (L2.CX P w) P w K mg base N_place_row "place_row" (defScope s_place_row) T.a_place_row cdv A outer s H E) (WE1 E) := takes_of rfl rfl rfl rfl
  exact (ssj_cons (sj_if (tj_cmp cmp_is calm_is (nomark _) (EJ.bj (ej_var 0 (pv 0))) (EJ.bj ej_non)) (ssj_one (sj_ret (NJ.ej (nj_lst (aj_cons ej_int aj_nil))))) ssj_nil) (ssj_one (sj_ret (NJ.ej (nj_lst (aj_cons (ej_var 0 (pv 0)) aj_nil))))))
theorem ok_root_body (T : Txt K mg) {P : Program} {w : World} {base : Heap} : FnOk P w K mg base (L2.CX P w) 2 T.a_root_body T.fd_root_body ["root"] (spT K mg (Mode.fz) 1 f_root_body) := by
  refine fn_ok (md := Mode.fz) (G := [Mode.fz, Mode.fz, Mode.fz, Mode.fz, Mode.fz, Mode.fz, Mode.fz, Mode.fz, Mode.fz, Mode.fz, Mode.fz]) T.F_root_body sc_root_body 1 11 rfl rfl rfl (fun ρ => .inl rfl) fun cdv A outer s H E hr => ⟨[], ?_⟩
  have tk : Takes (cxOf (L2.CX P w) P w K mg base N_root_body "root_body" (defScope s_root_body) T.a_root_body cdv A outer s H E) (WE1 E) := takes_of rfl rfl rfl rfl
  exact (ssj_cons (sj_unp (ej_sl (EJ.bj (ej_var 0 (pv 0))) (oj_some (EJ.bj ej_int)) oj_none) (gj_tp rfl (gaj_cons (gj_nm (pg_name (i := 4) sc_root_body.nd rfl (by first | exact .inl rfl | exact .inr rfl))) (gaj_cons (gj_nm (pg_name (i := 5) sc_root_body.nd rfl (by first | exact .inl rfl | exact .inr rfl))) (gaj_cons (gj_nm (pg_name (i := 6) sc_root_body.nd rfl (by first | exact .inl rfl | exact .inr rfl))) (gaj_cons (gj_nm (pg_name (i := 7) sc_root_body.nd rfl (by first | exact .inl rfl | exact .inr rfl))) (gaj_cons (gj_nm (pg_name (i := 8) sc_root_body.nd rfl (by first | exact .inl rfl | exact .inr rfl))) (gaj_cons (gj_nm (pg_name (i := 9) sc_root_body.nd rfl (by first | exact .inl rfl | exact .inr rfl))) (gaj_cons (gj_nm (pg_name (i := 10) sc_root_body.nd rfl (by first | exact .inl rfl | exact .inr rfl))) gaj_nil)))))))) (by decide)) (ssj_cons (sj_setN (i := 1) sc_root_body.nd rfl (by first | exact .inl rfl | exact .inr rfl) (nj_bin bin_cat calm_cat (EJ.bj (ej_bin bin_add calm_add (EJ.bj (ej_call (k := 1) runF_len (ok_number_row T) (hr.mono (by decide : 1 ≤ 1)) (by rfl) T.g_number_row T.F_number_row.kp T.b_number_row tk (aj_cons (ej_var 4 (pv 4)) (aj_cons ej_int aj_nil)))) (EJ.bj (ej_call (k := 1) runF_len (ok_number_row T) (hr.mono (by decide : 1 ≤ 1)) (by rfl) T.g_number_row T.F_number_row.kp T.b_number_row tk (aj_cons (ej_var 5 (pv 5)) (aj_cons ej_int aj_nil)))))) (EJ.bj (ej_call (k := 1) runF_len (ok_address_row T) (hr.mono (by decide : 1 ≤ 1)) (by rfl) T.g_address_row T.F_address_row.kp T.b_address_row tk (aj_cons (ej_var 6 (pv 6)) aj_nil))))) (ssj_cons (sj_setN (i := 1) sc_root_body.nd rfl (by first | exact .inl rfl | exact .inr rfl) (nj_bin bin_cat calm_cat (EJ.bj (ej_bin bin_add calm_add (EJ.bj (ej_bin bin_add calm_add (bj_var 1 (pv 1)) (EJ.bj (NJ.ej (nj_lst (aj_cons (ej_B fn_len (by rfl) T.n_len PySem.boot_len (baj_cons (EJ.bj (ej_var 7 (pv 7))) baj_nil)) aj_nil)))))) (EJ.bj (NJ.ej (nj_Ty fn_list (by rfl) T.n_list PyProof.Rows.boot_list (baj_cons (EJ.bj (ej_var 7 (pv 7))) baj_nil)))))) (EJ.bj (NJ.ej (nj_lst (aj_cons (ej_B fn_len (by rfl) T.n_len PySem.boot_len (baj_cons (EJ.bj (ej_var 8 (pv 8))) baj_nil)) aj_nil)))))) (ssj_cons (sj_for (passes_of rfl) rfl (ij_seq (ej_var 8 (pv 8))) (gj_nm (pg_name (i := 2) sc_root_body.nd rfl (by first | exact .inl rfl | exact .inr rfl))) (by decide) (ssj_one (sj_ext (i := 1) (pv 1) rfl (ej_call (k := 1) runF_len (ok_place_row T) (hr.mono (by decide : 1 ≤ 1)) (by rfl) T.g_place_row T.F_place_row.kp T.b_place_row tk (aj_cons (ej_var 2 (pv 2)) aj_nil))))) (ssj_cons (sj_app (i := 1) (pv 1) rfl (ej_B fn_len (by rfl) T.n_len PySem.boot_len (baj_cons (EJ.bj (ej_var 9 (pv 9))) baj_nil))) (ssj_cons (sj_for (passes_of rfl) rfl (ij_seq (ej_var 9 (pv 9))) (gj_nm (pg_name (i := 3) sc_root_body.nd rfl (by first | exact .inl rfl | exact .inr rfl))) (by decide) (ssj_one (sj_ext (i := 1) (pv 1) rfl (ej_call (k := 1) runF_len (ok_number_row T) (hr.mono (by decide : 1 ≤ 1)) (by rfl) T.g_number_row T.F_number_row.kp T.b_number_row tk (aj_cons (ej_var 3 (pv 3)) (aj_cons ej_int aj_nil)))))) (ssj_one (sj_ret (ej_bin bin_add calm_add (EJ.bj (ej_bin bin_add calm_add (bj_var 1 (pv 1)) (EJ.bj (NJ.ej (nj_lst (aj_cons (ej_B fn_len (by rfl) T.n_len PySem.boot_len (baj_cons (EJ.bj (ej_var 10 (pv 10))) baj_nil)) aj_nil)))))) (EJ.bj (NJ.ej (nj_Ty fn_list (by rfl) T.n_list PyProof.Rows.boot_list (baj_cons (EJ.bj (ej_var 10 (pv 10))) baj_nil)))))))))))))
theorem ok_item_body (T : Txt K mg) {P : Program} {w : World} {base : Heap} : FnOk P w K mg base (L2.CX P w) 2 T.a_item_body T.fd_item_body ["item"] (spT K mg (Mode.fz) 1 f_item_body) := by
  refine fn_ok (md := Mode.fz) (G := [Mode.fz, Mode.fz, Mode.fz, Mode.fz, Mode.fz, Mode.fz, Mode.fz]) T.F_item_body sc_item_body 1 7 rfl rfl rfl (fun ρ => .inl rfl) fun cdv A outer s H E hr => ⟨[], ?_⟩
  have tk : Takes (cxOf (L2.CX P w) P w K mg base N_item_body "item_body" (defScope s_item_body) T.a_item_body cdv A outer s H E) (WE1 E) := takes_of rfl rfl rfl rfl
  exact (ssj_cons (sj_unp (ej_sl (EJ.bj (ej_var 0 (pv 0))) (oj_some (EJ.bj ej_int)) oj_none) (gj_tp rfl (gaj_cons (gj_nm (pg_name (i := 2) sc_item_body.nd rfl (by first | exact .inl rfl | exact .inr rfl))) (gaj_cons (gj_nm (pg_name (i := 3) sc_item_body.nd rfl (by first | exact .inl rfl | exact .inr rfl))) (gaj_cons (gj_nm (pg_name (i := 4) sc_item_body.nd rfl (by first | exact .inl rfl | exact .inr rfl))) (gaj_cons (gj_nm (pg_name (i := 5) sc_item_body.nd rfl (by first | exact .inl rfl | exact .inr rfl))) (gaj_cons (gj_nm (pg_name (i := 6) sc_item_body.nd rfl (by first | exact .inl rfl | exact .inr rfl))) gaj_nil)))))) (by decide)) (ssj_cons (sj_set (i := 1) sc_item_body.nd rfl (by first | exact .inl rfl | exact .inr rfl) (ej_bin bin_add calm_add (EJ.bj (ej_bin bin_add calm_add (EJ.bj (ej_bin bin_add calm_add (EJ.bj (ej_call (k := 1) runF_len (ok_number_row T) (hr.mono (by decide : 1 ≤ 1)) (by rfl) T.g_number_row T.F_number_row.kp T.b_number_row tk (aj_cons (ej_var 2 (pv 2)) (aj_cons ej_int aj_nil)))) (EJ.bj (ej_call (k := 1) runF_len (ok_number_row T) (hr.mono (by decide : 1 ≤ 1)) (by rfl) T.g_number_row T.F_number_row.kp T.b_number_row tk (aj_cons (ej_var 3 (pv 3)) (aj_cons ej_int aj_nil)))))) (EJ.bj (NJ.ej (nj_lst (aj_cons (ej_if (tj_tru (EJ.bj (ej_var 4 (pv 4)))) ej_int ej_int) aj_nil)))))) (EJ.bj (ej_call (k := 1) runF_len (ok_number_row T) (hr.mono (by decide : 1 ≤ 1)) (by rfl) T.g_number_row T.F_number_row.kp T.b_number_row tk (aj_cons (ej_var 5 (pv 5)) (aj_cons ej_int aj_nil)))))) (ssj_cons (sj_if (tj_cmp cmp_is calm_is (nomark _) (EJ.bj (ej_var 6 (pv 6))) (EJ.bj ej_non)) (ssj_one (sj_ret (ej_bin bin_add calm_add (EJ.bj (ej_var 1 (pv 1))) (EJ.bj (NJ.ej (nj_lst (aj_cons ej_int aj_nil))))))) ssj_nil) (ssj_one (sj_ret (ej_bin bin_add calm_add (EJ.bj (ej_bin bin_add calm_add (EJ.bj (ej_bin bin_add calm_add (EJ.bj (ej_var 1 (pv 1))) (EJ.bj (NJ.ej (nj_lst (aj_cons ej_int aj_nil)))))) (EJ.bj (ej_call (k := 1) runF_len (ok_number_row T) (hr.mono (by decide : 1 ≤ 1)) (by rfl) T.g_number_row T.F_number_row.kp T.b_number_row tk (aj_cons (ej_B fn_len (by rfl) T.n_len PySem.boot_len (baj_cons (EJ.bj (ej_var 6 (pv 6))) baj_nil)) (aj_cons ej_int aj_nil)))))) (EJ.bj (NJ.ej (nj_Ty fn_list (by rfl) T.n_list PyProof.Rows.boot_list (baj_cons (EJ.bj (ej_var 6 (pv 6))) baj_nil))))))))))
theorem ok_content_body (T : Txt K mg) {P : Program} {w : World} {base : Heap} : FnOk P w K mg base (L2.CX P w) 5 T.a_content_body T.fd_content_body ["content"] (spT K mg (Mode.fz) 1 f_content_body) := by
  refine fn_ok (md := Mode.fz) (G := [Mode.fz, Mode.fz, Mode.fz]) T.F_content_body sc_content_body 1 3 rfl rfl rfl (fun ρ => .inl rfl) fun cdv A outer s H E hr => ⟨[], ?_⟩
  have tk : Takes (cxOf (L2.CX P w) P w K mg base N_content_body "content_body" (defScope s_content_body) T.a_content_body cdv A outer s H E) (WE1 E) := takes_of rfl rfl rfl rfl
  exact (ssj_cons (sj_if (tj_not (tj_tru (EJ.bj (ej_call (k := 4) runF_len (ok_fits_page T) (hr.mono (by decide : 4 ≤ 4)) (by rfl) T.g_fits_page T.F_fits_page.kp T.b_fits_page tk (aj_cons (ej_var 0 (pv 0)) aj_nil))))) (ssj_one (sj_raiseA rfl tk T.y_InvalidContent T.x_InvalidContent (by rfl) (baj_cons (EJ.bj (ej_ix (EJ.bj (ej_var 0 (pv 0))) (EJ.bj ej_int))) baj_nil))) ssj_nil) (ssj_cons (sj_if (tj_cmp (cmp_eq hr.units) calm_eq (nomark _) (EJ.bj (ej_ix (EJ.bj (ej_var 0 (pv 0))) (EJ.bj ej_int))) (EJ.bj ej_str)) (ssj_one (sj_ret (ej_call (k := 2) runF_len (ok_root_body T) (hr.mono (by decide : 2 ≤ 4)) (by rfl) T.g_root_body T.F_root_body.kp T.b_root_body tk (aj_cons (ej_var 0 (pv 0)) aj_nil)))) ssj_nil) (ssj_cons (sj_if (tj_cmp (cmp_eq hr.units) calm_eq (nomark _) (EJ.bj (ej_ix (EJ.bj (ej_var 0 (pv 0))) (EJ.bj ej_int))) (EJ.bj ej_str)) (ssj_one (sj_ret (ej_call (k := 2) runF_len (ok_item_body T) (hr.mono (by decide : 2 ≤ 4)) (by rfl) T.g_item_body T.F_item_body.kp T.b_item_body tk (aj_cons (ej_var 0 (pv 0)) aj_nil)))) ssj_nil) (ssj_cons (sj_if (tj_cmp (cmp_eq hr.units) calm_eq (nomark _) (EJ.bj (ej_ix (EJ.bj (ej_var 0 (pv 0))) (EJ.bj ej_int))) (EJ.bj ej_str)) (ssj_cons (sj_setN (i := 1) sc_content_body.nd rfl (by first | exact .inl rfl | exact .inr rfl) (nj_lst (aj_cons (ej_ix (EJ.bj (ej_var 0 (pv 0))) (EJ.bj ej_int)) aj_nil))) (ssj_cons (sj_for (passes_of rfl) rfl (ij_seq (ej_ix (EJ.bj (ej_var 0 (pv 0))) (EJ.bj ej_int))) (gj_nm (pg_name (i := 2) sc_content_body.nd rfl (by first | exact .inl rfl | exact .inr rfl))) (by decide) (ssj_one (sj_ext (i := 1) (pv 1) rfl (ej_call (k := 1) runF_len (ok_address_row T) (hr.mono (by decide : 1 ≤ 4)) (by rfl) T.g_address_row T.F_address_row.kp T.b_address_row tk (aj_cons (ej_var 2 (pv 2)) aj_nil))))) (ssj_to (G2 := [Mode.fz, Mode.fz, Mode.fz]) (ssj_one (sj_ret (ej_var 1 (pv 1)))) (by rfl)))) ssj_nil) (ssj_one (sj_ret (ej_call (k := 1) runF_len (ok_number_row T) (hr.mono (by decide : 1 ≤ 4)) (by rfl) T.g_number_row T.F_number_row.kp T.b_number_row tk (aj_cons (ej_ix (EJ.bj (ej_var 0 (pv 0))) (EJ.bj ej_int)) (aj_cons ej_int aj_nil)))))))))
theorem ok__law_draws (T : Txt K mg) {P : Program} {w : World} {base : Heap} : FnOk P w K mg base (L2.CX P w) 1 T.a__law_draws T.fd__law_draws ["script", "count"] (spT K mg (Mode.fz) 2 f__law_draws) := by
  refine fn_ok (md := Mode.fz) (G := [Mode.fz, Mode.fz, Mode.fz, Mode.fz, Mode.fz]) T.F__law_draws sc__law_draws 2 5 rfl rfl rfl (fun ρ => .inl rfl) fun cdv A outer s H E hr => ⟨[], ?_⟩
  have tk : Takes (cxOf (L2.CX P w) P w K mg base N__law_draws "_law_draws" (defScope s__law_draws) T.a__law_draws cdv A outer s H E) (WE1 E) := takes_of rfl rfl rfl rfl
  exact (ssj_cons (sj_setN (i := 2) sc__law_draws.nd rfl (by first | exact .inl rfl | exact .inr rfl) (nj_lst aj_nil)) (ssj_cons (sj_for (passes_of rfl) rfl (ij_range1 (by rfl) T.n_range (aj_cons (ej_var 1 (pv 1)) aj_nil)) (gj_nm (pg_name (i := 3) sc__law_draws.nd rfl (by first | exact .inl rfl | exact .inr rfl))) (by decide) (ssj_cons (sj_set (i := 4) sc__law_draws.nd rfl (by first | exact .inl rfl | exact .inr rfl) ej_int) (ssj_cons (sj_if (tj_cmp cmp_gt calm_gt (nomark _) (EJ.bj (ej_B fn_len (by rfl) T.n_len PySem.boot_len (baj_cons (EJ.bj (ej_var 0 (pv 0))) baj_nil))) (EJ.bj ej_int)) (ssj_one (sj_set (i := 4) sc__law_draws.nd rfl (by first | exact .inl rfl | exact .inr rfl) (ej_Ty fn_int (by rfl) T.n_int PyProof.Rows.boot_int (baj_cons (EJ.bj (ej_ix (EJ.bj (ej_var 0 (pv 0))) (EJ.bj (ej_bin bin_mod calm_mod (EJ.bj (ej_var 3 (pv 3))) (EJ.bj (ej_B fn_len (by rfl) T.n_len PySem.boot_len (baj_cons (EJ.bj (ej_var 0 (pv 0))) baj_nil))))))) baj_nil)))) ssj_nil) (ssj_cons (sj_if (tj_cmp cmp_lt calm_lt (nomark _) (EJ.bj (ej_var 4 (pv 4))) (EJ.bj ej_int)) (ssj_one (sj_set (i := 4) sc__law_draws.nd rfl (by first | exact .inl rfl | exact .inr rfl) (ej_bin bin_sub calm_sub (EJ.bj ej_int) (EJ.bj (ej_bin bin_mul calm_mul (EJ.bj ej_int) (EJ.bj (ej_var 4 (pv 4)))))))) ssj_nil) (ssj_cons (sj_if (WJ.tj (wj_or (tj_cmp cmp_lt calm_lt (nomark _) (EJ.bj (ej_var 4 (pv 4))) (EJ.bj ej_int)) (wj_or1 (tj_cmp cmp_ge calm_ge (nomark _) (EJ.bj (ej_var 3 (pv 3))) (EJ.bj (ej_B fn_len (by rfl) T.n_len PySem.boot_len (baj_cons (EJ.bj (ej_var 0 (pv 0))) baj_nil))))))) (ssj_cons (sj_set (i := 4) sc__law_draws.nd rfl (by first | exact .inl rfl | exact .inr rfl) (ej_bin bin_mod calm_mod (EJ.bj (ej_Ty fn_int (by rfl) T.n_int PyProof.Rows.boot_int (baj_cons (EJ.bj (ej_bin bin_add calm_add (EJ.bj (ej_bin bin_mul calm_mul (EJ.bj (ej_var 4 (pv 4))) (EJ.bj ej_int))) (EJ.bj (ej_bin bin_mul calm_mul (EJ.bj ej_int) (EJ.bj (ej_bin bin_add calm_add (EJ.bj (ej_var 3 (pv 3))) (EJ.bj ej_int))))))) baj_nil))) (EJ.bj ej_int))) (ssj_one (sj_set (i := 4) sc__law_draws.nd rfl (by first | exact .inl rfl | exact .inr rfl) (ej_bin bin_mod calm_mod (EJ.bj (ej_Ty fn_int (by rfl) T.n_int PyProof.Rows.boot_int (baj_cons (EJ.bj (ej_bin bin_add calm_add (EJ.bj (ej_bin bin_add calm_add (EJ.bj (ej_bin bin_mul calm_mul (EJ.bj (ej_var 4 (pv 4))) (EJ.bj ej_int))) (EJ.bj ej_int))) (EJ.bj (ej_var 3 (pv 3))))) baj_nil))) (EJ.bj ej_int))))) ssj_nil) (ssj_one (sj_app (i := 2) (pv 2) rfl (ej_var 4 (pv 4))))))))) (ssj_to (G2 := [Mode.fz, Mode.fz, Mode.fz, Mode.fz, Mode.fz]) (ssj_one (sj_ret (ej_var 2 (pv 2)))) (by rfl))))
theorem ok__law_asks_first (T : Txt K mg) {P : Program} {w : World} {base : Heap} : FnOk P w K mg base (L2.CX P w) 3 T.a__law_asks_first T.fd__law_asks_first ["script"] (spT K mg (Mode.fz) 1 f__law_asks_first) := by
  refine fn_ok (md := Mode.fz) (G := [Mode.fz, Mode.fz, Mode.fz, Mode.fz, Mode.fz, Mode.fz, Mode.fz, Mode.fz, Mode.fz, Mode.fz]) T.F__law_asks_first sc__law_asks_first 1 10 rfl rfl rfl (fun ρ => .inl rfl) fun cdv A outer s H E hr => ⟨[], ?_⟩
  have tk : Takes (cxOf (L2.CX P w) P w K mg base N__law_asks_first "_law_asks_first" (defScope s__law_asks_first) T.a__law_asks_first cdv A outer s H E) (WE1 E) := takes_of rfl rfl rfl rfl
  exact (ssj_cons (sj_set (i := 1) sc__law_asks_first.nd rfl (by first | exact .inl rfl | exact .inr rfl) (ej_call (k := 1) runF_len (ok__law_draws T) (hr.mono (by decide : 1 ≤ 2)) (by rfl) T.g__law_draws T.F__law_draws.kp T.b__law_draws tk (aj_cons (ej_var 0 (pv 0)) (aj_cons ej_int aj_nil)))) (ssj_cons (sj_setN (i := 2) sc__law_asks_first.nd rfl (by first | exact .inl rfl | exact .inr rfl) (nj_bin bin_rep calm_rep (EJ.bj (NJ.ej (nj_lst (aj_cons ej_int aj_nil)))) (EJ.bj ej_int))) (ssj_cons (sj_if (tj_cmp (cmp_eq hr.units) calm_eq (nomark _) (EJ.bj (ej_bin bin_mod calm_mod (EJ.bj (ej_ix (EJ.bj (ej_var 1 (pv 1))) (EJ.bj ej_int))) (EJ.bj ej_int))) (EJ.bj ej_int)) (ssj_one (sj_setN (i := 2) sc__law_asks_first.nd rfl (by first | exact .inl rfl | exact .inr rfl) (nj_bin bin_rep calm_rep (EJ.bj (NJ.ej (nj_lst (aj_cons ej_int aj_nil)))) (EJ.bj ej_int)))) ssj_nil) (ssj_cons (sj_for (passes_of rfl) rfl (ij_seq (ej_sl (EJ.bj (ej_var 1 (pv 1))) (oj_some (EJ.bj ej_int)) (oj_some (EJ.bj (ej_bin bin_add calm_add (EJ.bj ej_int) (EJ.bj (ej_bin bin_mod calm_mod (EJ.bj (ej_ix (EJ.bj (ej_var 1 (pv 1))) (EJ.bj ej_int))) (EJ.bj ej_int)))))))) (gj_nm (pg_name (i := 3) sc__law_asks_first.nd rfl (by first | exact .inl rfl | exact .inr rfl))) (by decide) (ssj_one (sj_setI (i := 2) (pv 2) rfl (ej_bin bin_mod calm_mod (EJ.bj (ej_bin bin_div calm_div (EJ.bj (ej_var 3 (pv 3))) (EJ.bj ej_int))) (EJ.bj ej_int)) (EJ.bj (ej_bin bin_mod calm_mod (EJ.bj (ej_var 3 (pv 3))) (EJ.bj ej_int))) (fun a b => pg_sub a b set_list)))) (ssj_cons (sj_if (tj_cmp (cmp_eq hr.units) calm_eq (nomark _) (EJ.bj (ej_bin bin_mod calm_mod (EJ.bj (ej_ix (EJ.bj (ej_var 1 (pv 1))) (EJ.bj ej_int))) (EJ.bj ej_int))) (EJ.bj ej_int)) (ssj_one (sj_lcN (i := 2) (lcj (own0 := [("k", 7)]) rfl sc__law_asks_first.nd rfl rfl (sw_true rfl rfl rfl (by decide +kernel)) (IJ.b (ij_range1 (by rfl) T.n_range (aj_cons ej_int aj_nil))) (blkOk_by (N := N__law_asks_first) (sc := defScope s__law_asks_first) (by decide +kernel)) (fun _ _ _ _ _ => (gj_nm (pg_name (i := 7) sc__law_asks_first.nd rfl (by first | exact .inl rfl | exact .inr rfl)))) (by decide) (by decide) (fun _ _ _ _ _ => (ej_bin bin_mod calm_mod (EJ.bj (ej_Ty fn_int (by rfl) T.n_int PyProof.Rows.boot_int (baj_cons (EJ.bj (ej_bin bin_add calm_add (EJ.bj (ej_bin bin_div calm_div (EJ.bj (ej_ix (EJ.bj (ej_var 1 (pv 1))) (EJ.bj ej_int))) (EJ.bj (ej_bin bin_add calm_add (EJ.bj (ej_var 7 (pv 7))) (EJ.bj ej_int))))) (EJ.bj (ej_bin bin_mul calm_mul (EJ.bj ej_int) (EJ.bj (ej_var 7 (pv 7))))))) baj_nil))) (EJ.bj ej_int)))))) ssj_nil) (ssj_cons (sj_set (i := 4) sc__law_asks_first.nd rfl (by first | exact .inl rfl | exact .inr rfl) (ej_bin bin_add calm_add (EJ.bj (NJ.ej (nj_lst (aj_cons (ej_ix (bj_var 2 (pv 2)) (EJ.bj ej_int)) aj_nil)))) (EJ.bj (ej_sl (bj_var 2 (pv 2)) (oj_some (EJ.bj ej_int)) oj_none)))) (ssj_cons (sj_set (i := 5) sc__law_asks_first.nd rfl (by first | exact .inl rfl | exact .inr rfl) ej_int) (ssj_cons (sj_set (i := 6) sc__law_asks_first.nd rfl (by first | exact .inl rfl | exact .inr rfl) ej_int) (ssj_cons (sj_for (passes_of rfl) rfl (ij_range1 (by rfl) T.n_range (aj_cons ej_int aj_nil)) (gj_nm (pg_name (i := 7) sc__law_asks_first.nd rfl (by first | exact .inl rfl | exact .inr rfl))) (by decide) (ssj_cons (sj_set (i := 5) sc__law_asks_first.nd rfl (by first | exact .inl rfl | exact .inr rfl) (ej_bin bin_add calm_add (EJ.bj (ej_var 5 (pv 5))) (EJ.bj (ej_ix (EJ.bj (ej_var 4 (pv 4))) (EJ.bj (ej_var 7 (pv 7))))))) (ssj_one (sj_set (i := 6) sc__law_asks_first.nd rfl (by first | exact .inl rfl | exact .inr rfl) (ej_bin bin_add calm_add (EJ.bj (ej_var 6 (pv 6))) (EJ.bj (ej_bin bin_mul calm_mul (EJ.bj (ej_ix (EJ.bj (ej_var 4 (pv 4))) (EJ.bj (ej_var 7 (pv 7))))) (EJ.bj (ej_bin bin_sub calm_sub (EJ.bj ej_int) (EJ.bj (ej_var 7 (pv 7)))))))))))) (ssj_cons (sj_set (i := 8) sc__law_asks_first.nd rfl (by first | exact .inl rfl | exact .inr rfl) (ej_bin bin_add calm_add (EJ.bj (NJ.ej (nj_lst (aj_cons (ej_ix (bj_var 2 (pv 2)) (EJ.bj ej_int)) (aj_cons (ej_bin bin_mod calm_mod (EJ.bj (ej_ix (EJ.bj (ej_var 1 (pv 1))) (EJ.bj ej_int))) (EJ.bj ej_int)) (aj_cons (ej_bin bin_mod calm_mod (EJ.bj (ej_ix (EJ.bj (ej_var 1 (pv 1))) (EJ.bj ej_int))) (EJ.bj ej_int)) (aj_cons (ej_bin bin_mod calm_mod (EJ.bj (ej_ix (EJ.bj (ej_var 1 (pv 1))) (EJ.bj ej_int))) (EJ.bj ej_int)) (aj_cons (ej_bin bin_mod calm_mod (EJ.bj (ej_ix (EJ.bj (ej_var 1 (pv 1))) (EJ.bj ej_int))) (EJ.bj ej_int)) aj_nil)))))))) (EJ.bj (ej_sl (bj_var 2 (pv 2)) (oj_some (EJ.bj ej_int)) oj_none)))) (ssj_cons (sj_set (i := 9) sc__law_asks_first.nd rfl (by first | exact .inl rfl | exact .inr rfl) (ej_tup (aj_cons (ej_bin bin_mod calm_mod (EJ.bj (ej_Ty fn_int (by rfl) T.n_int PyProof.Rows.boot_int (baj_cons (EJ.bj (ej_var 5 (pv 5))) baj_nil))) (EJ.bj ej_int)) (aj_cons (ej_bin bin_mod calm_mod (EJ.bj (ej_Ty fn_int (by rfl) T.n_int PyProof.Rows.boot_int (baj_cons (EJ.bj (ej_var 6 (pv 6))) baj_nil))) (EJ.bj ej_int)) aj_nil)))) (ssj_one (sj_ret (ej_andV (EJ.bj (ej_cmp (cmp_eq hr.units) calm_eq (nomark _) (EJ.bj (ej_call (k := 2) runF_len (ok_page_sums T) (hr.mono (by decide : 2 ≤ 2)) (by rfl) T.g_page_sums T.F_page_sums.kp T.b_page_sums tk (aj_cons (ej_sl (bj_var 2 (pv 2)) oj_none oj_none) aj_nil))) (EJ.bj (ej_var 9 (pv 9))))) (ej_one (ej_cmp (cmp_eq hr.units) calm_eq (nomark _) (EJ.bj (ej_call (k := 2) runF_len (ok_page_sums T) (hr.mono (by decide : 2 ≤ 2)) (by rfl) T.g_page_sums T.F_page_sums.kp T.b_page_sums tk (aj_cons (ej_var 8 (pv 8)) aj_nil))) (EJ.bj (ej_var 9 (pv 9)))))))))))))))))))
theorem ok__law_number (T : Txt K mg) {P : Program} {w : World} {base : Heap} : FnOk P w K mg base (L2.CX P w) 1 T.a__law_number T.fd__law_number ["draw"] (spT K mg (Mode.fz) 1 f__law_number) := by
  refine fn_ok (md := Mode.fz) (G := [Mode.fz]) T.F__law_number sc__law_number 1 1 rfl rfl rfl (fun ρ => .inl rfl) fun cdv A outer s H E hr => ⟨[], ?_⟩
  have tk : Takes (cxOf (L2.CX P w) P w K mg base N__law_number "_law_number" (defScope s__law_number) T.a__law_number cdv A outer s H E) (WE1 E) := takes_of rfl rfl rfl rfl
  exact (ssj_cons (sj_if (tj_cmp (cmp_eq hr.units) calm_eq (nomark _) (EJ.bj (ej_bin bin_mod calm_mod (EJ.bj (ej_var 0 (pv 0))) (EJ.bj ej_int))) (EJ.bj ej_int)) (ssj_one (sj_ret (ej_bin bin_sub calm_sub (EJ.bj ej_int) (EJ.bj (ej_bin bin_mod calm_mod (EJ.bj (ej_bin bin_div calm_div (EJ.bj (ej_var 0 (pv 0))) (EJ.bj ej_int))) (EJ.bj ej_int)))))) ssj_nil) (ssj_one (sj_ret (ej_bin bin_mod calm_mod (EJ.bj (ej_bin bin_div calm_div (EJ.bj (ej_var 0 (pv 0))) (EJ.bj ej_int))) (EJ.bj ej_int)))))
theorem ok__law_address (T : Txt K mg) {P : Program} {w : World} {base : Heap} : FnOk P w K mg base (L2.CX P w) 1 T.a__law_address T.fd__law_address ["draw"] (spT K mg (Mode.fz) 1 f__law_address) := by
  refine fn_ok (md := Mode.fz) (G := [Mode.fz]) T.F__law_address sc__law_address 1 1 rfl rfl rfl (fun ρ => .inl rfl) fun cdv A outer s H E hr => ⟨[], ?_⟩
  have tk : Takes (cxOf (L2.CX P w) P w K mg base N__law_address "_law_address" (defScope s__law_address) T.a__law_address cdv A outer s H E) (WE1 E) := takes_of rfl rfl rfl rfl
  exact (ssj_cons (sj_if (tj_cmp (cmp_eq hr.units) calm_eq (nomark _) (EJ.bj (ej_bin bin_mod calm_mod (EJ.bj (ej_var 0 (pv 0))) (EJ.bj ej_int))) (EJ.bj ej_int)) (ssj_one (sj_ret ej_non)) ssj_nil) (ssj_one (sj_ret (ej_tup (aj_cons (ej_bin bin_mod calm_mod (EJ.bj (ej_bin bin_div calm_div (EJ.bj (ej_var 0 (pv 0))) (EJ.bj ej_int))) (EJ.bj ej_int)) (aj_cons (ej_bin bin_mod calm_mod (EJ.bj (ej_bin bin_div calm_div (EJ.bj (ej_var 0 (pv 0))) (EJ.bj ej_int))) (EJ.bj ej_int)) aj_nil))))))
theorem ok__law_place (T : Txt K mg) {P : Program} {w : World} {base : Heap} : FnOk P w K mg base (L2.CX P w) 1 T.a__law_place T.fd__law_place ["draw"] (spT K mg (Mode.fz) 1 f__law_place) := by
  refine fn_ok (md := Mode.fz) (G := [Mode.fz]) T.F__law_place sc__law_place 1 1 rfl rfl rfl (fun ρ => .inl rfl) fun cdv A outer s H E hr => ⟨[], ?_⟩
  have tk : Takes (cxOf (L2.CX P w) P w K mg base N__law_place "_law_place" (defScope s__law_place) T.a__law_place cdv A outer s H E) (WE1 E) := takes_of rfl rfl rfl rfl
  exact (ssj_cons (sj_if (tj_cmp (cmp_eq hr.units) calm_eq (nomark _) (EJ.bj (ej_bin bin_mod calm_mod (EJ.bj (ej_var 0 (pv 0))) (EJ.bj ej_int))) (EJ.bj ej_int)) (ssj_one (sj_ret ej_non)) ssj_nil) (ssj_one (sj_ret (ej_bin bin_mod calm_mod (EJ.bj (ej_bin bin_div calm_div (EJ.bj (ej_var 0 (pv 0))) (EJ.bj ej_int))) (EJ.bj ej_int)))))
theorem ok__law_count (T : Txt K mg) {P : Program} {w : World} {base : Heap} : FnOk P w K mg base (L2.CX P w) 1 T.a__law_count T.fd__law_count ["draw"] (spT K mg (Mode.fz) 1 f__law_count) := by
  refine fn_ok (md := Mode.fz) (G := [Mode.fz]) T.F__law_count sc__law_count 1 1 rfl rfl rfl (fun ρ => .inl rfl) fun cdv A outer s H E hr => ⟨[], ?_⟩
  have tk : Takes (cxOf (L2.CX P w) P w K mg base N__law_count "_law_count" (defScope s__law_count) T.a__law_count cdv A outer s H E) (WE1 E) := takes_of rfl rfl rfl rfl
  exact (ssj_cons (sj_if (tj_cmp (cmp_eq hr.units) calm_eq (nomark _) (EJ.bj (ej_bin bin_mod calm_mod (EJ.bj (ej_var 0 (pv 0))) (EJ.bj ej_int))) (EJ.bj ej_int)) (ssj_one (sj_ret (ej_bin bin_add calm_add (EJ.bj ej_int) (EJ.bj (ej_bin bin_mod calm_mod (EJ.bj (ej_bin bin_div calm_div (EJ.bj (ej_var 0 (pv 0))) (EJ.bj ej_int))) (EJ.bj ej_int)))))) ssj_nil) (ssj_one (sj_ret (ej_bin bin_mod calm_mod (EJ.bj (ej_bin bin_div calm_div (EJ.bj (ej_var 0 (pv 0))) (EJ.bj ej_int))) (EJ.bj ej_int)))))
theorem ok__law_octets (T : Txt K mg) {P : Program} {w : World} {base : Heap} : FnOk P w K mg base (L2.CX P w) 1 T.a__law_octets T.fd__law_octets ["draw", "count"] (spT K mg (Mode.fz) 2 f__law_octets) := by
  refine fn_ok (md := Mode.fz) (G := [Mode.fz, Mode.fz, Mode.fz]) T.F__law_octets sc__law_octets 2 3 rfl rfl rfl (fun ρ => .inl rfl) fun cdv A outer s H E hr => ⟨[], ?_⟩
  have tk : Takes (cxOf (L2.CX P w) P w K mg base N__law_octets "_law_octets" (defScope s__law_octets) T.a__law_octets cdv A outer s H E) (WE1 E) := takes_of rfl rfl rfl rfl
  exact (ssj_one (sj_ret (ej_Ty fn_tuple (by rfl) T.n_tuple PyProof.Rows.boot_tuple (baj_cons (EJ.bj (NJ.ej (nj_lc (own0 := [("k", 2)]) rfl sc__law_octets.nd (IJ.b (ij_range1 (by rfl) T.n_range (aj_cons (ej_var 1 (pv 1)) aj_nil))) (blkOk_by (N := N__law_octets) (sc := defScope s__law_octets) (by decide +kernel)) (fun _ _ _ _ _ => (gj_nm (pg_name (i := 2) sc__law_octets.nd rfl (by first | exact .inl rfl | exact .inr rfl)))) (by decide) (by decide) (fun _ _ _ _ _ => (ej_bin bin_mod calm_mod (EJ.bj (ej_Ty fn_int (by rfl) T.n_int PyProof.Rows.boot_int (baj_cons (EJ.bj (ej_bin bin_add calm_add (EJ.bj (ej_bin bin_div calm_div (EJ.bj (ej_var 0 (pv 0))) (EJ.bj (ej_bin bin_add calm_add (EJ.bj (ej_var 2 (pv 2))) (EJ.bj ej_int))))) (EJ.bj (ej_bin bin_mul calm_mul (EJ.bj (ej_bin bin_mul calm_mul (EJ.bj ej_int) (EJ.bj (ej_var 2 (pv 2))))) (EJ.bj (ej_bin bin_mod calm_mod (EJ.bj (ej_var 0 (pv 0))) (EJ.bj ej_int))))))) baj_nil))) (EJ.bj ej_int)))))) baj_nil))))
theorem ok__law_content (T : Txt K mg) {P : Program} {w : World} {base : Heap} : FnOk P w K mg base (L2.CX P w) 2 T.a__law_content T.fd__law_content ["draw", "other"] (spT K mg (Mode.fz) 2 f__law_content) := by
  refine fn_ok (md := Mode.fz) (G := [Mode.fz, Mode.fz, Mode.fz, Mode.fz, Mode.fz, Mode.fz, Mode.fz, Mode.fz, Mode.fz, Mode.fz, Mode.fz]) T.F__law_content sc__law_content 2 11 rfl rfl rfl (fun ρ => .inl rfl) fun cdv A outer s H E hr => ⟨[], ?_⟩
  have tk : Takes (cxOf (L2.CX P w) P w K mg base N__law_content "_law_content" (defScope s__law_content) T.a__law_content cdv A outer s H E) (WE1 E) := takes_of rfl rfl rfl rfl
  exact (ssj_cons (sj_set (i := 2) sc__law_content.nd rfl (by first | exact .inl rfl | exact .inr rfl) (ej_bin bin_mod calm_mod (EJ.bj (ej_var 0 (pv 0))) (EJ.bj ej_int))) (ssj_cons (sj_if (tj_cmp (cmp_eq hr.units) calm_eq (nomark _) (EJ.bj (ej_var 2 (pv 2))) (EJ.bj ej_int)) (ssj_one (sj_ret (ej_tup (aj_cons ej_str (aj_cons (ej_call (k := 1) runF_len (ok__law_number T) (hr.mono (by decide : 1 ≤ 1)) (by rfl) T.g__law_number T.F__law_number.kp T.b__law_number tk (aj_cons (ej_bin bin_div calm_div (EJ.bj (ej_var 0 (pv 0))) (EJ.bj ej_int)) aj_nil)) aj_nil))))) ssj_nil) (ssj_cons (sj_if (tj_cmp (cmp_eq hr.units) calm_eq (nomark _) (EJ.bj (ej_var 2 (pv 2))) (EJ.bj ej_int)) (ssj_cons (sj_lc (i := 7) (lcj (own0 := [("k", 10)]) rfl sc__law_content.nd rfl rfl (sw_true rfl rfl rfl (by decide +kernel)) (IJ.b (ij_range1 (by rfl) T.n_range (aj_cons ej_int aj_nil))) (blkOk_by (N := N__law_content) (sc := defScope s__law_content) (by decide +kernel)) (fun _ _ _ _ _ => (gj_nm (pg_name (i := 10) sc__law_content.nd rfl (by first | exact .inl rfl | exact .inr rfl)))) (by decide) (by decide) (fun _ _ _ _ _ => (ej_call (k := 1) runF_len (ok__law_address T) (hr.mono (by decide : 1 ≤ 1)) (by rfl) T.g__law_address T.F__law_address.kp T.b__law_address takes0 (aj_cons (ej_bin bin_add calm_add (EJ.bj (ej_bin bin_div calm_div (EJ.bj (ej_var 1 (pv 1))) (EJ.bj (ej_bin bin_add calm_add (EJ.bj (ej_var 10 (pv 10))) (EJ.bj ej_int))))) (EJ.bj (ej_bin bin_mul calm_mul (EJ.bj (ej_var 10 (pv 10))) (EJ.bj (ej_bin bin_div calm_div (EJ.bj (ej_var 0 (pv 0))) (EJ.bj ej_int)))))) aj_nil))))) (ssj_one (sj_ret (ej_tup (aj_cons ej_str (aj_cons (ej_bin bin_mod calm_mod (EJ.bj (ej_bin bin_div calm_div (EJ.bj (ej_var 0 (pv 0))) (EJ.bj ej_int))) (EJ.bj ej_int)) (aj_cons (ej_Ty fn_tuple (by rfl) T.n_tuple PyProof.Rows.boot_tuple (baj_cons (EJ.bj (ej_var 7 (pv 7))) baj_nil)) aj_nil))))))) ssj_nil) (ssj_cons (sj_if (tj_cmp (cmp_eq hr.units) calm_eq (nomark _) (EJ.bj (ej_var 2 (pv 2))) (EJ.bj ej_int)) (ssj_cons (sj_set (i := 8) sc__law_content.nd rfl (by first | exact .inl rfl | exact .inr rfl) ej_non) (ssj_cons (sj_if (tj_cmp cmp_gt calm_gt (nomark _) (EJ.bj (ej_bin bin_mod calm_mod (EJ.bj (ej_var 1 (pv 1))) (EJ.bj ej_int))) (EJ.bj ej_int)) (ssj_one (sj_set (i := 8) sc__law_content.nd rfl (by first | exact .inl rfl | exact .inr rfl) (ej_call (k := 1) runF_len (ok__law_octets T) (hr.mono (by decide : 1 ≤ 1)) (by rfl) T.g__law_octets T.F__law_octets.kp T.b__law_octets tk (aj_cons (ej_bin bin_div calm_div (EJ.bj (ej_var 1 (pv 1))) (EJ.bj ej_int)) (aj_cons (ej_if (tj_cmp (cmp_eq hr.units) calm_eq (nomark _) (EJ.bj (ej_bin bin_mod calm_mod (EJ.bj (ej_var 1 (pv 1))) (EJ.bj ej_int))) (EJ.bj ej_int)) (ej_bin bin_add calm_add (EJ.bj ej_int) (EJ.bj (ej_bin bin_mod calm_mod (EJ.bj (ej_bin bin_div calm_div (EJ.bj (ej_var 1 (pv 1))) (EJ.bj ej_int))) (EJ.bj ej_int)))) (ej_bin bin_mod calm_mod (EJ.bj (ej_bin bin_div calm_div (EJ.bj (ej_var 1 (pv 1))) (EJ.bj ej_int))) (EJ.bj ej_int))) aj_nil))))) ssj_nil) (ssj_cons (sj_set (i := 9) sc__law_content.nd rfl (by first | exact .inl rfl | exact .inr rfl) (ej_cmp (cmp_eq hr.units) calm_eq (nomark _) (EJ.bj (ej_bin bin_mod calm_mod (EJ.bj (ej_bin bin_div calm_div (EJ.bj (ej_var 0 (pv 0))) (EJ.bj ej_int))) (EJ.bj ej_int))) (EJ.bj ej_int))) (ssj_one (sj_ret (ej_tup (aj_cons ej_str (aj_cons (ej_call (k := 1) runF_len (ok__law_number T) (hr.mono (by decide : 1 ≤ 1)) (by rfl) T.g__law_number T.F__law_number.kp T.b__law_number tk (aj_cons (ej_bin bin_div calm_div (EJ.bj (ej_var 0 (pv 0))) (EJ.bj ej_int)) aj_nil)) (aj_cons (ej_call (k := 1) runF_len (ok__law_number T) (hr.mono (by decide : 1 ≤ 1)) (by rfl) T.g__law_number T.F__law_number.kp T.b__law_number tk (aj_cons (ej_bin bin_div calm_div (EJ.bj (ej_var 1 (pv 1))) (EJ.bj ej_int)) aj_nil)) (aj_cons (ej_var 9 (pv 9)) (aj_cons (ej_call (k := 1) runF_len (ok__law_number T) (hr.mono (by decide : 1 ≤ 1)) (by rfl) T.g__law_number T.F__law_number.kp T.b__law_number tk (aj_cons (ej_bin bin_div calm_div (EJ.bj (ej_var 0 (pv 0))) (EJ.bj ej_int)) aj_nil)) (aj_cons (ej_var 8 (pv 8)) aj_nil)))))))))))) ssj_nil) (ssj_cons (sj_set (i := 3) sc__law_content.nd rfl (by first | exact .inl rfl | exact .inr rfl) (ej_Ty fn_tuple (by rfl) T.n_tuple PyProof.Rows.boot_tuple (baj_cons (EJ.bj (NJ.ej (nj_lc (own0 := [("k", 10)]) rfl sc__law_content.nd (IJ.b (ij_range1 (by rfl) T.n_range (aj_cons (ej_call (k := 1) runF_len (ok__law_count T) (hr.mono (by decide : 1 ≤ 1)) (by rfl) T.g__law_count T.F__law_count.kp T.b__law_count tk (aj_cons (ej_bin bin_div calm_div (EJ.bj (ej_var 0 (pv 0))) (EJ.bj ej_int)) aj_nil)) aj_nil))) (blkOk_by (N := N__law_content) (sc := defScope s__law_content) (by decide +kernel)) (fun _ _ _ _ _ => (gj_nm (pg_name (i := 10) sc__law_content.nd rfl (by first | exact .inl rfl | exact .inr rfl)))) (by decide) (by decide) (fun _ _ _ _ _ => (ej_bin bin_mod calm_mod (EJ.bj (ej_Ty fn_int (by rfl) T.n_int PyProof.Rows.boot_int (baj_cons (EJ.bj (ej_bin bin_div calm_div (EJ.bj (ej_var 0 (pv 0))) (EJ.bj (ej_bin bin_add calm_add (EJ.bj (ej_var 10 (pv 10))) (EJ.bj ej_int))))) baj_nil))) (EJ.bj ej_int)))))) baj_nil))) (ssj_cons (sj_set (i := 4) sc__law_content.nd rfl (by first | exact .inl rfl | exact .inr rfl) (ej_Ty fn_tuple (by rfl) T.n_tuple PyProof.Rows.boot_tuple (baj_cons (EJ.bj (NJ.ej (nj_lc (own0 := [("k", 10)]) rfl sc__law_content.nd (IJ.b (ij_range1 (by rfl) T.n_range (aj_cons (ej_call (k := 1) runF_len (ok__law_count T) (hr.mono (by decide : 1 ≤ 1)) (by rfl) T.g__law_count T.F__law_count.kp T.b__law_count tk (aj_cons (ej_bin bin_div calm_div (EJ.bj (ej_var 1 (pv 1))) (EJ.bj ej_int)) aj_nil)) aj_nil))) (blkOk_by (N := N__law_content) (sc := defScope s__law_content) (by decide +kernel)) (fun _ _ _ _ _ => (gj_nm (pg_name (i := 10) sc__law_content.nd rfl (by first | exact .inl rfl | exact .inr rfl)))) (by decide) (by decide) (fun _ _ _ _ _ => (ej_call (k := 1) runF_len (ok__law_place T) (hr.mono (by decide : 1 ≤ 1)) (by rfl) T.g__law_place T.F__law_place.kp T.b__law_place takes0 (aj_cons (ej_bin bin_add calm_add (EJ.bj (ej_bin bin_div calm_div (EJ.bj (ej_var 1 (pv 1))) (EJ.bj (ej_bin bin_add calm_add (EJ.bj (ej_var 10 (pv 10))) (EJ.bj ej_int))))) (EJ.bj (ej_var 10 (pv 10)))) aj_nil)))))) baj_nil))) (ssj_cons (sj_set (i := 5) sc__law_content.nd rfl (by first | exact .inl rfl | exact .inr rfl) (ej_Ty fn_tuple (by rfl) T.n_tuple PyProof.Rows.boot_tuple (baj_cons (EJ.bj (NJ.ej (nj_lc (own0 := [("k", 10)]) rfl sc__law_content.nd (IJ.b (ij_range1 (by rfl) T.n_range (aj_cons (ej_call (k := 1) runF_len (ok__law_count T) (hr.mono (by decide : 1 ≤ 1)) (by rfl) T.g__law_count T.F__law_count.kp T.b__law_count tk (aj_cons (ej_bin bin_div calm_div (EJ.bj (ej_var 0 (pv 0))) (EJ.bj ej_int)) aj_nil)) aj_nil))) (blkOk_by (N := N__law_content) (sc := defScope s__law_content) (by decide +kernel)) (fun _ _ _ _ _ => (gj_nm (pg_name (i := 10) sc__law_content.nd rfl (by first | exact .inl rfl | exact .inr rfl)))) (by decide) (by decide) (fun _ _ _ _ _ => (ej_call (k := 1) runF_len (ok__law_number T) (hr.mono (by decide : 1 ≤ 1)) (by rfl) T.g__law_number T.F__law_number.kp T.b__law_number takes0 (aj_cons (ej_bin bin_add calm_add (EJ.bj (ej_bin bin_div calm_div (EJ.bj (ej_var 1 (pv 1))) (EJ.bj (ej_bin bin_add calm_add (EJ.bj (ej_var 10 (pv 10))) (EJ.bj ej_int))))) (EJ.bj (ej_var 10 (pv 10)))) aj_nil)))))) baj_nil))) (ssj_cons (sj_set (i := 6) sc__law_content.nd rfl (by first | exact .inl rfl | exact .inr rfl) (ej_Ty fn_tuple (by rfl) T.n_tuple PyProof.Rows.boot_tuple (baj_cons (EJ.bj (NJ.ej (nj_lc (own0 := [("k", 10)]) rfl sc__law_content.nd (IJ.b (ij_range1 (by rfl) T.n_range (aj_cons (ej_call (k := 1) runF_len (ok__law_count T) (hr.mono (by decide : 1 ≤ 1)) (by rfl) T.g__law_count T.F__law_count.kp T.b__law_count tk (aj_cons (ej_bin bin_div calm_div (EJ.bj (ej_var 1 (pv 1))) (EJ.bj ej_int)) aj_nil)) aj_nil))) (blkOk_by (N := N__law_content) (sc := defScope s__law_content) (by decide +kernel)) (fun _ _ _ _ _ => (gj_nm (pg_name (i := 10) sc__law_content.nd rfl (by first | exact .inl rfl | exact .inr rfl)))) (by decide) (by decide) (fun _ _ _ _ _ => (ej_bin bin_mod calm_mod (EJ.bj (ej_Ty fn_int (by rfl) T.n_int PyProof.Rows.boot_int (baj_cons (EJ.bj (ej_bin bin_div calm_div (EJ.bj (ej_var 1 (pv 1))) (EJ.bj (ej_bin bin_add calm_add (EJ.bj (ej_var 10 (pv 10))) (EJ.bj ej_int))))) baj_nil))) (EJ.bj ej_int)))))) baj_nil))) (ssj_one (sj_ret (ej_tup (aj_cons ej_str (aj_cons (ej_call (k := 1) runF_len (ok__law_number T) (hr.mono (by decide : 1 ≤ 1)) (by rfl) T.g__law_number T.F__law_number.kp T.b__law_number tk (aj_cons (ej_bin bin_div calm_div (EJ.bj (ej_var 0 (pv 0))) (EJ.bj ej_int)) aj_nil)) (aj_cons (ej_call (k := 1) runF_len (ok__law_number T) (hr.mono (by decide : 1 ≤ 1)) (by rfl) T.g__law_number T.F__law_number.kp T.b__law_number tk (aj_cons (ej_bin bin_div calm_div (EJ.bj (ej_var 1 (pv 1))) (EJ.bj ej_int)) aj_nil)) (aj_cons (ej_call (k := 1) runF_len (ok__law_address T) (hr.mono (by decide : 1 ≤ 1)) (by rfl) T.g__law_address T.F__law_address.kp T.b__law_address tk (aj_cons (ej_bin bin_div calm_div (EJ.bj (ej_var 0 (pv 0))) (EJ.bj ej_int)) aj_nil)) (aj_cons (ej_var 3 (pv 3)) (aj_cons (ej_var 4 (pv 4)) (aj_cons (ej_var 5 (pv 5)) (aj_cons (ej_var 6 (pv 6)) aj_nil)))))))))))))))))))
theorem ok__law_changed (T : Txt K mg) {P : Program} {w : World} {base : Heap} : FnOk P w K mg base (L2.CX P w) 1 T.a__law_changed T.fd__law_changed ["content", "draw"] (spT K mg (Mode.fz) 2 f__law_changed) := by
  refine fn_ok (md := Mode.fz) (G := [Mode.fz, Mode.fz, Mode.fz, Mode.fz, Mode.fz, Mode.fz, Mode.fz, Mode.fz]) T.F__law_changed sc__law_changed 2 8 rfl rfl rfl (fun ρ => .inl rfl) fun cdv A outer s H E hr => ⟨[], ?_⟩
  have tk : Takes (cxOf (L2.CX P w) P w K mg base N__law_changed "_law_changed" (defScope s__law_changed) T.a__law_changed cdv A outer s H E) (WE1 E) := takes_of rfl rfl rfl rfl
  exact (ssj_cons (sj_set (i := 2) sc__law_changed.nd rfl (by first | exact .inl rfl | exact .inr rfl) (ej_bin bin_mod calm_mod (EJ.bj (ej_var 1 (pv 1))) (EJ.bj ej_int))) (ssj_cons (sj_set (i := 3) sc__law_changed.nd rfl (by first | exact .inl rfl | exact .inr rfl) (ej_bin bin_add calm_add (EJ.bj ej_int) (EJ.bj (ej_var 2 (pv 2))))) (ssj_cons (sj_if (tj_cmp (cmp_eq hr.units) calm_eq (nomark _) (EJ.bj (ej_ix (EJ.bj (ej_var 0 (pv 0))) (EJ.bj ej_int))) (EJ.bj ej_str)) (ssj_one (sj_ret (ej_tup (aj_cons ej_str (aj_cons (ej_var 3 (pv 3)) aj_nil))))) ssj_nil) (ssj_cons (sj_if (tj_cmp (cmp_eq hr.units) calm_eq (nomark _) (EJ.bj (ej_ix (EJ.bj (ej_var 0 (pv 0))) (EJ.bj ej_int))) (EJ.bj ej_str)) (ssj_cons (sj_set (i := 5) sc__law_changed.nd rfl (by first | exact .inl rfl | exact .inr rfl) (ej_bin bin_mod calm_mod (EJ.bj (ej_bin bin_div calm_div (EJ.bj (ej_var 1 (pv 1))) (EJ.bj ej_int))) (EJ.bj ej_int))) (ssj_cons (sj_if (tj_cmp (cmp_eq hr.units) calm_eq (nomark _) (EJ.bj (ej_var 5 (pv 5))) (EJ.bj ej_int)) (ssj_one (sj_ret (ej_tup (aj_cons ej_str (aj_cons (ej_bin bin_add calm_add (EJ.bj ej_int) (EJ.bj (ej_var 2 (pv 2)))) (aj_cons (ej_ix (EJ.bj (ej_var 0 (pv 0))) (EJ.bj ej_int)) aj_nil)))))) ssj_nil) (ssj_cons (sj_if (tj_cmp (cmp_eq hr.units) calm_eq (nomark _) (EJ.bj (ej_var 5 (pv 5))) (EJ.bj ej_int)) (ssj_one (sj_ret (ej_tup (aj_cons ej_str (aj_cons (ej_ix (EJ.bj (ej_var 0 (pv 0))) (EJ.bj ej_int)) (aj_cons (ej_sl (EJ.bj (ej_ix (EJ.bj (ej_var 0 (pv 0))) (EJ.bj ej_int))) oj_none (oj_some (EJ.bj (ej_bin bin_sub calm_sub (EJ.bj (ej_bin bin_add calm_add (EJ.bj ej_int) (EJ.bj ej_int))) (EJ.bj (ej_var 2 (pv 2))))))) aj_nil)))))) ssj_nil) (ssj_cons (sj_set (i := 6) sc__law_changed.nd rfl (by first | exact .inl rfl | exact .inr rfl) (ej_if (tj_cmp (cmp_eq hr.units) calm_eq (nomark _) (EJ.bj (ej_var 5 (pv 5))) (EJ.bj ej_int)) (ej_tup (aj_cons (ej_bin bin_add calm_add (EJ.bj ej_int) (EJ.bj (ej_var 2 (pv 2)))) (aj_cons ej_int aj_nil))) (ej_tup (aj_cons ej_int (aj_cons (ej_bin bin_add calm_add (EJ.bj ej_int) (EJ.bj (ej_var 2 (pv 2)))) aj_nil))))) (ssj_one (sj_ret (ej_tup (aj_cons ej_str (aj_cons (ej_ix (EJ.bj (ej_var 0 (pv 0))) (EJ.bj ej_int)) (aj_cons (ej_bin bin_add calm_add (EJ.bj (ej_sl (EJ.bj (ej_ix (EJ.bj (ej_var 0 (pv 0))) (EJ.bj ej_int))) oj_none (oj_some (EJ.bj ej_int)))) (EJ.bj (ej_tup (aj_cons (ej_var 6 (pv 6)) aj_nil)))) aj_nil)))))))))) ssj_nil) (ssj_cons (sj_if (tj_cmp (cmp_eq hr.units) calm_eq (nomark _) (EJ.bj (ej_ix (EJ.bj (ej_var 0 (pv 0))) (EJ.bj ej_int))) (EJ.bj ej_str)) (ssj_cons (sj_set (i := 5) sc__law_changed.nd rfl (by first | exact .inl rfl | exact .inr rfl) (ej_bin bin_mod calm_mod (EJ.bj (ej_bin bin_div calm_div (EJ.bj (ej_var 1 (pv 1))) (EJ.bj ej_int))) (EJ.bj ej_int))) (ssj_cons (sj_if (tj_cmp (cmp_eq hr.units) calm_eq (nomark _) (EJ.bj (ej_var 5 (pv 5))) (EJ.bj ej_int)) (ssj_one (sj_ret (ej_tup (aj_cons ej_str (aj_cons (ej_var 3 (pv 3)) (aj_cons (ej_ix (EJ.bj (ej_var 0 (pv 0))) (EJ.bj ej_int)) (aj_cons (ej_ix (EJ.bj (ej_var 0 (pv 0))) (EJ.bj ej_int)) (aj_cons (ej_ix (EJ.bj (ej_var 0 (pv 0))) (EJ.bj ej_int)) (aj_cons (ej_ix (EJ.bj (ej_var 0 (pv 0))) (EJ.bj ej_int)) aj_nil))))))))) ssj_nil) (ssj_cons (sj_if (tj_cmp (cmp_eq hr.units) calm_eq (nomark _) (EJ.bj (ej_var 5 (pv 5))) (EJ.bj ej_int)) (ssj_one (sj_ret (ej_tup (aj_cons ej_str (aj_cons (ej_ix (EJ.bj (ej_var 0 (pv 0))) (EJ.bj ej_int)) (aj_cons (ej_var 3 (pv 3)) (aj_cons (ej_ix (EJ.bj (ej_var 0 (pv 0))) (EJ.bj ej_int)) (aj_cons (ej_ix (EJ.bj (ej_var 0 (pv 0))) (EJ.bj ej_int)) (aj_cons (ej_ix (EJ.bj (ej_var 0 (pv 0))) (EJ.bj ej_int)) aj_nil))))))))) ssj_nil) (ssj_cons (sj_if (tj_cmp (cmp_eq hr.units) calm_eq (nomark _) (EJ.bj (ej_var 5 (pv 5))) (EJ.bj ej_int)) (ssj_one (sj_ret (ej_tup (aj_cons ej_str (aj_cons (ej_ix (EJ.bj (ej_var 0 (pv 0))) (EJ.bj ej_int)) (aj_cons (ej_ix (EJ.bj (ej_var 0 (pv 0))) (EJ.bj ej_int)) (aj_cons (ej_ix (EJ.bj (ej_var 0 (pv 0))) (EJ.bj ej_int)) (aj_cons (ej_var 3 (pv 3)) (aj_cons (ej_ix (EJ.bj (ej_var 0 (pv 0))) (EJ.bj ej_int)) aj_nil))))))))) ssj_nil) (ssj_cons (sj_set (i := 7) sc__law_changed.nd rfl (by first | exact .inl rfl | exact .inr rfl) (ej_if (tj_cmp (cmp_eq hr.units) calm_eq (nomark _) (EJ.bj (ej_var 5 (pv 5))) (EJ.bj ej_int)) (ej_bin bin_repT calm_repT (EJ.bj (ej_tup (aj_cons ej_int aj_nil))) (EJ.bj (ej_bin bin_add calm_add (EJ.bj ej_int) (EJ.bj (ej_var 2 (pv 2)))))) (ej_tup (aj_cons ej_int (aj_cons (ej_bin bin_add calm_add (EJ.bj ej_int) (EJ.bj (ej_var 2 (pv 2)))) aj_nil))))) (ssj_one (sj_ret (ej_tup (aj_cons ej_str (aj_cons (ej_ix (EJ.bj (ej_var 0 (pv 0))) (EJ.bj ej_int)) (aj_cons (ej_ix (EJ.bj (ej_var 0 (pv 0))) (EJ.bj ej_int)) (aj_cons (ej_ix (EJ.bj (ej_var 0 (pv 0))) (EJ.bj ej_int)) (aj_cons (ej_ix (EJ.bj (ej_var 0 (pv 0))) (EJ.bj ej_int)) (aj_cons (ej_var 7 (pv 7)) aj_nil)))))))))))))) ssj_nil) (ssj_cons (sj_setN (i := 4) sc__law_changed.nd rfl (by first | exact .inl rfl | exact .inr rfl) (nj_Ty fn_list (by rfl) T.n_list PyProof.Rows.boot_list (baj_cons (EJ.bj (ej_var 0 (pv 0))) baj_nil))) (ssj_cons (sj_set (i := 5) sc__law_changed.nd rfl (by first | exact .inl rfl | exact .inr rfl) (ej_bin bin_mod calm_mod (EJ.bj (ej_bin bin_div calm_div (EJ.bj (ej_var 1 (pv 1))) (EJ.bj ej_int))) (EJ.bj ej_int))) (ssj_cons (sj_if (WJ.tj (wj_or (tj_cmp (cmp_eq hr.units) calm_eq (nomark _) (EJ.bj (ej_var 5 (pv 5))) (EJ.bj ej_int)) (wj_or1 (tj_cmp (cmp_eq hr.units) calm_eq (nomark _) (EJ.bj (ej_var 5 (pv 5))) (EJ.bj ej_int))))) (ssj_one (sj_setI (i := 4) (pv 4) rfl (ej_var 3 (pv 3)) (EJ.bj (ej_bin bin_add calm_add (EJ.bj ej_int) (EJ.bj (ej_var 5 (pv 5))))) (fun a b => pg_sub a b set_list))) (ssj_one (sj_if (tj_cmp (cmp_eq hr.units) calm_eq (nomark _) (EJ.bj (ej_var 5 (pv 5))) (EJ.bj ej_int)) (ssj_one (sj_setI (i := 4) (pv 4) rfl (ej_tup (aj_cons (ej_bin bin_add calm_add (EJ.bj ej_int) (EJ.bj (ej_var 2 (pv 2)))) (aj_cons ej_int aj_nil))) (EJ.bj ej_int) (fun a b => pg_sub a b set_list))) (ssj_one (sj_if (tj_cmp (cmp_eq hr.units) calm_eq (nomark _) (EJ.bj (ej_var 5 (pv 5))) (EJ.bj ej_int)) (ssj_one (sj_setI (i := 4) (pv 4) rfl (ej_tup (aj_cons ej_int (aj_cons (ej_bin bin_add calm_add (EJ.bj ej_int) (EJ.bj (ej_var 2 (pv 2)))) aj_nil))) (EJ.bj ej_int) (fun a b => pg_sub a b set_list))) (ssj_one (sj_if (tj_cmp (cmp_eq hr.units) calm_eq (nomark _) (EJ.bj (ej_var 5 (pv 5))) (EJ.bj ej_int)) (ssj_one (sj_setI (i := 4) (pv 4) rfl (ej_tup (aj_cons (ej_bin bin_add calm_add (EJ.bj ej_int) (EJ.bj (ej_var 2 (pv 2)))) aj_nil)) (EJ.bj ej_int) (fun a b => pg_sub a b set_list))) (ssj_one (sj_if (tj_cmp (cmp_eq hr.units) calm_eq (nomark _) (EJ.bj (ej_var 5 (pv 5))) (EJ.bj ej_int)) (ssj_one (sj_setI (i := 4) (pv 4) rfl (ej_tup (aj_cons ej_non (aj_cons (ej_bin bin_add calm_add (EJ.bj ej_int) (EJ.bj (ej_var 2 (pv 2)))) aj_nil))) (EJ.bj ej_int) (fun a b => pg_sub a b set_list))) (ssj_one (sj_if (tj_cmp (cmp_eq hr.units) calm_eq (nomark _) (EJ.bj (ej_var 5 (pv 5))) (EJ.bj ej_int)) (ssj_one (sj_setI (i := 4) (pv 4) rfl (ej_tup (aj_cons ej_int (aj_cons (ej_var 3 (pv 3)) aj_nil))) (EJ.bj ej_int) (fun a b => pg_sub a b set_list))) (ssj_one (sj_if (tj_cmp (cmp_eq hr.units) calm_eq (nomark _) (EJ.bj (ej_var 5 (pv 5))) (EJ.bj ej_int)) (ssj_one (sj_setI (i := 4) (pv 4) rfl (ej_tup (aj_cons (ej_bin bin_add calm_add (EJ.bj ej_int) (EJ.bj (ej_var 2 (pv 2)))) aj_nil)) (EJ.bj ej_int) (fun a b => pg_sub a b set_list))) (ssj_one (sj_setI (i := 4) (pv 4) rfl (ej_bin bin_repT calm_repT (EJ.bj (ej_tup (aj_cons ej_int aj_nil))) (EJ.bj (ej_bin bin_add calm_add (EJ.bj ej_int) (EJ.bj (ej_var 2 (pv 2)))))) (EJ.bj (ej_bin bin_add calm_add (EJ.bj (ej_bin bin_mod calm_mod (EJ.bj (ej_bin bin_div calm_div (EJ.bj (ej_var 1 (pv 1))) (EJ.bj ej_int))) (EJ.bj ej_int))) (EJ.bj ej_int))) (fun a b => pg_sub a b set_list)))))))))))))))) (ssj_one (sj_ret (ej_Ty fn_tuple (by rfl) T.n_tuple PyProof.Rows.boot_tuple (baj_cons (bj_var 4 (pv 4)) baj_nil))))))))))))
theorem ok__law_has_body (T : Txt K mg) {P : Program} {w : World} {base : Heap} : FnOk P w K mg base (L2.CX P w) 6 T.a__law_has_body T.fd__law_has_body ["content"] (spT K mg (Mode.fz) 1 f__law_has_body) := by
  refine fn_ok (md := Mode.fz) (G := [Mode.fz]) T.F__law_has_body sc__law_has_body 1 1 rfl rfl rfl (fun ρ => .inl rfl) fun cdv A outer s H E hr => ⟨[], ?_⟩
  have tk : Takes (cxOf (L2.CX P w) P w K mg base N__law_has_body "_law_has_body" (defScope s__law_has_body) T.a__law_has_body cdv A outer s H E) (WE1 E) := takes_of rfl rfl rfl rfl
  exact (ssj_cons (sj_try rfl rfl tk T.subs (fun W pn xe tk hp => (ssj_one (sj_expr (EJ.bj (ej_call (k := 5) runF_len (ok_content_body T) (hr.mono (by decide : 5 ≤ 5)) (by rfl) T.g_content_body T.F_content_body.kp T.b_content_body tk (aj_cons (ej_var 0 (pv 0)) aj_nil)))))) (.cons (by decide) T.x_InvalidContent (by rfl) (by decide) (fun a oe cls d pn e hz hf => (ssj_to (G2 := [Mode.fz]) (ssj_one (sj_ret ej_bl)) (by rfl))) .nil)) (ssj_one (sj_ret ej_bl)))
theorem ok__law_asks_second (T : Txt K mg) {P : Program} {w : World} {base : Heap} : FnOk P w K mg base (L2.CX P w) 7 T.a__law_asks_second T.fd__law_asks_second ["script"] (spT K mg (Mode.fz) 1 f__law_asks_second) := by
  refine fn_ok (md := Mode.fz) (G := [Mode.fz, Mode.fz, Mode.fz, Mode.fz, Mode.fz, Mode.fz]) T.F__law_asks_second sc__law_asks_second 1 6 rfl rfl rfl (fun ρ => .inl rfl) fun cdv A outer s H E hr => ⟨[], ?_⟩
  have tk : Takes (cxOf (L2.CX P w) P w K mg base N__law_asks_second "_law_asks_second" (defScope s__law_asks_second) T.a__law_asks_second cdv A outer s H E) (WE1 E) := takes_of rfl rfl rfl rfl
  exact (ssj_cons (sj_set (i := 1) sc__law_asks_second.nd rfl (by first | exact .inl rfl | exact .inr rfl) (ej_call (k := 1) runF_len (ok__law_draws T) (hr.mono (by decide : 1 ≤ 6)) (by rfl) T.g__law_draws T.F__law_draws.kp T.b__law_draws tk (aj_cons (ej_var 0 (pv 0)) (aj_cons ej_int aj_nil)))) (ssj_cons (sj_set (i := 2) sc__law_asks_second.nd rfl (by first | exact .inl rfl | exact .inr rfl) (ej_call (k := 2) runF_len (ok__law_content T) (hr.mono (by decide : 2 ≤ 6)) (by rfl) T.g__law_content T.F__law_content.kp T.b__law_content tk (aj_cons (ej_ix (EJ.bj (ej_var 1 (pv 1))) (EJ.bj ej_int)) (aj_cons (ej_ix (EJ.bj (ej_var 1 (pv 1))) (EJ.bj ej_int)) aj_nil)))) (ssj_cons (sj_if (WJ.tj (wj_or (tj_cmp cmp_isNot calm_isNot (nomark _) (EJ.bj (ej_call (k := 4) runF_len (ok_fits_page T) (hr.mono (by decide : 4 ≤ 6)) (by rfl) T.g_fits_page T.F_fits_page.kp T.b_fits_page tk (aj_cons (ej_var 2 (pv 2)) aj_nil))) (EJ.bj ej_bl)) (wj_or1 (tj_not (tj_tru (EJ.bj (ej_call (k := 6) runF_len (ok__law_has_body T) (hr.mono (by decide : 6 ≤ 6)) (by rfl) T.g__law_has_body T.F__law_has_body.kp T.b__law_has_body tk (aj_cons (ej_var 2 (pv 2)) aj_nil)))))))) (ssj_one (sj_ret ej_bl)) ssj_nil) (ssj_cons (sj_for (passes_of rfl) rfl (ij_seq (ej_sl (EJ.bj (ej_var 1 (pv 1))) (oj_some (EJ.bj ej_int)) oj_none)) (gj_nm (pg_name (i := 3) sc__law_asks_second.nd rfl (by first | exact .inl rfl | exact .inr rfl))) (by decide) (ssj_cons (sj_set (i := 4) sc__law_asks_second.nd rfl (by first | exact .inl rfl | exact .inr rfl) (ej_call (k := 1) runF_len (ok__law_changed T) (hr.mono (by decide : 1 ≤ 6)) (by rfl) T.g__law_changed T.F__law_changed.kp T.b__law_changed tk (aj_cons (ej_var 2 (pv 2)) (aj_cons (ej_var 3 (pv 3)) aj_nil)))) (ssj_cons (sj_set (i := 5) sc__law_asks_second.nd rfl (by first | exact .inl rfl | exact .inr rfl) (ej_cmp (cmp_eq hr.units) calm_eq (nomark _) (EJ.bj (ej_bin bin_mod calm_mod (EJ.bj (ej_var 3 (pv 3))) (EJ.bj ej_int))) (EJ.bj ej_int))) (ssj_one (sj_if (WJ.tj (wj_or (tj_cmp (cmp_ne hr.units) calm_ne (nomark _) (EJ.bj (ej_call (k := 4) runF_len (ok_fits_page T) (hr.mono (by decide : 4 ≤ 6)) (by rfl) T.g_fits_page T.F_fits_page.kp T.b_fits_page tk (aj_cons (ej_var 4 (pv 4)) aj_nil))) (EJ.bj (ej_var 5 (pv 5)))) (wj_or1 (tj_cmp (cmp_ne hr.units) calm_ne (nomark _) (EJ.bj (ej_call (k := 6) runF_len (ok__law_has_body T) (hr.mono (by decide : 6 ≤ 6)) (by rfl) T.g__law_has_body T.F__law_has_body.kp T.b__law_has_body tk (aj_cons (ej_var 4 (pv 4)) aj_nil))) (EJ.bj (ej_var 5 (pv 5))))))) (ssj_one (sj_ret ej_bl)) ssj_nil))))) (ssj_one (sj_ret ej_bl))))))
theorem ok_law (T : Txt K mg) {P : Program} {w : World} {base : Heap} : FnOk P w K mg base (L2.CX P w) 8 T.a_law T.fd_law ["script"] (spT K mg (Mode.fz) 1 f_law) := by
  refine fn_ok (md := Mode.fz) (G := [Mode.fz]) T.F_law sc_law 1 1 rfl rfl rfl (fun ρ => .inl rfl) fun cdv A outer s H E hr => ⟨[], ?_⟩
  have tk : Takes (cxOf (L2.CX P w) P w K mg base N_law "law" (defScope s_law) T.a_law cdv A outer s H E) (WE1 E) := takes_of rfl rfl rfl rfl
  exact (ssj_one (sj_ret (ej_andV (EJ.bj (ej_call (k := 3) runF_len (ok__law_asks_first T) (hr.mono (by decide : 3 ≤ 7)) (by rfl) T.g__law_asks_first T.F__law_asks_first.kp T.b__law_asks_first tk (aj_cons (ej_var 0 (pv 0)) aj_nil))) (ej_one (ej_call (k := 7) runF_len (ok__law_asks_second T) (hr.mono (by decide : 7 ≤ 7)) (by rfl) T.g__law_asks_second T.F__law_asks_second.kp T.b__law_asks_second tk (aj_cons (ej_var 0 (pv 0)) aj_nil))))))
end
theorem all_mk (goal : ∀ ns : List Int, ns.length ≤ 63 → (∀ z ∈ ns, Builtin.Int.intBits z ≤ 1048576) → f_law [.scr (ns.map D.int)] = .ok (.bl true)) {l : PySem.W.OpenLaw} {w : World} {K : PySem.W.Frag} {h : Heap} {mg : Str → Option Value} {fa : Addr} (X : K.In h) (G : h.Ns mainGlobals mg) (hfa : mg "law" = some (.ref fa)) {f0 f1 f2 f3 f4 f5 f6 f7 f8 f9 f10 f11 f12 f13 f14 f15 f16 f17 f18 f19 f20 f21 f22 f23 f24 f25 : Addr} {od0 an0 : Option Addr} {sl0 : Array (Option Value)} {oc0 kV0 dc0 pm0 cd0 ct0 : Value} {od1 an1 : Option Addr} {sl1 : Array (Option Value)} {oc1 kV1 dc1 pm1 cd1 ct1 : Value} {od2 an2 : Option Addr} {sl2 : Array (Option Value)} {oc2 kV2 dc2 pm2 cd2 ct2 : Value} {od3 an3 : Option Addr} {sl3 : Array (Option Value)} {oc3 kV3 dc3 pm3 cd3 ct3 : Value} {od4 an4 : Option Addr} {sl4 : Array (Option Value)} {oc4 kV4 dc4 pm4 cd4 ct4 : Value} {od5 an5 : Option Addr} {sl5 : Array (Option Value)} {oc5 kV5 dc5 pm5 cd5 ct5 : Value} {od6 an6 : Option Addr} {sl6 : Array (Option Value)} {oc6 kV6 dc6 pm6 cd6 ct6 : Value} {od7 an7 : Option Addr} {sl7 : Array (Option Value)} {oc7 kV7 dc7 pm7 cd7 ct7 : Value} {od8 an8 : Option Addr} {sl8 : Array (Option Value)} {oc8 kV8 dc8 pm8 cd8 ct8 : Value} {od9 an9 : Option Addr} {sl9 : Array (Option Value)} {oc9 kV9 dc9 pm9 cd9 ct9 : Value} {od10 an10 : Option Addr} {sl10 : Array (Option Value)} {oc10 kV10 dc10 pm10 cd10 ct10 : Value} {od11 an11 : Option Addr} {sl11 : Array (Option Value)} {oc11 kV11 dc11 pm11 cd11 ct11 : Value} {od12 an12 : Option Addr} {sl12 : Array (Option Value)} {oc12 kV12 dc12 pm12 cd12 ct12 : Value} {od13 an13 : Option Addr} {sl13 : Array (Option Value)} {oc13 kV13 dc13 pm13 cd13 ct13 : Value} {od14 an14 : Option Addr} {sl14 : Array (Option Value)} {oc14 kV14 dc14 pm14 cd14 ct14 : Value} {od15 an15 : Option Addr} {sl15 : Array (Option Value)} {oc15 kV15 dc15 pm15 cd15 ct15 : Value} {od16 an16 : Option Addr} {sl16 : Array (Option Value)} {oc16 kV16 dc16 pm16 cd16 ct16 : Value} {od17 an17 : Option Addr} {sl17 : Array (Option Value)} {oc17 kV17 dc17 pm17 cd17 ct17 : Value} {od18 an18 : Option Addr} {sl18 : Array (Option Value)} {oc18 kV18 dc18 pm18 cd18 ct18 : Value} {od19 an19 : Option Addr} {sl19 : Array (Option Value)} {oc19 kV19 dc19 pm19 cd19 ct19 : Value} {od20 an20 : Option Addr} {sl20 : Array (Option Value)} {oc20 kV20 dc20 pm20 cd20 ct20 : Value} {od21 an21 : Option Addr} {sl21 : Array (Option Value)} {oc21 kV21 dc21 pm21 cd21 ct21 : Value} {od22 an22 : Option Addr} {sl22 : Array (Option Value)} {oc22 kV22 dc22 pm22 cd22 ct22 : Value} {od23 an23 : Option Addr} {sl23 : Array (Option Value)} {oc23 kV23 dc23 pm23 cd23 ct23 : Value} {od24 an24 : Option Addr} {sl24 : Array (Option Value)} {oc24 kV24 dc24 pm24 cd24 ct24 : Value} {od25 an25 : Option Addr} {sl25 : Array (Option Value)} {oc25 kV25 dc25 pm25 cd25 ct25 : Value} {t0 t1 t2 t3 t4 t5 t6 : Tok} {X0 : Addr}
    (a0 : PySem.W.nsIn K mainGlobals "summed_octets" = some (some (.ref f0))) (l0 : K.lookup f0 = some ⟨oc0, od0, .func (PySem.W.fnOf "summed_octets" "summed_octets" (defArgs s_summed_octets) (defBody s_summed_octets) (defScope s_summed_octets) .none kV0 dc0 pm0 an0 cd0 ct0), sl0⟩) (c0 : PySem.W.codeIn K cd0 "summed_octets" = true) (k0 : PySem.W.keepIn K (.ref f0) = true)
    (a1 : PySem.W.nsIn K mainGlobals "page_sums" = some (some (.ref f1))) (l1 : K.lookup f1 = some ⟨oc1, od1, .func (PySem.W.fnOf "page_sums" "page_sums" (defArgs s_page_sums) (defBody s_page_sums) (defScope s_page_sums) .none kV1 dc1 pm1 an1 cd1 ct1), sl1⟩) (c1 : PySem.W.codeIn K cd1 "page_sums" = true) (k1 : PySem.W.keepIn K (.ref f1) = true)
    (a2 : PySem.W.nsIn K mainGlobals "number_row" = some (some (.ref f2))) (l2 : K.lookup f2 = some ⟨oc2, od2, .func (PySem.W.fnOf "number_row" "number_row" (defArgs s_number_row) (defBody s_number_row) (defScope s_number_row) .none kV2 dc2 pm2 an2 cd2 ct2), sl2⟩) (c2 : PySem.W.codeIn K cd2 "number_row" = true) (k2 : PySem.W.keepIn K (.ref f2) = true)
    (a3 : PySem.W.nsIn K mainGlobals "is_number" = some (some (.ref f3))) (l3 : K.lookup f3 = some ⟨oc3, od3, .func (PySem.W.fnOf "is_number" "is_number" (defArgs s_is_number) (defBody s_is_number) (defScope s_is_number) .none kV3 dc3 pm3 an3 cd3 ct3), sl3⟩) (c3 : PySem.W.codeIn K cd3 "is_number" = true) (k3 : PySem.W.keepIn K (.ref f3) = true)
    (a4 : PySem.W.nsIn K mainGlobals "is_block" = some (some (.ref f4))) (l4 : K.lookup f4 = some ⟨oc4, od4, .func (PySem.W.fnOf "is_block" "is_block" (defArgs s_is_block) (defBody s_is_block) (defScope s_is_block) .none kV4 dc4 pm4 an4 cd4 ct4), sl4⟩) (c4 : PySem.W.codeIn K cd4 "is_block" = true) (k4 : PySem.W.keepIn K (.ref f4) = true)
    (a5 : PySem.W.nsIn K mainGlobals "is_address" = some (some (.ref f5))) (l5 : K.lookup f5 = some ⟨oc5, od5, .func (PySem.W.fnOf "is_address" "is_address" (defArgs s_is_address) (defBody s_is_address) (defScope s_is_address) .none kV5 dc5 pm5 an5 cd5 ct5), sl5⟩) (c5 : PySem.W.codeIn K cd5 "is_address" = true) (k5 : PySem.W.keepIn K (.ref f5) = true)
    (a6 : PySem.W.nsIn K mainGlobals "root_fits" = some (some (.ref f6))) (l6 : K.lookup f6 = some ⟨oc6, od6, .func (PySem.W.fnOf "root_fits" "root_fits" (defArgs s_root_fits) (defBody s_root_fits) (defScope s_root_fits) .none kV6 dc6 pm6 an6 cd6 ct6), sl6⟩) (c6 : PySem.W.codeIn K cd6 "root_fits" = true) (k6 : PySem.W.keepIn K (.ref f6) = true)
    (a7 : PySem.W.nsIn K mainGlobals "item_fits" = some (some (.ref f7))) (l7 : K.lookup f7 = some ⟨oc7, od7, .func (PySem.W.fnOf "item_fits" "item_fits" (defArgs s_item_fits) (defBody s_item_fits) (defScope s_item_fits) .none kV7 dc7 pm7 an7 cd7 ct7), sl7⟩) (c7 : PySem.W.codeIn K cd7 "item_fits" = true) (k7 : PySem.W.keepIn K (.ref f7) = true)
    (a8 : PySem.W.nsIn K mainGlobals "fits_page" = some (some (.ref f8))) (l8 : K.lookup f8 = some ⟨oc8, od8, .func (PySem.W.fnOf "fits_page" "fits_page" (defArgs s_fits_page) (defBody s_fits_page) (defScope s_fits_page) .none kV8 dc8 pm8 an8 cd8 ct8), sl8⟩) (c8 : PySem.W.codeIn K cd8 "fits_page" = true) (k8 : PySem.W.keepIn K (.ref f8) = true)
    (a9 : PySem.W.nsIn K mainGlobals "address_row" = some (some (.ref f9))) (l9 : K.lookup f9 = some ⟨oc9, od9, .func (PySem.W.fnOf "address_row" "address_row" (defArgs s_address_row) (defBody s_address_row) (defScope s_address_row) .none kV9 dc9 pm9 an9 cd9 ct9), sl9⟩) (c9 : PySem.W.codeIn K cd9 "address_row" = true) (k9 : PySem.W.keepIn K (.ref f9) = true)
    (a10 : PySem.W.nsIn K mainGlobals "place_row" = some (some (.ref f10))) (l10 : K.lookup f10 = some ⟨oc10, od10, .func (PySem.W.fnOf "place_row" "place_row" (defArgs s_place_row) (defBody s_place_row) (defScope s_place_row) .none kV10 dc10 pm10 an10 cd10 ct10), sl10⟩) (c10 : PySem.W.codeIn K cd10 "place_row" = true) (k10 : PySem.W.keepIn K (.ref f10) = true)
    (a11 : PySem.W.nsIn K mainGlobals "root_body" = some (some (.ref f11))) (l11 : K.lookup f11 = some ⟨oc11, od11, .func (PySem.W.fnOf "root_body" "root_body" (defArgs s_root_body) (defBody s_root_body) (defScope s_root_body) .none kV11 dc11 pm11 an11 cd11 ct11), sl11⟩) (c11 : PySem.W.codeIn K cd11 "root_body" = true) (k11 : PySem.W.keepIn K (.ref f11) = true)
    (a12 : PySem.W.nsIn K mainGlobals "item_body" = some (some (.ref f12))) (l12 : K.lookup f12 = some ⟨oc12, od12, .func (PySem.W.fnOf "item_body" "item_body" (defArgs s_item_body) (defBody s_item_body) (defScope s_item_body) .none kV12 dc12 pm12 an12 cd12 ct12), sl12⟩) (c12 : PySem.W.codeIn K cd12 "item_body" = true) (k12 : PySem.W.keepIn K (.ref f12) = true)
    (a13 : PySem.W.nsIn K mainGlobals "content_body" = some (some (.ref f13))) (l13 : K.lookup f13 = some ⟨oc13, od13, .func (PySem.W.fnOf "content_body" "content_body" (defArgs s_content_body) (defBody s_content_body) (defScope s_content_body) .none kV13 dc13 pm13 an13 cd13 ct13), sl13⟩) (c13 : PySem.W.codeIn K cd13 "content_body" = true) (k13 : PySem.W.keepIn K (.ref f13) = true)
    (a14 : PySem.W.nsIn K mainGlobals "_law_draws" = some (some (.ref f14))) (l14 : K.lookup f14 = some ⟨oc14, od14, .func (PySem.W.fnOf "_law_draws" "_law_draws" (defArgs s__law_draws) (defBody s__law_draws) (defScope s__law_draws) .none kV14 dc14 pm14 an14 cd14 ct14), sl14⟩) (c14 : PySem.W.codeIn K cd14 "_law_draws" = true) (k14 : PySem.W.keepIn K (.ref f14) = true)
    (a15 : PySem.W.nsIn K mainGlobals "_law_asks_first" = some (some (.ref f15))) (l15 : K.lookup f15 = some ⟨oc15, od15, .func (PySem.W.fnOf "_law_asks_first" "_law_asks_first" (defArgs s__law_asks_first) (defBody s__law_asks_first) (defScope s__law_asks_first) .none kV15 dc15 pm15 an15 cd15 ct15), sl15⟩) (c15 : PySem.W.codeIn K cd15 "_law_asks_first" = true) (k15 : PySem.W.keepIn K (.ref f15) = true)
    (a16 : PySem.W.nsIn K mainGlobals "_law_number" = some (some (.ref f16))) (l16 : K.lookup f16 = some ⟨oc16, od16, .func (PySem.W.fnOf "_law_number" "_law_number" (defArgs s__law_number) (defBody s__law_number) (defScope s__law_number) .none kV16 dc16 pm16 an16 cd16 ct16), sl16⟩) (c16 : PySem.W.codeIn K cd16 "_law_number" = true) (k16 : PySem.W.keepIn K (.ref f16) = true)
    (a17 : PySem.W.nsIn K mainGlobals "_law_address" = some (some (.ref f17))) (l17 : K.lookup f17 = some ⟨oc17, od17, .func (PySem.W.fnOf "_law_address" "_law_address" (defArgs s__law_address) (defBody s__law_address) (defScope s__law_address) .none kV17 dc17 pm17 an17 cd17 ct17), sl17⟩) (c17 : PySem.W.codeIn K cd17 "_law_address" = true) (k17 : PySem.W.keepIn K (.ref f17) = true)
    (a18 : PySem.W.nsIn K mainGlobals "_law_place" = some (some (.ref f18))) (l18 : K.lookup f18 = some ⟨oc18, od18, .func (PySem.W.fnOf "_law_place" "_law_place" (defArgs s__law_place) (defBody s__law_place) (defScope s__law_place) .none kV18 dc18 pm18 an18 cd18 ct18), sl18⟩) (c18 : PySem.W.codeIn K cd18 "_law_place" = true) (k18 : PySem.W.keepIn K (.ref f18) = true)
    (a19 : PySem.W.nsIn K mainGlobals "_law_count" = some (some (.ref f19))) (l19 : K.lookup f19 = some ⟨oc19, od19, .func (PySem.W.fnOf "_law_count" "_law_count" (defArgs s__law_count) (defBody s__law_count) (defScope s__law_count) .none kV19 dc19 pm19 an19 cd19 ct19), sl19⟩) (c19 : PySem.W.codeIn K cd19 "_law_count" = true) (k19 : PySem.W.keepIn K (.ref f19) = true)
    (a20 : PySem.W.nsIn K mainGlobals "_law_octets" = some (some (.ref f20))) (l20 : K.lookup f20 = some ⟨oc20, od20, .func (PySem.W.fnOf "_law_octets" "_law_octets" (defArgs s__law_octets) (defBody s__law_octets) (defScope s__law_octets) .none kV20 dc20 pm20 an20 cd20 ct20), sl20⟩) (c20 : PySem.W.codeIn K cd20 "_law_octets" = true) (k20 : PySem.W.keepIn K (.ref f20) = true)
    (a21 : PySem.W.nsIn K mainGlobals "_law_content" = some (some (.ref f21))) (l21 : K.lookup f21 = some ⟨oc21, od21, .func (PySem.W.fnOf "_law_content" "_law_content" (defArgs s__law_content) (defBody s__law_content) (defScope s__law_content) .none kV21 dc21 pm21 an21 cd21 ct21), sl21⟩) (c21 : PySem.W.codeIn K cd21 "_law_content" = true) (k21 : PySem.W.keepIn K (.ref f21) = true)
    (a22 : PySem.W.nsIn K mainGlobals "_law_changed" = some (some (.ref f22))) (l22 : K.lookup f22 = some ⟨oc22, od22, .func (PySem.W.fnOf "_law_changed" "_law_changed" (defArgs s__law_changed) (defBody s__law_changed) (defScope s__law_changed) .none kV22 dc22 pm22 an22 cd22 ct22), sl22⟩) (c22 : PySem.W.codeIn K cd22 "_law_changed" = true) (k22 : PySem.W.keepIn K (.ref f22) = true)
    (a23 : PySem.W.nsIn K mainGlobals "_law_has_body" = some (some (.ref f23))) (l23 : K.lookup f23 = some ⟨oc23, od23, .func (PySem.W.fnOf "_law_has_body" "_law_has_body" (defArgs s__law_has_body) (defBody s__law_has_body) (defScope s__law_has_body) .none kV23 dc23 pm23 an23 cd23 ct23), sl23⟩) (c23 : PySem.W.codeIn K cd23 "_law_has_body" = true) (k23 : PySem.W.keepIn K (.ref f23) = true)
    (a24 : PySem.W.nsIn K mainGlobals "_law_asks_second" = some (some (.ref f24))) (l24 : K.lookup f24 = some ⟨oc24, od24, .func (PySem.W.fnOf "_law_asks_second" "_law_asks_second" (defArgs s__law_asks_second) (defBody s__law_asks_second) (defScope s__law_asks_second) .none kV24 dc24 pm24 an24 cd24 ct24), sl24⟩) (c24 : PySem.W.codeIn K cd24 "_law_asks_second" = true) (k24 : PySem.W.keepIn K (.ref f24) = true)
    (a25 : PySem.W.nsIn K mainGlobals "law" = some (some (.ref f25))) (l25 : K.lookup f25 = some ⟨oc25, od25, .func (PySem.W.fnOf "law" "law" (defArgs s_law) (defBody s_law) (defScope s_law) .none kV25 dc25 pm25 an25 cd25 ct25), sl25⟩) (c25 : PySem.W.codeIn K cd25 "law" = true) (k25 : PySem.W.keepIn K (.ref f25) = true)
    (u0 : PySem.W.nsIn K mainGlobals "MODULUS" = some (some (.int 65521 t0)))
    (u1 : PySem.W.nsIn K mainGlobals "NUMBER_LIMIT" = some (some (.int 4294967296 t1)))
    (u2 : PySem.W.nsIn K mainGlobals "BLOCK_LIMIT" = some (some (.int 48 t2)))
    (u3 : PySem.W.nsIn K mainGlobals "PAGE_LIMIT" = some (some (.int 32 t3)))
    (u4 : PySem.W.nsIn K mainGlobals "ENTRY_LIMIT" = some (some (.int 48 t4)))
    (u5 : PySem.W.nsIn K mainGlobals "VALUE_LIMIT" = some (some (.int 448 t5)))
    (u6 : PySem.W.nsIn K mainGlobals "CHILDREN" = some (some (.int 32 t6)))
    (z0 : PySem.W.nsIn K mainGlobals "all" = some none)
    (z1 : PySem.W.nsIn K mainGlobals "int" = some none)
    (z2 : PySem.W.nsIn K mainGlobals "len" = some none)
    (z3 : PySem.W.nsIn K mainGlobals "list" = some none)
    (z4 : PySem.W.nsIn K mainGlobals "max" = some none)
    (z5 : PySem.W.nsIn K mainGlobals "range" = some none)
    (z6 : PySem.W.nsIn K mainGlobals "sum" = some none)
    (z7 : PySem.W.nsIn K mainGlobals "tuple" = some none)
    (xg0 : PySem.W.nsIn K mainGlobals "InvalidContent" = some (some (.ref X0))) (xk0 : PySem.W.keepIn K (.ref X0) = true) (xs0 : PySem.W.subIn K (.ref X0) (.type "BaseException") = some true) (xt0 : PySem.W.typeIn K (.ref X0) = some (.type "type")) (xd0 : PySem.W.hasDictIn K X0 = true)
    (xq0 : PySem.W.excIn K X0 [.type "ValueError", .type "Exception", .type "BaseException", .type "object"] "ValueError.__new__" = true)
    (xm0_0 : PySem.W.subIn K (.ref X0) (.ref X0) = some true) :
    ∃ fd : FuncData, (∀ (s : Shared) (v : Value), BindsTo s fd ⟨[v], []⟩ [("script", v)]) ∧ ∀ base : Heap, K.In base → base.Ns mainGlobals mg → FnOk l.prog w K mg base (L2.CX l.prog w) 8 fa fd ["script"] (spLaw K) := by
  have e : f25 = fa := Value.ref.inj (Option.some.inj ((PySem.W.mg_of X G a25).symm.trans hfa))
  rw [← e]
  have F0 := fun_mk (st := s_summed_octets) l0 c0 k0
  have b0 := F0.binds (ps := ["page"]) fun _ _ _ _ _ _ us hl => match us, hl with | [_], _ => rfl
  have F1 := fun_mk (st := s_page_sums) l1 c1 k1
  have b1 := F1.binds (ps := ["page"]) fun _ _ _ _ _ _ us hl => match us, hl with | [_], _ => rfl
  have F2 := fun_mk (st := s_number_row) l2 c2 k2
  have b2 := F2.binds (ps := ["number", "width"]) fun _ _ _ _ _ _ us hl => match us, hl with | [_, _], _ => rfl
  have F3 := fun_mk (st := s_is_number) l3 c3 k3
  have b3 := F3.binds (ps := ["number"]) fun _ _ _ _ _ _ us hl => match us, hl with | [_], _ => rfl
  have F4 := fun_mk (st := s_is_block) l4 c4 k4
  have b4 := F4.binds (ps := ["block"]) fun _ _ _ _ _ _ us hl => match us, hl with | [_], _ => rfl
  have F5 := fun_mk (st := s_is_address) l5 c5 k5
  have b5 := F5.binds (ps := ["address"]) fun _ _ _ _ _ _ us hl => match us, hl with | [_], _ => rfl
  have F6 := fun_mk (st := s_root_fits) l6 c6 k6
  have b6 := F6.binds (ps := ["root"]) fun _ _ _ _ _ _ us hl => match us, hl with | [_], _ => rfl
  have F7 := fun_mk (st := s_item_fits) l7 c7 k7
  have b7 := F7.binds (ps := ["item"]) fun _ _ _ _ _ _ us hl => match us, hl with | [_], _ => rfl
  have F8 := fun_mk (st := s_fits_page) l8 c8 k8
  have b8 := F8.binds (ps := ["content"]) fun _ _ _ _ _ _ us hl => match us, hl with | [_], _ => rfl
  have F9 := fun_mk (st := s_address_row) l9 c9 k9
  have b9 := F9.binds (ps := ["address"]) fun _ _ _ _ _ _ us hl => match us, hl with | [_], _ => rfl
  have F10 := fun_mk (st := s_place_row) l10 c10 k10
  have b10 := F10.binds (ps := ["place"]) fun _ _ _ _ _ _ us hl => match us, hl with | [_], _ => rfl
  have F11 := fun_mk (st := s_root_body) l11 c11 k11
  have b11 := F11.binds (ps := ["root"]) fun _ _ _ _ _ _ us hl => match us, hl with | [_], _ => rfl
  have F12 := fun_mk (st := s_item_body) l12 c12 k12
  have b12 := F12.binds (ps := ["item"]) fun _ _ _ _ _ _ us hl => match us, hl with | [_], _ => rfl
  have F13 := fun_mk (st := s_content_body) l13 c13 k13
  have b13 := F13.binds (ps := ["content"]) fun _ _ _ _ _ _ us hl => match us, hl with | [_], _ => rfl
  have F14 := fun_mk (st := s__law_draws) l14 c14 k14
  have b14 := F14.binds (ps := ["script", "count"]) fun _ _ _ _ _ _ us hl => match us, hl with | [_, _], _ => rfl
  have F15 := fun_mk (st := s__law_asks_first) l15 c15 k15
  have b15 := F15.binds (ps := ["script"]) fun _ _ _ _ _ _ us hl => match us, hl with | [_], _ => rfl
  have F16 := fun_mk (st := s__law_number) l16 c16 k16
  have b16 := F16.binds (ps := ["draw"]) fun _ _ _ _ _ _ us hl => match us, hl with | [_], _ => rfl
  have F17 := fun_mk (st := s__law_address) l17 c17 k17
  have b17 := F17.binds (ps := ["draw"]) fun _ _ _ _ _ _ us hl => match us, hl with | [_], _ => rfl
  have F18 := fun_mk (st := s__law_place) l18 c18 k18
  have b18 := F18.binds (ps := ["draw"]) fun _ _ _ _ _ _ us hl => match us, hl with | [_], _ => rfl
  have F19 := fun_mk (st := s__law_count) l19 c19 k19
  have b19 := F19.binds (ps := ["draw"]) fun _ _ _ _ _ _ us hl => match us, hl with | [_], _ => rfl
  have F20 := fun_mk (st := s__law_octets) l20 c20 k20
  have b20 := F20.binds (ps := ["draw", "count"]) fun _ _ _ _ _ _ us hl => match us, hl with | [_, _], _ => rfl
  have F21 := fun_mk (st := s__law_content) l21 c21 k21
  have b21 := F21.binds (ps := ["draw", "other"]) fun _ _ _ _ _ _ us hl => match us, hl with | [_, _], _ => rfl
  have F22 := fun_mk (st := s__law_changed) l22 c22 k22
  have b22 := F22.binds (ps := ["content", "draw"]) fun _ _ _ _ _ _ us hl => match us, hl with | [_, _], _ => rfl
  have F23 := fun_mk (st := s__law_has_body) l23 c23 k23
  have b23 := F23.binds (ps := ["content"]) fun _ _ _ _ _ _ us hl => match us, hl with | [_], _ => rfl
  have F24 := fun_mk (st := s__law_asks_second) l24 c24 k24
  have b24 := F24.binds (ps := ["script"]) fun _ _ _ _ _ _ us hl => match us, hl with | [_], _ => rfl
  have F25 := fun_mk (st := s_law) l25 c25 k25
  have b25 := F25.binds (ps := ["script"]) fun _ _ _ _ _ _ us hl => match us, hl with | [_], _ => rfl
  have xx0 : XCls K mg "InvalidContent" X0 := ⟨PySem.W.mg_of X G xg0, xk0, xs0, xt0, xd0⟩
  have subs : Subs K mg d_classes d_sub := by
    refine ⟨fun a ha c hc va vc h1 h2 => ?_⟩
    simp only [d_classes, List.mem_cons, List.not_mem_nil, or_false] at ha hc
    rcases ha with rfl <;> rcases hc with rfl
    · exact subs_one (PySem.W.mg_of X G xg0) (PySem.W.mg_of X G xg0) h1 h2 (PySem.W.exm_ref xs0 xd0 xt0 xm0_0) (by decide +kernel)
  let T : Txt K mg := { a_summed_octets := f0, fd_summed_octets := _, F_summed_octets := F0, g_summed_octets := PySem.W.mg_of X G a0, b_summed_octets := b0, a_page_sums := f1, fd_page_sums := _, F_page_sums := F1, g_page_sums := PySem.W.mg_of X G a1, b_page_sums := b1, a_number_row := f2, fd_number_row := _, F_number_row := F2, g_number_row := PySem.W.mg_of X G a2, b_number_row := b2, a_is_number := f3, fd_is_number := _, F_is_number := F3, g_is_number := PySem.W.mg_of X G a3, b_is_number := b3, a_is_block := f4, fd_is_block := _, F_is_block := F4, g_is_block := PySem.W.mg_of X G a4, b_is_block := b4, a_is_address := f5, fd_is_address := _, F_is_address := F5, g_is_address := PySem.W.mg_of X G a5, b_is_address := b5, a_root_fits := f6, fd_root_fits := _, F_root_fits := F6, g_root_fits := PySem.W.mg_of X G a6, b_root_fits := b6, a_item_fits := f7, fd_item_fits := _, F_item_fits := F7, g_item_fits := PySem.W.mg_of X G a7, b_item_fits := b7, a_fits_page := f8, fd_fits_page := _, F_fits_page := F8, g_fits_page := PySem.W.mg_of X G a8, b_fits_page := b8, a_address_row := f9, fd_address_row := _, F_address_row := F9, g_address_row := PySem.W.mg_of X G a9, b_address_row := b9, a_place_row := f10, fd_place_row := _, F_place_row := F10, g_place_row := PySem.W.mg_of X G a10, b_place_row := b10, a_root_body := f11, fd_root_body := _, F_root_body := F11, g_root_body := PySem.W.mg_of X G a11, b_root_body := b11, a_item_body := f12, fd_item_body := _, F_item_body := F12, g_item_body := PySem.W.mg_of X G a12, b_item_body := b12, a_content_body := f13, fd_content_body := _, F_content_body := F13, g_content_body := PySem.W.mg_of X G a13, b_content_body := b13, a__law_draws := f14, fd__law_draws := _, F__law_draws := F14, g__law_draws := PySem.W.mg_of X G a14, b__law_draws := b14, a__law_asks_first := f15, fd__law_asks_first := _, F__law_asks_first := F15, g__law_asks_first := PySem.W.mg_of X G a15, b__law_asks_first := b15, a__law_number := f16, fd__law_number := _, F__law_number := F16, g__law_number := PySem.W.mg_of X G a16, b__law_number := b16, a__law_address := f17, fd__law_address := _, F__law_address := F17, g__law_address := PySem.W.mg_of X G a17, b__law_address := b17, a__law_place := f18, fd__law_place := _, F__law_place := F18, g__law_place := PySem.W.mg_of X G a18, b__law_place := b18, a__law_count := f19, fd__law_count := _, F__law_count := F19, g__law_count := PySem.W.mg_of X G a19, b__law_count := b19, a__law_octets := f20, fd__law_octets := _, F__law_octets := F20, g__law_octets := PySem.W.mg_of X G a20, b__law_octets := b20, a__law_content := f21, fd__law_content := _, F__law_content := F21, g__law_content := PySem.W.mg_of X G a21, b__law_content := b21, a__law_changed := f22, fd__law_changed := _, F__law_changed := F22, g__law_changed := PySem.W.mg_of X G a22, b__law_changed := b22, a__law_has_body := f23, fd__law_has_body := _, F__law_has_body := F23, g__law_has_body := PySem.W.mg_of X G a23, b__law_has_body := b23, a__law_asks_second := f24, fd__law_asks_second := _, F__law_asks_second := F24, g__law_asks_second := PySem.W.mg_of X G a24, b__law_asks_second := b24, a_law := f25, fd_law := _, F_law := F25, g_law := PySem.W.mg_of X G a25, b_law := b25, c_MODULUS := ⟨_, PySem.W.mg_of X G u0, .int _, ⟨_, rfl⟩, fun _ => .int _⟩, c_NUMBER_LIMIT := ⟨_, PySem.W.mg_of X G u1, .int _, ⟨_, rfl⟩, fun _ => .int _⟩, c_BLOCK_LIMIT := ⟨_, PySem.W.mg_of X G u2, .int _, ⟨_, rfl⟩, fun _ => .int _⟩, c_PAGE_LIMIT := ⟨_, PySem.W.mg_of X G u3, .int _, ⟨_, rfl⟩, fun _ => .int _⟩, c_ENTRY_LIMIT := ⟨_, PySem.W.mg_of X G u4, .int _, ⟨_, rfl⟩, fun _ => .int _⟩, c_VALUE_LIMIT := ⟨_, PySem.W.mg_of X G u5, .int _, ⟨_, rfl⟩, fun _ => .int _⟩, c_CHILDREN := ⟨_, PySem.W.mg_of X G u6, .int _, ⟨_, rfl⟩, fun _ => .int _⟩, n_all := PySem.W.mg_none_of X G z0, n_int := PySem.W.mg_none_of X G z1, n_len := PySem.W.mg_none_of X G z2, n_list := PySem.W.mg_none_of X G z3, n_max := PySem.W.mg_none_of X G z4, n_range := PySem.W.mg_none_of X G z5, n_sum := PySem.W.mg_none_of X G z6, n_tuple := PySem.W.mg_none_of X G z7, A_InvalidContent := X0, x_InvalidContent := xx0, y_InvalidContent := ⟨PySem.F.excBase_ValueError, xq0⟩, subs := subs }
  exact ⟨T.fd_law, fun s v => .of_eq rfl, fun base _ _ => (ok_law T).imp fun vs H Q E h => law_imp goal vs H Q E h⟩
end Law

set_option Elab.async false
set_option linter.all false
set_option maxRecDepth 100000
set_option maxHeartbeats 4000000
/-! Contents of pages. -/
namespace Law
open PySem L2 T
local macro_rules
  | `(tactic| array_mem_dec) => `(tactic| first
    | with_reducible assumption
    | with_reducible exact dAdd_i
    | with_reducible exact dSub_i
    | with_reducible exact dLt_i
    | with_reducible exact dLe_i
    | with_reducible exact dGt_i
    | with_reducible exact dGe_i
    | with_reducible exact dEq_i
    | with_reducible exact dNe_i
    | with_reducible exact dInt_i
    | with_reducible exact dNeg_i
    | with_reducible exact dNotB_b
    | with_reducible exact dTru_b
    | with_reducible exact dEq_b
    | with_reducible exact dNe_b
    | with_reducible exact dEq_S
    | with_reducible exact dNe_S
    | with_reducible exact dLen_l
    | with_reducible exact dLen_t
    | with_reducible exact dLen_c
    | with_reducible exact dList_l
    | with_reducible exact dList_t
    | with_reducible exact dTuple_l
    | with_reducible exact dTuple_t
    | with_reducible exact dItems_l
    | with_reducible exact dItems_t
    | with_reducible exact isi_ll
    | with_reducible exact isi_tt
    | with_reducible exact isi_ss
    | with_reducible exact isi_ii
    | with_reducible exact dIs_n
    | with_reducible exact dIsNot_n
    | with_reducible exact dIs_b
    | with_reducible exact dIsNot_b
    | (with_reducible apply dMod_ok
       first | decide | omega)
    | (with_reducible apply dDiv_ok
       first | decide | assumption | omega)
    | (with_reducible apply dMul_ok
       first | assumption | decide)
    | (with_reducible apply dAdd_S
       first | omega | (simp; done) | (simp; omega) | (simp only [List.length_append, List.length_map, List.length_cons, List.length_nil, List.length_singleton] at *; omega))
    | (with_reducible apply dLen_S
       first | omega | (simp; done) | (simp; omega) | (simp only [List.length_append, List.length_map, List.length_cons, List.length_nil, List.length_singleton] at *; omega))
    | (with_reducible apply dAdd_L
       first | omega | (simp; done) | (simp; omega) | (simp only [List.length_append, List.length_map, List.length_cons, List.length_nil, List.length_singleton] at *; omega))
    | (with_reducible apply dAdd_T
       first | omega | (simp; done) | (simp; omega) | (simp only [List.length_append, List.length_map, List.length_cons, List.length_nil, List.length_singleton] at *; omega))
    | (with_reducible apply dAdd_l'
       first | omega | (simp; done) | (simp; omega) | (simp only [List.length_append, List.length_map, List.length_cons, List.length_nil, List.length_singleton] at *; omega))
    | (with_reducible apply dAdd_t'
       first | omega | (simp; done) | (simp; omega) | (simp only [List.length_append, List.length_map, List.length_cons, List.length_nil, List.length_singleton] at *; omega))
    | (with_reducible apply dCat_l'
       first | omega | (simp; done) | (simp; omega) | (simp only [List.length_append, List.length_map, List.length_cons, List.length_nil, List.length_singleton] at *; omega))
    | with_reducible exact dEq_s
    | with_reducible exact dNe_s
    | with_reducible exact dIx_last
    | (with_reducible apply dIx_t
       exact rfl)
    | (with_reducible apply dIx_l
       rfl))
local macro_rules
  | `(tactic| array_get_dec) => `(tactic| first
    | with_reducible exact conD_ap
    | (with_reducible show getV _ _ = _
       exact rfl)
    | with_reducible exact noA_ap
    | with_reducible exact noPart_ap
    | with_reducible exact yesB_ap
    | with_reducible assumption
    | (with_reducible apply bin_ok
       · array_get_dec
       · array_get_dec
       · array_mem_dec)
    | (with_reducible apply u_call
       · array_get_dec
       · array_mem_dec)
    | (with_reducible apply u_consA
       · array_get_dec
       · array_get_dec)
    | (with_reducible apply toB_ok
       array_get_dec)
    | (with_reducible apply u_and
       · array_get_dec
       · array_get_dec)
    | (with_reducible apply orB_ok
       · array_get_dec
       · array_get_dec)
    | (with_reducible apply notB_ok
       array_get_dec)
    | (with_reducible apply u_tru
       · array_get_dec
       · array_mem_dec)
    | (with_reducible apply u_chain
       · array_get_dec
       · array_get_dec
       · array_mem_dec
       · array_get_dec
       · array_mem_dec)
    | (with_reducible apply u_tup
       · array_get_dec
       · simp)
    | (with_reducible apply u_lst
       · array_get_dec
       · simp)
    | (with_reducible apply lstD_ok
       array_get_dec)
    | (with_reducible apply u_items
       · array_get_dec
       · array_mem_dec)
    | (with_reducible apply u_andV
       · array_get_dec
       · array_get_dec)
    | (with_reducible apply u_orV
       · array_get_dec
       · array_get_dec)
    | (with_reducible apply u_neg
       · array_get_dec
       · array_mem_dec)
    | (with_reducible apply u_notV
       · array_get_dec
       · array_mem_dec)
    | (with_reducible apply u_sl
       · array_get_dec
       · array_get_dec
       · array_get_dec
       · array_mem_dec)
    | (with_reducible apply rev_ok
       array_get_dec)
    | (with_reducible apply u_part
       array_get_dec)
    | (with_reducible apply u_meth
       · array_get_dec
       · exact rfl
       · array_get_dec
       · array_mem_dec)
    | (with_reducible apply u_own
       array_get_dec))
local macro_rules
  | `(tactic| sizeOf_list_dec) => `(tactic| first
    | (with_reducible apply set_eq
       · array_get_dec
       · exact rfl)
    | (with_reducible apply ret_eq
       · array_get_dec
       · exact rfl)
    | (with_reducible apply setN_eq
       · array_get_dec
       · exact rfl)
    | (with_reducible apply skip_eq
       exact rfl)
    | (with_reducible apply app_eq
       · exact rfl
       · array_get_dec
       · first | omega | (simp; done) | (simp; omega) | (simp only [List.length_append, List.length_map, List.length_cons, List.length_nil, List.length_singleton] at *; omega)
       · exact rfl)
    | with_reducible assumption
    | (with_reducible apply seq_nx
       · sizeOf_list_dec))
local macro_rules
  | `(tactic| get_elem_tactic_trivial) => `(tactic| (with_reducible apply ok_d
                                                     · array_get_dec
                                                     · exact rfl))
inductive Con where
  | mark (n : Int)
  | node (lv : Int) (ch : List (Option (Int × Int)))
  | item (ep ix : Int) (last : Bool) (key : Int) (val : Option (List Int))
  | root (nu ep : Int) (tree : Option (Int × Int)) (jo : List Int) (pl : List (Option Int)) (er bad : List Int)
def encO : Option Int → D
  | none => .non
  | some i => .int i
def encA : Option (Int × Int) → D
  | none => .non
  | some p => .tup [.int p.1, .int p.2]
abbrev encIs (l : List Int) : D := .tup (l.map D.int)
def encV : Option (List Int) → D
  | none => .non
  | some l => encIs l
def encC : Con → D
  | .mark n => .tup [.str "mark", .int n]
  | .node lv ch => .tup [.str "node", .int lv, .tup (ch.map encA)]
  | .item ep ix last key val => .tup [.str "item", .int ep, .int ix, .bl last, .int key, encV val]
  | .root nu ep tree jo pl er bad => .tup [.str "root", .int nu, .int ep, encA tree, encIs jo, .tup (pl.map encO), encIs er, encIs bad]
def isNum (n : Int) : Bool := decide (0 ≤ n) && decide (n < 4294967296)
def isBlk (b : Int) : Bool := decide (0 ≤ b) && decide (b < 48)
def isOct (b : Int) : Bool := decide (0 ≤ b) && decide (b < 256)
def isAdr : Option (Int × Int) → Bool
  | none => true
  | some p => isBlk p.1 && (decide (0 ≤ p.2) && decide (p.2 < 32))
def isPl : Option Int → Bool
  | none => true
  | some b => isBlk b
def fitsV : Option (List Int) → Bool
  | none => true
  | some l => decide (l.length ≤ 448) && l.all isOct
def fits : Con → Bool
  | .mark n => isNum n
  | .node lv ch => isOct lv && (decide (ch.length = 32) && ch.all isAdr)
  | .item ep ix _ key val => isNum ep && (isNum ix && (isNum key && fitsV val))
  | .root nu ep tree jo pl er bad => isNum nu && (isNum ep && (isAdr tree && (decide (max (max (jo.length : Int) pl.length) (max (er.length : Int) bad.length) ≤ 48) && (pl.all isPl && ((jo ++ bad).all isBlk && er.all isNum)))))
/-- lists of some thousands at most -/
def Small : Con → Prop
  | .mark _ => True
  | .node _ ch => ch.length ≤ 1000
  | .item _ _ _ _ val => ∀ l, val = some l → l.length ≤ 1000
  | .root _ _ _ jo pl er bad => jo.length ≤ 1000 ∧ pl.length ≤ 1000 ∧ er.length ≤ 1000 ∧ bad.length ≤ 1000
theorem is_number_eq (n : Int) : f_is_number [.int n] = .ok (.bl (isNum n)) := by
  refine runF_rt rfl ?_
  unfold m_is_number
  sizeOf_list_dec
theorem is_block_eq (n : Int) : f_is_block [.int n] = .ok (.bl (isBlk n)) := by
  refine runF_rt rfl ?_
  unfold m_is_block
  sizeOf_list_dec
theorem is_address_eq (a : Option (Int × Int)) : f_is_address [encA a] = .ok (.bl (isAdr a)) := by
  refine runF_rt rfl (ret_ok ?_)
  cases a with
  | none => exact u_orV_t rfl
  | some p =>
    have h0 : dIx (encA (some p)) (.int 0) = .ok (.int p.1) := dIx_t rfl
    have h1 : dIx (encA (some p)) (.int 1) = .ok (.int p.2) := dIx_t rfl
    have h2 := is_block_eq p.1
    have hg : getV 0 (startR 1 [encA (some p)]) = .ok (encA (some p)) := rfl
    refine u_orV_r (bin_ok hg rfl (dIs_n.trans rfl)) ?_
    exact u_andV (by array_get_dec) (by array_get_dec)
theorem places_all {ρ : Rho} {i j : Nat} {pl : List (Option Int)} (hl : pl.length ≤ 1000) (hg : getV i ρ = .ok (.tup (pl.map encO))) (hj : j < ρ.length) :
    callV dAll (consA (lstD (compV (itemsV (getV i)) (bNm j) yesB (orV (T.bin dIs (getV j) (conD .non)) (callV f_is_block (consA (getV j) noA))) [j])) noA) ρ = .ok (.bl (pl.all isPl)) := by
  refine all_comp (enc := encO) isPl (by array_get_dec) (by omega) fun x _ => ⟨_, rfl, ?_⟩
  have hv : getV j ((wipeR ρ [j]).set j (some (encO x))) = .ok (encO x) := x_getV (by
    rw [List.getElem?_set_self]
    simpa [wipeR] using hj)
  cases x with
  | none => exact u_orV_t (bin_ok hv rfl (dIs_n.trans rfl))
  | some b => exact u_orV_r (bin_ok hv rfl (dIs_n.trans rfl)) (call1_ok hv (is_block_eq b))
theorem ints_all {ρ : Rho} {j : Nat} {src : Rho → Res (List D)} {f : List D → Res D} {p : Int → Bool} {l : List Int} (hl : l.length ≤ 10000) (hs : src ρ = .ok (l.map D.int)) (hj : j < ρ.length) (hf : ∀ n, f [.int n] = .ok (.bl (p n))) :
    callV dAll (consA (lstD (compV src (bNm j) yesB (callV f (consA (getV j) noA)) [j])) noA) ρ = .ok (.bl (l.all p)) := by
  refine all_comp (enc := D.int) p hs (by omega) fun x _ => ⟨_, rfl, ?_⟩
  have hv : getV j ((wipeR ρ [j]).set j (some (.int x))) = .ok (.int x) := x_getV (by
    rw [List.getElem?_set_self]
    simpa [wipeR] using hj)
  exact call1_ok hv (hf x)
theorem root_fits_eq {nu ep : Int} {tree : Option (Int × Int)} {jo : List Int} {pl : List (Option Int)} {er bad : List Int} (hs : Small (.root nu ep tree jo pl er bad)) : f_root_fits [encC (.root nu ep tree jo pl er bad)] = .ok (.bl (fits (.root nu ep tree jo pl er bad))) := by
  obtain ⟨l1, l2, l3, l4⟩ := hs
  refine runF_rt rfl ?_
  unfold m_root_fits
  refine seq_nx (ρ' := [some (encC (.root nu ep tree jo pl er bad)), some (.int nu), some (.int ep), some (encA tree), some (encIs jo), some (.tup (pl.map encO)), some (encIs er), some (encIs bad), none, none, none]) rfl ?_
  have h1 := is_number_eq nu
  have h2 := is_number_eq ep
  have h3 := is_address_eq tree
  by_cases hA : (isNum nu && (isNum ep && isAdr tree)) = true
  · refine seq_g (by array_get_dec) (by cases h : isNum nu <;> cases h' : isNum ep <;> cases h'' : isAdr tree <;> simp_all) ?_
    have hm : dMax4 [.int ((jo.map D.int).length : Int), .int ((pl.map encO).length : Int), .int ((er.map D.int).length : Int), .int ((bad.map D.int).length : Int)] = .ok (.int (max (max (jo.length : Int) pl.length) (max (er.length : Int) bad.length))) := by
      rw [List.length_map, List.length_map, List.length_map, List.length_map]
      rfl
    by_cases hB : max (max (jo.length : Int) pl.length) (max (er.length : Int) bad.length) ≤ 48
    · refine seq_g (by array_get_dec) (by simp; omega) ?_
      have hp := places_all (ρ := [some (encC (.root nu ep tree jo pl er bad)), some (.int nu), some (.int ep), some (encA tree), some (encIs jo), some (.tup (pl.map encO)), some (encIs er), some (encIs bad), none, none, none]) (i := 5) (j := 8) l2 rfl (by simp)
      by_cases hC : pl.all isPl = true
      · refine seq_g (notB_ok (u_tru hp dTru_b)) (by rw [hC]; rfl) (ret_ok ?_)
        refine (u_andV (ints_all (l := jo ++ bad) (p := isBlk) (by simp; omega) (by array_get_dec) (by simp) is_block_eq) (ints_all (l := er) (p := isNum) (by omega) (by array_get_dec) (by simp) is_number_eq)).trans ?_
        have e : fits (.root nu ep tree jo pl er bad) = ((jo ++ bad).all isBlk && er.all isNum) := by
          have e1 : isNum nu = true := by cases h : isNum nu <;> simp_all
          have e2 : isNum ep = true := by cases h : isNum ep <;> simp_all
          have e3 : isAdr tree = true := by cases h : isAdr tree <;> simp_all
          simp only [fits, e1, e2, e3, decide_eq_true hB, hC, Bool.true_and]
        rw [e]
      · have hC' : pl.all isPl = false := by simpa using hC
        have e : fits (.root nu ep tree jo pl er bad) = false := by
          unfold fits
          simp only [hC', Bool.false_and, Bool.and_false]
        rw [e]
        exact seq_gt (notB_ok (u_tru hp dTru_b)) (by rw [hC']; rfl) rfl
    · have e : fits (.root nu ep tree jo pl er bad) = false := by
        unfold fits
        simp only [decide_eq_false hB, Bool.false_and, Bool.and_false]
      rw [e]
      exact seq_gt (by array_get_dec) (by simp; omega) rfl
  · have e : fits (.root nu ep tree jo pl er bad) = false := by
      unfold fits
      cases h : isNum nu <;> cases h' : isNum ep <;> cases h'' : isAdr tree <;> simp_all
    rw [e]
    exact seq_gt (by array_get_dec) (by cases h : isNum nu <;> cases h' : isNum ep <;> cases h'' : isAdr tree <;> simp_all) rfl
theorem item_fits_eq {ep ix : Int} {last : Bool} {key : Int} {val : Option (List Int)} (hs : Small (.item ep ix last key val)) : f_item_fits [encC (.item ep ix last key val)] = .ok (.bl (fits (.item ep ix last key val))) := by
  refine runF_rt rfl ?_
  unfold m_item_fits
  refine seq_nx (ρ' := [some (encC (.item ep ix last key val)), some (.int ep), some (.int ix), some (.int key), some (encV val), none]) rfl ?_
  have h1 := is_number_eq ep
  have h2 := is_number_eq ix
  have h3 := is_number_eq key
  by_cases hA : (isNum ep && (isNum ix && isNum key)) = true
  · refine seq_g (by array_get_dec) (by cases h : isNum ep <;> cases h' : isNum ix <;> cases h'' : isNum key <;> simp_all) (ret_ok ?_)
    have hv : getV 4 [some (encC (.item ep ix last key val)), some (.int ep), some (.int ix), some (.int key), some (encV val), none] = .ok (encV val) := rfl
    cases val with
    | none =>
      refine (u_orV_t (bin_ok hv rfl (dIs_n.trans rfl))).trans ?_
      unfold fits fitsV
      cases h : isNum ep <;> cases h' : isNum ix <;> cases h'' : isNum key <;> simp_all
    | some l =>
      have hl := hs l rfl
      have hlen : callV dLen (consA (getV 4) noA) [some (encC (.item ep ix last key (some l))), some (.int ep), some (.int ix), some (.int key), some (encV (some l)), none] = .ok (.int (l.length : Int)) := len_ok (sq_t l) rfl
      refine u_orV_r (bin_ok hv rfl (dIs_n.trans rfl)) ?_
      refine (u_andV (bin_ok hlen rfl dLe_i) (all_comp (enc := D.int) (xs := l) isOct rfl (by omega) fun x _ => ⟨_, rfl, ?_⟩)).trans ?_
      · get_elem_tactic_trivial
      · unfold fits fitsV
        have e : decide ((l.length : Int) ≤ 448) = decide (l.length ≤ 448) := by
          rw [Bool.eq_iff_iff]
          simp
          omega
        rw [e]
        cases h : isNum ep <;> cases h' : isNum ix <;> cases h'' : isNum key <;> simp_all
  · have e : fits (.item ep ix last key val) = false := by
      unfold fits
      cases h : isNum ep <;> cases h' : isNum ix <;> cases h'' : isNum key <;> simp_all
    rw [e]
    exact seq_gt (by array_get_dec) (by cases h : isNum ep <;> cases h' : isNum ix <;> cases h'' : isNum key <;> simp_all) rfl
def kindS : Con → Str
  | .mark _ => "mark"
  | .node _ _ => "node"
  | .item _ _ _ _ _ => "item"
  | .root _ _ _ _ _ _ _ => "root"
def isRoot : Con → Bool
  | .root _ _ _ _ _ _ _ => true
  | _ => false
def isItem : Con → Bool
  | .item _ _ _ _ _ => true
  | _ => false
def isNode : Con → Bool
  | .node _ _ => true
  | _ => false
def isMark : Con → Bool
  | .mark _ => true
  | _ => false
theorem kind_root (c : Con) : dEq (.str (kindS c)) (.str "root") = .ok (.bl (isRoot c)) := by
  cases c with
  | mark a => exact dEq_s.trans (congrArg Res.ok (congrArg D.bl (decide_eq_false (by decide +kernel : ¬ (("mark" : Str) = "root")))))
  | node a b => exact dEq_s.trans (congrArg Res.ok (congrArg D.bl (decide_eq_false (by decide +kernel : ¬ (("node" : Str) = "root")))))
  | item a b c d e => exact dEq_s.trans (congrArg Res.ok (congrArg D.bl (decide_eq_false (by decide +kernel : ¬ (("item" : Str) = "root")))))
  | root a b c d e f g => exact dEq_s.trans (congrArg Res.ok (congrArg D.bl (decide_eq_true (rfl : (("root" : Str) = "root")))))
theorem kind_item (c : Con) : dEq (.str (kindS c)) (.str "item") = .ok (.bl (isItem c)) := by
  cases c with
  | mark a => exact dEq_s.trans (congrArg Res.ok (congrArg D.bl (decide_eq_false (by decide +kernel : ¬ (("mark" : Str) = "item")))))
  | node a b => exact dEq_s.trans (congrArg Res.ok (congrArg D.bl (decide_eq_false (by decide +kernel : ¬ (("node" : Str) = "item")))))
  | item a b c d e => exact dEq_s.trans (congrArg Res.ok (congrArg D.bl (decide_eq_true (rfl : (("item" : Str) = "item")))))
  | root a b c d e f g => exact dEq_s.trans (congrArg Res.ok (congrArg D.bl (decide_eq_false (by decide +kernel : ¬ (("root" : Str) = "item")))))
theorem kind_node (c : Con) : dEq (.str (kindS c)) (.str "node") = .ok (.bl (isNode c)) := by
  cases c with
  | mark a => exact dEq_s.trans (congrArg Res.ok (congrArg D.bl (decide_eq_false (by decide +kernel : ¬ (("mark" : Str) = "node")))))
  | node a b => exact dEq_s.trans (congrArg Res.ok (congrArg D.bl (decide_eq_true (rfl : (("node" : Str) = "node")))))
  | item a b c d e => exact dEq_s.trans (congrArg Res.ok (congrArg D.bl (decide_eq_false (by decide +kernel : ¬ (("item" : Str) = "node")))))
  | root a b c d e f g => exact dEq_s.trans (congrArg Res.ok (congrArg D.bl (decide_eq_false (by decide +kernel : ¬ (("root" : Str) = "node")))))
theorem kind_mark (c : Con) : dEq (.str (kindS c)) (.str "mark") = .ok (.bl (isMark c)) := by
  cases c with
  | mark a => exact dEq_s.trans (congrArg Res.ok (congrArg D.bl (decide_eq_true (rfl : (("mark" : Str) = "mark")))))
  | node a b => exact dEq_s.trans (congrArg Res.ok (congrArg D.bl (decide_eq_false (by decide +kernel : ¬ (("node" : Str) = "mark")))))
  | item a b c d e => exact dEq_s.trans (congrArg Res.ok (congrArg D.bl (decide_eq_false (by decide +kernel : ¬ (("item" : Str) = "mark")))))
  | root a b c d e f g => exact dEq_s.trans (congrArg Res.ok (congrArg D.bl (decide_eq_false (by decide +kernel : ¬ (("root" : Str) = "mark")))))
theorem kind_ix (c : Con) : dIx (encC c) (.int 0) = .ok (.str (kindS c)) := by
  cases c <;> exact dIx_t rfl
theorem fits_page_eq {c : Con} (hs : Small c) : f_fits_page [encC c] = .ok (.bl (fits c)) := by
  have hk := kind_ix c
  have k1 := kind_root c
  have k2 := kind_item c
  have k3 := kind_node c
  refine runF_rt rfl ?_
  unfold m_fits_page
  cases c with
  | root nu ep tree jo pl er bad =>
    have h := root_fits_eq hs
    exact seq_gt (by array_get_dec) (by rfl) (by sizeOf_list_dec)
  | item ep ix last key val =>
    have h := item_fits_eq hs
    refine seq_g (by array_get_dec) (by rfl) ?_
    exact seq_gt (by array_get_dec) (by rfl) (by sizeOf_list_dec)
  | node lv ch =>
    have hs' : ch.length ≤ 1000 := hs
    have i1 : dIx (encC (.node lv ch)) (.int 1) = .ok (.int lv) := dIx_t rfl
    have i2 : dIx (encC (.node lv ch)) (.int 2) = .ok (.tup (ch.map encA)) := dIx_t rfl
    refine seq_g (by array_get_dec) (by rfl) ?_
    refine seq_g (by array_get_dec) (by rfl) ?_
    refine seq_gt (by array_get_dec) (by rfl) ?_
    sizeOf_list_dec
    refine ret_ok ?_
    have hlen : T.bin dEq (callV dLen (consA (getV 1) noA)) (conD d_CHILDREN) [some (encC (.node lv ch)), some (.tup (ch.map encA)), none] = .ok (.bl (decide (ch.length = 32))) := by
      refine (bin_ok (len_ok (sq_t ch) rfl) rfl dEq_i).trans (congrArg Res.ok (congrArg D.bl ?_))
      rw [Bool.eq_iff_iff]
      simp
      omega
    refine (u_andV (ok_d (by array_get_dec) rfl) (u_andV hlen (all_comp (enc := encA) (xs := ch) isAdr rfl (by omega) fun x _ => ⟨_, rfl, call1_ok rfl (is_address_eq x)⟩))).trans ?_
    rfl
  | mark n =>
    have i1 : dIx (encC (.mark n)) (.int 1) = .ok (.int n) := dIx_t rfl
    have h := is_number_eq n
    refine seq_g (by array_get_dec) (by rfl) ?_
    refine seq_g (by array_get_dec) (by rfl) ?_
    refine seq_g (by array_get_dec) (by rfl) ?_
    sizeOf_list_dec
/-! ### bodies -/
def digits : Int → Nat → List Int
  | _, 0 => []
  | n, w + 1 => n % 256 :: digits (n / 256) w
def numRow (n : Int) (w : Nat) : List Int := (digits n w).reverse
theorem digits_len : ∀ (w : Nat) (n : Int), (digits n w).length = w
  | 0, _ => rfl
  | w + 1, n => by simp [digits, digits_len w]
theorem numRow_len (n : Int) (w : Nat) : (numRow n w).length = w := by simp [numRow, digits_len]
theorem number_row_eq (n : Int) {w : Nat} (hw : w ≤ 1000) : f_number_row [.int n, .int (w : Int)] = .ok (.lst ((numRow n w).map D.int)) := by
  refine runF_rt rfl ?_
  obtain ⟨ρ', hf, m, row, x3, rfl, hr⟩ := for_inv (b := bNm 3) (body := m_number_row_b1)
    (fun k ρ => ∃ (m : Int) (row : List Int) (x3 : Option D), ρ = [some (.int m), some (.int (w : Int)), some (.lst (row.map D.int)), x3] ∧ (row ++ digits m (w - k) = digits n w ∧ row.length = k))
    ((List.range w).map fun (i : Nat) => D.int i) (fun k x ρ hk hI => by
      obtain ⟨m, row, x3, rfl, hr, hl⟩ := hI
      have hkl : k < w := by
        have := (List.getElem?_eq_some_iff.mp hk).1
        simpa using this
      refine ⟨_, rfl, [some (.int (m / 256)), some (.int (w : Int)), some (.lst ((row ++ [m % 256]).map D.int)), some x], .inl ?_, m / 256, row ++ [m % 256], some x, rfl, ?_, by simp [hl]⟩
      · unfold m_number_row_b1
        rw [List.map_append]
        sizeOf_list_dec
        sizeOf_list_dec
      · rw [← hr, show w - k = (w - (k + 1)) + 1 by omega, digits]
        simp) (ρ := [some (.int n), some (.int (w : Int)), some (.lst []), none]) ⟨n, [], none, rfl, rfl, rfl⟩
  rw [List.length_map, List.length_range, Nat.sub_self] at hr
  simp only [digits, List.append_nil] at hr
  rw [hr.1] at hf
  unfold m_number_row
  sizeOf_list_dec
  refine seq_nx (for_ok (call1_ok rfl (rng1_ok (by omega))) hf) (ret_ok (lstD_ok ((rev_ok rfl).trans ?_)))
  rw [← List.map_reverse]
  rfl
def adrRow : Option (Int × Int) → List Int
  | none => [255, 255]
  | some p => [p.1, p.2]
def plRow : Option Int → List Int
  | none => [255]
  | some p => [p]
theorem address_row_eq (a : Option (Int × Int)) : f_address_row [encA a] = .ok (.lst ((adrRow a).map D.int)) := by
  refine runF_rt rfl ?_
  unfold m_address_row
  cases a with
  | none => exact seq_gt (toB_ok (bin_ok (x := .non) rfl rfl (dIs_n.trans rfl))) rfl rfl
  | some p =>
    have h0 : dIx (encA (some p)) (.int 0) = .ok (.int p.1) := dIx_t rfl
    have h1 : dIx (encA (some p)) (.int 1) = .ok (.int p.2) := dIx_t rfl
    refine seq_g (toB_ok (bin_ok (x := encA (some p)) rfl rfl (dIs_n.trans rfl))) rfl ?_
    sizeOf_list_dec
theorem place_row_eq (a : Option Int) : f_place_row [encO a] = .ok (.lst ((plRow a).map D.int)) := by
  refine runF_rt rfl ?_
  unfold m_place_row
  cases a with
  | none => exact seq_gt (toB_ok (bin_ok (x := .non) rfl rfl (dIs_n.trans rfl))) rfl rfl
  | some p => exact seq_g (toB_ok (bin_ok (x := .int p) rfl rfl (dIs_n.trans rfl))) rfl rfl
def bodyC : Con → List Int
  | .mark n => numRow n 4
  | .node lv ch => lv :: (ch.map adrRow).flatten
  | .item ep ix last key val => numRow ep 4 ++ numRow ix 4 ++ [if last then 1 else 0] ++ numRow key 4 ++ (match val with
    | none => [0]
    | some l => 1 :: (numRow l.length 2 ++ l))
  | .root nu ep tree jo pl er bad => numRow nu 4 ++ numRow ep 4 ++ adrRow tree ++ ((jo.length : Int) :: jo) ++ ((pl.length : Int) :: (pl.map plRow).flatten) ++ ((er.length : Int) :: (er.map fun n => numRow n 4).flatten) ++ ((bad.length : Int) :: bad)
theorem ext_ok {ρ : Rho} {i : Nat} {g : Rho → Res D} {a b : List Int} {ρ' : Rho} (h0 : ρ[i]? = some (some (.lst (a.map D.int)))) (hg : g ρ = .ok (.lst (b.map D.int))) (hl : a.length + b.length ≤ 1000000) (e : ρ.set i (some (.lst ((a ++ b).map D.int))) = ρ') : sExt i g ρ = .nx ρ' := by
  unfold sExt
  rw [x_atL h0, hg, thenS_ok]
  simp only
  rw [if_pos (sz1 (by simpa using hl)), ← List.map_append, e]
/-- a loop that extends a row -/
theorem ext_loop {α : Type} {enc : α → D} {row : α → List Int} {i j : Nat} {body : Rho → Out} {xs : List α} {pre : List Int} {ρ : Rho} (hb : ∀ (k : Nat) (x : α) (ρ1 : Rho) (acc : List Int), xs[k]? = some x → ρ1[i]? = some (some (.lst (acc.map D.int))) → ρ1[j]? = some (some (enc x)) → acc.length ≤ 100000 → body ρ1 = .nx (ρ1.set i (some (.lst ((acc ++ row x).map D.int)))))
    (hne : i ≠ j) (hi : i < ρ.length) (hj : j < ρ.length) (h0 : ρ[i]? = some (some (.lst (pre.map D.int)))) (hl : (pre ++ (xs.map row).flatten).length ≤ 100000) : ∃ x, forM (bNm j) body (xs.map enc) ρ = .nx ((ρ.set i (some (.lst ((pre ++ (xs.map row).flatten).map D.int)))).set j x) := by
  obtain ⟨ρ', hf, x, rfl⟩ := for_inv (b := bNm j) (body := body) (fun k ρ2 => ∃ x, ρ2 = (ρ.set i (some (.lst ((pre ++ ((xs.take k).map row).flatten).map D.int)))).set j x) (xs.map enc) (fun k d ρ2 hk hI => by
    obtain ⟨x, rfl⟩ := hI
    rw [List.getElem?_map] at hk
    obtain ⟨y, hy, rfl⟩ := Option.map_eq_some_iff.mp hk
    have hle : (pre ++ ((xs.take k).map row).flatten).length ≤ 100000 := by
      refine Nat.le_trans ?_ hl
      have : (((xs.take k).map row).flatten).length + (((xs.drop k).map row).flatten).length = ((xs.map row).flatten).length := by rw [← List.length_append, ← List.flatten_append, ← List.map_append, List.take_append_drop]
      simp only [List.length_append]
      omega
    refine ⟨_, rfl, _, .inl (hb k y _ (pre ++ ((xs.take k).map row).flatten) hy ?_ ?_ hle), some (enc y), ?_⟩
    · rw [List.set_set, List.getElem?_set_ne (Ne.symm hne), List.getElem?_set_self hi]
    · rw [List.getElem?_set_self (by simpa using hj)]
    · rw [List.set_set, List.set_comm _ _ (Ne.symm hne), List.set_set, List.take_add_one, hy]
      simp) (ρ := ρ) ⟨(ρ[j]?).getD none, by
        simp only [List.take_zero, List.map_nil, List.flatten_nil, List.append_nil]
        have e1 : ρ.set i (some (.lst (pre.map D.int))) = ρ := by
          refine List.ext_getElem? fun m => ?_
          by_cases hm : i = m
          · subst hm
            rw [List.getElem?_set_self hi, h0]
          · rw [List.getElem?_set_ne hm]
        rw [e1]
        refine List.ext_getElem? fun m => ?_
        by_cases hm : j = m
        · subst hm
          rw [List.getElem?_set_self hj, List.getElem?_eq_getElem hj]
          rfl
        · rw [List.getElem?_set_ne hm]⟩
  rw [List.length_map, List.take_length] at hf
  exact ⟨x, hf⟩
end Law

set_option Elab.async false
set_option linter.all false
set_option maxRecDepth 100000
set_option maxHeartbeats 4000000
/-! Bodies of contents. -/
namespace Law
open PySem L2 T
local macro_rules
  | `(tactic| array_mem_dec) => `(tactic| first
    | with_reducible assumption
    | with_reducible exact dAdd_i
    | with_reducible exact dSub_i
    | with_reducible exact dLt_i
    | with_reducible exact dLe_i
    | with_reducible exact dGt_i
    | with_reducible exact dGe_i
    | with_reducible exact dEq_i
    | with_reducible exact dNe_i
    | with_reducible exact dInt_i
    | with_reducible exact dNeg_i
    | with_reducible exact dNotB_b
    | with_reducible exact dTru_b
    | with_reducible exact dEq_b
    | with_reducible exact dNe_b
    | with_reducible exact dEq_S
    | with_reducible exact dNe_S
    | with_reducible exact dLen_l
    | with_reducible exact dLen_t
    | with_reducible exact dLen_c
    | with_reducible exact dList_l
    | with_reducible exact dList_t
    | with_reducible exact dTuple_l
    | with_reducible exact dTuple_t
    | with_reducible exact dItems_l
    | with_reducible exact dItems_t
    | with_reducible exact isi_ll
    | with_reducible exact isi_tt
    | with_reducible exact isi_ss
    | with_reducible exact isi_ii
    | with_reducible exact dIs_n
    | with_reducible exact dIsNot_n
    | with_reducible exact dIs_b
    | with_reducible exact dIsNot_b
    | (with_reducible apply dMod_ok
       first | decide | omega)
    | (with_reducible apply dDiv_ok
       first | decide | assumption | omega)
    | (with_reducible apply dMul_ok
       first | assumption | decide)
    | (with_reducible apply dAdd_S
       first | omega | (simp; done) | (simp; omega) | (simp only [List.length_append, List.length_map, List.length_cons, List.length_nil, List.length_singleton] at *; omega))
    | (with_reducible apply dLen_S
       first | omega | (simp; done) | (simp; omega) | (simp only [List.length_append, List.length_map, List.length_cons, List.length_nil, List.length_singleton] at *; omega))
    | (with_reducible apply dAdd_L
       first | omega | (simp; done) | (simp; omega) | (simp only [List.length_append, List.length_map, List.length_cons, List.length_nil, List.length_singleton] at *; omega))
    | (with_reducible apply dAdd_T
       first | omega | (simp; done) | (simp; omega) | (simp only [List.length_append, List.length_map, List.length_cons, List.length_nil, List.length_singleton] at *; omega))
    | (with_reducible apply dAdd_l'
       first | omega | (simp; done) | (simp; omega) | (simp only [List.length_append, List.length_map, List.length_cons, List.length_nil, List.length_singleton] at *; omega))
    | (with_reducible apply dAdd_t'
       first | omega | (simp; done) | (simp; omega) | (simp only [List.length_append, List.length_map, List.length_cons, List.length_nil, List.length_singleton] at *; omega))
    | (with_reducible apply dCat_l'
       first | omega | (simp; done) | (simp; omega) | (simp only [List.length_append, List.length_map, List.length_cons, List.length_nil, List.length_singleton] at *; omega))
    | with_reducible exact dEq_s
    | with_reducible exact dNe_s
    | with_reducible exact dIx_last
    | (with_reducible apply dIx_t
       exact rfl)
    | (with_reducible apply dIx_l
       rfl))
local macro_rules
  | `(tactic| array_get_dec) => `(tactic| first
    | with_reducible exact conD_ap
    | (with_reducible show getV _ _ = _
       exact rfl)
    | with_reducible exact noA_ap
    | with_reducible exact noPart_ap
    | with_reducible exact yesB_ap
    | with_reducible assumption
    | (with_reducible apply bin_ok
       · array_get_dec
       · array_get_dec
       · array_mem_dec)
    | (with_reducible apply u_call
       · array_get_dec
       · array_mem_dec)
    | (with_reducible apply u_consA
       · array_get_dec
       · array_get_dec)
    | (with_reducible apply toB_ok
       array_get_dec)
    | (with_reducible apply u_and
       · array_get_dec
       · array_get_dec)
    | (with_reducible apply orB_ok
       · array_get_dec
       · array_get_dec)
    | (with_reducible apply notB_ok
       array_get_dec)
    | (with_reducible apply u_tru
       · array_get_dec
       · array_mem_dec)
    | (with_reducible apply u_chain
       · array_get_dec
       · array_get_dec
       · array_mem_dec
       · array_get_dec
       · array_mem_dec)
    | (with_reducible apply u_tup
       · array_get_dec
       · simp)
    | (with_reducible apply u_lst
       · array_get_dec
       · simp)
    | (with_reducible apply lstD_ok
       array_get_dec)
    | (with_reducible apply u_items
       · array_get_dec
       · array_mem_dec)
    | (with_reducible apply u_andV
       · array_get_dec
       · array_get_dec)
    | (with_reducible apply u_orV
       · array_get_dec
       · array_get_dec)
    | (with_reducible apply u_neg
       · array_get_dec
       · array_mem_dec)
    | (with_reducible apply u_notV
       · array_get_dec
       · array_mem_dec)
    | (with_reducible apply u_sl
       · array_get_dec
       · array_get_dec
       · array_get_dec
       · array_mem_dec)
    | (with_reducible apply rev_ok
       array_get_dec)
    | (with_reducible apply u_part
       array_get_dec)
    | (with_reducible apply u_meth
       · array_get_dec
       · exact rfl
       · array_get_dec
       · array_mem_dec)
    | (with_reducible apply u_own
       array_get_dec))
local macro_rules
  | `(tactic| sizeOf_list_dec) => `(tactic| first
    | (with_reducible apply set_eq
       · array_get_dec
       · exact rfl)
    | (with_reducible apply ret_eq
       · array_get_dec
       · exact rfl)
    | (with_reducible apply setN_eq
       · array_get_dec
       · exact rfl)
    | (with_reducible apply skip_eq
       exact rfl)
    | (with_reducible apply app_eq
       · exact rfl
       · array_get_dec
       · first | omega | (simp; done) | (simp; omega) | (simp only [List.length_append, List.length_map, List.length_cons, List.length_nil, List.length_singleton] at *; omega)
       · exact rfl)
    | with_reducible assumption
    | (with_reducible apply seq_nx
       · sizeOf_list_dec))
local macro_rules
  | `(tactic| get_elem_tactic_trivial) => `(tactic| (with_reducible apply ok_d
                                                     · array_get_dec
                                                     · exact rfl))
theorem flat_len {α : Type} {row : α → List Int} {c : Nat} (h : ∀ x, (row x).length = c) : ∀ xs : List α, ((xs.map row).flatten).length = c * xs.length
  | [] => by simp
  | x :: xs => by
    rw [List.map_cons, List.flatten_cons, List.length_append, h, flat_len h xs, List.length_cons, Nat.mul_add]
    omega
theorem adrRow_len (a : Option (Int × Int)) : (adrRow a).length = 2 := by cases a <;> rfl
theorem plRow_len (a : Option Int) : (plRow a).length = 1 := by cases a <;> rfl
theorem nr4 (n : Int) : f_number_row [.int n, .int 4] = .ok (.lst ((numRow n 4).map D.int)) := number_row_eq n (w := 4) (by decide)
theorem nr2 (n : Int) : f_number_row [.int n, .int 2] = .ok (.lst ((numRow n 2).map D.int)) := number_row_eq n (w := 2) (by decide)
theorem root_body_eq {nu ep : Int} {tree : Option (Int × Int)} {jo : List Int} {pl : List (Option Int)} {er bad : List Int} (hs : Small (.root nu ep tree jo pl er bad)) : f_root_body [encC (.root nu ep tree jo pl er bad)] = .ok (.lst ((bodyC (.root nu ep tree jo pl er bad)).map D.int)) := by
  obtain ⟨s1, s2, s3, s4⟩ := hs
  have h1 := nr4 nu
  have h2 := nr4 ep
  have h3 := address_row_eq tree
  have l1 := numRow_len nu 4
  have l2 := numRow_len ep 4
  have l3 := adrRow_len tree
  have l4 := flat_len plRow_len pl
  have l5 := flat_len (fun n => numRow_len n 4) er
  refine runF_rt rfl ?_
  unfold m_root_body
  refine seq_nx (ρ' := [some (encC (.root nu ep tree jo pl er bad)), none, none, none, some (.int nu), some (.int ep), some (encA tree), some (encIs jo), some (.tup (pl.map encO)), some (encIs er), some (encIs bad)]) rfl ?_
  obtain ⟨p0, e0⟩ : ∃ p, p = numRow nu 4 ++ numRow ep 4 ++ adrRow tree := ⟨_, rfl⟩
  have k0 : p0.length = 10 := by rw [e0]; simp [l1, l2, l3]
  refine seq_nx (setN_eq (ρ' := [some (encC (.root nu ep tree jo pl er bad)), some (.lst (p0.map D.int)), none, none, some (.int nu), some (.int ep), some (encA tree), some (encIs jo), some (.tup (pl.map encO)), some (encIs er), some (encIs bad)]) (by array_get_dec) (by rw [e0]; simp)) ?_
  obtain ⟨p1, e1⟩ : ∃ p, p = p0 ++ ((jo.length : Int) :: jo) ++ [(pl.length : Int)] := ⟨_, rfl⟩
  have k1 : p1.length = 12 + jo.length := by rw [e1]; simp [k0]; omega
  refine seq_nx (setN_eq (ρ' := [some (encC (.root nu ep tree jo pl er bad)), some (.lst (p1.map D.int)), none, none, some (.int nu), some (.int ep), some (encA tree), some (encIs jo), some (.tup (pl.map encO)), some (encIs er), some (encIs bad)]) (by array_get_dec) (by rw [e1]; simp)) ?_
  obtain ⟨x2, f2⟩ := ext_loop (enc := encO) (row := plRow) (i := 1) (j := 2) (body := m_root_body_b1) (xs := pl) (pre := p1) (ρ := [some (encC (.root nu ep tree jo pl er bad)), some (.lst (p1.map D.int)), none, none, some (.int nu), some (.int ep), some (encA tree), some (encIs jo), some (.tup (pl.map encO)), some (encIs er), some (encIs bad)])
    (fun k x ρ1 acc hx ha hb hl => ext_ok ha (call1_ok (x_getV hb) (place_row_eq x)) (by rw [plRow_len]; omega) rfl) (by decide) (by simp) (by simp) rfl (by simp [l4, k1]; omega)
  refine seq_nx (for_ok (by array_get_dec) f2) ?_
  obtain ⟨p2, e2⟩ : ∃ p, p = p1 ++ (pl.map plRow).flatten := ⟨_, rfl⟩
  rw [← e2]
  have k2 : p2.length = 12 + jo.length + pl.length := by rw [e2]; simp [k1, l4]
  obtain ⟨p3, e3⟩ : ∃ p, p = p2 ++ [(er.length : Int)] := ⟨_, rfl⟩
  have k3 : p3.length = 13 + jo.length + pl.length := by rw [e3]; simp [k2]; omega
  refine seq_nx (app_eq (ρ' := [some (encC (.root nu ep tree jo pl er bad)), some (.lst (p3.map D.int)), x2, none, some (.int nu), some (.int ep), some (encA tree), some (encIs jo), some (.tup (pl.map encO)), some (encIs er), some (encIs bad)]) rfl (len_ok (sq_t er) rfl) (by simp; omega) (by rw [e3]; simp)) ?_
  obtain ⟨x3, f3⟩ := ext_loop (enc := D.int) (row := fun n => numRow n 4) (i := 1) (j := 3) (body := m_root_body_b2) (xs := er) (pre := p3) (ρ := [some (encC (.root nu ep tree jo pl er bad)), some (.lst (p3.map D.int)), x2, none, some (.int nu), some (.int ep), some (encA tree), some (encIs jo), some (.tup (pl.map encO)), some (encIs er), some (encIs bad)])
    (fun k x ρ1 acc hx ha hb hl => ext_ok ha (call2_ok (x_getV hb) rfl (nr4 x)) (by rw [numRow_len]; omega) rfl) (by decide) (by simp) (by simp) rfl (by simp only [List.length_append, l5, k3]; omega)
  refine seq_nx (for_ok (by array_get_dec) f3) ?_
  obtain ⟨p4, e4⟩ : ∃ p, p = p3 ++ (er.map fun n => numRow n 4).flatten := ⟨_, rfl⟩
  rw [← e4]
  have k4 : p4.length ≤ 10000 := by rw [e4]; simp only [List.length_append, l5, k3]; omega
  refine ret_eq (d := .lst (p4.map D.int ++ [.int ((bad.map D.int).length : Int)] ++ bad.map D.int)) (by array_get_dec) ?_
  rw [e4, e3, e2, e1, e0]
  simp [bodyC]
theorem item_body_eq {ep ix : Int} {last : Bool} {key : Int} {val : Option (List Int)} (hs : Small (.item ep ix last key val)) : f_item_body [encC (.item ep ix last key val)] = .ok (.lst ((bodyC (.item ep ix last key val)).map D.int)) := by
  have h1 := nr4 ep
  have h2 := nr4 ix
  have h3 := nr4 key
  have l1 := numRow_len ep 4
  have l2 := numRow_len ix 4
  have l3 := numRow_len key 4
  refine runF_rt rfl ?_
  unfold m_item_body
  refine seq_nx (ρ' := [some (encC (.item ep ix last key val)), none, some (.int ep), some (.int ix), some (.bl last), some (.int key), some (encV val)]) rfl ?_
  have hif : ifV (truV (getV 4)) (conD (.int 1)) (conD (.int 0)) [some (encC (.item ep ix last key val)), none, some (.int ep), some (.int ix), some (.bl last), some (.int key), some (encV val)] = .ok (.int (if last = true then 1 else 0)) := by cases last <;> rfl
  obtain ⟨p0, e0⟩ : ∃ p, p = numRow ep 4 ++ numRow ix 4 ++ [if last = true then 1 else 0] ++ numRow key 4 := ⟨_, rfl⟩
  have k0 : p0.length = 13 := by rw [e0]; simp [l1, l2, l3]
  refine seq_nx (set_eq (ρ' := [some (encC (.item ep ix last key val)), some (.lst (p0.map D.int)), some (.int ep), some (.int ix), some (.bl last), some (.int key), some (encV val)]) (by array_get_dec) (by rw [e0]; simp)) ?_
  cases val with
  | none =>
    refine seq_gt (toB_ok (bin_ok (x := .non) rfl rfl (dIs_n.trans rfl))) rfl ?_
    refine ret_eq (by array_get_dec) ?_
    rw [e0]
    simp [bodyC]
  | some l =>
    have hl := hs l rfl
    have h4 := nr2 (l.length : Int)
    have l4 := numRow_len (l.length : Int) 2
    have hlen : callV dLen (consA (getV 6) noA) [some (encC (.item ep ix last key (some l))), some (.lst (p0.map D.int)), some (.int ep), some (.int ix), some (.bl last), some (.int key), some (encV (some l))] = .ok (.int (l.length : Int)) := len_ok (sq_t l) rfl
    have hlist : callV dList (consA (getV 6) noA) [some (encC (.item ep ix last key (some l))), some (.lst (p0.map D.int)), some (.int ep), some (.int ix), some (.bl last), some (.int key), some (encV (some l))] = .ok (l.map D.int) := call1_ok rfl dList_t
    refine seq_g (toB_ok (bin_ok (x := encIs l) rfl rfl (dIs_n.trans rfl))) rfl ?_
    refine ret_eq (by array_get_dec) ?_
    rw [e0]
    simp [bodyC]
theorem content_body_ok {c : Con} (hs : Small c) (hf : fits c = true) : f_content_body [encC c] = .ok (.lst ((bodyC c).map D.int)) := by
  have hk := kind_ix c
  have k1 := kind_root c
  have k2 := kind_item c
  have k3 := kind_node c
  have k0 := fits_page_eq hs
  refine runF_rt rfl ?_
  unfold m_content_body
  refine seq_g (by array_get_dec) (by rw [hf]; rfl) ?_
  cases c with
  | root nu ep tree jo pl er bad =>
    have h := root_body_eq hs
    exact seq_gt (by array_get_dec) (by rfl) (by sizeOf_list_dec)
  | item ep ix last key val =>
    have h := item_body_eq hs
    refine seq_g (by array_get_dec) (by rfl) ?_
    exact seq_gt (by array_get_dec) (by rfl) (by sizeOf_list_dec)
  | node lv ch =>
    have hs' : ch.length ≤ 1000 := hs
    have i1 : dIx (encC (.node lv ch)) (.int 1) = .ok (.int lv) := dIx_t rfl
    have i2 : dIx (encC (.node lv ch)) (.int 2) = .ok (.tup (ch.map encA)) := dIx_t rfl
    have l4 := flat_len adrRow_len ch
    refine seq_g (by array_get_dec) (by rfl) ?_
    refine seq_g (by array_get_dec) (by rfl) ?_
    refine seq_gt (by array_get_dec) (by rfl) ?_
    refine seq_nx (setN_eq (ds := [.int lv]) (ρ' := [some (encC (.node lv ch)), some (.lst ([lv].map D.int)), none]) (by array_get_dec) rfl) ?_
    obtain ⟨x2, f2⟩ := ext_loop (enc := encA) (row := adrRow) (i := 1) (j := 2) (body := m_content_body_b1) (xs := ch) (pre := [lv]) (ρ := [some (encC (.node lv ch)), some (.lst ([lv].map D.int)), none])
      (fun k x ρ1 acc hx ha hb hl => ext_ok ha (call1_ok (x_getV hb) (address_row_eq x)) (by rw [adrRow_len]; omega) rfl) (by decide) (by simp) (by simp) rfl (by simp [l4]; omega)
    refine seq_nx (for_ok (by array_get_dec) f2) ?_
    rfl
  | mark n =>
    have i1 : dIx (encC (.mark n)) (.int 1) = .ok (.int n) := dIx_t rfl
    have h := nr4 n
    refine seq_g (by array_get_dec) (by rfl) ?_
    refine seq_g (by array_get_dec) (by rfl) ?_
    refine seq_g (by array_get_dec) (by rfl) ?_
    sizeOf_list_dec
theorem content_body_no {c : Con} (hs : Small c) (hf : fits c = false) : f_content_body [encC c] = .ex ⟨"InvalidContent", []⟩ := by
  have hk := kind_ix c
  have k0 := fits_page_eq hs
  refine runF_ex (ρ := [some (encC c), none, none]) rfl ?_
  unfold m_content_body
  refine seq_gx (by array_get_dec) (by rw [hf]; rfl) ?_
  have ha : consA (T.bin dIx (getV 0) (conD (.int 0))) noA [some (encC c), none, none] = .ok [.str (kindS c)] := by array_get_dec
  unfold sRaiseA
  exact (congrArg (fun r => thenS r _ _) ha).trans rfl
end Law

set_option Elab.async false
set_option linter.all false
set_option maxRecDepth 100000
set_option maxHeartbeats 4000000
/-! Law k03: contents that fit, and changed ones. -/
namespace Law
open PySem L2 T
local macro_rules
  | `(tactic| array_mem_dec) => `(tactic| first
    | with_reducible assumption
    | with_reducible exact dAdd_i
    | with_reducible exact dSub_i
    | with_reducible exact dLt_i
    | with_reducible exact dLe_i
    | with_reducible exact dGt_i
    | with_reducible exact dGe_i
    | with_reducible exact dEq_i
    | with_reducible exact dNe_i
    | with_reducible exact dInt_i
    | with_reducible exact dNeg_i
    | with_reducible exact dNotB_b
    | with_reducible exact dTru_b
    | with_reducible exact dEq_b
    | with_reducible exact dNe_b
    | with_reducible exact dEq_S
    | with_reducible exact dNe_S
    | with_reducible exact dLen_l
    | with_reducible exact dLen_t
    | with_reducible exact dLen_c
    | with_reducible exact dList_l
    | with_reducible exact dList_t
    | with_reducible exact dTuple_l
    | with_reducible exact dTuple_t
    | with_reducible exact dItems_l
    | with_reducible exact dItems_t
    | with_reducible exact isi_ll
    | with_reducible exact isi_tt
    | with_reducible exact isi_ss
    | with_reducible exact isi_ii
    | with_reducible exact dIs_n
    | with_reducible exact dIsNot_n
    | with_reducible exact dIs_b
    | with_reducible exact dIsNot_b
    | (with_reducible apply dMod_ok
       first | decide | omega)
    | (with_reducible apply dDiv_ok
       first | decide | assumption | omega)
    | (with_reducible apply dMul_ok
       first | assumption | decide)
    | (with_reducible apply dAdd_S
       first | omega | (simp; done) | (simp; omega) | (simp only [List.length_append, List.length_map, List.length_cons, List.length_nil, List.length_singleton] at *; omega))
    | (with_reducible apply dLen_S
       first | omega | (simp; done) | (simp; omega) | (simp only [List.length_append, List.length_map, List.length_cons, List.length_nil, List.length_singleton] at *; omega))
    | (with_reducible apply dAdd_L
       first | omega | (simp; done) | (simp; omega) | (simp only [List.length_append, List.length_map, List.length_cons, List.length_nil, List.length_singleton] at *; omega))
    | (with_reducible apply dAdd_T
       first | omega | (simp; done) | (simp; omega) | (simp only [List.length_append, List.length_map, List.length_cons, List.length_nil, List.length_singleton] at *; omega))
    | (with_reducible apply dAdd_l'
       first | omega | (simp; done) | (simp; omega) | (simp only [List.length_append, List.length_map, List.length_cons, List.length_nil, List.length_singleton] at *; omega))
    | (with_reducible apply dAdd_t'
       first | omega | (simp; done) | (simp; omega) | (simp only [List.length_append, List.length_map, List.length_cons, List.length_nil, List.length_singleton] at *; omega))
    | (with_reducible apply dCat_l'
       first | omega | (simp; done) | (simp; omega) | (simp only [List.length_append, List.length_map, List.length_cons, List.length_nil, List.length_singleton] at *; omega))
    | with_reducible exact dEq_s
    | with_reducible exact dNe_s
    | with_reducible exact dIx_last
    | (with_reducible apply dIx_t
       exact rfl)
    | (with_reducible apply dIx_l
       rfl))
local macro_rules
  | `(tactic| array_get_dec) => `(tactic| first
    | with_reducible exact conD_ap
    | (with_reducible show getV _ _ = _
       exact rfl)
    | with_reducible exact noA_ap
    | with_reducible exact noPart_ap
    | with_reducible exact yesB_ap
    | with_reducible assumption
    | (with_reducible apply bin_ok
       · array_get_dec
       · array_get_dec
       · array_mem_dec)
    | (with_reducible apply u_call
       · array_get_dec
       · array_mem_dec)
    | (with_reducible apply u_consA
       · array_get_dec
       · array_get_dec)
    | (with_reducible apply toB_ok
       array_get_dec)
    | (with_reducible apply u_and
       · array_get_dec
       · array_get_dec)
    | (with_reducible apply orB_ok
       · array_get_dec
       · array_get_dec)
    | (with_reducible apply notB_ok
       array_get_dec)
    | (with_reducible apply u_tru
       · array_get_dec
       · array_mem_dec)
    | (with_reducible apply u_chain
       · array_get_dec
       · array_get_dec
       · array_mem_dec
       · array_get_dec
       · array_mem_dec)
    | (with_reducible apply u_tup
       · array_get_dec
       · simp)
    | (with_reducible apply u_lst
       · array_get_dec
       · simp)
    | (with_reducible apply lstD_ok
       array_get_dec)
    | (with_reducible apply u_items
       · array_get_dec
       · array_mem_dec)
    | (with_reducible apply u_andV
       · array_get_dec
       · array_get_dec)
    | (with_reducible apply u_orV
       · array_get_dec
       · array_get_dec)
    | (with_reducible apply u_neg
       · array_get_dec
       · array_mem_dec)
    | (with_reducible apply u_notV
       · array_get_dec
       · array_mem_dec)
    | (with_reducible apply u_sl
       · array_get_dec
       · array_get_dec
       · array_get_dec
       · array_mem_dec)
    | (with_reducible apply rev_ok
       array_get_dec)
    | (with_reducible apply u_part
       array_get_dec)
    | (with_reducible apply u_meth
       · array_get_dec
       · exact rfl
       · array_get_dec
       · array_mem_dec)
    | (with_reducible apply u_own
       array_get_dec))
local macro_rules
  | `(tactic| sizeOf_list_dec) => `(tactic| first
    | (with_reducible apply set_eq
       · array_get_dec
       · exact rfl)
    | (with_reducible apply ret_eq
       · array_get_dec
       · exact rfl)
    | (with_reducible apply setN_eq
       · array_get_dec
       · exact rfl)
    | (with_reducible apply skip_eq
       exact rfl)
    | (with_reducible apply app_eq
       · exact rfl
       · array_get_dec
       · first | omega | (simp; done) | (simp; omega) | (simp only [List.length_append, List.length_map, List.length_cons, List.length_nil, List.length_singleton] at *; omega)
       · exact rfl)
    | with_reducible assumption
    | (with_reducible apply seq_nx
       · sizeOf_list_dec))
local macro_rules
  | `(tactic| get_elem_tactic_trivial) => `(tactic| (with_reducible apply ok_d
                                                     · array_get_dec
                                                     · exact rfl))
theorem law_has_body_eq {c : Con} (hs : Small c) : f__law_has_body [encC c] = .ok (.bl (fits c)) := by
  refine runF_rt rfl ?_
  unfold m__law_has_body
  cases hf : fits c with
  | true =>
    have h := content_body_ok hs hf
    have h1 : sDrop (callV f_content_body (consA (getV 0) noA)) [some (encC c)] = .nx [some (encC c)] := by
      rw [sDrop_ap, call1_ok (x := encC c) rfl h]
      rfl
    refine seq_nx (ρ' := [some (encC c)]) ?_ rfl
    unfold sTry
    show (match sDrop (callV f_content_body (consA (getV 0) noA)) [some (encC c)] with | .ex e ρ' => _ | o => o) = _
    rw [h1]
  | false =>
    have h := content_body_no hs hf
    have h1 : sDrop (callV f_content_body (consA (getV 0) noA)) [some (encC c)] = .ex ⟨"InvalidContent", []⟩ [some (encC c)] := by
      rw [sDrop_ap, callV_ap]
      have : consA (getV 0) noA [some (encC c)] = .ok [encC c] := rfl
      rw [this, Res.bind_ok, h]
      rfl
    refine seq_rt ?_
    unfold sTry
    show (match sDrop (callV f_content_body (consA (getV 0) noA)) [some (encC c)] with | .ex e ρ' => _ | o => o) = _
    rw [h1]
    rfl
theorem law_number_ok {z : Int} (hz : 0 ≤ z) : ∃ n, isNum n = true ∧ f__law_number [.int z] = .ok (.int n) := by
  by_cases h : z % 4 = 0
  · refine ⟨4294967295 - z / 4 % 3, by simp [isNum]; omega, runF_rt rfl ?_⟩
    exact seq_gt (by array_get_dec) (by simp [h]) (by sizeOf_list_dec)
  · refine ⟨z / 4 % 70000, by simp [isNum]; omega, runF_rt rfl ?_⟩
    exact seq_g (by array_get_dec) (by simp [h]) (by sizeOf_list_dec)
theorem law_address_ok {z : Int} (hz : 0 ≤ z) : ∃ a, isAdr a = true ∧ f__law_address [.int z] = .ok (encA a) := by
  by_cases h : z % 5 = 0
  · refine ⟨none, rfl, runF_rt rfl ?_⟩
    exact seq_gt (by array_get_dec) (by simp [h]) (by sizeOf_list_dec)
  · refine ⟨some (z / 5 % 48, z / 240 % 32), by simp [isAdr, isBlk]; omega, runF_rt rfl ?_⟩
    exact seq_g (by array_get_dec) (by simp [h]) (by sizeOf_list_dec)
theorem law_place_ok {z : Int} (hz : 0 ≤ z) : ∃ a, isPl a = true ∧ f__law_place [.int z] = .ok (encO a) := by
  by_cases h : z % 4 = 0
  · refine ⟨none, rfl, runF_rt rfl ?_⟩
    exact seq_gt (by array_get_dec) (by simp [h]) (by sizeOf_list_dec)
  · refine ⟨some (z / 4 % 48), by simp [isPl, isBlk]; omega, runF_rt rfl ?_⟩
    exact seq_g (by array_get_dec) (by simp [h]) (by sizeOf_list_dec)
theorem law_count_ok {z : Int} (hz : 0 ≤ z) : ∃ n : Nat, n ≤ 48 ∧ f__law_count [.int z] = .ok (.int (n : Int)) := by
  by_cases h : z % 9 = 0
  · refine ⟨(46 + z / 9 % 3).toNat, by omega, runF_rt rfl ?_⟩
    refine seq_gt (by array_get_dec) (by simp [h]) (ret_eq (by array_get_dec) ?_)
    rw [Int.toNat_of_nonneg (by omega)]
  · refine ⟨(z / 9 % 6).toNat, by omega, runF_rt rfl ?_⟩
    refine seq_g (by array_get_dec) (by simp [h]) (ret_eq (by array_get_dec) ?_)
    rw [Int.toNat_of_nonneg (by omega)]
theorem rng_comp {α : Type} {enc : α → D} (P : α → Prop) {n i : Nat} {src : Rho → Res (List D)} {h : Rho → Res D} {ρ : Rho} (hs : src ρ = .ok ((List.range n).map fun (k : Nat) => D.int k)) (hn : n ≤ 10000) (hi : i < ρ.length)
    (hf : ∀ k : Nat, k < n → ∃ x, P x ∧ h ((wipeR ρ [i]).set i (some (.int (k : Int)))) = .ok (enc x)) : ∃ xs : List α, xs.length = n ∧ (∀ x ∈ xs, P x) ∧ compV src (bNm i) yesB h [i] ρ = .ok (xs.map enc) := by
  by_cases h0 : n = 0
  · subst h0
    refine ⟨[], rfl, by simp, ?_⟩
    rw [compV_ap, hs, Res.bind_ok]
    rfl
  obtain ⟨x0, _, _⟩ := hf 0 (by omega)
  have hg : ∃ g : Nat → α, ∀ k, k < n → P (g k) ∧ h ((wipeR ρ [i]).set i (some (.int (k : Int)))) = .ok (enc (g k)) := by
    have : ∀ k : Nat, ∃ x, k < n → P x ∧ h ((wipeR ρ [i]).set i (some (.int (k : Int)))) = .ok (enc x) := fun k => by
      by_cases hk : k < n
      · obtain ⟨x, hx⟩ := hf k hk
        exact ⟨x, fun _ => hx⟩
      · exact ⟨x0, fun z => (hk z).elim⟩
    exact ⟨fun k => (this k).choose, fun k => (this k).choose_spec⟩
  obtain ⟨g, hg⟩ := hg
  refine ⟨(List.range n).map g, by simp, fun x hx => ?_, ?_⟩
  · obtain ⟨k, hk, rfl⟩ := List.mem_map.mp hx
    exact (hg k (List.mem_range.mp hk)).1
  · rw [compV_ap, hs, Res.bind_ok, if_pos (sz1 (by simpa using (by omega : n ≤ 1000000)))]
    refine lcM_map g _ fun k hk => ⟨_, rfl, (hg k (List.mem_range.mp hk)).2⟩
theorem Fits.div {n : Nat} {x : Int} (h : Fits n x) (h0 : 0 ≤ x) (k : Int) (hk : 0 < k) : Fits n (x / k) := by
  unfold T.Fits at *
  have h1 : x / k ≤ x := Int.ediv_le_self k h0
  have h2 : 0 ≤ x / k := Int.ediv_nonneg h0 (by omega)
  omega
theorem pos_log {k : Int} (h : 0 < k) (h' : k ≤ 1000) : 0 < k ∧ k.natAbs.log2 < 9000 := ⟨h, Nat.lt_of_le_of_lt (Nat.log2_le_self _) (by omega)⟩
theorem law_octets_ok {z : Int} (hz : 0 ≤ z) (n : Nat) (hn : n ≤ 1000) : ∃ l : List Int, l.length = n ∧ (∀ x ∈ l, isOct x = true) ∧ f__law_octets [.int z, .int (n : Int)] = .ok (encIs l) := by
  obtain ⟨l, h1, h2, h3⟩ := rng_comp (enc := D.int) (fun x => isOct x = true) (n := n) (i := 2) (src := callV dRng1 (consA (getV 1) noA)) (h := T.bin dMod (callV dInt (consA (T.bin dAdd (T.bin dDiv (getV 0) (T.bin dAdd (getV 2) (conD (.int 1)))) (T.bin dMul (T.bin dMul (conD (.int 37)) (getV 2)) (T.bin dMod (getV 0) (conD (.int 7))))) noA)) (conD (.int 256)))
    (ρ := [some (.int z), some (.int (n : Int)), none]) (call1_ok rfl (rng1_ok (by omega))) (by omega) (by simp) fun k hk => by
      refine ⟨(z / ((k : Int) + 1) + 37 * (k : Int) * (z % 7)) % 256, by simp [isOct]; omega, ?_⟩
      have m1 : CMulX 37 (k : Int) := T.Fits.mul (n := 64) (m := 64) (fits_small (by decide) (by decide)) (fits_small (by omega) (by omega)) (by omega)
      have m2 : CMulX (37 * (k : Int)) (z % 7) := T.Fits.mul (n := 64) (m := 64) (fits_small (by omega) (by omega)) (fits_small (by omega) (by omega)) (by omega)
      have q := pos_log (k := (k : Int) + 1) (by omega) (by omega)
      array_get_dec
  refine ⟨l, h1, h2, runF_rt rfl ?_⟩
  unfold m__law_octets
  refine ret_ok ?_
  exact call1_ok (lstD_ok h3) dTuple_l
theorem all_of {p : α → Bool} {l : List α} (h : ∀ x ∈ l, p x = true) : l.all p = true := List.all_eq_true.mpr h
def IsR : List (Option D) → D → D → Prop := fun ρ a b => ρ = [some a, some b, none, none, none, none, none, none, none, none, none]
theorem law_content_ok {draw other : Int} (h1 : 0 ≤ draw) (h2 : 0 ≤ other) (f1 : T.Fits 1048650 draw) (f2 : T.Fits 1048650 other) : ∃ c, fits c = true ∧ Small c ∧ f__law_content [.int draw, .int other] = .ok (encC c) := by
  have hw : 0 ≤ draw % 4 ∧ draw % 4 < 4 := by omega
  by_cases k0 : draw % 4 = 0
  · obtain ⟨n, hn, hf⟩ := law_number_ok (z := draw / 4) (by omega)
    refine ⟨.mark n, hn, trivial, runF_rt rfl ?_⟩
    unfold m__law_content
    sizeOf_list_dec
    exact seq_gt (by array_get_dec) (by simp [k0]) (by sizeOf_list_dec)
  by_cases k1 : draw % 4 = 1
  · obtain ⟨ch, c1, c2, c3⟩ := rng_comp (enc := encA) (fun x => isAdr x = true) (n := 32) (i := 10) (src := callV dRng1 (consA (conD (.int 32)) noA)) (h := callV f__law_address (consA (T.bin dAdd (T.bin dDiv (getV 1) (T.bin dAdd (getV 10) (conD (.int 1)))) (T.bin dMul (getV 10) (T.bin dDiv (getV 0) (conD (.int 4))))) noA))
      (ρ := [some (.int draw), some (.int other), some (.int (draw % 4)), none, none, none, none, none, none, none, none]) (call1_ok rfl (rng1_ok (n := 32) (by omega))) (by omega) (by simp) fun k hk => by
        have q := pos_log (k := (k : Int) + 1) (by omega) (by omega)
        have m1 : CMulX (k : Int) (draw / 4) := T.Fits.mul (n := 64) (m := 1048650) (fits_small (by omega) (by omega)) (Fits.div f1 h1 4 (by decide)) (by omega)
        obtain ⟨a, ha, hf⟩ := law_address_ok (z := other / ((k : Int) + 1) + (k : Int) * (draw / 4)) (Int.add_nonneg (Int.ediv_nonneg h2 (by omega)) (Int.mul_nonneg (by omega) (by omega)))
        refine ⟨a, ha, ?_⟩
        array_get_dec
    refine ⟨.node (draw / 4 % 256) ch, ?_, by show ch.length ≤ 1000; omega, runF_rt rfl ?_⟩
    · have a1 : isOct (draw / 4 % 256) = true := by simp [isOct]; omega
      simp [fits, a1, c1]
      exact c2
    unfold m__law_content
    sizeOf_list_dec
    refine seq_g (by array_get_dec) (by simp [k0]) ?_
    refine seq_gt (by array_get_dec) (by simp [k1]) ?_
    refine seq_nx (set_ok (lstD_ok c3)) ?_
    sizeOf_list_dec
  by_cases k2 : draw % 4 = 2
  · obtain ⟨n1, hn1, hf1⟩ := law_number_ok (z := draw / 16) (by omega)
    obtain ⟨n2, hn2, hf2⟩ := law_number_ok (z := other / 5) (by omega)
    obtain ⟨n3, hn3, hf3⟩ := law_number_ok (z := draw / 64) (by omega)
    by_cases v0 : other % 6 = 0
    · refine ⟨.item n1 n2 (decide (draw / 8 % 2 = 1)) n3 none, by simp [fits, fitsV, hn1, hn2, hn3], by simp [Small], runF_rt rfl ?_⟩
      unfold m__law_content
      sizeOf_list_dec
      refine seq_g (by array_get_dec) (by simp [k0]) ?_
      refine seq_g (by array_get_dec) (by simp [k1]) ?_
      refine seq_gt (by array_get_dec) (by simp [k2]) ?_
      sizeOf_list_dec
      refine seq_nx (if_n (by array_get_dec) (by simp [v0]) rfl) ?_
      sizeOf_list_dec
      sizeOf_list_dec
    · obtain ⟨n, hn, hc⟩ : ∃ n : Nat, n ≤ 448 ∧ ifV (toB (T.bin dEq (T.bin dMod (getV 1) (conD (.int 6))) (conD (.int 1)))) (T.bin dAdd (conD (.int 440)) (T.bin dMod (T.bin dDiv (getV 1) (conD (.int 49))) (conD (.int 9)))) (T.bin dMod (T.bin dDiv (getV 1) (conD (.int 49))) (conD (.int 13))) [some (.int draw), some (.int other), some (.int (draw % 4)), none, none, none, none, none, some .non, none, none] = .ok (.int (n : Int)) := by
        by_cases v1 : other % 6 = 1
        · refine ⟨(440 + other / 49 % 9).toNat, by omega, u_if (k := true) (ok_b (by array_get_dec) (by simp [v1])) (fun _ => ?_) (fun z => by cases z)⟩
          rw [Int.toNat_of_nonneg (by omega)]
          array_get_dec
        · refine ⟨(other / 49 % 13).toNat, by omega, u_if (k := false) (ok_b (by array_get_dec) (by simp [v1])) (fun z => by cases z) (fun _ => ?_)⟩
          rw [Int.toNat_of_nonneg (by omega)]
          array_get_dec
      obtain ⟨l, hl1, hl2, hl3⟩ := law_octets_ok (z := other / 7) (by omega) n (by omega)
      refine ⟨.item n1 n2 (decide (draw / 8 % 2 = 1)) n3 (some l), ?_, fun l' e => by cases e; omega, runF_rt rfl ?_⟩
      · have a1 : l.all isOct = true := all_of hl2
        have a2 : l.length ≤ 448 := by omega
        simp only [fits, fitsV, hn1, hn2, hn3, a1, decide_eq_true a2, Bool.and_true]
      unfold m__law_content
      sizeOf_list_dec
      refine seq_g (by array_get_dec) (by simp [k0]) ?_
      refine seq_g (by array_get_dec) (by simp [k1]) ?_
      refine seq_gt (by array_get_dec) (by simp [k2]) ?_
      sizeOf_list_dec
      refine seq_nx (ρ' := [some (.int draw), some (.int other), some (.int (draw % 4)), none, none, none, none, none, some (encIs l), none, none]) (if_k (by array_get_dec) (by simp; omega) (set_eq (call2_ok (y := .int (n : Int)) (by array_get_dec) hc hl3) rfl)) ?_
      sizeOf_list_dec
      sizeOf_list_dec
  · have k3 : draw % 4 = 3 := by omega
    obtain ⟨n1, hn1, hf1⟩ := law_number_ok (z := draw / 3) (by omega)
    obtain ⟨n2, hn2, hf2⟩ := law_number_ok (z := other / 3) (by omega)
    obtain ⟨tr, htr, hf3⟩ := law_address_ok (z := draw / 17) (by omega)
    obtain ⟨m1, hm1, hg1⟩ := law_count_ok (z := draw / 4) (by omega)
    obtain ⟨m2, hm2, hg2⟩ := law_count_ok (z := other / 4) (by omega)
    obtain ⟨m3, hm3, hg3⟩ := law_count_ok (z := draw / 11) (by omega)
    obtain ⟨m4, hm4, hg4⟩ := law_count_ok (z := other / 13) (by omega)
    obtain ⟨jo, j1, j2, j3⟩ := rng_comp (enc := D.int) (fun x => isBlk x = true) (n := m1) (i := 10) (src := callV dRng1 (consA (callV f__law_count (consA (T.bin dDiv (getV 0) (conD (.int 4))) noA)) noA)) (h := T.bin dMod (callV dInt (consA (T.bin dDiv (getV 0) (T.bin dAdd (getV 10) (conD (.int 3)))) noA)) (conD (.int 48)))
      (ρ := [some (.int draw), some (.int other), some (.int (draw % 4)), none, none, none, none, none, none, none, none]) (call1_ok (x := .int (m1 : Int)) (by array_get_dec) (rng1_ok (by omega))) (by omega) (by simp) fun k hk => by
        have q := pos_log (k := (k : Int) + 3) (by omega) (by omega)
        refine ⟨draw / ((k : Int) + 3) % 48, by simp [isBlk]; omega, ?_⟩
        array_get_dec
    obtain ⟨pl, p1, p2, p3⟩ := rng_comp (enc := encO) (fun x => isPl x = true) (n := m2) (i := 10) (src := callV dRng1 (consA (callV f__law_count (consA (T.bin dDiv (getV 1) (conD (.int 4))) noA)) noA)) (h := callV f__law_place (consA (T.bin dAdd (T.bin dDiv (getV 1) (T.bin dAdd (getV 10) (conD (.int 1)))) (getV 10)) noA))
      (ρ := [some (.int draw), some (.int other), some (.int (draw % 4)), some (encIs jo), none, none, none, none, none, none, none]) (call1_ok (x := .int (m2 : Int)) (by array_get_dec) (rng1_ok (by omega))) (by omega) (by simp) fun k hk => by
        have q := pos_log (k := (k : Int) + 1) (by omega) (by omega)
        obtain ⟨a, ha, hf⟩ := law_place_ok (z := other / ((k : Int) + 1) + (k : Int)) (Int.add_nonneg (Int.ediv_nonneg h2 (by omega)) (by omega))
        refine ⟨a, ha, ?_⟩
        array_get_dec
    obtain ⟨er, r1, r2, r3⟩ := rng_comp (enc := D.int) (fun x => isNum x = true) (n := m3) (i := 10) (src := callV dRng1 (consA (callV f__law_count (consA (T.bin dDiv (getV 0) (conD (.int 11))) noA)) noA)) (h := callV f__law_number (consA (T.bin dAdd (T.bin dDiv (getV 1) (T.bin dAdd (getV 10) (conD (.int 2)))) (getV 10)) noA))
      (ρ := [some (.int draw), some (.int other), some (.int (draw % 4)), some (encIs jo), some (.tup (pl.map encO)), none, none, none, none, none, none]) (call1_ok (x := .int (m3 : Int)) (by array_get_dec) (rng1_ok (by omega))) (by omega) (by simp) fun k hk => by
        have q := pos_log (k := (k : Int) + 2) (by omega) (by omega)
        obtain ⟨a, ha, hf⟩ := law_number_ok (z := other / ((k : Int) + 2) + (k : Int)) (Int.add_nonneg (Int.ediv_nonneg h2 (by omega)) (by omega))
        refine ⟨a, ha, ?_⟩
        array_get_dec
    obtain ⟨bad, b1, b2, b3⟩ := rng_comp (enc := D.int) (fun x => isBlk x = true) (n := m4) (i := 10) (src := callV dRng1 (consA (callV f__law_count (consA (T.bin dDiv (getV 1) (conD (.int 13))) noA)) noA)) (h := T.bin dMod (callV dInt (consA (T.bin dDiv (getV 1) (T.bin dAdd (getV 10) (conD (.int 5)))) noA)) (conD (.int 48)))
      (ρ := [some (.int draw), some (.int other), some (.int (draw % 4)), some (encIs jo), some (.tup (pl.map encO)), some (encIs er), none, none, none, none, none]) (call1_ok (x := .int (m4 : Int)) (by array_get_dec) (rng1_ok (by omega))) (by omega) (by simp) fun k hk => by
        have q := pos_log (k := (k : Int) + 5) (by omega) (by omega)
        refine ⟨other / ((k : Int) + 5) % 48, by simp [isBlk]; omega, ?_⟩
        array_get_dec
    refine ⟨.root n1 n2 tr jo pl er bad, ?_, ⟨by omega, by omega, by omega, by omega⟩, runF_rt rfl ?_⟩
    · have e1 : jo.all isBlk = true := all_of j2
      have e2 : bad.all isBlk = true := all_of b2
      have e3 : er.all isNum = true := all_of r2
      have e4 : pl.all isPl = true := all_of p2
      have e5 : max (max (jo.length : Int) pl.length) (max (er.length : Int) bad.length) ≤ 48 := by omega
      simp only [fits, hn1, hn2, htr, List.all_append, e1, e2, e3, e4, decide_eq_true e5, Bool.and_true]
    unfold m__law_content
    sizeOf_list_dec
    refine seq_g (by array_get_dec) (by simp [k0]) ?_
    refine seq_g (by array_get_dec) (by simp [k1]) ?_
    refine seq_g (by array_get_dec) (by simp [k2]) ?_
    refine seq_nx (set_ok (call1_ok (lstD_ok j3) dTuple_l)) ?_
    refine seq_nx (set_ok (call1_ok (lstD_ok p3) dTuple_l)) ?_
    refine seq_nx (set_ok (call1_ok (lstD_ok r3) dTuple_l)) ?_
    refine seq_nx (set_ok (call1_ok (lstD_ok b3) dTuple_l)) ?_
    sizeOf_list_dec
end Law

set_option Elab.async false
set_option linter.all false
set_option maxRecDepth 100000
set_option maxHeartbeats 4000000
/-! Law k03: changed contents. -/
namespace Law
open PySem L2 T
local macro_rules
  | `(tactic| array_mem_dec) => `(tactic| first
    | with_reducible assumption
    | with_reducible exact dAdd_i
    | with_reducible exact dSub_i
    | with_reducible exact dLt_i
    | with_reducible exact dLe_i
    | with_reducible exact dGt_i
    | with_reducible exact dGe_i
    | with_reducible exact dEq_i
    | with_reducible exact dNe_i
    | with_reducible exact dInt_i
    | with_reducible exact dNeg_i
    | with_reducible exact dNotB_b
    | with_reducible exact dTru_b
    | with_reducible exact dEq_b
    | with_reducible exact dNe_b
    | with_reducible exact dEq_S
    | with_reducible exact dNe_S
    | with_reducible exact dLen_l
    | with_reducible exact dLen_t
    | with_reducible exact dLen_c
    | with_reducible exact dList_l
    | with_reducible exact dList_t
    | with_reducible exact dTuple_l
    | with_reducible exact dTuple_t
    | with_reducible exact dItems_l
    | with_reducible exact dItems_t
    | with_reducible exact isi_ll
    | with_reducible exact isi_tt
    | with_reducible exact isi_ss
    | with_reducible exact isi_ii
    | with_reducible exact dIs_n
    | with_reducible exact dIsNot_n
    | with_reducible exact dIs_b
    | with_reducible exact dIsNot_b
    | (with_reducible apply dMod_ok
       first | decide | omega)
    | (with_reducible apply dDiv_ok
       first | decide | assumption | omega)
    | (with_reducible apply dMul_ok
       first | assumption | decide)
    | (with_reducible apply dAdd_S
       first | omega | (simp; done) | (simp; omega) | (simp only [List.length_append, List.length_map, List.length_cons, List.length_nil, List.length_singleton] at *; omega))
    | (with_reducible apply dLen_S
       first | omega | (simp; done) | (simp; omega) | (simp only [List.length_append, List.length_map, List.length_cons, List.length_nil, List.length_singleton] at *; omega))
    | (with_reducible apply dAdd_L
       first | omega | (simp; done) | (simp; omega) | (simp only [List.length_append, List.length_map, List.length_cons, List.length_nil, List.length_singleton] at *; omega))
    | (with_reducible apply dAdd_T
       first | omega | (simp; done) | (simp; omega) | (simp only [List.length_append, List.length_map, List.length_cons, List.length_nil, List.length_singleton] at *; omega))
    | (with_reducible apply dAdd_l'
       first | omega | (simp; done) | (simp; omega) | (simp only [List.length_append, List.length_map, List.length_cons, List.length_nil, List.length_singleton] at *; omega))
    | (with_reducible apply dAdd_t'
       first | omega | (simp; done) | (simp; omega) | (simp only [List.length_append, List.length_map, List.length_cons, List.length_nil, List.length_singleton] at *; omega))
    | (with_reducible apply dCat_l'
       first | omega | (simp; done) | (simp; omega) | (simp only [List.length_append, List.length_map, List.length_cons, List.length_nil, List.length_singleton] at *; omega))
    | with_reducible exact dEq_s
    | with_reducible exact dNe_s
    | with_reducible exact dIx_last
    | (with_reducible apply dIx_t
       exact rfl)
    | (with_reducible apply dIx_l
       rfl))
local macro_rules
  | `(tactic| array_get_dec) => `(tactic| first
    | with_reducible exact conD_ap
    | (with_reducible show getV _ _ = _
       exact rfl)
    | with_reducible exact noA_ap
    | with_reducible exact noPart_ap
    | with_reducible exact yesB_ap
    | with_reducible assumption
    | (with_reducible apply bin_ok
       · array_get_dec
       · array_get_dec
       · array_mem_dec)
    | (with_reducible apply u_call
       · array_get_dec
       · array_mem_dec)
    | (with_reducible apply u_consA
       · array_get_dec
       · array_get_dec)
    | (with_reducible apply toB_ok
       array_get_dec)
    | (with_reducible apply u_and
       · array_get_dec
       · array_get_dec)
    | (with_reducible apply orB_ok
       · array_get_dec
       · array_get_dec)
    | (with_reducible apply notB_ok
       array_get_dec)
    | (with_reducible apply u_tru
       · array_get_dec
       · array_mem_dec)
    | (with_reducible apply u_chain
       · array_get_dec
       · array_get_dec
       · array_mem_dec
       · array_get_dec
       · array_mem_dec)
    | (with_reducible apply u_tup
       · array_get_dec
       · simp)
    | (with_reducible apply u_lst
       · array_get_dec
       · simp)
    | (with_reducible apply lstD_ok
       array_get_dec)
    | (with_reducible apply u_items
       · array_get_dec
       · array_mem_dec)
    | (with_reducible apply u_andV
       · array_get_dec
       · array_get_dec)
    | (with_reducible apply u_orV
       · array_get_dec
       · array_get_dec)
    | (with_reducible apply u_neg
       · array_get_dec
       · array_mem_dec)
    | (with_reducible apply u_notV
       · array_get_dec
       · array_mem_dec)
    | (with_reducible apply u_sl
       · array_get_dec
       · array_get_dec
       · array_get_dec
       · array_mem_dec)
    | (with_reducible apply rev_ok
       array_get_dec)
    | (with_reducible apply u_part
       array_get_dec)
    | (with_reducible apply u_meth
       · array_get_dec
       · exact rfl
       · array_get_dec
       · array_mem_dec)
    | (with_reducible apply u_own
       array_get_dec))
local macro_rules
  | `(tactic| sizeOf_list_dec) => `(tactic| first
    | (with_reducible apply set_eq
       · array_get_dec
       · exact rfl)
    | (with_reducible apply ret_eq
       · array_get_dec
       · exact rfl)
    | (with_reducible apply setN_eq
       · array_get_dec
       · exact rfl)
    | (with_reducible apply skip_eq
       exact rfl)
    | (with_reducible apply app_eq
       · exact rfl
       · array_get_dec
       · first | omega | (simp; done) | (simp; omega) | (simp only [List.length_append, List.length_map, List.length_cons, List.length_nil, List.length_singleton] at *; omega)
       · exact rfl)
    | with_reducible assumption
    | (with_reducible apply seq_nx
       · sizeOf_list_dec))
local macro_rules
  | `(tactic| get_elem_tactic_trivial) => `(tactic| (with_reducible apply ok_d
                                                     · array_get_dec
                                                     · exact rfl))
theorem repT_ok {d : D} {z : Int} (h : 2 ≤ z ∧ z ≤ 1000) : dRepT (.tup [d]) (.int z) = .ok (.tup (List.replicate z.toNat d)) := by
  have e : dRepT (.tup [d]) (.int z) = .ok (.tup (List.replicate z.toNat [d]).flatten) := if_pos ⟨by simp, h.1, h.2, by simp⟩
  rw [e, rep_flat]
theorem all_rep {α : Type} {p : α → Bool} {x : α} {n : Nat} (h : p x = true) : (List.replicate n x).all p = true := List.all_eq_true.mpr fun y hy => by rw [(List.mem_replicate.mp hy).2]; exact h
theorem all_take {α : Type} {p : α → Bool} {l : List α} (n : Nat) (h : l.all p = true) : (l.take n).all p = true := List.all_eq_true.mpr fun y hy => List.all_eq_true.mp h y (List.mem_of_mem_take hy)
theorem fits_node {lv : Int} {ch : List (Option (Int × Int))} (h : fits (.node lv ch) = true) : isOct lv = true ∧ ch.length = 32 ∧ ch.all isAdr = true := by
  simp only [fits, Bool.and_eq_true, decide_eq_true_eq] at h
  exact h
theorem fits_item {ep ix : Int} {last : Bool} {key : Int} {val : Option (List Int)} (h : fits (.item ep ix last key val) = true) : isNum ep = true ∧ isNum ix = true ∧ isNum key = true ∧ fitsV val = true := by
  simp only [fits, Bool.and_eq_true] at h
  exact h
theorem fits_root {nu ep : Int} {tree : Option (Int × Int)} {jo : List Int} {pl : List (Option Int)} {er bad : List Int} (h : fits (.root nu ep tree jo pl er bad) = true) :
    isNum nu = true ∧ isNum ep = true ∧ isAdr tree = true ∧ (jo.length ≤ 48 ∧ pl.length ≤ 48 ∧ er.length ≤ 48 ∧ bad.length ≤ 48) ∧ pl.all isPl = true ∧ jo.all isBlk = true ∧ bad.all isBlk = true ∧ er.all isNum = true := by
  simp only [fits, Bool.and_eq_true, decide_eq_true_eq, List.all_append] at h
  obtain ⟨h1, h2, h3, h4, h5, ⟨h6, h7⟩, h8⟩ := h
  exact ⟨h1, h2, h3, by omega, h5, h6, h7, h8⟩
theorem c_mark {n z : Int} (hz : 0 ≤ z) : ∃ c, Small c ∧ fits c = decide (z % 2 = 0) ∧ f__law_changed [encC (.mark n), .int z] = .ok (encC c) := by
  have hm : 0 ≤ z % 2 ∧ z % 2 < 2 := by omega
  have hk := kind_ix (.mark n)
  have k1 := kind_mark (.mark n)
  refine ⟨.mark (4294967295 + z % 2), trivial, by rw [Bool.eq_iff_iff]; simp [fits, isNum]; omega, runF_rt rfl ?_⟩
  unfold m__law_changed
  sizeOf_list_dec
  sizeOf_list_dec
  exact seq_gt (by array_get_dec) (by rfl) (by sizeOf_list_dec)
theorem c_node {lv : Int} {ch : List (Option (Int × Int))} {z : Int} (hz : 0 ≤ z) (hf : fits (.node lv ch) = true) : ∃ c, Small c ∧ fits c = decide (z % 2 = 0) ∧ f__law_changed [encC (.node lv ch), .int z] = .ok (encC c) := by
  obtain ⟨e1, e2, e3⟩ := fits_node hf
  have hm : 0 ≤ z % 2 ∧ z % 2 < 2 := by omega
  have hw : 0 ≤ z / 2 % 4 ∧ z / 2 % 4 < 4 := by omega
  have hk := kind_ix (.node lv ch)
  have k1 := kind_mark (.node lv ch)
  have k2 := kind_node (.node lv ch)
  have i1 : dIx (encC (.node lv ch)) (.int 1) = .ok (.int lv) := dIx_t rfl
  have i2 : dIx (encC (.node lv ch)) (.int 2) = .ok (.tup (ch.map encA)) := dIx_t rfl
  have s1 : dSl (.tup (ch.map encA)) none (some 31) = .ok (.tup ((ch.take 31).map encA)) := by rw [dSl_t, cut_to _ 31 31 rfl (by simp [e2]), List.map_take]
  have s2 : dSl (.tup (ch.map encA)) none (some (31 + 1 - z % 2)) = .ok (.tup ((ch.take (32 - z % 2).toNat).map encA)) := by rw [dSl_t, cut_to _ (32 - z % 2).toNat _ (by omega) (by simp [e2]; omega), List.map_take]
  have l1 : (ch.take 31).length = 31 := by simp [e2]
  have e4 := all_take 31 e3
  have e5 := all_take (32 - z % 2).toNat e3
  by_cases w0 : z / 2 % 4 = 0
  · refine ⟨.node (255 + z % 2) ch, by show ch.length ≤ 1000; omega, ?_, runF_rt rfl ?_⟩
    · simp only [fits, e2, e3, Bool.and_true, decide_true]
      rw [Bool.eq_iff_iff]
      simp [isOct]
      omega
    unfold m__law_changed
    sizeOf_list_dec
    sizeOf_list_dec
    refine seq_g (by array_get_dec) (by rfl) ?_
    refine seq_gt (by array_get_dec) (by rfl) ?_
    sizeOf_list_dec
    exact seq_gt (by array_get_dec) (by simp [w0]) (by sizeOf_list_dec)
  by_cases w1 : z / 2 % 4 = 1
  · refine ⟨.node lv (ch.take (32 - z % 2).toNat), by show (ch.take _).length ≤ 1000; simp; omega, ?_, runF_rt rfl ?_⟩
    · simp only [fits, e1, e5, Bool.and_true, Bool.true_and]
      rw [Bool.eq_iff_iff]
      simp [e2]
      omega
    unfold m__law_changed
    sizeOf_list_dec
    sizeOf_list_dec
    refine seq_g (by array_get_dec) (by rfl) ?_
    refine seq_gt (by array_get_dec) (by rfl) ?_
    sizeOf_list_dec
    refine seq_g (by array_get_dec) (by simp [w0]) ?_
    exact seq_gt (by array_get_dec) (by simp [w1]) (by sizeOf_list_dec)

  by_cases w2 : z / 2 % 4 = 2
  · have o1 : [some (47 + z % 2, 3)].all isAdr = decide (z % 2 = 0) := by
      rw [Bool.eq_iff_iff]
      simp [isAdr, isBlk]
      omega
    have l2 : (ch.take 31 ++ [some (47 + z % 2, 3)]).length = 32 := by simp [l1]
    refine ⟨.node lv (ch.take 31 ++ [some (47 + z % 2, 3)]), by show (ch.take 31 ++ [some (47 + z % 2, 3)]).length ≤ 1000; omega, ?_, runF_rt rfl ?_⟩
    · simp only [fits, e1, e4, l2, o1, List.all_append, Bool.true_and, decide_true]
    unfold m__law_changed
    sizeOf_list_dec
    sizeOf_list_dec
    refine seq_g (by array_get_dec) (by rfl) ?_
    refine seq_gt (by array_get_dec) (by rfl) ?_
    sizeOf_list_dec
    refine seq_g (by array_get_dec) (by simp [w0]) ?_
    refine seq_g (by array_get_dec) (by simp [w1]) ?_
    refine seq_nx (set_ok (d := .tup [(.int (47 + z % 2)), (.int 3)]) (u_if (k := true) (ok_b (by array_get_dec) (by simp [w2])) (fun _ => by array_get_dec) (fun z => by cases z))) ?_
    refine ret_eq (by array_get_dec) ?_
    show D.tup [_, _, .tup _] = D.tup [_, _, .tup _]
    rw [List.map_append]
    rfl

  · have o1 : [some (3, 31 + z % 2)].all isAdr = decide (z % 2 = 0) := by
      rw [Bool.eq_iff_iff]
      simp [isAdr, isBlk]
      omega
    have l2 : (ch.take 31 ++ [some (3, 31 + z % 2)]).length = 32 := by simp [l1]
    refine ⟨.node lv (ch.take 31 ++ [some (3, 31 + z % 2)]), by show (ch.take 31 ++ [some (3, 31 + z % 2)]).length ≤ 1000; omega, ?_, runF_rt rfl ?_⟩
    · simp only [fits, e1, e4, l2, o1, List.all_append, Bool.true_and, decide_true]
    unfold m__law_changed
    sizeOf_list_dec
    sizeOf_list_dec
    refine seq_g (by array_get_dec) (by rfl) ?_
    refine seq_gt (by array_get_dec) (by rfl) ?_
    sizeOf_list_dec
    refine seq_g (by array_get_dec) (by simp [w0]) ?_
    refine seq_g (by array_get_dec) (by simp [w1]) ?_
    refine seq_nx (set_ok (d := .tup [(.int 3), (.int (31 + z % 2))]) (u_if (k := false) (ok_b (by array_get_dec) (by simp [w2])) (fun z => by cases z) (fun _ => by array_get_dec))) ?_
    refine ret_eq (by array_get_dec) ?_
    show D.tup [_, _, .tup _] = D.tup [_, _, .tup _]
    rw [List.map_append]
    rfl

theorem c_item {ep ix : Int} {last : Bool} {key : Int} {val : Option (List Int)} {z : Int} (hz : 0 ≤ z) (hf : fits (.item ep ix last key val) = true) (hs : Small (.item ep ix last key val)) : ∃ c, Small c ∧ fits c = decide (z % 2 = 0) ∧ f__law_changed [encC (.item ep ix last key val), .int z] = .ok (encC c) := by
  obtain ⟨e1, e2, e3, e4⟩ := fits_item hf
  have hm : 0 ≤ z % 2 ∧ z % 2 < 2 := by omega
  have hw : 0 ≤ z / 2 % 5 ∧ z / 2 % 5 < 5 := by omega
  have hk := kind_ix (.item ep ix last key val)
  have k1 := kind_mark (.item ep ix last key val)
  have k2 := kind_node (.item ep ix last key val)
  have k3 := kind_item (.item ep ix last key val)
  have i1 : dIx (encC (.item ep ix last key val)) (.int 1) = .ok (.int ep) := dIx_t rfl
  have i2 : dIx (encC (.item ep ix last key val)) (.int 2) = .ok (.int ix) := dIx_t rfl
  have i3 : dIx (encC (.item ep ix last key val)) (.int 3) = .ok (.bl last) := dIx_t rfl
  have i4 : dIx (encC (.item ep ix last key val)) (.int 4) = .ok (.int key) := dIx_t rfl
  have i5 : dIx (encC (.item ep ix last key val)) (.int 5) = .ok (encV val) := dIx_t rfl
  have o1 : isNum (4294967295 + z % 2) = decide (z % 2 = 0) := by
    rw [Bool.eq_iff_iff]
    simp [isNum]
    omega

  by_cases w0 : z / 2 % 5 = 0
  · refine ⟨.item (4294967295 + z % 2) ix last key val, hs, ?_, runF_rt rfl ?_⟩
    · simp only [fits, e2, e3, e4, o1, Bool.and_true, Bool.true_and]
    unfold m__law_changed
    sizeOf_list_dec
    sizeOf_list_dec
    refine seq_g (by array_get_dec) (by rfl) ?_
    refine seq_g (by array_get_dec) (by rfl) ?_
    refine seq_gt (by array_get_dec) (by rfl) ?_
    sizeOf_list_dec
    exact seq_gt (by array_get_dec) (by simp [w0]) (by sizeOf_list_dec)

  by_cases w1 : z / 2 % 5 = 1
  · refine ⟨.item ep (4294967295 + z % 2) last key val, hs, ?_, runF_rt rfl ?_⟩
    · simp only [fits, e1, e3, e4, o1, Bool.and_true, Bool.true_and]
    unfold m__law_changed
    sizeOf_list_dec
    sizeOf_list_dec
    refine seq_g (by array_get_dec) (by rfl) ?_
    refine seq_g (by array_get_dec) (by rfl) ?_
    refine seq_gt (by array_get_dec) (by rfl) ?_
    sizeOf_list_dec
    refine seq_g (by array_get_dec) (by simp [w0]) ?_
    exact seq_gt (by array_get_dec) (by simp [w1]) (by sizeOf_list_dec)

  by_cases w2 : z / 2 % 5 = 2
  · refine ⟨.item ep ix last (4294967295 + z % 2) val, hs, ?_, runF_rt rfl ?_⟩
    · simp only [fits, e1, e2, e4, o1, Bool.and_true, Bool.true_and]
    unfold m__law_changed
    sizeOf_list_dec
    sizeOf_list_dec
    refine seq_g (by array_get_dec) (by rfl) ?_
    refine seq_g (by array_get_dec) (by rfl) ?_
    refine seq_gt (by array_get_dec) (by rfl) ?_
    sizeOf_list_dec
    refine seq_g (by array_get_dec) (by simp [w0]) ?_
    refine seq_g (by array_get_dec) (by simp [w1]) ?_
    exact seq_gt (by array_get_dec) (by simp [w2]) (by sizeOf_list_dec)

  by_cases w3 : z / 2 % 5 = 3
  · have o2 : fitsV (some (List.replicate (448 + z % 2).toNat 7)) = decide (z % 2 = 0) := by
      have q1 : (List.replicate (448 + z % 2).toNat (7 : Int)).all isOct = true := all_rep (by decide)
      simp only [fitsV, q1, Bool.and_true]
      rw [Bool.eq_iff_iff]
      simp
      omega
    refine ⟨.item ep ix last key (some (List.replicate (448 + z % 2).toNat 7)), by intro l e; cases e; simp; omega, ?_, runF_rt rfl ?_⟩
    · simp only [fits, e1, e2, e3, o2, Bool.and_true, Bool.true_and]
    have rr : dRepT (.tup [.int 7]) (.int (448 + z % 2)) = .ok (.tup (List.replicate (448 + z % 2).toNat (.int 7))) := repT_ok (by omega)
    unfold m__law_changed
    sizeOf_list_dec
    sizeOf_list_dec
    refine seq_g (by array_get_dec) (by rfl) ?_
    refine seq_g (by array_get_dec) (by rfl) ?_
    refine seq_gt (by array_get_dec) (by rfl) ?_
    sizeOf_list_dec
    refine seq_g (by array_get_dec) (by simp [w0]) ?_
    refine seq_g (by array_get_dec) (by simp [w1]) ?_
    refine seq_g (by array_get_dec) (by simp [w2]) ?_
    refine seq_nx (set_ok (d := .tup (List.replicate (448 + z % 2).toNat (.int 7))) (u_if (k := true) (ok_b (by array_get_dec) (by simp [w3])) (fun _ => by array_get_dec) (fun z => by cases z))) ?_
    refine ret_eq (by array_get_dec) ?_
    show D.tup [_, _, _, _, _, _] = D.tup [_, _, _, _, _, .tup _]
    simp

  · have o2 : fitsV (some ([1, 255 + z % 2])) = decide (z % 2 = 0) := by
      rw [Bool.eq_iff_iff]
      simp [fitsV, isOct]
      omega
    refine ⟨.item ep ix last key (some ([1, 255 + z % 2])), by intro l e; cases e; simp, ?_, runF_rt rfl ?_⟩
    · simp only [fits, e1, e2, e3, o2, Bool.and_true, Bool.true_and]
    have rr : dRepT (.tup [.int 7]) (.int (448 + z % 2)) = .ok (.tup (List.replicate (448 + z % 2).toNat (.int 7))) := repT_ok (by omega)
    unfold m__law_changed
    sizeOf_list_dec
    sizeOf_list_dec
    refine seq_g (by array_get_dec) (by rfl) ?_
    refine seq_g (by array_get_dec) (by rfl) ?_
    refine seq_gt (by array_get_dec) (by rfl) ?_
    sizeOf_list_dec
    refine seq_g (by array_get_dec) (by simp [w0]) ?_
    refine seq_g (by array_get_dec) (by simp [w1]) ?_
    refine seq_g (by array_get_dec) (by simp [w2]) ?_
    refine seq_nx (set_ok (d := .tup [.int 1, .int (255 + z % 2)]) (u_if (k := false) (ok_b (by array_get_dec) (by simp [w3])) (fun z => by cases z) (fun _ => by array_get_dec))) ?_
    refine ret_eq (by array_get_dec) ?_
    show D.tup [_, _, _, _, _, _] = D.tup [_, _, _, _, _, .tup _]
    simp

theorem c_root {nu ep : Int} {tree : Option (Int × Int)} {jo : List Int} {pl : List (Option Int)} {er bad : List Int} {z : Int} (hz : 0 ≤ z) (hf : fits (.root nu ep tree jo pl er bad) = true) : ∃ c, Small c ∧ fits c = decide (z % 2 = 0) ∧ f__law_changed [encC (.root nu ep tree jo pl er bad), .int z] = .ok (encC c) := by
  obtain ⟨e1, e2, e3, ⟨l1, l2, l3, l4⟩, e5, e6, e7, e8⟩ := fits_root hf
  have hm : 0 ≤ z % 2 ∧ z % 2 < 2 := by omega
  have hw : 0 ≤ z / 2 % 10 ∧ z / 2 % 10 < 10 := by omega
  have hv : 0 ≤ z / 20 % 4 ∧ z / 20 % 4 < 4 := by omega
  have hk := kind_ix (.root nu ep tree jo pl er bad)
  have k1 := kind_mark (.root nu ep tree jo pl er bad)
  have k2 := kind_node (.root nu ep tree jo pl er bad)
  have k3 := kind_item (.root nu ep tree jo pl er bad)
  have hl : dList [encC (.root nu ep tree jo pl er bad)] = .ok [.str "root", .int nu, .int ep, encA tree, encIs jo, .tup (pl.map encO), encIs er, encIs bad] := dList_t
  have o1 : isNum (4294967295 + z % 2) = decide (z % 2 = 0) := by
    rw [Bool.eq_iff_iff]
    simp [isNum]
    omega
  have o2 : isBlk (47 + z % 2) = decide (z % 2 = 0) := by
    rw [Bool.eq_iff_iff]
    simp [isBlk]
    omega
  have o0 : isNum 0 = true := rfl
  have b5 : isBlk 5 = true := rfl
  have n5 : isNum 5 = true := rfl
  have p5 : isPl (some 5) = true := rfl
  have l0 : max (max (jo.length : Int) pl.length) (max (er.length : Int) bad.length) ≤ 48 := by omega

  by_cases w0 : z / 2 % 10 = 0
  · refine ⟨.root (4294967295 + z % 2) ep tree jo pl er bad, ⟨by first | omega | (simp; done) | (simp; omega), by first | omega | (simp; done) | (simp; omega), by first | omega | (simp; done) | (simp; omega), by first | omega | (simp; done) | (simp; omega)⟩, ?_, runF_rt rfl ?_⟩
    · simp only [fits, e1, e2, e3, e5, e6, e7, e8, o0, o1, o2, b5, n5, p5, List.all_append, Bool.true_and, Bool.and_true, decide_true, decide_eq_true l0]
    unfold m__law_changed
    sizeOf_list_dec
    sizeOf_list_dec
    refine seq_g (by array_get_dec) (by rfl) ?_
    refine seq_g (by array_get_dec) (by rfl) ?_
    refine seq_g (by array_get_dec) (by rfl) ?_
    refine seq_nx (setN_ok (ds := [.str "root", .int nu, .int ep, encA tree, encIs jo, .tup (pl.map encO), encIs er, encIs bad]) (by array_get_dec)) ?_
    sizeOf_list_dec
    refine seq_nx (if_k (by array_get_dec) (by simp [w0]) (setI_at (j := 1) (by array_get_dec) rfl (by array_get_dec) (by rw [w0]; rfl) (by simp))) (ret_eq (by array_get_dec) ?_)
    first | rfl | (simp [encC, encO]; done)

  by_cases w1 : z / 2 % 10 = 1
  · refine ⟨.root nu (4294967295 + z % 2) tree jo pl er bad, ⟨by first | omega | (simp; done) | (simp; omega), by first | omega | (simp; done) | (simp; omega), by first | omega | (simp; done) | (simp; omega), by first | omega | (simp; done) | (simp; omega)⟩, ?_, runF_rt rfl ?_⟩
    · simp only [fits, e1, e2, e3, e5, e6, e7, e8, o0, o1, o2, b5, n5, p5, List.all_append, Bool.true_and, Bool.and_true, decide_true, decide_eq_true l0]
    unfold m__law_changed
    sizeOf_list_dec
    sizeOf_list_dec
    refine seq_g (by array_get_dec) (by rfl) ?_
    refine seq_g (by array_get_dec) (by rfl) ?_
    refine seq_g (by array_get_dec) (by rfl) ?_
    refine seq_nx (setN_ok (ds := [.str "root", .int nu, .int ep, encA tree, encIs jo, .tup (pl.map encO), encIs er, encIs bad]) (by array_get_dec)) ?_
    sizeOf_list_dec
    refine seq_nx (if_k (by array_get_dec) (by simp [w0, w1]) (setI_at (j := 2) (by array_get_dec) rfl (by array_get_dec) (by rw [w1]; rfl) (by simp))) (ret_eq (by array_get_dec) ?_)
    first | rfl | (simp [encC, encO]; done)

  by_cases w2 : z / 2 % 10 = 2
  · refine ⟨.root nu ep (some (47 + z % 2, 31)) jo pl er bad, ⟨by first | omega | (simp; done) | (simp; omega), by first | omega | (simp; done) | (simp; omega), by first | omega | (simp; done) | (simp; omega), by first | omega | (simp; done) | (simp; omega)⟩, ?_, runF_rt rfl ?_⟩
    · have o3 : isAdr (some (47 + z % 2, 31)) = decide (z % 2 = 0) := by
        rw [Bool.eq_iff_iff]
        simp [isAdr, isBlk]
        omega
      simp only [fits, o3, e1, e2, e3, e5, e6, e7, e8, o0, o1, o2, b5, n5, p5, List.all_append, Bool.true_and, Bool.and_true, decide_true, decide_eq_true l0]
    unfold m__law_changed
    sizeOf_list_dec
    sizeOf_list_dec
    refine seq_g (by array_get_dec) (by rfl) ?_
    refine seq_g (by array_get_dec) (by rfl) ?_
    refine seq_g (by array_get_dec) (by rfl) ?_
    refine seq_nx (setN_ok (ds := [.str "root", .int nu, .int ep, encA tree, encIs jo, .tup (pl.map encO), encIs er, encIs bad]) (by array_get_dec)) ?_
    sizeOf_list_dec
    refine seq_nx (if_n (by array_get_dec) (by simp [w0, w1]) (if_k (by array_get_dec) (by simp [w2]) (setI_at (j := 3) (by array_get_dec) rfl rfl (rfl) (by simp)))) (ret_eq (by array_get_dec) ?_)
    first | rfl | (simp [encC, encO]; done)

  by_cases w3 : z / 2 % 10 = 3
  · refine ⟨.root nu ep (some (0, 31 + z % 2)) jo pl er bad, ⟨by first | omega | (simp; done) | (simp; omega), by first | omega | (simp; done) | (simp; omega), by first | omega | (simp; done) | (simp; omega), by first | omega | (simp; done) | (simp; omega)⟩, ?_, runF_rt rfl ?_⟩
    · have o3 : isAdr (some (0, 31 + z % 2)) = decide (z % 2 = 0) := by
        rw [Bool.eq_iff_iff]
        simp [isAdr, isBlk]
        omega
      simp only [fits, o3, e1, e2, e3, e5, e6, e7, e8, o0, o1, o2, b5, n5, p5, List.all_append, Bool.true_and, Bool.and_true, decide_true, decide_eq_true l0]
    unfold m__law_changed
    sizeOf_list_dec
    sizeOf_list_dec
    refine seq_g (by array_get_dec) (by rfl) ?_
    refine seq_g (by array_get_dec) (by rfl) ?_
    refine seq_g (by array_get_dec) (by rfl) ?_
    refine seq_nx (setN_ok (ds := [.str "root", .int nu, .int ep, encA tree, encIs jo, .tup (pl.map encO), encIs er, encIs bad]) (by array_get_dec)) ?_
    sizeOf_list_dec
    refine seq_nx (if_n (by array_get_dec) (by simp [w0, w1]) (if_n (by array_get_dec) (by simp [w2]) (if_k (by array_get_dec) (by simp [w3]) (setI_at (j := 3) (by array_get_dec) rfl rfl (rfl) (by simp))))) (ret_eq (by array_get_dec) ?_)
    first | rfl | (simp [encC, encO]; done)

  by_cases w4 : z / 2 % 10 = 4
  · refine ⟨.root nu ep tree [47 + z % 2] pl er bad, ⟨by first | omega | (simp; done) | (simp; omega), by first | omega | (simp; done) | (simp; omega), by first | omega | (simp; done) | (simp; omega), by first | omega | (simp; done) | (simp; omega)⟩, ?_, runF_rt rfl ?_⟩
    · have l5 : max (max (([47 + z % 2] : List Int).length : Int) pl.length) (max (er.length : Int) bad.length) ≤ 48 := by simp; omega
      simp only [fits, List.all_cons, List.all_nil, isPl, e1, e2, e3, e5, e6, e7, e8, o0, o1, o2, b5, n5, p5, List.all_append, Bool.true_and, Bool.and_true, decide_true, decide_eq_true l5]
    unfold m__law_changed
    sizeOf_list_dec
    sizeOf_list_dec
    refine seq_g (by array_get_dec) (by rfl) ?_
    refine seq_g (by array_get_dec) (by rfl) ?_
    refine seq_g (by array_get_dec) (by rfl) ?_
    refine seq_nx (setN_ok (ds := [.str "root", .int nu, .int ep, encA tree, encIs jo, .tup (pl.map encO), encIs er, encIs bad]) (by array_get_dec)) ?_
    sizeOf_list_dec
    refine seq_nx (if_n (by array_get_dec) (by simp [w0, w1]) (if_n (by array_get_dec) (by simp [w2]) (if_n (by array_get_dec) (by simp [w3]) (if_k (by array_get_dec) (by simp [w4]) (setI_at (j := 4) (by array_get_dec) rfl rfl (rfl) (by simp)))))) (ret_eq (by array_get_dec) ?_)
    first | rfl | (simp [encC, encO]; done)

  by_cases w5 : z / 2 % 10 = 5
  · refine ⟨.root nu ep tree jo [none, some (47 + z % 2)] er bad, ⟨by first | omega | (simp; done) | (simp; omega), by first | omega | (simp; done) | (simp; omega), by first | omega | (simp; done) | (simp; omega), by first | omega | (simp; done) | (simp; omega)⟩, ?_, runF_rt rfl ?_⟩
    · have l5 : max (max (jo.length : Int) ([none, some (47 + z % 2)] : List (Option Int)).length) (max (er.length : Int) bad.length) ≤ 48 := by simp; omega
      simp only [fits, List.all_cons, List.all_nil, isPl, e1, e2, e3, e5, e6, e7, e8, o0, o1, o2, b5, n5, p5, List.all_append, Bool.true_and, Bool.and_true, decide_true, decide_eq_true l5]
    unfold m__law_changed
    sizeOf_list_dec
    sizeOf_list_dec
    refine seq_g (by array_get_dec) (by rfl) ?_
    refine seq_g (by array_get_dec) (by rfl) ?_
    refine seq_g (by array_get_dec) (by rfl) ?_
    refine seq_nx (setN_ok (ds := [.str "root", .int nu, .int ep, encA tree, encIs jo, .tup (pl.map encO), encIs er, encIs bad]) (by array_get_dec)) ?_
    sizeOf_list_dec
    refine seq_nx (if_n (by array_get_dec) (by simp [w0, w1]) (if_n (by array_get_dec) (by simp [w2]) (if_n (by array_get_dec) (by simp [w3]) (if_n (by array_get_dec) (by simp [w4]) (if_k (by array_get_dec) (by simp [w5]) (setI_at (j := 5) (by array_get_dec) rfl rfl (rfl) (by simp))))))) (ret_eq (by array_get_dec) ?_)
    first | rfl | (simp [encC, encO]; done)

  by_cases w6 : z / 2 % 10 = 6
  · refine ⟨.root nu ep tree jo pl [0, 4294967295 + z % 2] bad, ⟨by first | omega | (simp; done) | (simp; omega), by first | omega | (simp; done) | (simp; omega), by first | omega | (simp; done) | (simp; omega), by first | omega | (simp; done) | (simp; omega)⟩, ?_, runF_rt rfl ?_⟩
    · have l5 : max (max (jo.length : Int) pl.length) (max (([0, 4294967295 + z % 2] : List Int).length : Int) bad.length) ≤ 48 := by simp; omega
      simp only [fits, List.all_cons, List.all_nil, isPl, e1, e2, e3, e5, e6, e7, e8, o0, o1, o2, b5, n5, p5, List.all_append, Bool.true_and, Bool.and_true, decide_true, decide_eq_true l5]
    unfold m__law_changed
    sizeOf_list_dec
    sizeOf_list_dec
    refine seq_g (by array_get_dec) (by rfl) ?_
    refine seq_g (by array_get_dec) (by rfl) ?_
    refine seq_g (by array_get_dec) (by rfl) ?_
    refine seq_nx (setN_ok (ds := [.str "root", .int nu, .int ep, encA tree, encIs jo, .tup (pl.map encO), encIs er, encIs bad]) (by array_get_dec)) ?_
    sizeOf_list_dec
    refine seq_nx (if_n (by array_get_dec) (by simp [w0, w1]) (if_n (by array_get_dec) (by simp [w2]) (if_n (by array_get_dec) (by simp [w3]) (if_n (by array_get_dec) (by simp [w4]) (if_n (by array_get_dec) (by simp [w5]) (if_k (by array_get_dec) (by simp [w6]) (setI_at (j := 6) (by array_get_dec) rfl rfl (rfl) (by simp)))))))) (ret_eq (by array_get_dec) ?_)
    first | rfl | (simp [encC, encO]; done)

  by_cases w7 : z / 2 % 10 = 7
  · refine ⟨.root nu ep tree jo pl er [47 + z % 2], ⟨by first | omega | (simp; done) | (simp; omega), by first | omega | (simp; done) | (simp; omega), by first | omega | (simp; done) | (simp; omega), by first | omega | (simp; done) | (simp; omega)⟩, ?_, runF_rt rfl ?_⟩
    · have l5 : max (max (jo.length : Int) pl.length) (max (er.length : Int) ([47 + z % 2] : List Int).length) ≤ 48 := by simp; omega
      simp only [fits, List.all_cons, List.all_nil, isPl, e1, e2, e3, e5, e6, e7, e8, o0, o1, o2, b5, n5, p5, List.all_append, Bool.true_and, Bool.and_true, decide_true, decide_eq_true l5]
    unfold m__law_changed
    sizeOf_list_dec
    sizeOf_list_dec
    refine seq_g (by array_get_dec) (by rfl) ?_
    refine seq_g (by array_get_dec) (by rfl) ?_
    refine seq_g (by array_get_dec) (by rfl) ?_
    refine seq_nx (setN_ok (ds := [.str "root", .int nu, .int ep, encA tree, encIs jo, .tup (pl.map encO), encIs er, encIs bad]) (by array_get_dec)) ?_
    sizeOf_list_dec
    refine seq_nx (if_n (by array_get_dec) (by simp [w0, w1]) (if_n (by array_get_dec) (by simp [w2]) (if_n (by array_get_dec) (by simp [w3]) (if_n (by array_get_dec) (by simp [w4]) (if_n (by array_get_dec) (by simp [w5]) (if_n (by array_get_dec) (by simp [w6]) (if_k (by array_get_dec) (by simp [w7]) (setI_at (j := 7) (by array_get_dec) rfl rfl (rfl) (by simp))))))))) (ret_eq (by array_get_dec) ?_)
    first | rfl | (simp [encC, encO]; done)

  have rr : dRepT (.tup [.int 5]) (.int (48 + z % 2)) = .ok (.tup (List.replicate (48 + z % 2).toNat (.int 5))) := repT_ok (by omega)

  by_cases v0 : z / 20 % 4 = 0
  · refine ⟨.root nu ep tree (List.replicate (48 + z % 2).toNat 5) pl er bad, ⟨by first | omega | (simp; done) | (simp; omega), by first | omega | (simp; done) | (simp; omega), by first | omega | (simp; done) | (simp; omega), by first | omega | (simp; done) | (simp; omega)⟩, ?_, runF_rt rfl ?_⟩
    · have a5 : (((List.replicate (48 + z % 2).toNat 5) : List Int)).all isBlk = true := all_rep b5
      have l5 : decide (max (max (((List.replicate (48 + z % 2).toNat 5) : List Int).length : Int) pl.length) (max (er.length : Int) bad.length) ≤ 48) = decide (z % 2 = 0) := by
        rw [Bool.eq_iff_iff]
        simp
        omega
      simp only [fits, a5, e1, e2, e3, e5, e6, e7, e8, o0, o1, o2, b5, n5, p5, List.all_append, Bool.true_and, Bool.and_true, decide_true, l5]
    unfold m__law_changed
    sizeOf_list_dec
    sizeOf_list_dec
    refine seq_g (by array_get_dec) (by rfl) ?_
    refine seq_g (by array_get_dec) (by rfl) ?_
    refine seq_g (by array_get_dec) (by rfl) ?_
    refine seq_nx (setN_ok (ds := [.str "root", .int nu, .int ep, encA tree, encIs jo, .tup (pl.map encO), encIs er, encIs bad]) (by array_get_dec)) ?_
    sizeOf_list_dec
    refine seq_nx (if_n (by array_get_dec) (by simp [w0, w1]) (if_n (by array_get_dec) (by simp [w2]) (if_n (by array_get_dec) (by simp [w3]) (if_n (by array_get_dec) (by simp [w4]) (if_n (by array_get_dec) (by simp [w5]) (if_n (by array_get_dec) (by simp [w6]) (if_n (by array_get_dec) (by simp [w7]) (setI_at (j := 4) (by array_get_dec) rfl (by array_get_dec) (by rw [v0]; rfl) (by simp))))))))) (ret_eq (by array_get_dec) ?_)
    first | rfl | (simp [encC, encO]; done)

  by_cases v1 : z / 20 % 4 = 1
  · refine ⟨.root nu ep tree jo (List.replicate (48 + z % 2).toNat (some 5)) er bad, ⟨by first | omega | (simp; done) | (simp; omega), by first | omega | (simp; done) | (simp; omega), by first | omega | (simp; done) | (simp; omega), by first | omega | (simp; done) | (simp; omega)⟩, ?_, runF_rt rfl ?_⟩
    · have a5 : (((List.replicate (48 + z % 2).toNat (some 5)) : List (Option Int))).all isPl = true := all_rep p5
      have l5 : decide (max (max (jo.length : Int) ((List.replicate (48 + z % 2).toNat (some 5)) : List (Option Int)).length) (max (er.length : Int) bad.length) ≤ 48) = decide (z % 2 = 0) := by
        rw [Bool.eq_iff_iff]
        simp
        omega
      simp only [fits, a5, e1, e2, e3, e5, e6, e7, e8, o0, o1, o2, b5, n5, p5, List.all_append, Bool.true_and, Bool.and_true, decide_true, l5]
    unfold m__law_changed
    sizeOf_list_dec
    sizeOf_list_dec
    refine seq_g (by array_get_dec) (by rfl) ?_
    refine seq_g (by array_get_dec) (by rfl) ?_
    refine seq_g (by array_get_dec) (by rfl) ?_
    refine seq_nx (setN_ok (ds := [.str "root", .int nu, .int ep, encA tree, encIs jo, .tup (pl.map encO), encIs er, encIs bad]) (by array_get_dec)) ?_
    sizeOf_list_dec
    refine seq_nx (if_n (by array_get_dec) (by simp [w0, w1]) (if_n (by array_get_dec) (by simp [w2]) (if_n (by array_get_dec) (by simp [w3]) (if_n (by array_get_dec) (by simp [w4]) (if_n (by array_get_dec) (by simp [w5]) (if_n (by array_get_dec) (by simp [w6]) (if_n (by array_get_dec) (by simp [w7]) (setI_at (j := 5) (by array_get_dec) rfl (by array_get_dec) (by rw [v1]; rfl) (by simp))))))))) (ret_eq (by array_get_dec) ?_)
    first | rfl | (simp [encC, encO]; done)

  by_cases v2 : z / 20 % 4 = 2
  · refine ⟨.root nu ep tree jo pl (List.replicate (48 + z % 2).toNat 5) bad, ⟨by first | omega | (simp; done) | (simp; omega), by first | omega | (simp; done) | (simp; omega), by first | omega | (simp; done) | (simp; omega), by first | omega | (simp; done) | (simp; omega)⟩, ?_, runF_rt rfl ?_⟩
    · have a5 : (((List.replicate (48 + z % 2).toNat 5) : List Int)).all isNum = true := all_rep n5
      have l5 : decide (max (max (jo.length : Int) pl.length) (max (((List.replicate (48 + z % 2).toNat 5) : List Int).length : Int) bad.length) ≤ 48) = decide (z % 2 = 0) := by
        rw [Bool.eq_iff_iff]
        simp
        omega
      simp only [fits, a5, e1, e2, e3, e5, e6, e7, e8, o0, o1, o2, b5, n5, p5, List.all_append, Bool.true_and, Bool.and_true, decide_true, l5]
    unfold m__law_changed
    sizeOf_list_dec
    sizeOf_list_dec
    refine seq_g (by array_get_dec) (by rfl) ?_
    refine seq_g (by array_get_dec) (by rfl) ?_
    refine seq_g (by array_get_dec) (by rfl) ?_
    refine seq_nx (setN_ok (ds := [.str "root", .int nu, .int ep, encA tree, encIs jo, .tup (pl.map encO), encIs er, encIs bad]) (by array_get_dec)) ?_
    sizeOf_list_dec
    refine seq_nx (if_n (by array_get_dec) (by simp [w0, w1]) (if_n (by array_get_dec) (by simp [w2]) (if_n (by array_get_dec) (by simp [w3]) (if_n (by array_get_dec) (by simp [w4]) (if_n (by array_get_dec) (by simp [w5]) (if_n (by array_get_dec) (by simp [w6]) (if_n (by array_get_dec) (by simp [w7]) (setI_at (j := 6) (by array_get_dec) rfl (by array_get_dec) (by rw [v2]; rfl) (by simp))))))))) (ret_eq (by array_get_dec) ?_)
    first | rfl | (simp [encC, encO]; done)

  by_cases v3 : z / 20 % 4 = 3
  · refine ⟨.root nu ep tree jo pl er (List.replicate (48 + z % 2).toNat 5), ⟨by first | omega | (simp; done) | (simp; omega), by first | omega | (simp; done) | (simp; omega), by first | omega | (simp; done) | (simp; omega), by first | omega | (simp; done) | (simp; omega)⟩, ?_, runF_rt rfl ?_⟩
    · have a5 : (((List.replicate (48 + z % 2).toNat 5) : List Int)).all isBlk = true := all_rep b5
      have l5 : decide (max (max (jo.length : Int) pl.length) (max (er.length : Int) ((List.replicate (48 + z % 2).toNat 5) : List Int).length) ≤ 48) = decide (z % 2 = 0) := by
        rw [Bool.eq_iff_iff]
        simp
        omega
      simp only [fits, a5, e1, e2, e3, e5, e6, e7, e8, o0, o1, o2, b5, n5, p5, List.all_append, Bool.true_and, Bool.and_true, decide_true, l5]
    unfold m__law_changed
    sizeOf_list_dec
    sizeOf_list_dec
    refine seq_g (by array_get_dec) (by rfl) ?_
    refine seq_g (by array_get_dec) (by rfl) ?_
    refine seq_g (by array_get_dec) (by rfl) ?_
    refine seq_nx (setN_ok (ds := [.str "root", .int nu, .int ep, encA tree, encIs jo, .tup (pl.map encO), encIs er, encIs bad]) (by array_get_dec)) ?_
    sizeOf_list_dec
    refine seq_nx (if_n (by array_get_dec) (by simp [w0, w1]) (if_n (by array_get_dec) (by simp [w2]) (if_n (by array_get_dec) (by simp [w3]) (if_n (by array_get_dec) (by simp [w4]) (if_n (by array_get_dec) (by simp [w5]) (if_n (by array_get_dec) (by simp [w6]) (if_n (by array_get_dec) (by simp [w7]) (setI_at (j := 7) (by array_get_dec) rfl (by array_get_dec) (by rw [v3]; rfl) (by simp))))))))) (ret_eq (by array_get_dec) ?_)
    first | rfl | (simp [encC, encO]; done)

  omega
theorem law_changed_ok {c : Con} {z : Int} (hz : 0 ≤ z) (hf : fits c = true) (hs : Small c) : ∃ c', Small c' ∧ fits c' = decide (z % 2 = 0) ∧ f__law_changed [encC c, .int z] = .ok (encC c') := by
  cases c with
  | mark n => exact c_mark hz
  | node lv ch => exact c_node hz hf
  | item ep ix last key val => exact c_item hz hf hs
  | root nu ep tree jo pl er bad => exact c_root hz hf
end Law

set_option Elab.async false
set_option linter.all false
set_option maxRecDepth 100000
set_option maxHeartbeats 4000000
/-! Law k03. -/
namespace Law
open PySem L2 T
local macro_rules
  | `(tactic| array_mem_dec) => `(tactic| first
    | with_reducible assumption
    | with_reducible exact dAdd_i
    | with_reducible exact dSub_i
    | with_reducible exact dLt_i
    | with_reducible exact dLe_i
    | with_reducible exact dGt_i
    | with_reducible exact dGe_i
    | with_reducible exact dEq_i
    | with_reducible exact dNe_i
    | with_reducible exact dInt_i
    | with_reducible exact dNeg_i
    | with_reducible exact dNotB_b
    | with_reducible exact dTru_b
    | with_reducible exact dEq_b
    | with_reducible exact dNe_b
    | with_reducible exact dEq_S
    | with_reducible exact dNe_S
    | with_reducible exact dLen_l
    | with_reducible exact dLen_t
    | with_reducible exact dLen_c
    | with_reducible exact dList_l
    | with_reducible exact dList_t
    | with_reducible exact dTuple_l
    | with_reducible exact dTuple_t
    | with_reducible exact dItems_l
    | with_reducible exact dItems_t
    | with_reducible exact isi_ll
    | with_reducible exact isi_tt
    | with_reducible exact isi_ss
    | with_reducible exact isi_ii
    | with_reducible exact dIs_n
    | with_reducible exact dIsNot_n
    | with_reducible exact dIs_b
    | with_reducible exact dIsNot_b
    | (with_reducible apply dMod_ok
       first | decide | omega)
    | (with_reducible apply dDiv_ok
       first | decide | assumption | omega)
    | (with_reducible apply dMul_ok
       first | assumption | decide)
    | (with_reducible apply dAdd_S
       first | omega | (simp; done) | (simp; omega) | (simp only [List.length_append, List.length_map, List.length_cons, List.length_nil, List.length_singleton] at *; omega))
    | (with_reducible apply dLen_S
       first | omega | (simp; done) | (simp; omega) | (simp only [List.length_append, List.length_map, List.length_cons, List.length_nil, List.length_singleton] at *; omega))
    | (with_reducible apply dAdd_L
       first | omega | (simp; done) | (simp; omega) | (simp only [List.length_append, List.length_map, List.length_cons, List.length_nil, List.length_singleton] at *; omega))
    | (with_reducible apply dAdd_T
       first | omega | (simp; done) | (simp; omega) | (simp only [List.length_append, List.length_map, List.length_cons, List.length_nil, List.length_singleton] at *; omega))
    | (with_reducible apply dAdd_l'
       first | omega | (simp; done) | (simp; omega) | (simp only [List.length_append, List.length_map, List.length_cons, List.length_nil, List.length_singleton] at *; omega))
    | (with_reducible apply dAdd_t'
       first | omega | (simp; done) | (simp; omega) | (simp only [List.length_append, List.length_map, List.length_cons, List.length_nil, List.length_singleton] at *; omega))
    | (with_reducible apply dCat_l'
       first | omega | (simp; done) | (simp; omega) | (simp only [List.length_append, List.length_map, List.length_cons, List.length_nil, List.length_singleton] at *; omega))
    | with_reducible exact dEq_s
    | with_reducible exact dNe_s
    | with_reducible exact dIx_last
    | (with_reducible apply dIx_t
       exact rfl)
    | (with_reducible apply dIx_l
       rfl))
local macro_rules
  | `(tactic| array_get_dec) => `(tactic| first
    | with_reducible exact conD_ap
    | (with_reducible show getV _ _ = _
       exact rfl)
    | with_reducible exact noA_ap
    | with_reducible exact noPart_ap
    | with_reducible exact yesB_ap
    | with_reducible assumption
    | (with_reducible apply bin_ok
       · array_get_dec
       · array_get_dec
       · array_mem_dec)
    | (with_reducible apply u_call
       · array_get_dec
       · array_mem_dec)
    | (with_reducible apply u_consA
       · array_get_dec
       · array_get_dec)
    | (with_reducible apply toB_ok
       array_get_dec)
    | (with_reducible apply u_and
       · array_get_dec
       · array_get_dec)
    | (with_reducible apply orB_ok
       · array_get_dec
       · array_get_dec)
    | (with_reducible apply notB_ok
       array_get_dec)
    | (with_reducible apply u_tru
       · array_get_dec
       · array_mem_dec)
    | (with_reducible apply u_chain
       · array_get_dec
       · array_get_dec
       · array_mem_dec
       · array_get_dec
       · array_mem_dec)
    | (with_reducible apply u_tup
       · array_get_dec
       · simp)
    | (with_reducible apply u_lst
       · array_get_dec
       · simp)
    | (with_reducible apply lstD_ok
       array_get_dec)
    | (with_reducible apply u_items
       · array_get_dec
       · array_mem_dec)
    | (with_reducible apply u_andV
       · array_get_dec
       · array_get_dec)
    | (with_reducible apply u_orV
       · array_get_dec
       · array_get_dec)
    | (with_reducible apply u_neg
       · array_get_dec
       · array_mem_dec)
    | (with_reducible apply u_notV
       · array_get_dec
       · array_mem_dec)
    | (with_reducible apply u_sl
       · array_get_dec
       · array_get_dec
       · array_get_dec
       · array_mem_dec)
    | (with_reducible apply rev_ok
       array_get_dec)
    | (with_reducible apply u_part
       array_get_dec)
    | (with_reducible apply u_meth
       · array_get_dec
       · exact rfl
       · array_get_dec
       · array_mem_dec)
    | (with_reducible apply u_own
       array_get_dec))
local macro_rules
  | `(tactic| sizeOf_list_dec) => `(tactic| first
    | (with_reducible apply set_eq
       · array_get_dec
       · exact rfl)
    | (with_reducible apply ret_eq
       · array_get_dec
       · exact rfl)
    | (with_reducible apply setN_eq
       · array_get_dec
       · exact rfl)
    | (with_reducible apply skip_eq
       exact rfl)
    | (with_reducible apply app_eq
       · exact rfl
       · array_get_dec
       · first | omega | (simp; done) | (simp; omega) | (simp only [List.length_append, List.length_map, List.length_cons, List.length_nil, List.length_singleton] at *; omega)
       · exact rfl)
    | with_reducible assumption
    | (with_reducible apply seq_nx
       · sizeOf_list_dec))
local macro_rules
  | `(tactic| get_elem_tactic_trivial) => `(tactic| (with_reducible apply ok_d
                                                     · array_get_dec
                                                     · exact rfl))
theorem draws_eq : f__law_draws = runF 2 5 mDraws := rfl
/-- every number with the number of those behind it and itself -/
def wsum : List Int → Int
  | [] => 0
  | x :: xs => x * ((xs.length : Int) + 1) + wsum xs
def octs (page : List Int) : List Int := page.getD 0 0 :: page.drop 5
def sums (l : List Int) : D := .tup [.int (l.sum % 65521), .int (wsum l % 65521)]
theorem sum_ok (l : List Int) : dSum [.lst (l.map D.int)] = .ok (.int l.sum) := by
  show (match D.ints (l.map D.int) with | some bs => Res.ok (D.int bs.sum) | none => .no) = _
  rw [ints_map]
theorem aug_int {ρ : Rho} {i : Nat} {h : Int → Int → Int} {g : Rho → Res D} {a b : Int} {ρ' : Rho} (h0 : ρ[i]? = some (some (.int a))) (hg : g ρ = .ok (.int b)) (e : ρ.set i (some (.int (h a b))) = ρ') : sAug h i g ρ = .nx ρ' := by
  unfold sAug
  rw [h0]
  simp only [hg, thenS_ok, e]
theorem sums_loop (S L F : Option D) : ∀ (xs : List Int) (s p : Int) (x5 : Option D), ∃ y p', forM (bNm 5) m_page_sums_b1 (xs.map D.int) [S, L, F, some (.int s), some (.int p), x5] = .nx [S, L, F, some (.int (s + p * (xs.length : Int) + wsum xs)), some (.int p'), y]
  | [], s, p, x5 => ⟨x5, p, by simp [wsum]; rfl⟩
  | x :: xs, s, p, x5 => by
    obtain ⟨y, p', h⟩ := sums_loop S L F xs (s + (p + x)) (p + x) (some (.int x))
    refine ⟨y, p', ?_⟩
    rw [List.map_cons]
    have e : s + (p + x) + (p + x) * (xs.length : Int) + wsum xs = s + p * ((x :: xs).length : Int) + wsum (x :: xs) := by
      rw [wsum, List.length_cons, Int.natCast_add, Int.mul_add, Int.mul_add, Int.add_mul]
      simp
      omega
    rw [← e]
    refine for_cons (ρ1 := [S, L, F, some (.int s), some (.int p), some (.int x)]) (ρ2 := [S, L, F, some (.int (s + (p + x))), some (.int (p + x)), some (.int x)]) rfl ?_ h
    unfold m_page_sums_b1
    exact seq_nx (aug_int (b := x) rfl rfl rfl) (aug_int (b := p + x) rfl rfl rfl)
theorem page_sums_eq {page : List Int} (h : 6 ≤ page.length) (h' : page.length ≤ 10000) : f_page_sums [.lst (page.map D.int)] = .ok (sums (octs page)) := by
  have h0 : dIx (.lst (page.map D.int)) (.int 0) = .ok (.int (page.getD 0 0)) := (sq_l (enc := D.int) page).ix 0 _ (by
    rw [List.getD_eq_getElem?_getD, List.getElem?_eq_getElem (by omega)]
    rfl)
  have hsum : f_summed_octets [.lst (page.map D.int)] = .ok (.lst ((octs page).map D.int)) := by
    refine runF_rt rfl ?_
    unfold m_summed_octets
    have s1 : dSl (.lst (page.map D.int)) (some 5) none = .ok (.lst ((page.drop 5).map D.int)) := by rw [dSl_l, cut_from _ 5 5 rfl (by simp; omega), List.map_drop]
    refine ret_eq (by array_get_dec) ?_
    rfl
  have hs := sum_ok (octs page)
  refine runF_rt rfl ?_
  unfold m_page_sums
  sizeOf_list_dec
  sizeOf_list_dec
  sizeOf_list_dec
  sizeOf_list_dec
  obtain ⟨y, p', hf⟩ := sums_loop (some (.lst (page.map D.int))) (some (.lst ((octs page).map D.int))) (some (.int (octs page).sum)) (octs page) 0 0 none
  refine seq_nx (for_ok (by array_get_dec) hf) ?_
  rw [show (0 : Int) + 0 * ((octs page).length : Int) + wsum (octs page) = wsum (octs page) by simp]
  sizeOf_list_dec
theorem wsum_drop {l : List Int} {k : Nat} {x : Int} (h : l[k]? = some x) : wsum (l.drop k) = x * ((l.length : Int) - k) + wsum (l.drop (k + 1)) := by
  obtain ⟨hk, e⟩ := List.getElem?_eq_some_iff.mp h
  rw [List.drop_eq_getElem_cons hk, e, wsum, List.length_drop]
  congr 2
  omega
theorem law_loop (S0 S1 S2 S3 S8 S9 : Option D) {l : List Int} (hl : l.length = 508) (ho : ∀ x ∈ l, 0 ≤ x ∧ x < 256) (x7 : Option D) : ∃ y, forM (bNm 7) m__law_asks_first_b2 ((List.range 508).map fun (i : Nat) => D.int i) [S0, S1, S2, S3, some (.lst (l.map D.int)), some (.int 0), some (.int 0), x7, S8, S9] = .nx [S0, S1, S2, S3, some (.lst (l.map D.int)), some (.int l.sum), some (.int (wsum l)), y, S8, S9] := by
  obtain ⟨ρ', hf, s, w, x, rfl, h1, h2⟩ := for_inv (b := bNm 7) (body := m__law_asks_first_b2)
    (fun k ρ => ∃ (s w : Int) (x : Option D), ρ = [S0, S1, S2, S3, some (.lst (l.map D.int)), some (.int s), some (.int w), x, S8, S9] ∧ s + (l.drop k).sum = l.sum ∧ w + wsum (l.drop k) = wsum l)
    ((List.range 508).map fun (i : Nat) => D.int i) (fun k x ρ hk hI => by
      obtain ⟨s, w, x', rfl, h1, h2⟩ := hI
      rw [List.getElem?_map] at hk
      obtain ⟨z, hz, rfl⟩ := Option.map_eq_some_iff.mp hk
      obtain ⟨hkl, e⟩ := List.getElem?_eq_some_iff.mp hz
      simp at hkl e
      subst e
      have hx : l[k]? = some l[k] := List.getElem?_eq_getElem (by omega)
      have hb := ho l[k] (List.getElem_mem (by omega))
      have w1 := wsum_drop hx
      have w2 : (l.drop k).sum = l[k] + (l.drop (k + 1)).sum := by rw [List.drop_eq_getElem_cons (by omega), List.sum_cons]
      generalize l[k] = o at hx hb w1 w2
      have i1 : dIx (.lst (l.map D.int)) (.int (k : Int)) = .ok (.int o) := (sq_l (enc := D.int) l).ix k _ hx
      have m1 : CMulX o (508 - (k : Int)) := T.Fits.mul (n := 64) (m := 64) (fits_small (by omega) (by omega)) (fits_small (by omega) (by omega)) (by omega)
      refine ⟨_, rfl, [S0, S1, S2, S3, some (.lst (l.map D.int)), some (.int (s + o)), some (.int (w + o * (508 - (k : Int)))), some (.int (k : Int)), S8, S9], .inl ?_, s + o, w + o * (508 - (k : Int)), some (.int (k : Int)), rfl, by omega, ?_⟩
      · unfold m__law_asks_first_b2
        sizeOf_list_dec
        sizeOf_list_dec
      · rw [hl] at w1
        generalize o * (508 - (k : Int)) = q at *
        omega) (ρ := [S0, S1, S2, S3, some (.lst (l.map D.int)), some (.int 0), some (.int 0), x7, S8, S9]) ⟨0, 0, x7, rfl, by simp, by simp⟩
  rw [List.length_map, List.length_range, List.drop_eq_nil_of_le (by omega)] at h1 h2
  simp only [List.sum_nil, wsum, Int.add_zero] at h1 h2
  subst h1 h2
  exact ⟨x, hf⟩
theorem cut_whole {α : Type} (xs : List α) : cutL xs none none = xs := cutL_whole ⟨rfl, rfl⟩
def PgOk (p : List Int) : Prop := p.length = 512 ∧ ∀ x ∈ p, 0 ≤ x ∧ x < 256
theorem pg_rep {v : Int} (h : 0 ≤ v ∧ v < 256) : PgOk (List.replicate 512 v) := ⟨by simp, fun x hx => by rw [(List.mem_replicate.mp hx).2]; exact h⟩
theorem rep512 (v : Int) : dRep (.lst [.int v]) (.int 512) = .ok ((List.replicate 512 v).map D.int) := by
  rw [rep_of (z := 512) (n := 512) rfl (by decide), List.map_replicate]
theorem drawn_loop (S0 S1 : Option D) (x4 x5 x6 x7 x8 x9 : Option D) : ∀ (ds : List Int) (page : List Int) (x3 : Option D), PgOk page → (∀ d ∈ ds, 0 ≤ d) → ∃ page' y, PgOk page' ∧ forM (bNm 3) m__law_asks_first_b1 (ds.map D.int) [S0, S1, some (.lst (page.map D.int)), x3, x4, x5, x6, x7, x8, x9] = .nx [S0, S1, some (.lst (page'.map D.int)), y, x4, x5, x6, x7, x8, x9]
  | [], page, x3, hp, _ => ⟨page, x3, hp, rfl⟩
  | d :: ds, page, x3, hp, hd => by
    have h0 := hd d List.mem_cons_self
    have hm : 0 ≤ d % 512 ∧ d % 512 < 512 := by omega
    obtain ⟨page', y, h1, h2⟩ := drawn_loop S0 S1 x4 x5 x6 x7 x8 x9 ds (page.set (d % 512).toNat (d / 512 % 256)) (some (.int d)) ⟨by rw [List.length_set]; exact hp.1, fun x hx => by
      rcases List.mem_or_eq_of_mem_set hx with h | h
      · exact hp.2 x h
      · subst h
        omega⟩ fun e he => hd e (List.mem_cons_of_mem _ he)
    refine ⟨page', y, h1, ?_⟩
    rw [List.map_cons]
    refine for_cons rfl ?_ h2
    unfold m__law_asks_first_b1
    refine (setI_at (d := .int (d / 512 % 256)) (j := (d % 512).toNat) (by array_get_dec) rfl (by array_get_dec) (by omega) (by rw [List.length_map, hp.1]; omega)).trans ?_
    rw [List.map_set]
    rfl
theorem asks_first {ns : List Int} (hl : ns.length ≤ 63) (hb : ∀ z ∈ ns, Builtin.Int.intBits z ≤ 1048576) : f__law_asks_first [.scr (ns.map D.int)] = .ok (.bl true) := by
  obtain ⟨ds, h10, hds, hrun⟩ := draws_ok hl hb 11 (by omega)
  rw [← draws_eq] at hrun
  have dx : ∀ j : Nat, j < 11 → dIx (.lst (ds.map D.int)) (.int (j : Int)) = .ok (.int (ds.getD j 0)) := fun j hj => (sq_l (enc := D.int) ds).ix j _ (by
    rw [List.getD_eq_getElem?_getD, List.getElem?_eq_getElem (by omega)]
    rfl)
  have hd : ∀ j, j < 11 → 0 ≤ ds.getD j 0 := fun j hj => (hds _ (T.getD_mem (by omega))).1
  have d0 : dIx (.lst (ds.map D.int)) (.int 0) = .ok (.int (ds.getD 0 0)) := dx 0 (by omega)
  have d1 : dIx (.lst (ds.map D.int)) (.int 1) = .ok (.int (ds.getD 1 0)) := dx 1 (by omega)
  have d2 : dIx (.lst (ds.map D.int)) (.int 2) = .ok (.int (ds.getD 2 0)) := dx 2 (by omega)
  have d3 : dIx (.lst (ds.map D.int)) (.int 3) = .ok (.int (ds.getD 3 0)) := dx 3 (by omega)
  have d4 : dIx (.lst (ds.map D.int)) (.int 4) = .ok (.int (ds.getD 4 0)) := dx 4 (by omega)
  have d5 : dIx (.lst (ds.map D.int)) (.int 5) = .ok (.int (ds.getD 5 0)) := dx 5 (by omega)
  have h0 := hd 0 (by omega)
  have h1 := hd 1 (by omega)
  generalize hz0 : ds.getD 0 0 = z0 at *
  generalize hz1 : ds.getD 1 0 = z1 at *
  generalize ds.getD 2 0 = z2 at *
  generalize ds.getD 3 0 = z3 at *
  generalize ds.getD 4 0 = z4 at *
  generalize ds.getD 5 0 = z5 at *
  refine runF_rt rfl ?_
  unfold m__law_asks_first
  refine seq_nx (set_ok (d := .lst (ds.map D.int)) (call2_ok rfl rfl hrun)) ?_
  have r0 := rep512 0
  have r255 := rep512 255
  refine seq_nx (setN_ok (ds := (List.replicate 512 (0 : Int)).map D.int) (by array_get_dec)) ?_
  obtain ⟨p1, hp1, hs1⟩ : ∃ p1, PgOk p1 ∧ sIf (toB (T.bin dEq (T.bin dMod (T.bin dIx (getV 1) (conD (.int 0))) (conD (.int 5))) (conD (.int 0)))) (sSetN 2 (T.bin dRep (lstD (lstV (consA (conD (.int 255)) noA))) (conD (.int 512)))) sSkip [some (.scr (ns.map D.int)), some (.lst (ds.map D.int)), some (.lst ((List.replicate 512 (0 : Int)).map D.int)), none, none, none, none, none, none, none] = .nx [some (.scr (ns.map D.int)), some (.lst (ds.map D.int)), some (.lst (p1.map D.int)), none, none, none, none, none, none, none] := by
    by_cases h : z0 % 5 = 0
    · exact ⟨_, pg_rep (v := 255) (by decide), if_k (by array_get_dec) (by simp [h]) (setN_eq (by array_get_dec) rfl)⟩
    · exact ⟨_, pg_rep (v := 0) (by decide), if_n (by array_get_dec) (by simp [h]) rfl⟩
  refine seq_nx hs1 ?_
  obtain ⟨p2, y2, hp2, hf2⟩ := drawn_loop (some (.scr (ns.map D.int))) (some (.lst (ds.map D.int))) none none none none none none ((ds.drop 2).take ((2 + z1 % 10).toNat - 2)) p1 none hp1 (fun d hd' => (hds d (List.mem_of_mem_drop (List.mem_of_mem_take hd'))).1)
  have sl : dSl (.lst (ds.map D.int)) (some 2) (some (2 + z1 % 10)) = .ok (.lst (((ds.drop 2).take ((2 + z1 % 10).toNat - 2)).map D.int)) := by
    rw [dSl_l, cut_mid (ds.map D.int) 2 (2 + z1 % 10).toNat 2 (2 + z1 % 10) rfl (by omega) (by simp; omega) (by simp; omega), List.map_take, List.map_drop]
  refine seq_nx (for_ok (by array_get_dec) hf2) ?_
  obtain ⟨cp, c1, c2, c3⟩ := rng_comp (enc := D.int) (fun x => 0 ≤ x ∧ x < 256) (n := 512) (i := 7) (src := callV dRng1 (consA (conD (.int 512)) noA)) (h := T.bin dMod (callV dInt (consA (T.bin dAdd (T.bin dDiv (T.bin dIx (getV 1) (conD (.int 1))) (T.bin dAdd (getV 7) (conD (.int 1)))) (T.bin dMul (conD (.int 91)) (getV 7))) noA)) (conD (.int 256)))
    (ρ := [some (.scr (ns.map D.int)), some (.lst (ds.map D.int)), some (.lst (p2.map D.int)), y2, none, none, none, none, none, none]) (call1_ok rfl (rng1_ok (n := 512) (by omega))) (by omega) (by simp) fun k hk => by
      refine ⟨(z1 / ((k : Int) + 1) + 91 * (k : Int)) % 256, by omega, ?_⟩
      have m1 : CMulX 91 (k : Int) := T.Fits.mul (n := 64) (m := 64) (fits_small (by decide) (by decide)) (fits_small (by omega) (by omega)) (by omega)
      have q := pos_log (k := (k : Int) + 1) (by omega) (by omega)
      array_get_dec
  obtain ⟨p3, hp3, hs3⟩ : ∃ p3, PgOk p3 ∧ sIf (toB (T.bin dEq (T.bin dMod (T.bin dIx (getV 1) (conD (.int 0))) (conD (.int 5))) (conD (.int 1)))) (sSetN 2 (compV (callV dRng1 (consA (conD (.int 512)) noA)) (bNm 7) yesB (T.bin dMod (callV dInt (consA (T.bin dAdd (T.bin dDiv (T.bin dIx (getV 1) (conD (.int 1))) (T.bin dAdd (getV 7) (conD (.int 1)))) (T.bin dMul (conD (.int 91)) (getV 7))) noA)) (conD (.int 256))) [7])) sSkip [some (.scr (ns.map D.int)), some (.lst (ds.map D.int)), some (.lst (p2.map D.int)), y2, none, none, none, none, none, none] = .nx [some (.scr (ns.map D.int)), some (.lst (ds.map D.int)), some (.lst (p3.map D.int)), y2, none, none, none, none, none, none] := by
    by_cases h : z0 % 5 = 1
    · exact ⟨cp, ⟨c1, c2⟩, if_k (by array_get_dec) (by simp [h]) (setN_eq c3 rfl)⟩
    · exact ⟨p2, hp2, if_n (by array_get_dec) (by simp [h]) rfl⟩
  refine seq_nx hs3 ?_
  obtain ⟨hl3, ho3⟩ := hp3
  obtain ⟨oc, eoc⟩ : ∃ oc, oc = octs p3 := ⟨_, rfl⟩
  have i0 : dIx (.lst (p3.map D.int)) (.int 0) = .ok (.int (p3.getD 0 0)) := (sq_l (enc := D.int) p3).ix 0 _ (by
    rw [List.getD_eq_getElem?_getD, List.getElem?_eq_getElem (by omega)]
    rfl)
  have s5 : dSl (.lst (p3.map D.int)) (some 5) none = .ok (.lst ((p3.drop 5).map D.int)) := by rw [dSl_l, cut_from _ 5 5 rfl (by simp; omega), List.map_drop]
  have s0 : dSl (.lst (p3.map D.int)) none none = .ok (.lst (p3.map D.int)) := by rw [dSl_l, cut_whole]
  have l5 : (p3.drop 5).length = 507 := by simp [hl3]
  have hoc : oc.length = 508 := by rw [eoc]; simp [octs, hl3]
  have hoo : ∀ x ∈ oc, 0 ≤ x ∧ x < 256 := by
    rw [eoc]
    intro x hx
    rcases List.mem_cons.mp hx with h | h
    · exact h ▸ ho3 _ (T.getD_mem (by omega))
    · exact ho3 x (List.mem_of_mem_drop h)
  refine seq_nx (set_eq (ρ' := [some (.scr (ns.map D.int)), some (.lst (ds.map D.int)), some (.lst (p3.map D.int)), y2, some (.lst (oc.map D.int)), none, none, none, none, none]) (by array_get_dec) (by rw [eoc]; rfl)) ?_
  sizeOf_list_dec
  sizeOf_list_dec
  obtain ⟨y7, hf⟩ := law_loop (some (.scr (ns.map D.int))) (some (.lst (ds.map D.int))) (some (.lst (p3.map D.int))) y2 none none hoc hoo none
  refine seq_nx (for_ok (call1_ok rfl (rng1_ok (n := 508) (by omega))) hf) ?_
  obtain ⟨ot, eot⟩ : ∃ ot, ot = p3.getD 0 0 :: z2 % 256 :: z3 % 256 :: z4 % 256 :: z5 % 256 :: p3.drop 5 := ⟨_, rfl⟩
  have hot : ot.length = 512 := by rw [eot]; simp [hl3]
  refine seq_nx (set_eq (ρ' := [some (.scr (ns.map D.int)), some (.lst (ds.map D.int)), some (.lst (p3.map D.int)), y2, some (.lst (oc.map D.int)), some (.int oc.sum), some (.int (wsum oc)), y7, some (.lst (ot.map D.int)), none]) (by array_get_dec) (by rw [eot]; rfl)) ?_
  have q1 := page_sums_eq (page := p3) (by omega) (by omega)
  have q2 := page_sums_eq (page := ot) (by omega) (by omega)
  have e2 : octs ot = oc := by rw [eot, eoc]; rfl
  rw [← eoc] at q1
  rw [e2] at q2
  have e3 : dEq (sums oc) (sums oc) = .ok (.bl true) := dEq_self rfl
  refine seq_nx (set_ok (d := sums oc) ?_) ?_
  · unfold sums
    array_get_dec
  sizeOf_list_dec
theorem asks_second {ns : List Int} (hl : ns.length ≤ 63) (hb : ∀ z ∈ ns, Builtin.Int.intBits z ≤ 1048576) : f__law_asks_second [.scr (ns.map D.int)] = .ok (.bl true) := by
  obtain ⟨ds, h10, hds, hrun⟩ := draws_ok hl hb 8 (by omega)
  rw [← draws_eq] at hrun
  have dx : ∀ j : Nat, j < 8 → dIx (.lst (ds.map D.int)) (.int (j : Int)) = .ok (.int (ds.getD j 0)) := fun j hj => (sq_l (enc := D.int) ds).ix j _ (by
    rw [List.getD_eq_getElem?_getD, List.getElem?_eq_getElem (by omega)]
    rfl)
  have d0 : dIx (.lst (ds.map D.int)) (.int 0) = .ok (.int (ds.getD 0 0)) := dx 0 (by omega)
  have d1 : dIx (.lst (ds.map D.int)) (.int 1) = .ok (.int (ds.getD 1 0)) := dx 1 (by omega)
  have h0 := hds (ds.getD 0 0) (T.getD_mem (by omega))
  have h1 := hds (ds.getD 1 0) (T.getD_mem (by omega))
  obtain ⟨c, hf, hs, hc⟩ := law_content_ok h0.1 h1.1 h0.2 h1.2
  refine runF_rt rfl ?_
  unfold m__law_asks_second
  refine seq_nx (set_ok (d := .lst (ds.map D.int)) (call2_ok rfl rfl hrun)) ?_
  sizeOf_list_dec
  have hq := fits_page_eq hs
  have hy := law_has_body_eq hs
  refine seq_g (by array_get_dec) (by rw [hf]; rfl) ?_
  have s2 : dSl (.lst (ds.map D.int)) (some 2) none = .ok (.lst ((ds.drop 2).map D.int)) := by rw [dSl_l, cut_from _ 2 2 rfl (by simp; omega), List.map_drop]
  obtain ⟨ρ', hfr, x3, x4, x5, rfl⟩ := for_inv (b := bNm 3) (body := m__law_asks_second_b1) (fun k ρ => ∃ (x3 x4 x5 : Option D), ρ = [some (.scr (ns.map D.int)), some (.lst (ds.map D.int)), some (encC c), x3, x4, x5]) ((ds.drop 2).map D.int) (fun k x ρ hk hI => by
    obtain ⟨x3, x4, x5, rfl⟩ := hI
    rw [List.getElem?_map] at hk
    obtain ⟨z, hz, rfl⟩ := Option.map_eq_some_iff.mp hk
    have hz0 := (hds z (List.mem_of_mem_drop (List.mem_of_getElem? hz))).1
    obtain ⟨c', hs', hf', hc'⟩ := law_changed_ok hz0 hf hs
    have hq' := fits_page_eq hs'
    have hy' := law_has_body_eq hs'
    refine ⟨_, rfl, [some (.scr (ns.map D.int)), some (.lst (ds.map D.int)), some (encC c), some (.int z), some (encC c'), some (.bl (decide (z % 2 = 0)))], .inl ?_, _, _, _, rfl⟩
    unfold m__law_asks_second_b1
    sizeOf_list_dec
    sizeOf_list_dec
    refine if_n (by array_get_dec) ?_ rfl
    rw [hf']
    cases decide (z % 2 = 0) <;> rfl) (ρ := [some (.scr (ns.map D.int)), some (.lst (ds.map D.int)), some (encC c), none, none, none]) ⟨none, none, none, rfl⟩
  refine seq_nx (for_ok (by array_get_dec) hfr) ?_
  rfl
theorem law_true (ns : List Int) (hl : ns.length ≤ 63) (hb : ∀ z ∈ ns, Builtin.Int.intBits z ≤ 1048576) : f_law [.scr (ns.map D.int)] = .ok (.bl true) := by
  have h1 := asks_first hl hb
  have h2 := asks_second hl hb
  refine runF_rt rfl ?_
  unfold m_law
  sizeOf_list_dec
theorem goal : ∀ ns : List Int, ns.length ≤ 63 → (∀ z ∈ ns, Builtin.Int.intBits z ≤ 1048576) → f_law [.scr (ns.map D.int)] = .ok (.bl true) := law_true
end Law

open PySem PySem.W PyProof.Rows
set_option maxRecDepth 100000 in
set_option maxHeartbeats 0 in
theorem PySem.Challenge.cw_tideland_k03_sums_of_pages_and_contents_holds : PySem.Challenge.rw_tideland_k03_sums_of_pages_and_contents.Holds := by
  w_on; o_law; k_head; (case hw => w_witness2)
  k_fill
  refine L2.walk_ofB (l := PySem.Challenge.rw_tideland_k03_sums_of_pages_and_contents) (n := 63) (k := 8) (x := "script") (CX := fun w => L2.CX (PySem.Challenge.rw_tideland_k03_sums_of_pages_and_contents).prog w) (sp := fun w => T.spLaw _) rfl (by decide) rfl ⟨rfl, by decide, by decide⟩ (fun w h Y => PySem.W.kIn_of Y) ?F (fun _ _ a ns hl hb _ hS => ⟨a, ns, rfl, hS, hl, hb, fun _ => rfl⟩) (fun _ _ _ _ _ h => T.cx_false h)
  case F =>
    intro w mg fa h KX G hmg
    refine' Law.all_mk Law.goal KX G hmg ?a0 ?l0 ?c0 ?k0 ?a1 ?l1 ?c1 ?k1 ?a2 ?l2 ?c2 ?k2 ?a3 ?l3 ?c3 ?k3 ?a4 ?l4 ?c4 ?k4 ?a5 ?l5 ?c5 ?k5 ?a6 ?l6 ?c6 ?k6 ?a7 ?l7 ?c7 ?k7 ?a8 ?l8 ?c8 ?k8 ?a9 ?l9 ?c9 ?k9 ?a10 ?l10 ?c10 ?k10 ?a11 ?l11 ?c11 ?k11 ?a12 ?l12 ?c12 ?k12 ?a13 ?l13 ?c13 ?k13 ?a14 ?l14 ?c14 ?k14 ?a15 ?l15 ?c15 ?k15 ?a16 ?l16 ?c16 ?k16 ?a17 ?l17 ?c17 ?k17 ?a18 ?l18 ?c18 ?k18 ?a19 ?l19 ?c19 ?k19 ?a20 ?l20 ?c20 ?k20 ?a21 ?l21 ?c21 ?k21 ?a22 ?l22 ?c22 ?k22 ?a23 ?l23 ?c23 ?k23 ?a24 ?l24 ?c24 ?k24 ?a25 ?l25 ?c25 ?k25 ?u0 ?u1 ?u2 ?u3 ?u4 ?u5 ?u6 ?z0 ?z1 ?z2 ?z3 ?z4 ?z5 ?z6 ?z7 ?xg0 ?xk0 ?xs0 ?xt0 ?xd0 ?xq0 ?xm0_0
    (case a0 => k_is); (case l0 => k_is); (case c0 => k_is); (case k0 => k_is); (case a1 => k_is); (case l1 => k_is); (case c1 => k_is); (case k1 => k_is); (case a2 => k_is); (case l2 => k_is); (case c2 => k_is); (case k2 => k_is); (case a3 => k_is); (case l3 => k_is); (case c3 => k_is); (case k3 => k_is); (case a4 => k_is); (case l4 => k_is); (case c4 => k_is); (case k4 => k_is); (case a5 => k_is); (case l5 => k_is); (case c5 => k_is); (case k5 => k_is); (case a6 => k_is); (case l6 => k_is); (case c6 => k_is); (case k6 => k_is); (case a7 => k_is); (case l7 => k_is); (case c7 => k_is); (case k7 => k_is); (case a8 => k_is); (case l8 => k_is); (case c8 => k_is); (case k8 => k_is); (case a9 => k_is); (case l9 => k_is); (case c9 => k_is); (case k9 => k_is); (case a10 => k_is); (case l10 => k_is); (case c10 => k_is); (case k10 => k_is); (case a11 => k_is); (case l11 => k_is); (case c11 => k_is); (case k11 => k_is); (case a12 => k_is); (case l12 => k_is); (case c12 => k_is); (case k12 => k_is); (case a13 => k_is); (case l13 => k_is); (case c13 => k_is); (case k13 => k_is); (case a14 => k_is); (case l14 => k_is); (case c14 => k_is); (case k14 => k_is); (case a15 => k_is); (case l15 => k_is); (case c15 => k_is); (case k15 => k_is); (case a16 => k_is); (case l16 => k_is); (case c16 => k_is); (case k16 => k_is); (case a17 => k_is); (case l17 => k_is); (case c17 => k_is); (case k17 => k_is); (case a18 => k_is); (case l18 => k_is); (case c18 => k_is); (case k18 => k_is); (case a19 => k_is); (case l19 => k_is); (case c19 => k_is); (case k19 => k_is); (case a20 => k_is); (case l20 => k_is); (case c20 => k_is); (case k20 => k_is); (case a21 => k_is); (case l21 => k_is); (case c21 => k_is); (case k21 => k_is); (case a22 => k_is); (case l22 => k_is); (case c22 => k_is); (case k22 => k_is); (case a23 => k_is); (case l23 => k_is); (case c23 => k_is); (case k23 => k_is); (case a24 => k_is); (case l24 => k_is); (case c24 => k_is); (case k24 => k_is); (case a25 => k_is); (case l25 => k_is); (case c25 => k_is); (case k25 => k_is); (case u0 => k_is); (case u1 => k_is); (case u2 => k_is); (case u3 => k_is); (case u4 => k_is); (case u5 => k_is); (case u6 => k_is); (case z0 => k_is); (case z1 => k_is); (case z2 => k_is); (case z3 => k_is); (case z4 => k_is); (case z5 => k_is); (case z6 => k_is); (case z7 => k_is); (case xg0 => k_is); (case xk0 => k_is); (case xs0 => k_is); (case xt0 => k_is); (case xd0 => k_is); (case xq0 => k_exc); (case xm0_0 => k_is)
