import PyProof.Rows.All
import Wide.All
import OpenK.AllK
import Wide.FinOn
import HandS.ForMost
import HandS.ForExc
import HandS.WideBits
import HandS.Wide
import HandS.TupAny
import HandS.TupLe
import HandS.IsInst
import HandS.StrMore
import HandS.Replace
import KE.DataEq
import HandS.Rev
import HandS.Zip
import HandS.NoneIn
import HandS.EndBits
import HandS.Codes
import HandS.ExcOwn
import HandS.Small
import HandS.TryMany
import HandS.ExcIs
import HandS.SortRule
import HandS.SortInts
import HandS.FStr
import HandS.Style
import HandS.ExcField
import HandS.Dict
import PySem.Challenge.RW_tideland_k69_merges_turned_round

set_option Elab.async false
set_option linter.all false
set_option maxRecDepth 100000
set_option maxHeartbeats 4000000
/-! T-layer, part A: values as trees, ground and ownership, expressions. -/
namespace T
open PySem PySem.Spec PyProof.Rows L2

/-- a value as a tree -/
inductive D where
  | non | bl (b : Bool) | int (i : Int) | str (s : Str) | lst (xs : List D) | tup (xs : List D) | scr (xs : List D) | dct (kvs : List (D × D)) | ty (n : String) | exc (fs : List (Str × D))

structure Exn where
  cls : Str
  fs : List (Str × D)

inductive Res (α : Type) where
  | ok (a : α) | ex (e : Exn) | no
def Res.bind {α β : Type} : Res α → (α → Res β) → Res β
  | .ok a, f => f a
  | .ex e, _ => .ex e
  | .no, _ => .no
theorem mk_eq0 {α : Sort u} {a b : α} (h : a = b) : a = b := h
@[simp] theorem Res.bind_ok {α β : Type} (a : α) (f : α → Res β) : (Res.ok a).bind f = f a := mk_eq0 rfl
@[simp] theorem Res.bind_ex {α β : Type} (e : Exn) (f : α → Res β) : (Res.ex e : Res α).bind f = .ex e := mk_eq0 rfl
@[simp] theorem Res.bind_no {α β : Type} (f : α → Res β) : (Res.no : Res α).bind f = .no := mk_eq0 rfl
/-- a wish of a result -/
def Res.has {α : Type} (r : Res α) (P : α → Prop) (E : Exn → Prop) : Prop :=
  match r with
  | .ok a => P a
  | .ex e => E e
  | .no => False
theorem Res.has_bind {α β : Type} {r : Res α} {f : α → Res β} {P : β → Prop} {E : Exn → Prop} (h : (r.bind f).has P E) : r.has (fun a => (f a).has P E) E := by
  cases r with
  | ok a => exact h
  | ex e => exact h
  | no => exact h
theorem Res.has_mono {α : Type} {r : Res α} {P P' : α → Prop} {E E' : Exn → Prop} (h : r.has P E) (p : ∀ a, P a → P' a) (q : ∀ e, E e → E' e) : r.has P' E' := by
  cases r with
  | ok a => exact p a h
  | ex e => exact q e h
  | no => exact h

abbrev Lab := List Nat
abbrev Own := Addr → Option Lab
abbrev Rho := List (Option D)

/-! ### a value stands for a tree, in the base B (what is never changed) -/
mutual
inductive Rp (K : PySem.W.Frag) (B : Hp) : V → D → Prop
  | non : Rp K B .non .non
  | bl (b : Bool) : Rp K B (.bl b) (.bl b)
  | int (i : Int) : Rp K B (.int i) (.int i)
  | str (x : Str) : Rp K B (.str x) (.str x)
  | ty (n : String) : Rp K B (.ty n) (.ty n)
  | lst {a : Addr} {xs : List V} {ds : List D} : B a = some (.lst xs) → RpA K B xs ds → Rp K B (.ref a) (.lst ds)
  | scr {a : Addr} {xs : List V} {ds : List D} : SqL K B a xs → RpA K B xs ds → Rp K B (.ref a) (.scr ds)
  | tup {a : Addr} {xs : List V} {ds : List D} : SqT K B a xs → RpA K B xs ds → Rp K B (.ref a) (.tup ds)
  | dct {a : Addr} {kvs : List (Key × V)} {ds : List (D × D)} : B a = some (.dK kvs) → RpP K B kvs ds → Rp K B (.ref a) (.dct ds)
  /-- any reference, nothing known -/
  | exc (a : Addr) (fs : List (Str × D)) : Rp K B (.ref a) (.exc fs)
inductive RpA (K : PySem.W.Frag) (B : Hp) : List V → List D → Prop
  | nil : RpA K B [] []
  | cons {v : V} {vs : List V} {d : D} {ds : List D} : Rp K B v d → RpA K B vs ds → RpA K B (v :: vs) (d :: ds)
inductive RpP (K : PySem.W.Frag) (B : Hp) : List (Key × V) → List (D × D) → Prop
  | nil : RpP K B [] []
  | consI {n : Int} {v : V} {d : D} {kvs : List (Key × V)} {ds : List (D × D)} : Rp K B v d → RpP K B kvs ds → RpP K B ((Sum.inl n, v) :: kvs) ((.int n, d) :: ds)
  | consS {x : Str} {v : V} {d : D} {kvs : List (Key × V)} {ds : List (D × D)} : Rp K B v d → RpP K B kvs ds → RpP K B ((Sum.inr x, v) :: kvs) ((.str x, d) :: ds)
end
abbrev Ext (B B' : Hp) : Prop := Same B B'
section
variable {K : PySem.W.Frag} {B B' : Hp}
theorem Ext.seqT {a : Addr} {xs : List V} (e : Ext B B') (h : SqT K B a xs) : SqT K B' a xs := by
  rcases h with (h | ⟨o, h⟩) | h
  · exact .inl (.inl (e _ _ h))
  · exact .inl (.inr ⟨o, e _ _ h⟩)
  · exact .inr h
mutual
theorem Rp.mono (e : Ext B B') : ∀ {v : V} {d : D}, Rp K B v d → Rp K B' v d
  | _, _, .non => .non
  | _, _, .bl b => .bl b
  | _, _, .int i => .int i
  | _, _, .str x => .str x
  | _, _, .ty n => .ty n
  | _, _, .lst h r => .lst (e _ _ h) (RpA.mono e r)
  | _, _, .scr h r => .scr (Same.seq e h) (RpA.mono e r)
  | _, _, .tup h r => .tup (Ext.seqT e h) (RpA.mono e r)
  | _, _, .dct h r => .dct (e _ _ h) (RpP.mono e r)
  | _, _, .exc a fs => .exc a fs
theorem RpA.mono (e : Ext B B') : ∀ {vs : List V} {ds : List D}, RpA K B vs ds → RpA K B' vs ds
  | _, _, .nil => .nil
  | _, _, .cons h r => .cons (Rp.mono e h) (RpA.mono e r)
theorem RpP.mono (e : Ext B B') : ∀ {vs : List (Key × V)} {ds : List (D × D)}, RpP K B vs ds → RpP K B' vs ds
  | _, _, .nil => .nil
  | _, _, .consI h r => .consI (Rp.mono e h) (RpP.mono e r)
  | _, _, .consS h r => .consS (Rp.mono e h) (RpP.mono e r)
end
theorem RpA.len : ∀ {vs : List V} {ds : List D}, RpA K B vs ds → vs.length = ds.length
  | _, _, .nil => rfl
  | _, _, .cons _ r => congrArg (· + 1) (RpA.len r)
theorem RpA.app : ∀ {vs ws : List V} {ds es : List D}, RpA K B vs ds → RpA K B ws es → RpA K B (vs ++ ws) (ds ++ es)
  | _, _, _, _, .nil, s => s
  | _, _, _, _, .cons h r, s => .cons h (RpA.app r s)
theorem RpA.get : ∀ {vs : List V} {ds : List D} {i : Nat} {d : D}, RpA K B vs ds → ds[i]? = some d → ∃ v, vs[i]? = some v ∧ Rp K B v d
  | _, _, _, _, .nil, e => by simp at e
  | _, _, 0, _, .cons h _, e => by simp at e; subst e; exact ⟨_, rfl, h⟩
  | _, _, i + 1, _, .cons _ r, e => by
    obtain ⟨v, h1, h2⟩ := RpA.get (i := i) r (by simpa using e)
    exact ⟨v, by simpa using h1, h2⟩
theorem RpA.get' : ∀ {vs : List V} {ds : List D} {i : Nat} {v : V}, RpA K B vs ds → vs[i]? = some v → ∃ d, ds[i]? = some d ∧ Rp K B v d
  | _, _, _, _, .nil, e => by simp at e
  | _, _, 0, _, .cons h _, e => by simp at e; subst e; exact ⟨_, rfl, h⟩
  | _, _, i + 1, _, .cons _ r, e => by
    obtain ⟨v, h1, h2⟩ := RpA.get' (i := i) r (by simpa using e)
    exact ⟨v, by simpa using h1, h2⟩
theorem RpA.of_get : ∀ {vs : List V} {ds : List D}, vs.length = ds.length → (∀ (i : Nat) (v : V) (d : D), vs[i]? = some v → ds[i]? = some d → Rp K B v d) → RpA K B vs ds
  | [], [], _, _ => .nil
  | [], _ :: _, h, _ => by simp at h
  | _ :: _, [], h, _ => by simp at h
  | v :: vs, d :: ds, h, g => .cons (g 0 v d rfl rfl) (RpA.of_get (by simpa using h) fun i v d h1 h2 => g (i + 1) v d (by simpa using h1) (by simpa using h2))
theorem RpA.take : ∀ {vs : List V} {ds : List D} (n : Nat), RpA K B vs ds → RpA K B (vs.take n) (ds.take n)
  | _, _, 0, _ => by simp; exact .nil
  | _, _, _ + 1, .nil => .nil
  | _, _, n + 1, .cons h r => by simpa using .cons h (RpA.take n r)
theorem RpA.drop : ∀ {vs : List V} {ds : List D} (n : Nat), RpA K B vs ds → RpA K B (vs.drop n) (ds.drop n)
  | _, _, 0, r => by simpa using r
  | _, _, _ + 1, .nil => .nil
  | _, _, n + 1, .cons _ r => by simpa using RpA.drop n r
theorem RpA.set : ∀ {vs : List V} {ds : List D} (i : Nat) {v : V} {d : D}, RpA K B vs ds → Rp K B v d → RpA K B (vs.set i v) (ds.set i d)
  | _, _, _, _, _, .nil, _ => .nil
  | _, _, 0, _, _, .cons _ r, h => .cons h r
  | _, _, i + 1, _, _, .cons h0 r, h => .cons h0 (RpA.set i r h)
theorem RpA.rev {vs : List V} {ds : List D} (r : RpA K B vs ds) : RpA K B vs.reverse ds.reverse := by
  have hl := r.len
  refine RpA.of_get (by simpa using hl) fun i v d h1 h2 => ?_
  have li : i < vs.reverse.length := (List.getElem?_eq_some_iff.mp h1).1
  have li' : i < vs.length := by simpa using li
  rw [List.getElem?_reverse li'] at h1
  rw [List.getElem?_reverse (by omega)] at h2
  obtain ⟨d', e1, e2⟩ := RpA.get' r h1
  rw [hl, h2] at e1
  cases e1
  exact e2
theorem RpA.repl {v : V} {d : D} (h : Rp K B v d) : ∀ n : Nat, RpA K B (List.replicate n v) (List.replicate n d)
  | 0 => .nil
  | n + 1 => .cons h (RpA.repl h n)
end

/-! ### the ground: what is owned (own), what others own (F), the base -/
structure Ground (F : Hp) (own : Own) (B H : Hp) : Prop where
  base : ∀ a o, B a = some o → H a = some o ∧ own a = none
  frame : ∀ a o, F a = some o → H a = some o ∧ own a = none ∧ B a = none
  live : ∀ a, own a ≠ none → H a ≠ none
/-- a step: what is owned stays, what others own stays, the base grows -/
structure Step (own : Own) (F B H B' H' : Hp) : Prop where
  ext : Ext B B'
  base : ∀ a o, B' a = some o → H' a = some o
  ownd : ∀ a, own a ≠ none → H' a = H a ∧ B' a = none
  frame : ∀ a o, F a = some o → H' a = some o ∧ B' a = none
section
variable {F B H B' H' B2 H2 : Hp} {own : Own}
theorem Ground.bnone (g : Ground F own B H) {a : Addr} (h : own a ≠ none) : B a = none := by
  cases e : B a with
  | none => rfl
  | some o => exact absurd (g.base a o e).2 h
theorem Step.refl (g : Ground F own B H) : Step own F B H B H :=
  ⟨Same.refl B, fun a o e => (g.base a o e).1, fun a h => ⟨rfl, g.bnone h⟩, fun a o e => ⟨(g.frame a o e).1, (g.frame a o e).2.2⟩⟩
theorem Step.trans (s : Step own F B H B' H') (t : Step own F B' H' B2 H2) : Step own F B H B2 H2 :=
  ⟨s.ext.trans t.ext, t.base, fun a h => ⟨(t.ownd a h).1.trans (s.ownd a h).1, (t.ownd a h).2⟩, t.frame⟩
theorem Ground.step (g : Ground F own B H) (s : Step own F B H B' H') : Ground F own B' H' where
  base := fun a o e => ⟨s.base a o e, by
    cases h : own a with
    | none => rfl
    | some l =>
      have := (s.ownd a (by rw [h]; exact fun z => nomatch z)).2
      rw [this] at e; cases e⟩
  frame := fun a o e => ⟨(s.frame a o e).1, (g.frame a o e).2.1, (s.frame a o e).2⟩
  live := fun a h => by rw [(s.ownd a h).1]; exact g.live a h
/-- a new thing, laid into the base -/
theorem Step.new (g : Ground F own B H) {p : Addr} (o : HO) (h : H p = none) : Step own F B H (upd B p o) (upd H p o) where
  ext := fun a u e => by
    have ne : a ≠ p := fun z => by
      subst z
      rw [(g.base a u e).1] at h
      cases h
    rw [upd_ne ne]
    exact e
  base := fun a u e => by
    by_cases ha : a = p
    · subst ha
      rw [upd_same] at e ⊢
      exact e
    · rw [upd_ne ha] at e ⊢
      exact (g.base a u e).1
  ownd := fun a ho => by
    have ne : a ≠ p := fun z => g.live a ho (z ▸ h)
    rw [upd_ne ne, upd_ne ne]
    exact ⟨rfl, g.bnone ho⟩
  frame := fun a u e => by
    have ne : a ≠ p := fun z => by
      subst z
      rw [(g.frame a u e).1] at h
      cases h
    rw [upd_ne ne, upd_ne ne]
    exact ⟨(g.frame a u e).1, (g.frame a u e).2.2⟩
/-- a new thing that nobody knows yet -/
theorem Step.garbage (g : Ground F own B H) {p : Addr} (o : HO) (h : H p = none) : Step own F B H B (upd H p o) where
  ext := Same.refl B
  base := fun a u e => by
    have ne : a ≠ p := fun z => by
      subst z
      rw [(g.base a u e).1] at h
      cases h
    rw [upd_ne ne]
    exact (g.base a u e).1
  ownd := fun a ho => by
    have ne : a ≠ p := fun z => g.live a ho (z ▸ h)
    rw [upd_ne ne]
    exact ⟨rfl, g.bnone ho⟩
  frame := fun a u e => by
    have ne : a ≠ p := fun z => by
      subst z
      rw [(g.frame a u e).1] at h
      cases h
    rw [upd_ne ne]
    exact ⟨(g.frame a u e).1, (g.frame a u e).2.2⟩
theorem Ground.bfresh (g : Ground F own B H) {p : Addr} (h : H p = none) : B p = none := by
  cases e : B p with
  | none => rfl
  | some o =>
    rw [(g.base p o e).1] at h
    cases h
theorem Ground.ffresh (g : Ground F own B H) {p : Addr} (h : H p = none) : F p = none := by
  cases e : F p with
  | none => rfl
  | some o =>
    rw [(g.frame p o e).1] at h
    cases h
theorem Ground.ofresh (g : Ground F own B H) {p : Addr} (h : H p = none) : own p = none := by
  cases e : own p with
  | none => rfl
  | some o => exact absurd h (g.live p (by rw [e]; exact fun z => nomatch z))
end

/-! ### modes -/
inductive Mode where
  | fz | own (m : Mode) | raw (a : Addr) (d : Option Addr)
  deriving DecidableEq
/-- the fields of an exception, its dict at d -/
def ExcFs (K : PySem.W.Frag) (B : Hp) (dx : Option Addr) (fs : List (Str × D)) : Prop :=
  (fs = [] ∧ dx = none) ∨ ∃ (d : Addr) (vs : List (Str × V)), fs ≠ [] ∧ dx = some d ∧ B d = some (.xd vs) ∧ vs.map (·.1) = fs.map (·.1) ∧ RpA K B (vs.map (·.2)) (fs.map (·.2))
theorem ExcFs.mono {K : PySem.W.Frag} {B B' : Hp} {dx : Option Addr} {fs : List (Str × D)} (e : Ext B B') (h : ExcFs K B dx fs) : ExcFs K B' dx fs := by
  rcases h with h | ⟨d, vs, h0, h1, h2, h3, h4⟩
  · exact .inl h
  · exact .inr ⟨d, vs, h0, h1, e _ _ h2, h3, h4.mono e⟩
def VRep (K : PySem.W.Frag) (B H : Hp) (own : Own) : Mode → Lab → V → D → Prop
  | .fz, _, v, d => Rp K B v d
  | .raw a dx, _, v, d => v = .ref a ∧ ∃ fs, d = .exc fs ∧ ExcFs K B dx fs
  | .own m, lab, v, d => ∃ (l : Addr) (vs : List V) (ds : List D), v = .ref l ∧ d = .lst ds ∧ own l = some lab ∧ H l = some (.lst vs) ∧ vs.length = ds.length ∧
      ∀ (k : Nat) (v' : V) (d' : D), vs[k]? = some v' → ds[k]? = some d' → VRep K B H own m (lab ++ [k]) v' d'
theorem VRep.step {K : PySem.W.Frag} {F B H B' H' : Hp} {own : Own} (s : Step own F B H B' H') : ∀ {m : Mode} {lab : Lab} {v : V} {d : D}, VRep K B H own m lab v d → VRep K B' H' own m lab v d
  | .fz, _, _, _, h => Rp.mono s.ext h
  | .raw a dx, _, _, _, ⟨h1, fs, h2, h3⟩ => ⟨h1, fs, h2, h3.mono s.ext⟩
  | .own m, lab, _, _, ⟨l, vs, ds, hv, hd, ho, hl, hn, h⟩ =>
    ⟨l, vs, ds, hv, hd, ho, by rw [(s.ownd l (by rw [ho]; exact fun z => nomatch z)).1]; exact hl, hn, fun k v' d' h1 h2 => VRep.step s (h k v' d' h1 h2)⟩

/-- the slots: ρ the trees by slot, Γ the modes; slot i owns under the label i + 1 -/
structure Good (K : PySem.W.Frag) (F : Hp) (G : List Mode) (ρ : Rho) (own : Own) (B : Hp) (σ : L2.St) (H : Hp) : Prop where
  gr : Ground F own B H
  len : σ.length = ρ.length
  slots : ∀ (i : Nat) (d : D), ρ[i]? = some (some d) → ∃ v, σ[i]? = some (some v) ∧ VRep K B H own (G.getD i .fz) [i + 1] v d
section
variable {K : PySem.W.Frag} {F B H B' H' : Hp} {own : Own} {G : List Mode} {ρ : Rho} {σ : L2.St}
theorem Good.step (g : Good K F G ρ own B σ H) (s : Step own F B H B' H') : Good K F G ρ own B' σ H' :=
  ⟨g.gr.step s, g.len, fun i d e => let ⟨v, h1, h2⟩ := g.slots i d e; ⟨v, h1, VRep.step s h2⟩⟩
end

/-! ### an exception that stands for Exn -/
structure ExR (K : PySem.W.Frag) (mg : Str → Option Value) (B H : Hp) (e : Exn) (c : Value) (dx : Option Addr) : Prop where
  cls : mg e.cls = some c
  fs : ExcFs K B dx e.fs

/-! ### expressions: to a frozen value -/
/-- what is wished of an exception, at the slots σ -/
def WOk (K : PySem.W.Frag) (mg : Str → Option Value) (W : WX) (own : Own) (F B H : Hp) (σ : L2.St) (e : Exn) : Prop :=
  ∀ (c : Value) (dx : Option Addr) (B' H' : Hp), Step own F B H B' H' → ExR K mg B' H' e c dx → W c dx σ H'
def Ev (X : Cx) (W : WX) (G : List Mode) (t : TE) (g : Rho → Res D) : Prop :=
  ∀ (F : Hp) (ρ : Rho) (own : Own) (B : Hp) (σ : L2.St) (H : Hp) (Q : VK), Good X.K F G ρ own B σ H →
    (g ρ).has (fun d => ∀ (v : V) (B' H' : Hp), Step own F B H B' H' → Rp X.K B' v d → Q v H') (WOk X.K X.mg W own F B H σ) → t σ H Q
/-- to a new list that nobody else knows -/
def EvN (X : Cx) (W : WX) (G : List Mode) (t : TE) (g : Rho → Res (List D)) : Prop :=
  ∀ (F : Hp) (ρ : Rho) (own : Own) (B : Hp) (σ : L2.St) (H : Hp) (Q : VK), Good X.K F G ρ own B σ H →
    (g ρ).has (fun ds => ∀ (p : Addr) (vs : List V) (B' H' : Hp), Step own F B H B' H' → B' p = none → F p = none → own p = none → H' p = some (.lst vs) → RpA X.K B' vs ds → Q (.ref p) H') (WOk X.K X.mg W own F B H σ) → t σ H Q
def EvT (X : Cx) (W : WX) (G : List Mode) (t : TT) (g : Rho → Res Bool) : Prop :=
  ∀ (F : Hp) (ρ : Rho) (own : Own) (B : Hp) (σ : L2.St) (H : Hp) (Q : Bool → Hp → Prop), Good X.K F G ρ own B σ H →
    (g ρ).has (fun b => ∀ (B' H' : Hp), Step own F B H B' H' → Q b H') (WOk X.K X.mg W own F B H σ) → t σ H Q
def EvA (X : Cx) (W : WX) (G : List Mode) (t : TA) (g : Rho → Res (List D)) : Prop :=
  ∀ (F : Hp) (ρ : Rho) (own : Own) (B : Hp) (σ : L2.St) (H : Hp) (Q : List V → Hp → Prop), Good X.K F G ρ own B σ H →
    (g ρ).has (fun ds => ∀ (vs : List V) (B' H' : Hp), Step own F B H B' H' → RpA X.K B' vs ds → Q vs H') (WOk X.K X.mg W own F B H σ) → t σ H Q
theorem WOk.step {K : PySem.W.Frag} {mg : Str → Option Value} {W : WX} {own : Own} {F B H B' H' : Hp} {σ : L2.St} {e : Exn} (w : WOk K mg W own F B H σ e) (s : Step own F B H B' H') : WOk K mg W own F B' H' σ e :=
  fun c dx B2 H2 t x => w c dx B2 H2 (s.trans t) x

/-- the frozen list of a new one -/
theorem frz_new {own : Own} {F B H B' H' : Hp} {p : Addr} {o : HO} (s : Step own F B H B' H') (hb : B' p = none) (hf : F p = none) (ho : own p = none) (hp : H' p = some o) : Step own F B H (upd B' p o) H' where
  ext := fun a u e => by
    have e' := s.ext a u e
    have ne : a ≠ p := fun z => by
      subst z
      rw [hb] at e'
      cases e'
    rw [upd_ne ne]
    exact e'
  base := fun a u e => by
    by_cases ha : a = p
    · subst ha
      rw [upd_same] at e
      cases e
      exact hp
    · rw [upd_ne ha] at e
      exact s.base a u e
  ownd := fun a h => by
    have ne : a ≠ p := fun z => h (z ▸ ho)
    rw [upd_ne ne]
    exact s.ownd a h
  frame := fun a u e => by
    have ne : a ≠ p := fun z => by
      subst z
      rw [hf] at e
      cases e
    rw [upd_ne ne]
    exact s.frame a u e
theorem ext_upd {B : Hp} {p : Addr} {o : HO} (h : B p = none) : Ext B (upd B p o) := fun a u e => by
  have ne : a ≠ p := fun z => by
    subst z
    rw [h] at e
    cases e
  rw [upd_ne ne]
  exact e
def lstD (g : Rho → Res (List D)) : Rho → Res D := fun ρ => (g ρ).bind fun ds => .ok (.lst ds)
theorem EvN.ev {X : Cx} {W : WX} {G : List Mode} {t : TE} {g : Rho → Res (List D)} (h : EvN X W G t g) : Ev X W G t (lstD g) := fun F ρ own B σ H Q gd q => by
  refine h F ρ own B σ H Q gd (Res.has_mono (Res.has_bind q) (fun ds q p vs B' H' s hb hf ho hp r => ?_) fun _ x => x)
  exact q (.ref p) (upd B' p (.lst vs)) H' (frz_new s hb hf ho hp) (.lst upd_same (r.mono (ext_upd hb)))

/-! ### borrowed: frozen, or an owned list of frozen things -/
def Sn (K : PySem.W.Frag) (own : Own) (B H : Hp) (v : V) (d : D) : Prop :=
  Rp K B v d ∨ ∃ (l : Addr) (vs : List V) (ds : List D), v = .ref l ∧ d = .lst ds ∧ own l ≠ none ∧ H l = some (.lst vs) ∧ RpA K B vs ds
theorem Sn.step {K : PySem.W.Frag} {own : Own} {F B H B' H' : Hp} {v : V} {d : D} (h : Sn K own B H v d) (s : Step own F B H B' H') : Sn K own B' H' v d := by
  rcases h with h | ⟨l, vs, ds, e1, e2, h1, h2, h3⟩
  · exact .inl (h.mono s.ext)
  · exact .inr ⟨l, vs, ds, e1, e2, h1, (s.ownd l h1).1.trans h2, h3.mono s.ext⟩
inductive SnA (K : PySem.W.Frag) (own : Own) (B H : Hp) : List V → List D → Prop
  | nil : SnA K own B H [] []
  | cons {v : V} {vs : List V} {d : D} {ds : List D} : Sn K own B H v d → SnA K own B H vs ds → SnA K own B H (v :: vs) (d :: ds)
theorem SnA.step {K : PySem.W.Frag} {own : Own} {F B H B' H' : Hp} (s : Step own F B H B' H') : ∀ {vs : List V} {ds : List D}, SnA K own B H vs ds → SnA K own B' H' vs ds
  | _, _, .nil => .nil
  | _, _, .cons h r => .cons (h.step s) (SnA.step s r)
theorem Ground.same {F : Hp} {own : Own} {B H : Hp} (g : Ground F own B H) : Same B H := fun a o e => (g.base a o e).1
/-- to be read in the heap -/
theorem Sn.rd {K : PySem.W.Frag} {F : Hp} {own : Own} {B H : Hp} {v : V} {d : D} (h : Sn K own B H v d) (g : Ground F own B H) : Rp K H v d := by
  rcases h with h | ⟨l, vs, ds, e1, e2, h1, h2, h3⟩
  · exact h.mono g.same
  · subst e1 e2
    exact .lst h2 (h3.mono g.same)
/-- a list's view -/
theorem Sn.lst {K : PySem.W.Frag} {F : Hp} {own : Own} {B H : Hp} {v : V} {ds : List D} (h : Sn K own B H v (.lst ds)) (g : Ground F own B H) : ∃ (l : Addr) (vs : List V), v = .ref l ∧ H l = some (.lst vs) ∧ RpA K B vs ds := by
  rcases h with h | ⟨l, vs, ds, e1, e2, h1, h2, h3⟩
  · cases h with
    | lst h r => exact ⟨_, _, rfl, (g.base _ _ h).1, r⟩
  · cases e2
    exact ⟨l, vs, e1, h2, h3⟩
theorem Sn.frz {K : PySem.W.Frag} {own : Own} {B H : Hp} {v : V} {d : D} (h : Sn K own B H v d) (n : ∀ ds, d ≠ .lst ds) : Rp K B v d := by
  rcases h with h | ⟨l, vs, ds, e1, e2, h1, h2, h3⟩
  · exact h
  · exact absurd e2 (n ds)
def EvB (X : Cx) (W : WX) (G : List Mode) (t : TE) (g : Rho → Res D) : Prop :=
  ∀ (F : Hp) (ρ : Rho) (own : Own) (B : Hp) (σ : L2.St) (H : Hp) (Q : VK), Good X.K F G ρ own B σ H →
    (g ρ).has (fun d => ∀ (v : V) (B' H' : Hp), Step own F B H B' H' → Sn X.K own B' H' v d → Q v H') (WOk X.K X.mg W own F B H σ) → t σ H Q
def EvBA (X : Cx) (W : WX) (G : List Mode) (t : TA) (g : Rho → Res (List D)) : Prop :=
  ∀ (F : Hp) (ρ : Rho) (own : Own) (B : Hp) (σ : L2.St) (H : Hp) (Q : List V → Hp → Prop), Good X.K F G ρ own B σ H →
    (g ρ).has (fun ds => ∀ (vs : List V) (B' H' : Hp), Step own F B H B' H' → SnA X.K own B' H' vs ds → Q vs H') (WOk X.K X.mg W own F B H σ) → t σ H Q
theorem Ev.b {X : Cx} {W : WX} {G : List Mode} {t : TE} {g : Rho → Res D} (h : Ev X W G t g) : EvB X W G t g := fun F ρ own B σ H Q gd q =>
  h F ρ own B σ H Q gd (Res.has_mono q (fun d q v B' H' s r => q v B' H' s (.inl r)) fun _ x => x)

/-! ### judgements -/
def EJ (X : Cx) (W : WX) (G : List Mode) (e : Expr) (g : Rho → Res D) : Prop := ∃ t, PE X e t ∧ Ev X W G t g
def NJ (X : Cx) (W : WX) (G : List Mode) (e : Expr) (g : Rho → Res (List D)) : Prop := ∃ t, PE X e t ∧ EvN X W G t g
def TJ (X : Cx) (W : WX) (G : List Mode) (e : Expr) (g : Rho → Res Bool) : Prop := ∃ t, PT X e t ∧ EvT X W G t g
def WJ (X : Cx) (W : WX) (G : List Mode) (e : Expr) (g : Rho → Res Bool) : Prop := ∃ t, PW X e t ∧ EvT X W G t g
def BJ (X : Cx) (W : WX) (G : List Mode) (e : Expr) (g : Rho → Res D) : Prop := ∃ t, PE X e t ∧ EvB X W G t g
def BAJ (X : Cx) (W : WX) (G : List Mode) (es : List Expr) (g : Rho → Res (List D)) : Prop := ∃ t, PA X es t ∧ EvBA X W G t g
def AJ (X : Cx) (W : WX) (G : List Mode) (es : List Expr) (g : Rho → Res (List D)) : Prop := ∃ t, PA X es t ∧ EvA X W G t g

section
variable {X : Cx} {W : WX} {G : List Mode} {e a b : Expr} {pos : Pos}
theorem EJ.bj {g : Rho → Res D} (h : EJ X W G e g) : BJ X W G e g := let ⟨t, p, v⟩ := h; ⟨t, p, v.b⟩
theorem NJ.ej {g : Rho → Res (List D)} (h : NJ X W G e g) : EJ X W G e (lstD g) := let ⟨t, p, v⟩ := h; ⟨t, p, v.ev⟩

def getV (i : Nat) : Rho → Res D := fun ρ => match ρ[i]? with
  | some (some d) => .ok d
  | _ => .no
def conD (d : D) : Rho → Res D := fun _ => .ok d
theorem ev_var {i : Nat} (hm : G.getD i .fz = .fz) : Ev X W G (tVar i) (getV i) := fun F ρ own B σ H Q gd q => by
  unfold getV at q
  cases e : ρ[i]? with
  | none =>
    rw [e] at q
    exact q.elim
  | some o =>
    cases o with
    | none =>
      rw [e] at q
      exact q.elim
    | some d =>
      rw [e] at q
      obtain ⟨v, h1, h2⟩ := gd.slots i d e
      rw [hm] at h2
      exact ⟨v, h1, q v B H (.refl gd.gr) h2⟩
theorem ej_var {x : Str} (i : Nat) (h : PE X (.Name x pos) (tVar i)) (hm : G.getD i .fz = .fz := by rfl) : EJ X W G (.Name x pos) (getV i) := ⟨_, h, ev_var hm⟩
theorem ev_c {v : V} {d : D} (h : ∀ K B, Rp K B v d) : Ev X W G (tC v) (conD d) := fun F ρ own B σ H Q gd q => q v B H (.refl gd.gr) (h _ _)
theorem ej_int {i : Int} {j pos} : EJ X W G (.Constant (.int i) j pos) (conD (.int i)) := ⟨_, pe_int, ev_c fun _ _ => .int i⟩
theorem ej_bl {i : Bool} {j pos} : EJ X W G (.Constant (.bool i) j pos) (conD (.bl i)) := ⟨_, pe_bl, ev_c fun _ _ => .bl i⟩
theorem ej_non {j pos} : EJ X W G (.Constant .none j pos) (conD .non) := ⟨_, pe_non, ev_c fun _ _ => .non⟩
theorem ej_str {x : Str} {j pos} : EJ X W G (.Constant (.str x) j pos) (conD (.str x)) := ⟨_, pe_str, ev_c fun _ _ => .str x⟩


/-- an owned list of frozen things, borrowed -/
theorem ev_varB {i : Nat} (hm : G.getD i .fz = .own .fz) : EvB X W G (tVar i) (getV i) := fun F ρ own B σ H Q gd q => by
  unfold getV at q
  cases e : ρ[i]? with
  | none =>
    rw [e] at q
    exact q.elim
  | some o =>
    cases o with
    | none =>
      rw [e] at q
      exact q.elim
    | some d =>
      rw [e] at q
      obtain ⟨v, h1, h2⟩ := gd.slots i d e
      rw [hm] at h2
      obtain ⟨l, vs, ds, e1, e2, h3, h4, hn, h5⟩ := h2
      exact ⟨v, h1, q v B H (.refl gd.gr) (.inr ⟨l, vs, ds, e1, e2, by rw [h3]; exact (fun z => nomatch z), h4, RpA.of_get hn h5⟩)⟩
theorem bj_var {x : Str} (i : Nat) (h : PE X (.Name x pos) (tVar i)) (hm : G.getD i .fz = .own .fz := by rfl) : BJ X W G (.Name x pos) (getV i) := ⟨_, h, ev_varB hm⟩

/-! ### two-place operations -/
def OpD (X : Cx) (r : R2) (f : D → D → Res D) : Prop :=
  ∀ (F : Hp) (own : Own) (B H : Hp) (x y : V) (dx dy : D) (Q : VK), Ground F own B H → Sn X.K own B H x dx → Sn X.K own B H y dy →
    (f dx dy).has (fun d => ∀ (v : V) (B' H' : Hp), Step own F B H B' H' → Rp X.K B' v d → Q v H') (fun _ => False) → r x y H Q
def OpN (X : Cx) (r : R2) (f : D → D → Res (List D)) : Prop :=
  ∀ (F : Hp) (own : Own) (B H : Hp) (x y : V) (dx dy : D) (Q : VK), Ground F own B H → Sn X.K own B H x dx → Sn X.K own B H y dy →
    (f dx dy).has (fun ds => ∀ (p : Addr) (vs : List V) (B' H' : Hp), Step own F B H B' H' → B' p = none → F p = none → own p = none → H' p = some (.lst vs) → RpA X.K B' vs ds → Q (.ref p) H') (fun _ => False) → r x y H Q
def bin {α : Type} (f : D → D → Res α) (a b : Rho → Res D) : Rho → Res α := fun ρ => (a ρ).bind fun x => (b ρ).bind fun y => f x y
/-- what holds of every result -/
theorem Res.has_calm {α : Type} {r : Res α} {P P' : α → Prop} {E E' : Exn → Prop} (n : ∀ e, r ≠ .ex e) (h : r.has P E) (p : ∀ a, P a → P' a) : r.has P' E' := by
  cases r with
  | ok a => exact p a h
  | ex e => exact absurd rfl (n e)
  | no => exact h
/-- an operation raises nothing -/
def Calm {α : Type} (f : D → D → Res α) : Prop := ∀ x y e, f x y ≠ .ex e
theorem ev_op {r : R2} {f : D → D → Res D} {ta tb : TE} {ga gb : Rho → Res D} (ho : OpD X r f) (hf : Calm f) (ha : EvB X W G ta ga) (hb : EvB X W G tb gb) : Ev X W G (tOp r ta tb) (bin f ga gb) := fun F ρ own B σ H Q gd q => by
  refine ha F ρ own B σ H _ gd (Res.has_mono (Res.has_bind q) (fun dx q v B1 H1 s1 r1 => ?_) fun _ x => x)
  refine hb F ρ own B1 σ H1 _ (gd.step s1) (Res.has_mono (Res.has_bind q) (fun dy q w B2 H2 s2 r2 => ?_) fun _ x => x.step s1)
  exact ho F own B2 H2 v w dx dy Q ((gd.gr.step s1).step s2) (r1.step s2) r2 (Res.has_calm (hf dx dy) q fun d q v' B' H' s3 r3 => q v' B' H' ((s1.trans s2).trans s3) r3)
theorem ev_opN {r : R2} {f : D → D → Res (List D)} {ta tb : TE} {ga gb : Rho → Res D} (ho : OpN X r f) (hf : Calm f) (ha : EvB X W G ta ga) (hb : EvB X W G tb gb) : EvN X W G (tOp r ta tb) (bin f ga gb) := fun F ρ own B σ H Q gd q => by
  refine ha F ρ own B σ H _ gd (Res.has_mono (Res.has_bind q) (fun dx q v B1 H1 s1 r1 => ?_) fun _ x => x)
  refine hb F ρ own B1 σ H1 _ (gd.step s1) (Res.has_mono (Res.has_bind q) (fun dy q w B2 H2 s2 r2 => ?_) fun _ x => x.step s1)
  exact ho F own B2 H2 v w dx dy Q ((gd.gr.step s1).step s2) (r1.step s2) r2 (Res.has_calm (hf dx dy) q fun d q p vs B' H' s3 h1 h2 h3 h4 r3 => q p vs B' H' ((s1.trans s2).trans s3) h1 h2 h3 h4 r3)
theorem ej_bin {op : Operator} {f : D → D → Res D} {ga gb : Rho → Res D} (ho : ∃ r, OpR X (binaryOp op) r ∧ OpD X r f) (hf : Calm f) (ha : BJ X W G a ga) (hb : BJ X W G b gb) : EJ X W G (.BinOp a op b pos) (bin f ga gb) := by
  obtain ⟨r, h1, h2⟩ := ho
  obtain ⟨ta, pa, va⟩ := ha
  obtain ⟨tb, pb, vb⟩ := hb
  exact ⟨_, pe_op h1 pa pb, ev_op h2 hf va vb⟩
theorem nj_bin {op : Operator} {f : D → D → Res (List D)} {ga gb : Rho → Res D} (ho : ∃ r, OpR X (binaryOp op) r ∧ OpN X r f) (hf : Calm f) (ha : BJ X W G a ga) (hb : BJ X W G b gb) : NJ X W G (.BinOp a op b pos) (bin f ga gb) := by
  obtain ⟨r, h1, h2⟩ := ho
  obtain ⟨ta, pa, va⟩ := ha
  obtain ⟨tb, pb, vb⟩ := hb
  exact ⟨_, pe_op h1 pa pb, ev_opN h2 hf va vb⟩
theorem ej_cmp {op : CmpOp} {f : D → D → Res D} {ga gb : Rho → Res D} (ho : ∃ r, OpR X (compareOp op) r ∧ OpD X r f) (hf : Calm f) (hm : behindInMarks op b = false) (ha : BJ X W G a ga) (hb : BJ X W G b gb) : EJ X W G (.Compare a [op] [b] pos) (bin f ga gb) := by
  obtain ⟨r, h1, h2⟩ := ho
  obtain ⟨ta, pa, va⟩ := ha
  obtain ⟨tb, pb, vb⟩ := hb
  exact ⟨_, pe_cmpR h1 pa pb hm, ev_op h2 hf va vb⟩
/-- either of two rules -/
theorem pe_or2 {e : Expr} {t t' : TE} (h : PE X e t) (h' : PE X e t') : PE X e (fun σ H Q => t σ H Q ∨ t' σ H Q) := ⟨fun pins s σ H Q I q => by
  rcases q with q | q
  · exact h.run pins s σ H Q I q
  · exact h'.run pins s σ H Q I q⟩
end
end T

set_option Elab.async false
set_option linter.all false
set_option maxRecDepth 100000
set_option maxHeartbeats 4000000
/-! T-layer, part B: operators, comparisons, subscripts. -/
namespace T
open PySem PySem.Spec PyProof.Rows L2
section
variable {K : PySem.W.Frag} {F B H B' H' : Hp} {own : Own} {x y v : V}
theorem Sn.int {i : Int} (h : Sn K own B H x (.int i)) : x = .int i := by
  cases h.frz (fun _ z => nomatch z)
  rfl
theorem Sn.str {i : Str} (h : Sn K own B H x (.str i)) : x = .str i := by
  cases h.frz (fun _ z => nomatch z)
  rfl
theorem Sn.bl {i : Bool} (h : Sn K own B H x (.bl i)) : x = .bl i := by
  cases h.frz (fun _ z => nomatch z)
  rfl
theorem Sn.non (h : Sn K own B H x .non) : x = .non := by
  cases h.frz (fun _ z => nomatch z)
  rfl
theorem Sn.ty {n : String} (h : Sn K own B H x (.ty n)) : x = .ty n := by
  cases h.frz (fun _ z => nomatch z)
  rfl
theorem Rp.tupI {ds : List D} (h : Rp K B x (.tup ds)) : ∃ a vs, x = .ref a ∧ SqT K B a vs ∧ RpA K B vs ds := by
  cases h with
  | tup h r => exact ⟨_, _, rfl, h, r⟩
theorem Sn.tup {ds : List D} (h : Sn K own B H x (.tup ds)) : ∃ a vs, x = .ref a ∧ SqT K B a vs ∧ RpA K B vs ds := (h.frz (fun _ z => nomatch z)).tupI
theorem Rp.scrI {ds : List D} (h : Rp K B x (.scr ds)) : ∃ a vs, x = .ref a ∧ SqL K B a vs ∧ RpA K B vs ds := by
  cases h with
  | scr h r => exact ⟨_, _, rfl, h, r⟩
theorem Sn.scr {ds : List D} (h : Sn K own B H x (.scr ds)) : ∃ a vs, x = .ref a ∧ SqL K B a vs ∧ RpA K B vs ds := (h.frz (fun _ z => nomatch z)).scrI
/-- a new tuple, a new list -/
theorem new_tup {Q : VK} {vs : List V} {ds : List D} (g : Ground F own B H) (r : RpA K B vs ds) (q : ∀ (v : V) (B' H' : Hp), Step own F B H B' H' → Rp K B' v (.tup ds) → Q v H') (p : Addr) (hp : H p = none) : Q (.ref p) (upd H p (.tup vs)) :=
  q (.ref p) (upd B p (.tup vs)) (upd H p (.tup vs)) (.new g _ hp) (.tup (.inl (.inl upd_same)) (r.mono (ext_upd (g.bfresh hp))))
theorem new_lst {Q : VK} {vs : List V} {ds : List D} (g : Ground F own B H) (r : RpA K B vs ds) (q : ∀ (v : V) (B' H' : Hp), Step own F B H B' H' → Rp K B' v (.lst ds) → Q v H') (p : Addr) (hp : H p = none) : Q (.ref p) (upd H p (.lst vs)) :=
  q (.ref p) (upd B p (.lst vs)) (upd H p (.lst vs)) (.new g _ hp) (.lst upd_same (r.mono (ext_upd (g.bfresh hp))))
theorem new_lstN {Q : VK} {vs : List V} {ds : List D} (g : Ground F own B H) (r : RpA K B vs ds)
    (q : ∀ (p : Addr) (vs : List V) (B' H' : Hp), Step own F B H B' H' → B' p = none → F p = none → own p = none → H' p = some (.lst vs) → RpA K B' vs ds → Q (.ref p) H') (p : Addr) (hp : H p = none) : Q (.ref p) (upd H p (.lst vs)) :=
  q p vs B (upd H p (.lst vs)) (.garbage g _ hp) (g.bfresh hp) (g.ffresh hp) (g.ofresh hp) upd_same r
end

/-! ### arithmetic -/
def dAdd : D → D → Res D
  | .int i, .int j => .ok (.int (i + j))
  | .str i, .str j => if i.length + j.length ≤ sizeLine then .ok (.str (i ++ j)) else .no
  | .tup xs, .tup ys => if xs.length + ys.length ≤ sizeLine then .ok (.tup (xs ++ ys)) else .no
  | .lst xs, .lst ys => if xs.length + ys.length ≤ sizeLine then .ok (.lst (xs ++ ys)) else .no
  | _, _ => .no
/-- list + list, as a new list -/
def dCat : D → D → Res (List D)
  | .lst xs, .lst ys => if xs.length + ys.length ≤ sizeLine then .ok (xs ++ ys) else .no
  | _, _ => .no
def dSub : D → D → Res D
  | .int i, .int j => .ok (.int (i - j))
  | _, _ => .no
instance {i j : Int} : Decidable (CMulX i j) := inferInstanceAs (Decidable (_ ≤ _))
def dMul : D → D → Res D
  | .int i, .int j => if CMulX i j then .ok (.int (i * j)) else .no
  | _, _ => .no
/-- list * int, a new list -/
def dRep : D → D → Res (List D)
  | .lst xs, .int k => if -(2 ^ 63) ≤ k ∧ k < 2 ^ 63 ∧ xs.length * k.toNat ≤ sizeLine then .ok (List.replicate k.toNat xs).flatten else .no
  | _, _ => .no
def dDiv : D → D → Res D
  | .int i, .int j => if 0 < j ∧ j.natAbs.log2 < 9000 then .ok (.int (i / j)) else .no
  | _, _ => .no
def dMod : D → D → Res D
  | .int i, .int j => if 0 < j then .ok (.int (i % j)) else .no
  | _, _ => .no
def dAnd : D → D → Res D
  | .int i, .int j => .ok (.int (Builtin.bitAnd i j))
  | _, _ => .no

theorem RpA.flatR {K : PySem.W.Frag} {B : Hp} {vs : List V} {ds : List D} (r : RpA K B vs ds) : ∀ n : Nat, RpA K B (List.replicate n vs).flatten (List.replicate n ds).flatten
  | 0 => .nil
  | n + 1 => by
    rw [List.replicate_succ, List.replicate_succ, List.flatten_cons, List.flatten_cons]
    exact r.app (RpA.flatR r n)

section
variable {X : Cx}
theorem calm_add : Calm dAdd := fun x y e h => by
  unfold dAdd at h
  split at h <;> (try split at h) <;> cases h
theorem calm_cat : Calm dCat := fun x y e h => by
  unfold dCat at h
  split at h <;> (try split at h) <;> cases h
theorem calm_sub : Calm dSub := fun x y e h => by
  unfold dSub at h
  split at h <;> (try split at h) <;> cases h
theorem calm_mul : Calm dMul := fun x y e h => by
  unfold dMul at h
  split at h <;> (try split at h) <;> cases h
theorem calm_rep : Calm dRep := fun x y e h => by
  unfold dRep at h
  split at h <;> (try split at h) <;> cases h
theorem calm_div : Calm dDiv := fun x y e h => by
  unfold dDiv at h
  split at h <;> (try split at h) <;> cases h
theorem calm_mod : Calm dMod := fun x y e h => by
  unfold dMod at h
  split at h <;> (try split at h) <;> cases h
theorem calm_and : Calm dAnd := fun x y e h => by
  unfold dAnd at h
  split at h <;> (try split at h) <;> cases h

theorem bin_add : ∃ r, OpR X (binaryOp .Add) r ∧ OpD X r dAdd := by
  refine ⟨_, op_add.or (op_add_str.or (op_catA.or op_cat)), fun F own B H x y dx dy Q g hx hy q => ?_⟩
  unfold dAdd at q
  split at q
  · cases hx.int
    cases hy.int
    exact .inl ⟨_, _, rfl, rfl, q _ _ _ (.refl g) (.int _)⟩
  · cases hx.str
    cases hy.str
    split at q
    · rename_i hz
      exact .inr (.inl ⟨_, _, rfl, rfl, hz, q _ _ _ (.refl g) (.str _)⟩)
    · exact q.elim
  · rename_i xs ys
    obtain ⟨a, vs, rfl, ha, ra⟩ := hx.tup
    obtain ⟨b, ws, rfl, hb, rb⟩ := hy.tup
    split at q
    · rename_i hz
      refine .inr (.inr (.inl ⟨a, b, vs, ws, rfl, rfl, Ext.seqT g.same ha, Ext.seqT g.same hb, by rw [ra.len, rb.len]; exact hz, fun e => ?_, fun _ e => ?_, fun _ _ p hp => new_tup g (ra.app rb) q p hp⟩))
      · subst e
        cases ra
        exact q _ _ _ (.refl g) (.tup hb rb)
      · subst e
        cases rb
        rw [List.append_nil] at q
        exact q _ _ _ (.refl g) (.tup ha ra)
    · exact q.elim
  · rename_i xs ys
    obtain ⟨a, vs, rfl, ha, ra⟩ := hx.lst g
    obtain ⟨b, ws, rfl, hb, rb⟩ := hy.lst g
    split at q
    · rename_i hz
      exact .inr (.inr (.inr ⟨a, b, vs, ws, rfl, rfl, ha, hb, by rw [ra.len, rb.len]; exact hz, fun p hp => new_lst g (ra.app rb) q p hp⟩))
    · exact q.elim
  · exact q.elim
theorem bin_cat : ∃ r, OpR X (binaryOp .Add) r ∧ OpN X r dCat := by
  refine ⟨_, op_cat, fun F own B H x y dx dy Q g hx hy q => ?_⟩
  unfold dCat at q
  split at q
  · obtain ⟨a, vs, rfl, ha, ra⟩ := hx.lst g
    obtain ⟨b, ws, rfl, hb, rb⟩ := hy.lst g
    split at q
    · rename_i hz
      exact ⟨a, b, vs, ws, rfl, rfl, ha, hb, by rw [ra.len, rb.len]; exact hz, fun p hp => new_lstN g (ra.app rb) q p hp⟩
    · exact q.elim
  · exact q.elim
theorem bin_sub : ∃ r, OpR X (binaryOp .Sub) r ∧ OpD X r dSub := by
  refine ⟨_, op_sub, fun F own B H x y dx dy Q g hx hy q => ?_⟩
  unfold dSub at q
  split at q
  · cases hx.int
    cases hy.int
    exact ⟨_, _, rfl, rfl, q _ _ _ (.refl g) (.int _)⟩
  · exact q.elim
theorem bin_mul : ∃ r, OpR X (binaryOp .Mult) r ∧ OpD X r dMul := by
  refine ⟨_, op_mulX, fun F own B H x y dx dy Q g hx hy q => ?_⟩
  unfold dMul at q
  split at q
  · cases hx.int
    cases hy.int
    split at q
    · rename_i hz
      exact ⟨_, _, rfl, rfl, hz, q _ _ _ (.refl g) (.int _)⟩
    · exact q.elim
  · exact q.elim
theorem bin_rep : ∃ r, OpR X (binaryOp .Mult) r ∧ OpN X r dRep := by
  refine ⟨_, op_rep, fun F own B H x y dx dy Q g hx hy q => ?_⟩
  unfold dRep at q
  split at q
  · obtain ⟨a, vs, rfl, ha, ra⟩ := hx.lst g
    cases hy.int
    split at q
    · rename_i hz
      exact ⟨a, _, vs, rfl, rfl, ha, hz.1, hz.2.1, by rw [ra.len]; exact hz.2.2, fun p hp => new_lstN g (ra.flatR _) q p hp⟩
    · exact q.elim
  · exact q.elim
theorem bin_div : ∃ r, OpR X (binaryOp .FloorDiv) r ∧ OpD X r dDiv := by
  refine ⟨_, op_fdivW, fun F own B H x y dx dy Q g hx hy q => ?_⟩
  unfold dDiv at q
  split at q
  · cases hx.int
    cases hy.int
    split at q
    · rename_i hz
      exact ⟨_, _, rfl, rfl, hz, q _ _ _ (.refl g) (.int _)⟩
    · exact q.elim
  · exact q.elim
theorem bin_mod : ∃ r, OpR X (binaryOp .Mod) r ∧ OpD X r dMod := by
  refine ⟨_, op_mod, fun F own B H x y dx dy Q g hx hy q => ?_⟩
  unfold dMod at q
  split at q
  · cases hx.int
    cases hy.int
    split at q
    · rename_i hz
      exact ⟨_, _, rfl, rfl, hz, q _ _ _ (.refl g) (.int _)⟩
    · exact q.elim
  · exact q.elim
theorem bin_and : ∃ r, OpR X (binaryOp .BitAnd) r ∧ OpD X r dAnd := by
  refine ⟨_, op_and, fun F own B H x y dx dy Q g hx hy q => ?_⟩
  unfold dAnd at q
  split at q
  · cases hx.int
    cases hy.int
    exact ⟨_, _, rfl, rfl, q _ _ _ (.refl g) (.int _)⟩
  · exact q.elim
end

/-! ### comparisons -/
mutual
def D.py : D → Option PyData
  | .non => some .none
  | .bl b => some (.bool b)
  | .int i => some (.int i)
  | .str s => some (.str s)
  | .lst xs => (D.pyA xs).map .list
  | .tup xs => (D.pyA xs).map .tuple
  | .scr xs => (D.pyA xs).map .list
  | .dct _ => none
  | .ty _ => none
  | .exc _ => none
def D.pyA : List D → Option (List PyData)
  | [] => some []
  | x :: xs => (D.py x).bind fun d => (D.pyA xs).map fun ds => d :: ds
end
mutual
/-- == of data -/
def D.eqb : D → D → Bool
  | .non, .non => true
  | .bl a, .bl b => a == b
  | .bl a, .int j => (if a then 1 else 0) == j
  | .int i, .bl b => i == (if b then 1 else 0)
  | .int i, .int j => i == j
  | .str x, .str y => x == y
  | .lst xs, .lst ys => D.eqbA xs ys
  | .lst xs, .scr ys => D.eqbA xs ys
  | .scr xs, .lst ys => D.eqbA xs ys
  | .scr xs, .scr ys => D.eqbA xs ys
  | .tup xs, .tup ys => D.eqbA xs ys
  | _, _ => false
def D.eqbA : List D → List D → Bool
  | [], [] => true
  | x :: xs, y :: ys => D.eqb x y && D.eqbA xs ys
  | _, _ => false
end
mutual
/-- data of at most n levels -/
def D.dat : Nat → D → Bool
  | _, .non => true
  | _, .bl _ => true
  | _, .int _ => true
  | _, .str _ => true
  | n + 1, .lst xs => D.datA n xs
  | n + 1, .scr xs => D.datA n xs
  | n + 1, .tup xs => D.datA n xs
  | _, _ => false
def D.datA : Nat → List D → Bool
  | _, [] => true
  | n, x :: xs => D.dat n x && D.datA n xs
end
mutual
theorem D.dat_py : ∀ (d : D) (n : Nat), D.dat n d = true → ∃ p, d.py = some p ∧ p.plain = true ∧ p.depth ≤ n
  | .non, _, _ => ⟨_, rfl, rfl, Nat.zero_le _⟩
  | .bl b, _, _ => ⟨_, rfl, rfl, Nat.zero_le _⟩
  | .int b, _, _ => ⟨_, rfl, rfl, Nat.zero_le _⟩
  | .str b, _, _ => ⟨_, rfl, rfl, Nat.zero_le _⟩
  | .lst xs, n, h => by
    cases n with
    | zero => simp [D.dat] at h
    | succ n =>
      obtain ⟨p, h1, h2, h3⟩ := D.datA_py xs n (by simpa [D.dat] using h)
      exact ⟨.list p, by simp [D.py, h1], by simpa [PyData.plain] using h2, by simpa [PyData.depth] using h3⟩
  | .scr xs, n, h => by
    cases n with
    | zero => simp [D.dat] at h
    | succ n =>
      obtain ⟨p, h1, h2, h3⟩ := D.datA_py xs n (by simpa [D.dat] using h)
      exact ⟨.list p, by simp [D.py, h1], by simpa [PyData.plain] using h2, by simpa [PyData.depth] using h3⟩
  | .tup xs, n, h => by
    cases n with
    | zero => simp [D.dat] at h
    | succ n =>
      obtain ⟨p, h1, h2, h3⟩ := D.datA_py xs n (by simpa [D.dat] using h)
      exact ⟨.tuple p, by simp [D.py, h1], by simpa [PyData.plain] using h2, by simpa [PyData.depth] using h3⟩
  | .dct _, n, h => by
    cases n <;> simp [D.dat] at h
  | .exc _, n, h => by
    cases n <;> simp [D.dat] at h
  | .ty _, n, h => by
    cases n <;> simp [D.dat] at h
theorem D.datA_py : ∀ (ds : List D) (n : Nat), D.datA n ds = true → ∃ ps, D.pyA ds = some ps ∧ PyData.plainAll ps = true ∧ PyData.depthAll ps ≤ n
  | [], _, _ => ⟨[], rfl, rfl, Nat.zero_le _⟩
  | d :: ds, n, h => by
    have h' : D.dat n d = true ∧ D.datA n ds = true := by simpa [D.datA] using h
    obtain ⟨p, h1, h2, h3⟩ := D.dat_py d n h'.1
    obtain ⟨ps, k1, k2, k3⟩ := D.datA_py ds n h'.2
    exact ⟨p :: ps, by simp [D.pyA, h1, k1], by simp [PyData.plainAll, h2, k2], by simp [PyData.depthAll]; omega⟩
end
mutual
theorem D.eqb_py : ∀ (d e : D) (p q : PyData), d.py = some p → e.py = some q → PyData.eqv p q = d.eqb e
  | .non, e, p, q, hp, hq => by
    cases hp
    cases e <;> simp [D.py] at hq <;> (try subst hq) <;> (try (obtain ⟨_, _, rfl⟩ := hq)) <;> rfl
  | .bl b, e, p, q, hp, hq => by
    cases hp
    cases e <;> simp [D.py] at hq <;> (try subst hq) <;> (try (obtain ⟨_, _, rfl⟩ := hq)) <;> rfl
  | .int b, e, p, q, hp, hq => by
    cases hp
    cases e <;> simp [D.py] at hq <;> (try subst hq) <;> (try (obtain ⟨_, _, rfl⟩ := hq)) <;> rfl
  | .str b, e, p, q, hp, hq => by
    cases hp
    cases e <;> simp [D.py] at hq <;> (try subst hq) <;> (try (obtain ⟨_, _, rfl⟩ := hq)) <;> rfl
  | .lst xs, e, p, q, hp, hq => by
    simp [D.py] at hp
    obtain ⟨ps, hp, rfl⟩ := hp
    cases e <;> simp [D.py] at hq <;> (try subst hq) <;> (try (obtain ⟨qs, hq, rfl⟩ := hq)) <;> first
      | rfl
      | exact D.eqbA_py xs _ ps qs hp hq
  | .scr xs, e, p, q, hp, hq => by
    simp [D.py] at hp
    obtain ⟨ps, hp, rfl⟩ := hp
    cases e <;> simp [D.py] at hq <;> (try subst hq) <;> (try (obtain ⟨qs, hq, rfl⟩ := hq)) <;> first
      | rfl
      | exact D.eqbA_py xs _ ps qs hp hq
  | .tup xs, e, p, q, hp, hq => by
    simp [D.py] at hp
    obtain ⟨ps, hp, rfl⟩ := hp
    cases e <;> simp [D.py] at hq <;> (try subst hq) <;> (try (obtain ⟨qs, hq, rfl⟩ := hq)) <;> first
      | rfl
      | exact D.eqbA_py xs _ ps qs hp hq
  | .dct _, e, p, q, hp, hq => by simp [D.py] at hp
  | .ty _, e, p, q, hp, hq => by simp [D.py] at hp
  | .exc _, e, p, q, hp, hq => by simp [D.py] at hp
theorem D.eqbA_py : ∀ (ds es : List D) (ps qs : List PyData), D.pyA ds = some ps → D.pyA es = some qs → PyData.eqvAll ps qs = D.eqbA ds es
  | [], [], ps, qs, hp, hq => by
    cases hp
    cases hq
    rfl
  | [], e :: es, ps, qs, hp, hq => by
    cases hp
    simp [D.pyA, Option.bind_eq_some_iff] at hq
    obtain ⟨_, _, _, _, rfl⟩ := hq
    rfl
  | d :: ds, [], ps, qs, hp, hq => by
    cases hq
    simp [D.pyA, Option.bind_eq_some_iff] at hp
    obtain ⟨_, _, _, _, rfl⟩ := hp
    rfl
  | d :: ds, e :: es, ps, qs, hp, hq => by
    simp [D.pyA, Option.bind_eq_some_iff] at hp hq
    obtain ⟨p, h1, ps', h2, rfl⟩ := hp
    obtain ⟨q, k1, qs', k2, rfl⟩ := hq
    show (PyData.eqv p q && PyData.eqvAll ps' qs') = (D.eqb d e && D.eqbA ds es)
    rw [D.eqb_py d e p q h1 k1, D.eqbA_py ds es ps' qs' h2 k2]
end
section
variable {X : Cx} {pins : List (Addr × Obj)} {σ : L2.St} {H : Hp} {s : Shared}
mutual
theorem Rp.reads (I : Inv X pins σ H s) : ∀ (d : D) (v : V) (u : Value) (p : PyData), Rp X.K H v d → RelV v u → d.py = some p → ∃ as, Reads s.heap u p as
  | .non, _, _, _, h, r, e => by
    cases h
    cases r
    cases e
    exact ⟨_, Reads.none⟩
  | .bl b, _, _, _, h, r, e => by
    cases h
    cases r
    cases e
    exact ⟨_, Reads.bool b⟩
  | .int i, _, _, _, h, r, e => by
    cases h
    obtain ⟨t, rfl⟩ := r
    cases e
    exact ⟨_, Reads.int i t⟩
  | .str x, _, _, _, h, r, e => by
    cases h
    obtain ⟨t, rfl⟩ := r
    cases e
    exact ⟨_, Reads.str x t⟩
  | .lst ds, _, _, _, h, r, e => by
    simp [D.py] at e
    obtain ⟨ps, e, rfl⟩ := e
    cases h with
    | lst hs ha =>
      cases r
      obtain ⟨its, rv, ⟨o, n, ho, hc, _, hd⟩, _⟩ := I.list (xs := _) (.inl (.inl hs))
      obtain ⟨as, hr⟩ := RpA.reads I ds _ its ps ha rv e
      exact ⟨_, Reads.list ho hc hd hr⟩
  | .scr ds, _, _, _, h, r, e => by
    simp [D.py] at e
    obtain ⟨ps, e, rfl⟩ := e
    cases h with
    | scr hs ha =>
      cases r
      obtain ⟨its, rv, ⟨o, n, ho, hc, _, hd⟩, _⟩ := I.list hs
      obtain ⟨as, hr⟩ := RpA.reads I ds _ its ps ha rv e
      exact ⟨_, Reads.list ho hc hd hr⟩
  | .tup ds, _, _, _, h, r, e => by
    simp [D.py] at e
    obtain ⟨ps, e, rfl⟩ := e
    cases h with
    | tup hs ha =>
      cases r
      obtain ⟨its, rv, ⟨o, ho, hc, n, hd⟩, _⟩ := I.tuple hs
      obtain ⟨as, hr⟩ := RpA.reads I ds _ its ps ha rv e
      exact ⟨_, Reads.tuple ho hc hd hr⟩
  | .dct _, _, _, _, _, _, e => by simp [D.py] at e
  | .exc _, _, _, _, _, _, e => by simp [D.py] at e
  | .ty _, _, _, _, _, _, e => by simp [D.py] at e
theorem RpA.reads (I : Inv X pins σ H s) : ∀ (ds : List D) (vs : List V) (us : List Value) (ps : List PyData), RpA X.K H vs ds → Vals vs us → D.pyA ds = some ps → ∃ as, ReadsAll s.heap us ps as
  | [], _, _, _, h, r, e => by
    cases h
    cases r
    cases e
    exact ⟨_, ReadsAll.nil⟩
  | d :: ds, _, _, _, h, r, e => by
    simp [D.pyA, Option.bind_eq_some_iff] at e
    obtain ⟨p, h1, ps', h2, rfl⟩ := e
    cases h with
    | cons g1 g2 =>
      cases r with
      | cons r1 r2 =>
        obtain ⟨as, q1⟩ := Rp.reads I d _ _ p g1 r1 h1
        obtain ⟨bs, q2⟩ := RpA.reads I ds _ _ ps' g2 r2 h2
        exact ⟨_, ReadsAll.cons q1 q2⟩
end
end
def dEq (x y : D) : Res D := if D.dat 60 x = true ∧ D.dat 60 y = true then .ok (.bl (x.eqb y)) else .no
def dNe (x y : D) : Res D := if D.dat 60 x = true ∧ D.dat 60 y = true then .ok (.bl (!x.eqb y)) else .no
/-- x in c -/
def dIn : D → D → Res D
  | x, .lst ys => if D.dat 60 x = true ∧ D.datA 60 ys = true then .ok (.bl (ys.any fun y => y.eqb x)) else .no
  | x, .tup ys => if D.dat 60 x = true ∧ D.datA 60 ys = true then .ok (.bl (ys.any fun y => y.eqb x)) else .no
  | .str i, .str j => .ok (.bl (!(Builtin.Str.occurrences j i 0 j.length 1).isEmpty))
  | _, _ => .no
def dNotB (d : D) : Res D := match d with
  | .bl b => .ok (.bl (!b))
  | _ => .no
def dNotIn (x c : D) : Res D := (dIn x c).bind dNotB
def dLt : D → D → Res D
  | .int i, .int j => .ok (.bl (decide (i < j)))
  | .str i, .str j => .ok (.bl (decide (i.cps.toList < j.cps.toList)))
  | _, _ => .no
def dLe : D → D → Res D
  | .int i, .int j => .ok (.bl (decide (i ≤ j)))
  | .str i, .str j => .ok (.bl (!decide (j.cps.toList < i.cps.toList)))
  | _, _ => .no
def dGt : D → D → Res D
  | .int i, .int j => .ok (.bl (decide (j < i)))
  | .str i, .str j => .ok (.bl (decide (j.cps.toList < i.cps.toList)))
  | _, _ => .no
def dGe : D → D → Res D
  | .int i, .int j => .ok (.bl (decide (j ≤ i)))
  | .str i, .str j => .ok (.bl (!decide (i.cps.toList < j.cps.toList)))
  | _, _ => .no
/-- is None, True, False -/
def D.isNon : D → Bool
  | .non => true
  | _ => false
def dIs : D → D → Res D
  | x, .non => .ok (.bl x.isNon)
  | .bl a, .bl b => .ok (.bl (a == b))
  | _, _ => .no
def dIsNot (x c : D) : Res D := (dIs x c).bind dNotB

section
variable {X : Cx}
theorem calm_eq : Calm dEq := fun x y e h => by
  unfold dEq at h
  split at h <;> cases h
theorem calm_ne : Calm dNe := fun x y e h => by
  unfold dNe at h
  split at h <;> cases h
theorem calm_in : Calm dIn := fun x y e h => by
  unfold dIn at h
  split at h <;> (try split at h) <;> cases h
theorem calm_notB {r : Res D} (n : ∀ e, r ≠ .ex e) : ∀ e, r.bind dNotB ≠ .ex e := fun e h => by
  cases r with
  | ok a =>
    unfold dNotB at h
    simp only [Res.bind_ok] at h
    split at h <;> cases h
  | ex e' => exact n e' rfl
  | no => cases h
theorem calm_notIn : Calm dNotIn := fun x y => calm_notB (calm_in x y)
theorem calm_lt : Calm dLt := fun x y e h => by
  unfold dLt at h
  split at h <;> cases h
theorem calm_le : Calm dLe := fun x y e h => by
  unfold dLe at h
  split at h <;> cases h
theorem calm_gt : Calm dGt := fun x y e h => by
  unfold dGt at h
  split at h <;> cases h
theorem calm_ge : Calm dGe := fun x y e h => by
  unfold dGe at h
  split at h <;> cases h
theorem calm_is : Calm dIs := fun x y e h => by
  unfold dIs at h
  split at h <;> cases h
theorem calm_isNot : Calm dIsNot := fun x y => calm_notB (calm_is x y)

def rEqT (X : Cx) (neg : Bool) : R2 := fun x y H Q => ∃ dx dy, Rp X.K H x dx ∧ Rp X.K H y dy ∧ D.dat 60 dx = true ∧ D.dat 60 dy = true ∧ Q (.bl (if neg then !dx.eqb dy else dx.eqb dy)) H
theorem op_eqT (hu : X.A.units + 64 < cLine) : OpR X (compareOp .Eq) (rEqT X false) := by
  intro pins s σ H x y v u Q I rx ry h
  obtain ⟨d, e, hd, he, sd, se, q⟩ := h
  obtain ⟨p, p1, p2, p3⟩ := D.dat_py d 60 sd
  obtain ⟨p', p1', p2', p3'⟩ := D.dat_py e 60 se
  obtain ⟨as, r1⟩ := Rp.reads I d x v p hd rx p1
  obtain ⟨bs, r2⟩ := Rp.reads I e y u p' he ry p1'
  refine SeqAt.eq_plain r1 r2 p2 p2' ?_ ⟨.bl _, H, I, by rw [D.eqb_py d e p p' p1 p1']; rfl, q⟩
  have : min p.depth p'.depth ≤ p.depth := Nat.min_le_left _ _
  omega
theorem op_neT (hu : X.A.units + 64 < cLine) : OpR X (compareOp .NotEq) (rEqT X true) := by
  intro pins s σ H x y v u Q I rx ry h
  obtain ⟨d, e, hd, he, sd, se, q⟩ := h
  obtain ⟨p, p1, p2, p3⟩ := D.dat_py d 60 sd
  obtain ⟨p', p1', p2', p3'⟩ := D.dat_py e 60 se
  obtain ⟨as, r1⟩ := Rp.reads I d x v p hd rx p1
  obtain ⟨bs, r2⟩ := Rp.reads I e y u p' he ry p1'
  refine SeqAt.ne_plain r1 r2 p2 p2' ?_ ⟨.bl _, H, I, by rw [D.eqb_py d e p p' p1 p1']; rfl, q⟩
  have : min p.depth p'.depth ≤ p.depth := Nat.min_le_left _ _
  omega
theorem cmp_eq (hu : X.A.units + 64 < cLine) : ∃ r, OpR X (compareOp .Eq) r ∧ OpD X r dEq := by
  refine ⟨_, op_eqT hu, fun F own B H x y dx dy Q g hx hy q => ?_⟩
  unfold dEq at q
  split at q
  · rename_i hz
    exact ⟨dx, dy, hx.rd g, hy.rd g, hz.1, hz.2, q _ _ _ (.refl g) (.bl _)⟩
  · exact q.elim
theorem cmp_ne (hu : X.A.units + 64 < cLine) : ∃ r, OpR X (compareOp .NotEq) r ∧ OpD X r dNe := by
  refine ⟨_, op_neT hu, fun F own B H x y dx dy Q g hx hy q => ?_⟩
  unfold dNe at q
  split at q
  · rename_i hz
    exact ⟨dx, dy, hx.rd g, hy.rd g, hz.1, hz.2, q _ _ _ (.refl g) (.bl _)⟩
  · exact q.elim
theorem D.any_py {d : D} {p : PyData} (e : d.py = some p) : ∀ (ds : List D) (ps : List PyData), D.pyA ds = some ps → ps.any (fun y => PyData.eqv y p) = ds.any (fun y => y.eqb d)
  | [], ps, h => by
    cases h
    rfl
  | x :: xs, ps, h => by
    simp [D.pyA, Option.bind_eq_some_iff] at h
    obtain ⟨q, h1, qs, h2, rfl⟩ := h
    simp only [List.any_cons]
    rw [D.eqb_py x d q p h1 e, D.any_py e xs qs h2]
def rInT (X : Cx) (neg : Bool) : R2 := fun x y H Q => ∃ dx ds a vs, Rp X.K H x dx ∧ y = .ref a ∧ ((H a = some (.lst vs)) ∨ SqT X.K H a vs) ∧ RpA X.K H vs ds ∧ D.dat 60 dx = true ∧ D.datA 60 ds = true ∧
  Q (.bl (if neg then !(ds.any fun y => y.eqb dx) else ds.any fun y => y.eqb dx)) H
theorem op_inT (hu : X.A.units + 64 < cLine) : OpR X (compareOp .In) (rInT X false) := by
  intro pins s σ H x y v u Q I rx ry h
  obtain ⟨d, ds, a, vs, hd, rfl, ha, hr, sd, se, q⟩ := h
  obtain ⟨p, p1, p2, p3⟩ := D.dat_py d 60 sd
  obtain ⟨ps, p1', p2', p3'⟩ := D.datA_py ds 60 se
  obtain ⟨as, r1⟩ := Rp.reads I d x v p hd rx p1
  have hm : min (PyData.depthAll ps) p.depth ≤ p.depth := Nat.min_le_right _ _
  rcases ha with ha | ha
  · obtain ⟨bs, r2⟩ := Rp.reads I (.lst ds) (.ref a) u (.list ps) (.lst ha hr) ry (by simp [D.py, p1'])
    refine SeqAt.in_list_data r2 r1 p2' p2 (by omega) ⟨.bl _, H, I, by rw [D.any_py p1 ds ps p1']; rfl, q⟩
  · obtain ⟨bs, r2⟩ := Rp.reads I (.tup ds) (.ref a) u (.tuple ps) (.tup ha hr) ry (by simp [D.py, p1'])
    refine SeqAt.in_tuple_data r2 r1 p2' p2 (by omega) ⟨.bl _, H, I, by rw [D.any_py p1 ds ps p1']; rfl, q⟩
theorem op_notInT (hu : X.A.units + 64 < cLine) : OpR X (compareOp .NotIn) (rInT X true) := by
  intro pins s σ H x y v u Q I rx ry h
  obtain ⟨d, ds, a, vs, hd, rfl, ha, hr, sd, se, q⟩ := h
  obtain ⟨p, p1, p2, p3⟩ := D.dat_py d 60 sd
  obtain ⟨ps, p1', p2', p3'⟩ := D.datA_py ds 60 se
  obtain ⟨as, r1⟩ := Rp.reads I d x v p hd rx p1
  have hm : min (PyData.depthAll ps) p.depth ≤ p.depth := Nat.min_le_right _ _
  rcases ha with ha | ha
  · obtain ⟨bs, r2⟩ := Rp.reads I (.lst ds) (.ref a) u (.list ps) (.lst ha hr) ry (by simp [D.py, p1'])
    refine SeqAt.notIn_list_data r2 r1 p2' p2 (by omega) ⟨.bl _, H, I, by rw [D.any_py p1 ds ps p1']; rfl, q⟩
  · obtain ⟨bs, r2⟩ := Rp.reads I (.tup ds) (.ref a) u (.tuple ps) (.tup ha hr) ry (by simp [D.py, p1'])
    refine SeqAt.notIn_tuple_data r2 r1 p2' p2 (by omega) ⟨.bl _, H, I, by rw [D.any_py p1 ds ps p1']; rfl, q⟩
theorem cmp_in (hu : X.A.units + 64 < cLine) : ∃ r, OpR X (compareOp .In) r ∧ OpD X r dIn := by
  refine ⟨_, (op_inT hu).or op_in_str, fun F own B H x y dx dy Q g hx hy q => ?_⟩
  unfold dIn at q
  split at q
  · obtain ⟨a, vs, rfl, ha, ra⟩ := hy.lst g
    split at q
    · rename_i hz
      exact .inl ⟨_, _, a, vs, hx.rd g, rfl, .inl ha, ra.mono g.same, hz.1, hz.2, q _ _ _ (.refl g) (.bl _)⟩
    · exact q.elim
  · obtain ⟨a, vs, rfl, ha, ra⟩ := hy.tup
    split at q
    · rename_i hz
      exact .inl ⟨_, _, a, vs, hx.rd g, rfl, .inr (Ext.seqT g.same ha), ra.mono g.same, hz.1, hz.2, q _ _ _ (.refl g) (.bl _)⟩
    · exact q.elim
  · cases hx.str
    cases hy.str
    exact .inr ⟨_, _, rfl, rfl, q _ _ _ (.refl g) (.bl _)⟩
  · exact q.elim
theorem cmp_notIn (hu : X.A.units + 64 < cLine) : ∃ r, OpR X (compareOp .NotIn) r ∧ OpD X r dNotIn := by
  refine ⟨_, (op_notInT hu).or op_notin_str, fun F own B H x y dx dy Q g hx hy q => ?_⟩
  unfold dNotIn dIn at q
  split at q
  · obtain ⟨a, vs, rfl, ha, ra⟩ := hy.lst g
    split at q
    · rename_i hz
      exact .inl ⟨_, _, a, vs, hx.rd g, rfl, .inl ha, ra.mono g.same, hz.1, hz.2, q _ _ _ (.refl g) (.bl _)⟩
    · exact q.elim
  · obtain ⟨a, vs, rfl, ha, ra⟩ := hy.tup
    split at q
    · rename_i hz
      exact .inl ⟨_, _, a, vs, hx.rd g, rfl, .inr (Ext.seqT g.same ha), ra.mono g.same, hz.1, hz.2, q _ _ _ (.refl g) (.bl _)⟩
    · exact q.elim
  · cases hx.str
    cases hy.str
    exact .inr ⟨_, _, rfl, rfl, q _ _ _ (.refl g) (.bl _)⟩
  · exact q.elim
theorem cmp_lt : ∃ r, OpR X (compareOp .Lt) r ∧ OpD X r dLt := by
  refine ⟨_, op_lt.or op_lt_str, fun F own B H x y dx dy Q g hx hy q => ?_⟩
  unfold dLt at q
  split at q
  · cases hx.int
    cases hy.int
    exact .inl ⟨_, _, rfl, rfl, q _ _ _ (.refl g) (.bl _)⟩
  · cases hx.str
    cases hy.str
    exact .inr ⟨_, _, rfl, rfl, q _ _ _ (.refl g) (.bl _)⟩
  · exact q.elim
theorem cmp_le : ∃ r, OpR X (compareOp .LtE) r ∧ OpD X r dLe := by
  refine ⟨_, op_le.or op_le_str, fun F own B H x y dx dy Q g hx hy q => ?_⟩
  unfold dLe at q
  split at q
  · cases hx.int
    cases hy.int
    exact .inl ⟨_, _, rfl, rfl, q _ _ _ (.refl g) (.bl _)⟩
  · cases hx.str
    cases hy.str
    exact .inr ⟨_, _, rfl, rfl, q _ _ _ (.refl g) (.bl _)⟩
  · exact q.elim
theorem cmp_gt : ∃ r, OpR X (compareOp .Gt) r ∧ OpD X r dGt := by
  refine ⟨_, op_gt.or op_gt_str, fun F own B H x y dx dy Q g hx hy q => ?_⟩
  unfold dGt at q
  split at q
  · cases hx.int
    cases hy.int
    exact .inl ⟨_, _, rfl, rfl, q _ _ _ (.refl g) (.bl _)⟩
  · cases hx.str
    cases hy.str
    exact .inr ⟨_, _, rfl, rfl, q _ _ _ (.refl g) (.bl _)⟩
  · exact q.elim
theorem cmp_ge : ∃ r, OpR X (compareOp .GtE) r ∧ OpD X r dGe := by
  refine ⟨_, op_ge.or op_ge_str, fun F own B H x y dx dy Q g hx hy q => ?_⟩
  unfold dGe at q
  split at q
  · cases hx.int
    cases hy.int
    exact .inl ⟨_, _, rfl, rfl, q _ _ _ (.refl g) (.bl _)⟩
  · cases hx.str
    cases hy.str
    exact .inr ⟨_, _, rfl, rfl, q _ _ _ (.refl g) (.bl _)⟩
  · exact q.elim
theorem Sn.isNon {K : PySem.W.Frag} {F B H : Hp} {own : Own} {x : V} {d : D} (h : Sn K own B H x d) (g : Ground F own B H) : decide (x = .non) = d.isNon := by
  have r := h.rd g
  cases r <;> rfl
theorem cmp_is : ∃ r, OpR X (compareOp .Is) r ∧ OpD X r dIs := by
  refine ⟨_, op_isN.or op_is_bl, fun F own B H x y dx dy Q g hx hy q => ?_⟩
  unfold dIs at q
  split at q
  · cases hy.non
    refine .inl ⟨rfl, ?_⟩
    rw [hx.isNon g]
    exact q _ _ _ (.refl g) (.bl _)
  · cases hx.bl
    cases hy.bl
    refine .inr ⟨_, _, rfl, rfl, ?_⟩
    rw [Bool.beq_eq_decide_eq] at q
    exact q _ _ _ (.refl g) (.bl _)
  · exact q.elim
theorem cmp_isNot : ∃ r, OpR X (compareOp .IsNot) r ∧ OpD X r dIsNot := by
  refine ⟨_, op_notN.or op_isnot_bl, fun F own B H x y dx dy Q g hx hy q => ?_⟩
  unfold dIsNot dIs at q
  split at q
  · cases hy.non
    refine .inl ⟨rfl, ?_⟩
    rw [hx.isNon g]
    exact q _ _ _ (.refl g) (.bl _)
  · cases hx.bl
    cases hy.bl
    refine .inr ⟨_, _, rfl, rfl, ?_⟩
    rw [Bool.beq_eq_decide_eq] at q
    exact q _ _ _ (.refl g) (.bl _)
  · exact q.elim
end
end T

set_option Elab.async false
set_option linter.all false
set_option maxRecDepth 100000
set_option maxHeartbeats 4000000
/-! T-layer, part C: tests, subscripts, displays, calls of built-ins, what a loop walks, comprehensions. -/
namespace T
open PySem PySem.Spec PyProof.Rows L2

section
variable {X : Cx} {W : WX} {G : List Mode} {e a b c : Expr} {pos : Pos}
/-! ### truth -/
def toB (g : Rho → Res D) : Rho → Res Bool := fun ρ => (g ρ).bind fun d => match d with
  | .bl b => .ok b
  | _ => .no
/-- any value's truth -/
def dTru : D → Res Bool
  | .non => .ok false
  | .bl b => .ok b
  | .int i => .ok (i != 0)
  | .str y => if y.length ≤ sizeLine then .ok (y.length != 0) else .no
  | .lst xs => .ok (!xs.isEmpty)
  | .tup xs => .ok (!xs.isEmpty)
  | .scr xs => .ok (!xs.isEmpty)
  | _ => .no
theorem ev_toB {t : TE} {g : Rho → Res D} (h : EvB X W G t g) : EvT X W G (tB t) (toB g) := fun F ρ own B σ H Q gd q => by
  refine h F ρ own B σ H _ gd (Res.has_mono (Res.has_bind q) (fun d q v B' H' s r => ?_) fun _ x => x)
  cases d with
  | bl b =>
    cases r.bl
    exact ⟨b, rfl, q B' H' s⟩
  | _ => exact q.elim
/-- a test of a True or a False (not and, or, not) -/
theorem tj_val {g : Rho → Res D} (h : BJ X W G e g) (he : ∀ whole, isTrue e X.env whole = (do let v ← whole; standAt e.pos; holding [v] (truthy v)) := by intro _; rfl) : TJ X W G e (toB g) :=
  let ⟨_, p, v⟩ := h; ⟨_, pt_val p he, ev_toB v⟩
theorem RpA.emp {K : PySem.W.Frag} {B : Hp} {vs : List V} {ds : List D} (r : RpA K B vs ds) : vs.isEmpty = ds.isEmpty := by
  cases r <;> rfl
theorem ev_tru {t : TE} {g : Rho → Res D} (h : EvB X W G t g) : EvT X W G (fun σ H Q => t σ H fun x H' => ∃ k, TruV X.K x H' k ∧ Q k H') (fun ρ => (g ρ).bind dTru) := fun F ρ own B σ H Q gd q => by
  refine h F ρ own B σ H _ gd (Res.has_mono (Res.has_bind q) (fun d q v B' H' s r => ?_) fun _ x => x)
  have g' := gd.gr.step s
  cases d with
  | non =>
    cases r.non
    exact ⟨_, rfl, q B' H' s⟩
  | bl b =>
    cases r.bl
    exact ⟨_, rfl, q B' H' s⟩
  | int b =>
    cases r.int
    exact ⟨_, rfl, q B' H' s⟩
  | str y =>
    cases r.str
    simp only [dTru] at q
    split at q
    · rename_i hz
      refine ⟨_, ⟨hz, rfl⟩, ?_⟩
      have e : ((y.length : Int) != 0) = (y.length != 0) := by
        rw [Bool.eq_iff_iff]
        simp
      rw [e]
      exact q B' H' s
    · exact q.elim
  | lst xs =>
    obtain ⟨l, vs, rfl, hl, rv⟩ := r.lst g'
    refine ⟨_, .inl ⟨vs, .inl (.inl hl), rfl⟩, ?_⟩
    rw [rv.emp]
    exact q B' H' s
  | tup xs =>
    obtain ⟨l, vs, rfl, hl, rv⟩ := r.tup
    refine ⟨_, .inr (.inl ⟨vs, Ext.seqT g'.same hl, rfl⟩), ?_⟩
    rw [rv.emp]
    exact q B' H' s
  | scr xs =>
    obtain ⟨l, vs, rfl, hl, rv⟩ := r.scr
    refine ⟨_, .inl ⟨vs, Same.seq g'.same hl, rfl⟩, ?_⟩
    rw [rv.emp]
    exact q B' H' s
  | dct _ => exact q.elim
  | ty _ => exact q.elim
  | exc _ => exact q.elim
theorem tj_tru {g : Rho → Res D} (h : BJ X W G e g) (he : ∀ whole, isTrue e X.env whole = (do let v ← whole; standAt e.pos; holding [v] (truthy v)) := by intro _; rfl) : TJ X W G e (fun ρ => (g ρ).bind dTru) :=
  let ⟨_, p, v⟩ := h; ⟨_, pt_truth p he, ev_tru v⟩
def andB (g h : Rho → Res Bool) : Rho → Res Bool := fun ρ => (g ρ).bind fun b => if b = true then h ρ else .ok false
def orB (g h : Rho → Res Bool) : Rho → Res Bool := fun ρ => (g ρ).bind fun b => if b = true then .ok true else h ρ
def notB (g : Rho → Res Bool) : Rho → Res Bool := fun ρ => (g ρ).bind fun b => .ok (!b)
theorem ev_and {t u : TT} {g h : Rho → Res Bool} (ht : EvT X W G t g) (hu : EvT X W G u h) : EvT X W G (tAnd t u) (andB g h) := fun F ρ own B σ H Q gd q => by
  refine ht F ρ own B σ H _ gd (Res.has_mono (Res.has_bind q) (fun b q B' H' s => ?_) fun _ x => x)
  cases b with
  | true => exact hu F ρ own B' σ H' Q (gd.step s) (Res.has_mono q (fun b q B2 H2 s2 => q B2 H2 (s.trans s2)) fun _ x => x.step s)
  | false => exact q B' H' s
theorem ev_or {t u : TT} {g h : Rho → Res Bool} (ht : EvT X W G t g) (hu : EvT X W G u h) : EvT X W G (tOr t u) (orB g h) := fun F ρ own B σ H Q gd q => by
  refine ht F ρ own B σ H _ gd (Res.has_mono (Res.has_bind q) (fun b q B' H' s => ?_) fun _ x => x)
  cases b with
  | true => exact q B' H' s
  | false => exact hu F ρ own B' σ H' Q (gd.step s) (Res.has_mono q (fun b q B2 H2 s2 => q B2 H2 (s.trans s2)) fun _ x => x.step s)
theorem ev_not {t : TT} {g : Rho → Res Bool} (ht : EvT X W G t g) : EvT X W G (tNot t) (notB g) := fun F ρ own B σ H Q gd q =>
  ht F ρ own B σ H _ gd (Res.has_mono (Res.has_bind q) (fun b q B' H' s => q B' H' s) fun _ x => x)
theorem wj_and {rest : List Expr} {g h : Rho → Res Bool} (ha : TJ X W G a g) (hb : WJ X W G (.BoolOp .And (b :: rest) pos) h) : WJ X W G (.BoolOp .And (a :: b :: rest) pos) (andB g h) :=
  let ⟨_, p, v⟩ := ha; let ⟨_, p', v'⟩ := hb; ⟨_, pw_and p p', ev_and v v'⟩
theorem wj_or {rest : List Expr} {g h : Rho → Res Bool} (ha : TJ X W G a g) (hb : WJ X W G (.BoolOp .Or (b :: rest) pos) h) : WJ X W G (.BoolOp .Or (a :: b :: rest) pos) (orB g h) :=
  let ⟨_, p, v⟩ := ha; let ⟨_, p', v'⟩ := hb; ⟨_, pw_or p p', ev_or v v'⟩
theorem wj_and1 {g : Rho → Res Bool} (ha : TJ X W G a g) : WJ X W G (.BoolOp .And [a] pos) g := let ⟨_, p, v⟩ := ha; ⟨_, pw_and1 p, v⟩
theorem wj_or1 {g : Rho → Res Bool} (ha : TJ X W G a g) : WJ X W G (.BoolOp .Or [a] pos) g := let ⟨_, p, v⟩ := ha; ⟨_, pw_or1 p, v⟩
theorem WJ.tj {g : Rho → Res Bool} (h : WJ X W G e g) : TJ X W G e g := let ⟨_, p, v⟩ := h; ⟨_, p.pt, v⟩
theorem tj_not {g : Rho → Res Bool} (ha : TJ X W G a g) : TJ X W G (.UnaryOp .Not a pos) (notB g) := let ⟨_, p, v⟩ := ha; ⟨_, pt_not p, ev_not v⟩

/-! ### and, or, not as values: of True and False -/
def andV (f g : Rho → Res D) : Rho → Res D := fun ρ => (f ρ).bind fun d => match d with
  | .bl b => if b = true then g ρ else .ok (.bl false)
  | _ => .no
def orV (f g : Rho → Res D) : Rho → Res D := fun ρ => (f ρ).bind fun d => match d with
  | .bl b => if b = true then .ok (.bl true) else g ρ
  | _ => .no
def notV (f : Rho → Res D) : Rho → Res D := fun ρ => (f ρ).bind dNotB
theorem ej_andV {rest : List Expr} {f g : Rho → Res D} (ha : BJ X W G a f) (hb : EJ X W G (.BoolOp .And (b :: rest) pos) g) : EJ X W G (.BoolOp .And (a :: b :: rest) pos) (andV f g) := by
  obtain ⟨ta, pa, va⟩ := ha
  obtain ⟨tb, pb, vb⟩ := hb
  refine ⟨_, pe_and pa pb, fun F ρ own B σ H Q gd q => ?_⟩
  refine va F ρ own B σ H _ gd (Res.has_mono (Res.has_bind q) (fun d q v B' H' s r => ?_) fun _ x => x)
  cases d with
  | bl c =>
    cases r.bl
    refine ⟨c, rfl, ?_⟩
    cases c with
    | true => exact vb F ρ own B' σ H' Q (gd.step s) (Res.has_mono q (fun b q v B2 H2 s2 => q v B2 H2 (s.trans s2)) fun _ x => x.step s)
    | false => exact q _ B' H' s (.bl _)
  | _ => exact q.elim
theorem ej_orV {rest : List Expr} {f g : Rho → Res D} (ha : BJ X W G a f) (hb : EJ X W G (.BoolOp .Or (b :: rest) pos) g) : EJ X W G (.BoolOp .Or (a :: b :: rest) pos) (orV f g) := by
  obtain ⟨ta, pa, va⟩ := ha
  obtain ⟨tb, pb, vb⟩ := hb
  refine ⟨_, pe_or pa pb, fun F ρ own B σ H Q gd q => ?_⟩
  refine va F ρ own B σ H _ gd (Res.has_mono (Res.has_bind q) (fun d q v B' H' s r => ?_) fun _ x => x)
  cases d with
  | bl c =>
    cases r.bl
    refine ⟨c, rfl, ?_⟩
    cases c with
    | false => exact vb F ρ own B' σ H' Q (gd.step s) (Res.has_mono q (fun b q v B2 H2 s2 => q v B2 H2 (s.trans s2)) fun _ x => x.step s)
    | true => exact q _ B' H' s (.bl _)
  | _ => exact q.elim
theorem ej_one {op : BoolOp} {f : Rho → Res D} (ha : EJ X W G a f) : EJ X W G (.BoolOp op [a] pos) f := let ⟨_, p, v⟩ := ha; ⟨_, pe_one p, v⟩
theorem ej_notV {f : Rho → Res D} (ha : BJ X W G a f) : EJ X W G (.UnaryOp .Not a pos) (notV f) := by
  obtain ⟨ta, pa, va⟩ := ha
  refine ⟨_, pe_not pa, fun F ρ own B σ H Q gd q => ?_⟩
  refine va F ρ own B σ H _ gd (Res.has_mono (Res.has_bind q) (fun d q v B' H' s r => ?_) fun _ x => x)
  cases d with
  | bl c =>
    cases r.bl
    exact ⟨c, rfl, q _ B' H' s (.bl _)⟩
  | _ => exact q.elim
def dNeg : D → Res D
  | .int i => .ok (.int (-i))
  | _ => .no
theorem ej_neg {f : Rho → Res D} (ha : BJ X W G a f) : EJ X W G (.UnaryOp .USub a pos) (fun ρ => (f ρ).bind dNeg) := by
  obtain ⟨ta, pa, va⟩ := ha
  refine ⟨_, pe_un un_neg pa, fun F ρ own B σ H Q gd q => ?_⟩
  refine va F ρ own B σ H _ gd (Res.has_mono (Res.has_bind q) (fun d q v B' H' s r => ?_) fun _ x => x)
  cases d with
  | int c =>
    cases r.int
    exact ⟨c, rfl, q _ B' H' s (.int _)⟩
  | _ => exact q.elim
/-- a op b op' c -/
def chainV (f g : D → D → Res D) (ga gb gc : Rho → Res D) : Rho → Res D := fun ρ => (ga ρ).bind fun x => (gb ρ).bind fun y => (f x y).bind fun z => match z with
  | .bl k => if k = true then (gc ρ).bind fun w => g y w else .ok (.bl false)
  | _ => .no
theorem ev_chain {r r' : R2} {f g : D → D → Res D} {ta tb tc : TE} {ga gb gc : Rho → Res D} (h2 : OpD X r f) (hf : Calm f) (h2' : OpD X r' g) (hg : Calm g) (va : EvB X W G ta ga) (vb : EvB X W G tb gb) (vc : EvB X W G tc gc) : Ev X W G (tChain r r' ta tb tc) (chainV f g ga gb gc) := fun F ρ own B σ H Q gd q => by
  refine va F ρ own B σ H _ gd (Res.has_mono (Res.has_bind q) (fun dx q v B1 H1 s1 r1 => ?_) fun _ x => x)
  refine vb F ρ own B1 σ H1 _ (gd.step s1) (Res.has_mono (Res.has_bind q) (fun dy q w B2 H2 s2 r2 => ?_) fun _ x => x.step s1)
  refine h2 F own B2 H2 v w dx dy _ ((gd.gr.step s1).step s2) (r1.step s2) r2 (Res.has_calm (hf dx dy) (Res.has_bind q) fun d q z B3 H3 s3 r3 => ?_)
  cases d with
  | bl k =>
    cases r3
    refine ⟨k, rfl, ?_⟩
    cases k with
    | false => exact q _ B3 H3 ((s1.trans s2).trans s3) (.bl _)
    | true =>
      show tc σ H3 _
      refine vc F ρ own B3 σ H3 _ (((gd.step s1).step s2).step s3) (Res.has_mono (Res.has_bind q) (fun dw q u B4 H4 s4 r4 => ?_) fun _ x => x.step ((s1.trans s2).trans s3))
      exact h2' F own B4 H4 w u dy dw Q ((((gd.gr.step s1).step s2).step s3).step s4) ((r2.step s3).step s4) r4 (Res.has_calm (hg dy dw) q fun d q z B5 H5 s5 r5 => q z B5 H5 ((((s1.trans s2).trans s3).trans s4).trans s5) r5)
  | _ => exact q.elim
theorem ej_chain {op op' : CmpOp} {f g : D → D → Res D} {ga gb gc : Rho → Res D} (ho : ∃ r, OpR X (compareOp op) r ∧ OpD X r f) (hf : Calm f) (ho' : ∃ r, OpR X (compareOp op') r ∧ OpD X r g) (hg : Calm g) (ha : BJ X W G a ga) (hb : BJ X W G b gb) (hc : BJ X W G c gc)
    (hm : lastMarks [op, op'] [b, c] = false := by with_unfolding_all rfl) : EJ X W G (.Compare a [op, op'] [b, c] pos) (chainV f g ga gb gc) := by
  obtain ⟨r, h1, h2⟩ := ho
  obtain ⟨r', h1', h2'⟩ := ho'
  obtain ⟨ta, pa, va⟩ := ha
  obtain ⟨tb, pb, vb⟩ := hb
  obtain ⟨tc, pc, vc⟩ := hc
  exact ⟨_, pe_chain h1 h1' pa pb pc hm, ev_chain h2 hf h2' hg va vb vc⟩
def ifV (g : Rho → Res Bool) (f f' : Rho → Res D) : Rho → Res D := fun ρ => (g ρ).bind fun b => if b = true then f ρ else f' ρ
theorem ej_if {g : Rho → Res Bool} {f f' : Rho → Res D} (hc : TJ X W G c g) (ha : EJ X W G a f) (hb : EJ X W G b f') : EJ X W G (.IfExp c a b pos) (ifV g f f') := by
  obtain ⟨ta, pa, va⟩ := ha
  obtain ⟨tb, pb, vb⟩ := hb
  obtain ⟨tc, pc, vc⟩ := hc
  refine ⟨_, pe_ifExp pc pa pb, fun F ρ own B σ H Q gd q => ?_⟩
  refine vc F ρ own B σ H _ gd (Res.has_mono (Res.has_bind q) (fun b q B' H' s => ?_) fun _ x => x)
  cases b with
  | true => exact va F ρ own B' σ H' Q (gd.step s) (Res.has_mono q (fun b q v B2 H2 s2 => q v B2 H2 (s.trans s2)) fun _ x => x.step s)
  | false => exact vb F ρ own B' σ H' Q (gd.step s) (Res.has_mono q (fun b q v B2 H2 s2 => q v B2 H2 (s.trans s2)) fun _ x => x.step s)

/-! ### subscripts -/
def dIx : D → D → Res D
  | .lst xs, .int i => match atI xs i with
    | some d => .ok d
    | none => .no
  | .tup xs, .int i => match atI xs i with
    | some d => .ok d
    | none => .no
  | .scr xs, .int i => match atI xs i with
    | some d => .ok d
    | none => .no
  | .str z, .int i => if z.length ≤ sizeLine then match atI z.cps.toList i with
    | some c => .ok (.str ⟨#[c]⟩)
    | none => .no else .no
  | _, _ => .no
theorem calm_ix : Calm dIx := fun x y e h => by
  unfold dIx at h
  split at h <;> (try split at h) <;> (try split at h) <;> cases h
theorem RpA.at {K : PySem.W.Frag} {B : Hp} {vs : List V} {ds : List D} {i : Int} {d : D} (r : RpA K B vs ds) (h : atI ds i = some d) : ∃ v, atI vs i = some v ∧ Rp K B v d := by
  unfold atI at h ⊢
  rw [r.len]
  obtain ⟨j, h1, h2⟩ := Option.bind_eq_some_iff.mp h
  rw [h1]
  exact r.get h2
theorem op_ix : OpD X (rIx X.K) dIx := fun F own B H x y dx dy Q g hx hy q => by
  unfold dIx at q
  split at q
  · obtain ⟨l, vs, rfl, hl, rv⟩ := hx.lst g
    cases hy.int
    split at q
    · rename_i d hd
      obtain ⟨v, h1, h2⟩ := rv.at hd
      exact .inl ⟨l, vs, _, v, rfl, rfl, .inl (.inl hl), h1, q _ _ _ (.refl g) h2⟩
    · exact q.elim
  · obtain ⟨l, vs, rfl, hl, rv⟩ := hx.tup
    cases hy.int
    split at q
    · rename_i d hd
      obtain ⟨v, h1, h2⟩ := rv.at hd
      exact .inr (.inl ⟨l, vs, _, v, rfl, rfl, Ext.seqT g.same hl, h1, q _ _ _ (.refl g) h2⟩)
    · exact q.elim
  · obtain ⟨l, vs, rfl, hl, rv⟩ := hx.scr
    cases hy.int
    split at q
    · rename_i d hd
      obtain ⟨v, h1, h2⟩ := rv.at hd
      exact .inl ⟨l, vs, _, v, rfl, rfl, Same.seq g.same hl, h1, q _ _ _ (.refl g) h2⟩
    · exact q.elim
  · cases hx.str
    cases hy.int
    split at q
    · rename_i hz
      split at q
      · rename_i c hc
        exact .inr (.inr ⟨_, _, c, rfl, rfl, hz, hc, q _ _ _ (.refl g) (.str _)⟩)
      · exact q.elim
    · exact q.elim
  · exact q.elim
theorem ej_ix {ga gb : Rho → Res D} (ha : BJ X W G a ga) (hb : BJ X W G b gb) (hs : PlainIx b := by exact fun _ _ => rfl) : EJ X W G (.Subscript a b pos) (bin dIx ga gb) := by
  obtain ⟨ta, pa, va⟩ := ha
  obtain ⟨tb, pb, vb⟩ := hb
  exact ⟨_, pe_ix ix_seq pa pb hs, ev_op op_ix calm_ix va vb⟩

/-! ### slices -/
def EvO (X : Cx) (W : WX) (G : List Mode) (t : TO) (g : Rho → Res (Option Int)) : Prop :=
  ∀ (F : Hp) (ρ : Rho) (own : Own) (B : Hp) (σ : L2.St) (H : Hp) (Q : Option Int → Hp → Prop), Good X.K F G ρ own B σ H →
    (g ρ).has (fun o => ∀ (B' H' : Hp), Step own F B H B' H' → Q o H') (WOk X.K X.mg W own F B H σ) → t σ H Q
def OJ (X : Cx) (W : WX) (G : List Mode) (e : Option Expr) (g : Rho → Res (Option Int)) : Prop := ∃ t, L2.PO X e t ∧ EvO X W G t g
def noPart : Rho → Res (Option Int) := fun _ => .ok none
def toPart (g : Rho → Res D) : Rho → Res (Option Int) := fun ρ => (g ρ).bind fun d => match d with
  | .int i => .ok (some i)
  | _ => .no
theorem oj_none : OJ X W G none noPart := ⟨_, po_none, fun F ρ own B σ H Q gd q => q B H (.refl gd.gr)⟩
theorem oj_some {g : Rho → Res D} (h : BJ X W G e g) : OJ X W G (some e) (toPart g) := by
  obtain ⟨t, p, v⟩ := h
  refine ⟨_, po_some p, fun F ρ own B σ H Q gd q => ?_⟩
  refine v F ρ own B σ H _ gd (Res.has_mono (Res.has_bind q) (fun d q v B' H' s r => ?_) fun _ x => x)
  cases d with
  | int i =>
    cases r.int
    exact ⟨i, rfl, q B' H' s⟩
  | _ => exact q.elim
/-- what is cut out of a list of anything -/
def cutL {α : Type} (xs : List α) (lo hi : Option Int) : List α := (xs.drop (HT.sIx xs.length 0 lo)).take (HT.sIx xs.length xs.length hi - HT.sIx xs.length 0 lo)
theorem RpA.cut {K : PySem.W.Frag} {B : Hp} {vs : List V} {ds : List D} (r : RpA K B vs ds) (lo hi : Option Int) : RpA K B (cutV vs lo hi) (cutL ds lo hi) := by
  unfold cutV cutL
  rw [r.len]
  exact (r.drop _).take _
def dSl : D → Option Int → Option Int → Res D
  | .lst xs, lo, hi => .ok (.lst (cutL xs lo hi))
  | .tup xs, lo, hi => .ok (.tup (cutL xs lo hi))
  | .str z, lo, hi => if z.length ≤ sizeLine then .ok (.str (cutS z lo hi)) else .no
  | _, _, _ => .no
/-- of a list: a new list -/
def dSlN : D → Option Int → Option Int → Res (List D)
  | .lst xs, lo, hi => .ok (cutL xs lo hi)
  | _, _, _ => .no
def slV {α : Type} (f : D → Option Int → Option Int → Res α) (ga : Rho → Res D) (gl gh : Rho → Res (Option Int)) : Rho → Res α := fun ρ => (ga ρ).bind fun x => (gl ρ).bind fun l => (gh ρ).bind fun h => f x l h
theorem cutL_whole {α : Type} {xs : List α} {lo hi : Option Int} (h : HT.sIx xs.length 0 lo = 0 ∧ HT.sIx xs.length xs.length hi = xs.length) : cutL xs lo hi = xs := by
  unfold cutL
  rw [h.1, h.2]
  simp
theorem calm_sl (x : D) (l h : Option Int) (e : Exn) : dSl x l h ≠ .ex e := fun z => by
  unfold dSl at z
  split at z <;> (try split at z) <;> cases z
theorem calm_slN (x : D) (l h : Option Int) (e : Exn) : dSlN x l h ≠ .ex e := fun z => by
  unfold dSlN at z
  split at z <;> cases z
theorem ej_sl {lo hi : Option Expr} {p2 : Pos} {ga : Rho → Res D} {gl gh : Rho → Res (Option Int)} (ha : BJ X W G a ga) (hl : OJ X W G lo gl) (hh : OJ X W G hi gh) : EJ X W G (.Subscript a (.Slice lo hi none p2) pos) (slV dSl ga gl gh) := by
  obtain ⟨ta, pa, va⟩ := ha
  obtain ⟨tl, pl, vl⟩ := hl
  obtain ⟨th, ph, vh⟩ := hh
  refine ⟨_, pe_slice (sl_list.or (sl_tupA.or sl_str)) pa pl ph, fun F ρ own B σ H Q gd q => ?_⟩
  refine va F ρ own B σ H _ gd (Res.has_mono (Res.has_bind q) (fun d q v B1 H1 s1 r => ?_) fun _ x => x)
  refine vl F ρ own B1 σ H1 _ (gd.step s1) (Res.has_mono (Res.has_bind q) (fun l q B2 H2 s2 => ?_) fun _ x => x.step s1)
  refine vh F ρ own B2 σ H2 _ ((gd.step s1).step s2) (Res.has_mono (Res.has_bind q) (fun h q B3 H3 s3 => ?_) fun _ x => x.step (s1.trans s2))
  have r3 := (r.step s2).step s3
  have s := (s1.trans s2).trans s3
  have g3 := gd.gr.step s
  have q' : (dSl d l h).has (fun d => ∀ (v : V) (B' H' : Hp), Step own F B3 H3 B' H' → Rp X.K B' v d → Q v H') (fun _ => False) := Res.has_calm (calm_sl d l h) q fun d q v B' H' t r => q v B' H' (s.trans t) r
  cases d with
  | lst xs =>
    obtain ⟨p, vs, rfl, hp, rv⟩ := r3.lst g3
    exact .inl ⟨p, vs, rfl, .inl (.inl hp), fun n hn => new_lst g3 (rv.cut l h) q' n hn⟩
  | tup xs =>
    obtain ⟨p, vs, rfl, hp, rv⟩ := r3.tup
    refine .inr (.inl ⟨p, vs, rfl, Ext.seqT g3.same hp, fun e => ?_, fun _ n hn => new_tup g3 (rv.cut l h) q' n hn⟩)
    rw [rv.len] at e
    have q'' : ∀ (v : V) (B' H' : Hp), Step own F B3 H3 B' H' → Rp X.K B' v (.tup (cutL xs l h)) → Q v H' := q'
    rw [cutL_whole e] at q''
    exact q'' _ _ _ (.refl g3) (.tup hp rv)
  | str z =>
    cases r3.str
    simp only [dSl] at q'
    split at q'
    · rename_i hz
      exact .inr (.inr ⟨z, rfl, hz, q' _ _ _ (.refl g3) (.str _)⟩)
    · exact q'.elim
  | _ => exact q'.elim
theorem nj_sl {lo hi : Option Expr} {p2 : Pos} {ga : Rho → Res D} {gl gh : Rho → Res (Option Int)} (ha : BJ X W G a ga) (hl : OJ X W G lo gl) (hh : OJ X W G hi gh) : NJ X W G (.Subscript a (.Slice lo hi none p2) pos) (slV dSlN ga gl gh) := by
  obtain ⟨ta, pa, va⟩ := ha
  obtain ⟨tl, pl, vl⟩ := hl
  obtain ⟨th, ph, vh⟩ := hh
  refine ⟨_, pe_slice sl_list pa pl ph, fun F ρ own B σ H Q gd q => ?_⟩
  refine va F ρ own B σ H _ gd (Res.has_mono (Res.has_bind q) (fun d q v B1 H1 s1 r => ?_) fun _ x => x)
  refine vl F ρ own B1 σ H1 _ (gd.step s1) (Res.has_mono (Res.has_bind q) (fun l q B2 H2 s2 => ?_) fun _ x => x.step s1)
  refine vh F ρ own B2 σ H2 _ ((gd.step s1).step s2) (Res.has_mono (Res.has_bind q) (fun h q B3 H3 s3 => ?_) fun _ x => x.step (s1.trans s2))
  have r3 := (r.step s2).step s3
  have s := (s1.trans s2).trans s3
  have g3 := gd.gr.step s
  cases d with
  | lst xs =>
    obtain ⟨p, vs, rfl, hp, rv⟩ := r3.lst g3
    exact ⟨p, vs, rfl, .inl (.inl hp), fun n hn => new_lstN g3 (rv.cut l h) (fun p vs B' H' t => q p vs B' H' (s.trans t)) n hn⟩
  | _ => exact q.elim

/-! ### arguments, displays -/
def noA : Rho → Res (List D) := fun _ => .ok []
def consA (g : Rho → Res D) (h : Rho → Res (List D)) : Rho → Res (List D) := fun ρ => (g ρ).bind fun d => (h ρ).bind fun ds => .ok (d :: ds)
theorem aj_nil : AJ X W G [] noA := ⟨_, pa_nil, fun F ρ own B σ H Q gd q => q [] B H (.refl gd.gr) .nil⟩
theorem aj_cons {es : List Expr} {g : Rho → Res D} {h : Rho → Res (List D)} (he : EJ X W G e g) (hr : AJ X W G es h) (hs : starEach (e :: es) X.env = (false, eval e X.env) :: starEach es X.env := by rfl) : AJ X W G (e :: es) (consA g h) := by
  obtain ⟨t, p, v⟩ := he
  obtain ⟨u, p', v'⟩ := hr
  refine ⟨_, pa_cons p p' hs, fun F ρ own B σ H Q gd q => ?_⟩
  refine v F ρ own B σ H _ gd (Res.has_mono (Res.has_bind q) (fun d q v B1 H1 s1 r => ?_) fun _ x => x)
  refine v' F ρ own B1 σ H1 _ (gd.step s1) (Res.has_mono (Res.has_bind q) (fun ds q vs B2 H2 s2 rs => ?_) fun _ x => x.step s1)
  exact q _ B2 H2 (s1.trans s2) (.cons (r.mono s2.ext) rs)
theorem baj_nil : BAJ X W G [] noA := ⟨_, pa_nil, fun F ρ own B σ H Q gd q => q [] B H (.refl gd.gr) .nil⟩
theorem baj_cons {es : List Expr} {g : Rho → Res D} {h : Rho → Res (List D)} (he : BJ X W G e g) (hr : BAJ X W G es h) (hs : starEach (e :: es) X.env = (false, eval e X.env) :: starEach es X.env := by rfl) : BAJ X W G (e :: es) (consA g h) := by
  obtain ⟨t, p, v⟩ := he
  obtain ⟨u, p', v'⟩ := hr
  refine ⟨_, pa_cons p p' hs, fun F ρ own B σ H Q gd q => ?_⟩
  refine v F ρ own B σ H _ gd (Res.has_mono (Res.has_bind q) (fun d q v B1 H1 s1 r => ?_) fun _ x => x)
  refine v' F ρ own B1 σ H1 _ (gd.step s1) (Res.has_mono (Res.has_bind q) (fun ds q vs B2 H2 s2 rs => ?_) fun _ x => x.step s1)
  exact q _ B2 H2 (s1.trans s2) (.cons (r.step s2) rs)
def tupV (g : Rho → Res (List D)) : Rho → Res D := fun ρ => (g ρ).bind fun ds => if ds.length ≤ sizeLine then .ok (.tup ds) else .no
def lstV (g : Rho → Res (List D)) : Rho → Res (List D) := fun ρ => (g ρ).bind fun ds => if ds.length ≤ sizeLine then .ok ds else .no
theorem ej_tup {es : List Expr} {x1} {g : Rho → Res (List D)} (h : AJ X W G es g) : EJ X W G (.Tuple es x1 pos) (tupV g) := by
  obtain ⟨t, p, v⟩ := h
  refine ⟨_, pe_tup p, fun F ρ own B σ H Q gd q => ?_⟩
  refine v F ρ own B σ H _ gd (Res.has_mono (Res.has_bind q) (fun ds q vs B' H' s r => ?_) fun _ x => x)
  split at q
  · rename_i hz
    exact ⟨by rw [r.len]; exact hz, fun n hn => new_tup (gd.gr.step s) r (fun v B2 H2 t => q v B2 H2 (s.trans t)) n hn⟩
  · exact q.elim
theorem nj_lst {es : List Expr} {g : Rho → Res (List D)} (h : AJ X W G es g) : NJ X W G (.List es pos) (lstV g) := by
  obtain ⟨t, p, v⟩ := h
  refine ⟨_, pe_lst p, fun F ρ own B σ H Q gd q => ?_⟩
  refine v F ρ own B σ H _ gd (Res.has_mono (Res.has_bind q) (fun ds q vs B' H' s r => ?_) fun _ x => x)
  split at q
  · rename_i hz
    exact ⟨by rw [r.len]; exact hz, fun n hn => new_lstN (gd.gr.step s) r (fun p vs B2 H2 t => q p vs B2 H2 (s.trans t)) n hn⟩
  · exact q.elim

/-! ### calls of built-ins -/
def CallD (X : Cx) (r : List V → Hp → VK → Prop) (f : List D → Res D) : Prop :=
  (∀ ds e, f ds ≠ .ex e) ∧ ∀ (F : Hp) (own : Own) (B H : Hp) (vs : List V) (ds : List D) (Q : VK), Ground F own B H → SnA X.K own B H vs ds →
    (f ds).has (fun d => ∀ (v : V) (B' H' : Hp), Step own F B H B' H' → Rp X.K B' v d → Q v H') (fun _ => False) → r vs H Q
def CallN (X : Cx) (r : List V → Hp → VK → Prop) (f : List D → Res (List D)) : Prop :=
  (∀ ds e, f ds ≠ .ex e) ∧ ∀ (F : Hp) (own : Own) (B H : Hp) (vs : List V) (ds : List D) (Q : VK), Ground F own B H → SnA X.K own B H vs ds →
    (f ds).has (fun d => ∀ (p : Addr) (vs : List V) (B' H' : Hp), Step own F B H B' H' → B' p = none → F p = none → own p = none → H' p = some (.lst vs) → RpA X.K B' vs d → Q (.ref p) H') (fun _ => False) → r vs H Q
def callV {α : Type} (f : List D → Res α) (g : Rho → Res (List D)) : Rho → Res α := fun ρ => (g ρ).bind f
theorem ev_cb {r : List V → Hp → VK → Prop} {f : List D → Res D} {t : TA} {g : Rho → Res (List D)} (hf : CallD X r f) (ha : EvBA X W G t g) : Ev X W G (tCB r t) (callV f g) := fun F ρ own B σ H Q gd q => by
  refine ha F ρ own B σ H _ gd (Res.has_mono (Res.has_bind q) (fun ds q vs B' H' s rs => ?_) fun _ x => x)
  exact hf.2 F own B' H' vs ds Q (gd.gr.step s) rs (Res.has_calm (hf.1 ds) q fun d q v B2 H2 t => q v B2 H2 (s.trans t))
theorem ev_cbN {r : List V → Hp → VK → Prop} {f : List D → Res (List D)} {t : TA} {g : Rho → Res (List D)} (hf : CallN X r f) (ha : EvBA X W G t g) : EvN X W G (tCB r t) (callV f g) := fun F ρ own B σ H Q gd q => by
  refine ha F ρ own B σ H _ gd (Res.has_mono (Res.has_bind q) (fun ds q vs B' H' s rs => ?_) fun _ x => x)
  exact hf.2 F own B' H' vs ds Q (gd.gr.step s) rs (Res.has_calm (hf.1 ds) q fun d q p vs B2 H2 t => q p vs B2 H2 (s.trans t))
variable {x : Str} {p : Pos} {es : List Expr} {id Ty : String}
theorem ej_B {f : List D → Res D} {g : Rho → Res (List D)} (hf : ∃ r, CallR X (.builtin id) r ∧ CallD X r f) (hg : Gl X x) (hm : X.mg x = none) (hv : bootBuiltins x = some (.builtin id)) (ha : BAJ X W G (e :: es) g) (hn : x ≠ "__name__" := by decide) (hdb : (x == ("__debug__" : Str)) = false := by decide)
    (he : starEach (e :: es) X.env = (false, eval e X.env) :: starEach es X.env := by rfl) (hpl : (backTo pos (starEach es X.env)).any (·.1) = false := by rfl) : EJ X W G (.Call (.Name x p) (e :: es) [] pos) (callV f g) := by
  obtain ⟨r, h1, h2⟩ := hf
  obtain ⟨t, pa, va⟩ := ha
  exact ⟨_, pe_callB h1 hg hm hv pa hn hdb he hpl, ev_cb h2 va⟩
theorem nj_B {f : List D → Res (List D)} {g : Rho → Res (List D)} (hf : ∃ r, CallR X (.builtin id) r ∧ CallN X r f) (hg : Gl X x) (hm : X.mg x = none) (hv : bootBuiltins x = some (.builtin id)) (ha : BAJ X W G (e :: es) g) (hn : x ≠ "__name__" := by decide) (hdb : (x == ("__debug__" : Str)) = false := by decide)
    (he : starEach (e :: es) X.env = (false, eval e X.env) :: starEach es X.env := by rfl) (hpl : (backTo pos (starEach es X.env)).any (·.1) = false := by rfl) : NJ X W G (.Call (.Name x p) (e :: es) [] pos) (callV f g) := by
  obtain ⟨r, h1, h2⟩ := hf
  obtain ⟨t, pa, va⟩ := ha
  exact ⟨_, pe_callB h1 hg hm hv pa hn hdb he hpl, ev_cbN h2 va⟩
theorem ej_Ty {f : List D → Res D} {g : Rho → Res (List D)} (hf : ∃ r, CallR X (.type Ty) r ∧ CallD X r f) (hg : Gl X x) (hm : X.mg x = none) (hv : bootBuiltins x = some (.type Ty)) (ha : BAJ X W G (e :: es) g) (hn : x ≠ "__name__" := by decide) (hdb : (x == ("__debug__" : Str)) = false := by decide)
    (he : starEach (e :: es) X.env = (false, eval e X.env) :: starEach es X.env := by rfl) (hpl : (backTo pos (starEach es X.env)).any (·.1) = false := by rfl) : EJ X W G (.Call (.Name x p) (e :: es) [] pos) (callV f g) := by
  obtain ⟨r, h1, h2⟩ := hf
  obtain ⟨t, pa, va⟩ := ha
  exact ⟨_, pe_callTy h1 hg hm hv pa hn hdb he hpl, ev_cb h2 va⟩
theorem nj_Ty {f : List D → Res (List D)} {g : Rho → Res (List D)} (hf : ∃ r, CallR X (.type Ty) r ∧ CallN X r f) (hg : Gl X x) (hm : X.mg x = none) (hv : bootBuiltins x = some (.type Ty)) (ha : BAJ X W G (e :: es) g) (hn : x ≠ "__name__" := by decide) (hdb : (x == ("__debug__" : Str)) = false := by decide)
    (he : starEach (e :: es) X.env = (false, eval e X.env) :: starEach es X.env := by rfl) (hpl : (backTo pos (starEach es X.env)).any (·.1) = false := by rfl) : NJ X W G (.Call (.Name x p) (e :: es) [] pos) (callV f g) := by
  obtain ⟨r, h1, h2⟩ := hf
  obtain ⟨t, pa, va⟩ := ha
  exact ⟨_, pe_callTy h1 hg hm hv pa hn hdb he hpl, ev_cbN h2 va⟩
end
end T

set_option Elab.async false
set_option linter.all false
set_option maxRecDepth 100000
set_option maxHeartbeats 4000000
/-! T-layer, part D: built-in functions and methods, what a loop walks, comprehensions. -/
namespace T
open PySem PySem.Spec PyProof.Rows L2

/-! ### data of one kind -/
def D.ints : List D → Option (List Int)
  | [] => some []
  | .int i :: r => (D.ints r).map fun is => i :: is
  | _ :: _ => none
def D.bools : List D → Option (List Bool)
  | [] => some []
  | .bl i :: r => (D.bools r).map fun is => i :: is
  | _ :: _ => none
def D.strs : List D → Option (List Str)
  | [] => some []
  | .str i :: r => (D.strs r).map fun is => i :: is
  | _ :: _ => none
section
variable {K : PySem.W.Frag} {B : Hp}
theorem RpA.ints : ∀ {vs : List V} {ds : List D} {is : List Int}, RpA K B vs ds → D.ints ds = some is → vs = is.map V.int
  | _, [], is, r, e => by
    cases r
    cases e
    rfl
  | _, d :: ds, is, r, e => by
    cases r with
    | cons h r =>
      cases d with
      | int i =>
        simp [D.ints] at e
        obtain ⟨js, e, rfl⟩ := e
        cases h
        rw [RpA.ints r e]
        rfl
      | _ => simp [D.ints] at e
theorem RpA.bools : ∀ {vs : List V} {ds : List D} {is : List Bool}, RpA K B vs ds → D.bools ds = some is → vs = is.map V.bl
  | _, [], is, r, e => by
    cases r
    cases e
    rfl
  | _, d :: ds, is, r, e => by
    cases r with
    | cons h r =>
      cases d with
      | bl i =>
        simp [D.bools] at e
        obtain ⟨js, e, rfl⟩ := e
        cases h
        rw [RpA.bools r e]
        rfl
      | _ => simp [D.bools] at e
theorem RpA.strs : ∀ {vs : List V} {ds : List D} {is : List Str}, RpA K B vs ds → D.strs ds = some is → vs = is.map V.str
  | _, [], is, r, e => by
    cases r
    cases e
    rfl
  | _, d :: ds, is, r, e => by
    cases r with
    | cons h r =>
      cases d with
      | str i =>
        simp [D.strs] at e
        obtain ⟨js, e, rfl⟩ := e
        cases h
        rw [RpA.strs r e]
        rfl
      | _ => simp [D.strs] at e
theorem RpA.of_strs : ∀ ys : List Str, RpA K B (ys.map V.str) (ys.map D.str)
  | [] => .nil
  | y :: ys => .cons (.str y) (RpA.of_strs ys)
end
section
variable {K : PySem.W.Frag} {own : Own} {B H : Hp}
theorem SnA.one {vs : List V} {d : D} (h : SnA K own B H vs [d]) : ∃ v, vs = [v] ∧ Sn K own B H v d := by
  cases h with
  | cons h r =>
    cases r
    exact ⟨_, rfl, h⟩
theorem SnA.two {vs : List V} {d e : D} (h : SnA K own B H vs [d, e]) : ∃ v w, vs = [v, w] ∧ Sn K own B H v d ∧ Sn K own B H w e := by
  cases h with
  | cons h r =>
    cases r with
    | cons h' r =>
      cases r
      exact ⟨_, _, rfl, h, h'⟩
end

/-! ### functions -/
def dLen : List D → Res D
  | [.lst xs] => .ok (.int xs.length)
  | [.tup xs] => .ok (.int xs.length)
  | [.scr xs] => .ok (.int xs.length)
  | [.str y] => if y.length ≤ sizeLine then .ok (.int y.length) else .no
  | _ => .no
def dList : List D → Res (List D)
  | [.lst xs] => .ok xs
  | [.tup xs] => .ok xs
  | [.scr xs] => .ok xs
  | _ => .no
def dTuple : List D → Res D
  | [.lst xs] => .ok (.tup xs)
  | [.tup xs] => .ok (.tup xs)
  | _ => .no
def dInt : List D → Res D
  | [.int i] => .ok (.int i)
  | [.bl b] => .ok (.int (if b then 1 else 0))
  | [.str s] => match PySem.intText? s with
    | some n => if s.length ≤ 640 then .ok (.int n) else .no
    | none => .no
  | _ => .no
def dStrI : List D → Res D
  | [.int i] => if i.natAbs.log2 < 1920 then .ok (.str (toString i)) else .no
  | _ => .no
def dOrd : List D → Res D
  | [.str x] => if x.length = 1 then .ok (.int (x.cps.getD 0 0 : Nat)) else .no
  | _ => .no
def dMax2 : List D → Res D
  | [.int i, .int j] => .ok (.int (if j > i then j else i))
  | _ => .no
def dMin2 : List D → Res D
  | [.int i, .int j] => .ok (.int (if j < i then j else i))
  | _ => .no
def dAll : List D → Res D
  | [.lst xs] => match D.bools xs with
    | some bs => .ok (.bl (bs.all id))
    | none => .no
  | _ => .no
def dAny : List D → Res D
  | [.lst xs] => match D.bools xs with
    | some bs => .ok (.bl (bs.any id))
    | none => .no
  | _ => .no
def dSum : List D → Res D
  | [.lst xs] => match D.ints xs with
    | some bs => .ok (.int bs.sum)
    | none => .no
  | _ => .no
def D.tyN : D → Option String
  | .non => some "NoneType"
  | .bl _ => some "bool"
  | .int _ => some "int"
  | .str _ => some "str"
  | .lst _ => some "list"
  | .scr _ => some "list"
  | .tup _ => some "tuple"
  | _ => none
def dIsi : List D → Res D
  | [x, .ty n] => match x.tyN.bind fun a => kitB a n with
    | some r => .ok (.bl r)
    | none => .no
  | _ => .no
section
variable {X : Cx}
theorem fn_len : ∃ r, CallR X (.builtin "len") r ∧ CallD X r dLen := by
  refine ⟨_, call_len, fun ds e h => ?_, fun F own B H vs ds Q g hx q => ?_⟩
  · unfold dLen at h
    split at h <;> (try split at h) <;> cases h
  · unfold dLen at q
    split at q
    · obtain ⟨v, rfl, hv⟩ := hx.one
      obtain ⟨l, vs, rfl, hl, rv⟩ := hv.lst g
      refine ⟨_, vs.length, rfl, .inl ⟨vs, .inl (.inl hl), rfl⟩, ?_⟩
      rw [rv.len]
      exact q _ _ _ (.refl g) (.int _)
    · obtain ⟨v, rfl, hv⟩ := hx.one
      obtain ⟨l, vs, rfl, hl, rv⟩ := hv.tup
      refine ⟨_, vs.length, rfl, .inr ⟨vs, Ext.seqT g.same hl, rfl⟩, ?_⟩
      rw [rv.len]
      exact q _ _ _ (.refl g) (.int _)
    · obtain ⟨v, rfl, hv⟩ := hx.one
      obtain ⟨l, vs, rfl, hl, rv⟩ := hv.scr
      refine ⟨_, vs.length, rfl, .inl ⟨vs, Same.seq g.same hl, rfl⟩, ?_⟩
      rw [rv.len]
      exact q _ _ _ (.refl g) (.int _)
    · obtain ⟨v, rfl, hv⟩ := hx.one
      cases hv.str
      split at q
      · rename_i hz
        exact ⟨_, _, rfl, ⟨hz, rfl⟩, q _ _ _ (.refl g) (.int _)⟩
      · exact q.elim
    · exact q.elim
theorem fn_list : ∃ r, CallR X (.type "list") r ∧ CallN X r dList := by
  refine ⟨_, call_list_of, fun ds e h => ?_, fun F own B H vs ds Q g hx q => ?_⟩
  · unfold dList at h
    split at h <;> cases h
  · unfold dList at q
    split at q
    · obtain ⟨v, rfl, hv⟩ := hx.one
      obtain ⟨l, vs, rfl, hl, rv⟩ := hv.lst g
      exact ⟨l, vs, rfl, .inl (.inl (.inl hl)), fun n hn => new_lstN g rv q n hn⟩
    · obtain ⟨v, rfl, hv⟩ := hx.one
      obtain ⟨l, vs, rfl, hl, rv⟩ := hv.tup
      exact ⟨l, vs, rfl, .inr (Ext.seqT g.same hl), fun n hn => new_lstN g rv q n hn⟩
    · obtain ⟨v, rfl, hv⟩ := hx.one
      obtain ⟨l, vs, rfl, hl, rv⟩ := hv.scr
      exact ⟨l, vs, rfl, .inl (Same.seq g.same hl), fun n hn => new_lstN g rv q n hn⟩
    · exact q.elim
theorem fn_tuple : ∃ r, CallR X (.type "tuple") r ∧ CallD X r dTuple := by
  refine ⟨_, call_tuple_of, fun ds e h => ?_, fun F own B H vs ds Q g hx q => ?_⟩
  · unfold dTuple at h
    split at h <;> cases h
  · unfold dTuple at q
    split at q
    · obtain ⟨v, rfl, hv⟩ := hx.one
      obtain ⟨l, vs, rfl, hl, rv⟩ := hv.lst g
      exact ⟨l, vs, rfl, .inl ⟨.inl (.inl hl), fun n hn => new_tup g rv q n hn⟩⟩
    · obtain ⟨v, rfl, hv⟩ := hx.one
      obtain ⟨l, vs, rfl, hl, rv⟩ := hv.tup
      exact ⟨l, vs, rfl, .inr ⟨Ext.seqT g.same hl, q _ _ _ (.refl g) (.tup hl rv)⟩⟩
    · exact q.elim
theorem call_or {f : Value} {r r' : List V → Hp → VK → Prop} (h : CallR X f r) (h' : CallR X f r') : CallR X f (fun xs H Q => r xs H Q ∨ r' xs H Q) := by
  intro pins s σ H xs us Q I rr q
  rcases q with q | q
  · exact h pins s σ H xs us Q I rr q
  · exact h' pins s σ H xs us Q I rr q
theorem fn_int : ∃ r, CallR X (.type "int") r ∧ CallD X r dInt := by
  refine ⟨_, call_or call_int1 call_int_str, fun ds e h => ?_, fun F own B H vs ds Q g hx q => ?_⟩
  · unfold dInt at h
    split at h
    · cases h
    · cases h
    · split at h
      · split at h <;> cases h
      · cases h
    · cases h
  · unfold dInt at q
    split at q
    · obtain ⟨v, rfl, hv⟩ := hx.one
      cases hv.int
      exact .inl (.inl ⟨_, rfl, q _ _ _ (.refl g) (.int _)⟩)
    · obtain ⟨v, rfl, hv⟩ := hx.one
      cases hv.bl
      exact .inl (.inr ⟨_, rfl, q _ _ _ (.refl g) (.int _)⟩)
    · obtain ⟨v, rfl, hv⟩ := hx.one
      split at q
      · rename_i n hn
        split at q
        · rename_i hz
          cases hv.frz (fun ds z => nomatch z)
          exact .inr ⟨_, n, rfl, hn, hz, q _ _ _ (.refl g) (.int _)⟩
        · exact q.elim
      · exact q.elim
    · exact q.elim
theorem fn_strI : ∃ r, CallR X (.type "str") r ∧ CallD X r dStrI := by
  refine ⟨_, call_str_int, fun ds e h => ?_, fun F own B H vs ds Q g hx q => ?_⟩
  · unfold dStrI at h
    split at h <;> (try split at h) <;> cases h
  · unfold dStrI at q
    split at q
    · obtain ⟨v, rfl, hv⟩ := hx.one
      cases hv.int
      split at q
      · rename_i hz
        exact ⟨_, rfl, hz, q _ _ _ (.refl g) (.str _)⟩
      · exact q.elim
    · exact q.elim
theorem fn_ord : ∃ r, CallR X (.builtin "ord") r ∧ CallD X r dOrd := by
  refine ⟨_, call_ord, fun ds e h => ?_, fun F own B H vs ds Q g hx q => ?_⟩
  · unfold dOrd at h
    split at h <;> (try split at h) <;> cases h
  · unfold dOrd at q
    split at q
    · obtain ⟨v, rfl, hv⟩ := hx.one
      cases hv.str
      split at q
      · rename_i hz
        exact ⟨_, rfl, hz, q _ _ _ (.refl g) (.int _)⟩
      · exact q.elim
    · exact q.elim
theorem fn_max2 (hc : X.calm = true) : ∃ r, CallR X (.builtin "max") r ∧ CallD X r dMax2 := by
  refine ⟨_, call_max2 hc, fun ds e h => ?_, fun F own B H vs ds Q g hx q => ?_⟩
  · unfold dMax2 at h
    split at h <;> cases h
  · unfold dMax2 at q
    split at q
    · obtain ⟨v, w, rfl, hv, hw⟩ := hx.two
      cases hv.int
      cases hw.int
      exact ⟨_, _, rfl, q _ _ _ (.refl g) (.int _)⟩
    · exact q.elim
theorem fn_min2 (hc : X.calm = true) : ∃ r, CallR X (.builtin "min") r ∧ CallD X r dMin2 := by
  refine ⟨_, call_min2 hc, fun ds e h => ?_, fun F own B H vs ds Q g hx q => ?_⟩
  · unfold dMin2 at h
    split at h <;> cases h
  · unfold dMin2 at q
    split at q
    · obtain ⟨v, w, rfl, hv, hw⟩ := hx.two
      cases hv.int
      cases hw.int
      exact ⟨_, _, rfl, q _ _ _ (.refl g) (.int _)⟩
    · exact q.elim
theorem fn_all (hc : X.calm = true) : ∃ r, CallR X (.builtin "all") r ∧ CallD X r dAll := by
  refine ⟨_, cr_all hc, fun ds e h => ?_, fun F own B H vs ds Q g hx q => ?_⟩
  · unfold dAll at h
    split at h <;> (try split at h) <;> cases h
  · unfold dAll at q
    split at q
    · obtain ⟨v, rfl, hv⟩ := hx.one
      obtain ⟨l, vs, rfl, hl, rv⟩ := hv.lst g
      split at q
      · rename_i bs hb
        have e := rv.bools hb
        subst e
        exact ⟨l, bs, rfl, .inl (.inl hl), q _ _ _ (.refl g) (.bl _)⟩
      · exact q.elim
    · exact q.elim
theorem fn_any (hc : X.calm = true) : ∃ r, CallR X (.builtin "any") r ∧ CallD X r dAny := by
  refine ⟨_, cr_any hc, fun ds e h => ?_, fun F own B H vs ds Q g hx q => ?_⟩
  · unfold dAny at h
    split at h <;> (try split at h) <;> cases h
  · unfold dAny at q
    split at q
    · obtain ⟨v, rfl, hv⟩ := hx.one
      obtain ⟨l, vs, rfl, hl, rv⟩ := hv.lst g
      split at q
      · rename_i bs hb
        have e := rv.bools hb
        subst e
        exact ⟨l, bs, rfl, .inl (.inl hl), q _ _ _ (.refl g) (.bl _)⟩
      · exact q.elim
    · exact q.elim
theorem fn_sum (hc : X.calm = true) : ∃ r, CallR X (.builtin "sum") r ∧ CallD X r dSum := by
  refine ⟨_, cr_sum hc, fun ds e h => ?_, fun F own B H vs ds Q g hx q => ?_⟩
  · unfold dSum at h
    split at h <;> (try split at h) <;> cases h
  · unfold dSum at q
    split at q
    · obtain ⟨v, rfl, hv⟩ := hx.one
      obtain ⟨l, vs, rfl, hl, rv⟩ := hv.lst g
      split at q
      · rename_i bs hb
        have e := rv.ints hb
        subst e
        exact ⟨l, bs, rfl, .inl (.inl hl), q _ _ _ (.refl g) (.int _)⟩
      · exact q.elim
    · exact q.elim
theorem SqT.tyx {K : PySem.W.Frag} {H : Hp} {a : Addr} {xs : List V} (h : SqT K H a xs) : TyX K H (.ref a) (.type "tuple") := by
  rcases h with (h | ⟨o, h⟩) | ⟨o, _, _, h1, h2, _⟩
  · exact .base (.tup h)
  · exact .fTuple h
  · exact .kTuple h1 h2
theorem SqL.tyx {K : PySem.W.Frag} {H : Hp} {a : Addr} {xs : List V} (h : SqL K H a xs) : TyX K H (.ref a) (.type "list") := by
  rcases h with (h | ⟨o, h⟩) | ⟨o, _, _, h1, h2, _⟩
  · exact .base (.lst h)
  · exact .base (.frz h)
  · exact .kList h1 h2
theorem Sn.tyx {K : PySem.W.Frag} {F : Hp} {own : Own} {B H : Hp} {v : V} {d : D} {n : String} (h : Sn K own B H v d) (g : Ground F own B H) (e : d.tyN = some n) : TyX K H v (.type n) := by
  cases d with
  | non =>
    cases h.non
    cases e
    exact .base .non
  | bl b =>
    cases h.bl
    cases e
    exact .base (.bl _)
  | int b =>
    cases h.int
    cases e
    exact .base (.int _)
  | str b =>
    cases h.str
    cases e
    exact .base (.str _)
  | lst xs =>
    obtain ⟨l, vs, rfl, hl, rv⟩ := h.lst g
    cases e
    exact .base (.lst hl)
  | scr xs =>
    obtain ⟨l, vs, rfl, hl, rv⟩ := h.scr
    cases e
    exact SqL.tyx (Same.seq g.same hl)
  | tup xs =>
    obtain ⟨l, vs, rfl, hl, rv⟩ := h.tup
    cases e
    exact SqT.tyx (Ext.seqT g.same hl)
  | _ => cases e
theorem fn_isi : ∃ r, CallR X (.builtin "isinstance") r ∧ CallD X r dIsi := by
  refine ⟨_, call_isi, fun ds e h => ?_, fun F own B H vs ds Q g hx q => ?_⟩
  · unfold dIsi at h
    split at h <;> (try split at h) <;> cases h
  · unfold dIsi at q
    split at q
    · obtain ⟨v, w, rfl, hv, hw⟩ := hx.two
      cases hw.ty
      split at q
      · rename_i r hr
        obtain ⟨a, h1, h2⟩ := Option.bind_eq_some_iff.mp hr
        exact ⟨_, _, _, _, r, rfl, .ty _, hv.tyx g h1, kit_ty h2, q _ _ _ (.refl g) (.bl _)⟩
      · exact q.elim
    · exact q.elim
end
/-- a built-in class as a value -/
theorem ej_ty {X : Cx} {W : WX} {G : List Mode} {x : Str} {n : String} {pos : Pos} (hg : Gl X x) (hm : X.mg x = none) (hv : bootBuiltins x = some (.type n)) (hn : x ≠ "__name__" := by decide) (hd : (x == ("__debug__" : Str)) = false := by decide) : EJ X W G (.Name x pos) (conD (.ty n)) :=
  ⟨_, pe_bltn (v := .ty n) hg hm hv rfl hn hd, ev_c fun _ _ => .ty n⟩
/-- a constant of the module -/
theorem ej_glob {X : Cx} {W : WX} {G : List Mode} {x : Str} {v : V} {u : Value} {d : D} {pos : Pos} (hg : Gl X x) (hm : X.mg x = some u) (r : RelV v u) (h : ∀ B, Rp X.K B v d) (hd : (x == ("__debug__" : Str)) = false := by decide) : EJ X W G (.Name x pos) (conD d) :=
  ⟨_, pe_glob hg hm r hd, fun F ρ own B σ H Q gd q => q v B H (.refl gd.gr) (h B)⟩

/-! ### methods of built-in types -/
def D.isTy : String → D → Bool
  | "str", .str _ => true
  | "list", .lst _ => true
  | _, _ => false
def MethD (X : Cx) (r : V → List V → Hp → VK → Prop) (f : D → List D → Res D) : Prop :=
  (∀ d ds e, f d ds ≠ .ex e) ∧ ∀ (F : Hp) (own : Own) (B H : Hp) (v : V) (d : D) (vs : List V) (ds : List D) (Q : VK), Ground F own B H → Sn X.K own B H v d → SnA X.K own B H vs ds →
    (f d ds).has (fun d => ∀ (v : V) (B' H' : Hp), Step own F B H B' H' → Rp X.K B' v d → Q v H') (fun _ => False) → r v vs H Q
def MethN (X : Cx) (r : V → List V → Hp → VK → Prop) (f : D → List D → Res (List D)) : Prop :=
  (∀ d ds e, f d ds ≠ .ex e) ∧ ∀ (F : Hp) (own : Own) (B H : Hp) (v : V) (d : D) (vs : List V) (ds : List D) (Q : VK), Ground F own B H → Sn X.K own B H v d → SnA X.K own B H vs ds →
    (f d ds).has (fun d => ∀ (p : Addr) (vs : List V) (B' H' : Hp), Step own F B H B' H' → B' p = none → F p = none → own p = none → H' p = some (.lst vs) → RpA X.K B' vs d → Q (.ref p) H') (fun _ => False) → r v vs H Q
def methV {α : Type} (n : String) (f : D → List D → Res α) (go : Rho → Res D) (g : Rho → Res (List D)) : Rho → Res α := fun ρ => (go ρ).bind fun d => if d.isTy n = true then (g ρ).bind fun ds => f d ds else .no
theorem isTy_tyV {K : PySem.W.Frag} {F : Hp} {own : Own} {B H : Hp} {v : V} {d : D} {n : String} (h : Sn K own B H v d) (g : Ground F own B H) (e : d.isTy n = true) : tyV K n v H := by
  unfold D.isTy at e
  split at e
  · cases h.str
    rfl
  · obtain ⟨l, vs, rfl, hl, rv⟩ := h.lst g
    exact .inl ⟨rfl, vs, .inl (.inl hl)⟩
  · cases e
section
variable {X : Cx} {W : WX} {G : List Mode} {e o : Expr} {es : List Expr} {name : Str} {apos cpos : Pos} {n id : String}
theorem ej_M {f : D → List D → Res D} {go : Rho → Res D} {g : Rho → Res (List D)} (pa : PlainAttrs n) (slot : Slot n name id) (hty : typeOf (.builtin id) = pure (.type "method_descriptor")) (hm : ∃ r, MtR X id r ∧ MethD X r f) (ho : BJ X W G o go) (ha : BAJ X W G (e :: es) g)
    (hbase : attributeBase o name X.env (eval o X.env) = eval o X.env := by rfl)
    (hfew : ((backTo cpos (starEach (e :: es) X.env)).all (fun x => !x.1) && (backToKw cpos (keywordEach [] X.env)).all (fun x => x.1.isSome)
      && decide ((e :: es).length + ([] : List Keyword).length + (if ([] : List Keyword).isEmpty then 0 else 1) < 30)) = true := by rfl)
    (hline : (apos.endLine == cpos.line) = true := by rfl) (hs : starEach (e :: es) X.env = (false, eval e X.env) :: starEach es X.env := by rfl) (hplain : (backTo cpos (starEach es X.env)).any (·.1) = false := by rfl) :
    EJ X W G (.Call (.Attribute o name apos) (e :: es) [] cpos) (methV n f go g) := by
  obtain ⟨r, h1, h2⟩ := hm
  obtain ⟨to, po, vo⟩ := ho
  obtain ⟨ta, pa', va⟩ := ha
  refine ⟨_, pe_bm pa slot hty h1 po pa' hbase hfew hline hs hplain, fun F ρ own B σ H Q gd q => ?_⟩
  refine vo F ρ own B σ H _ gd (Res.has_mono (Res.has_bind q) (fun d q v B1 H1 s1 r1 => ?_) fun _ x => x)
  split at q
  · rename_i hty
    refine ⟨isTy_tyV r1 (gd.gr.step s1) hty, ?_⟩
    refine va F ρ own B1 σ H1 _ (gd.step s1) (Res.has_mono (Res.has_bind q) (fun ds q vs B2 H2 s2 r2 => ?_) fun _ x => x.step s1)
    exact h2.2 F own B2 H2 v d vs ds Q ((gd.gr.step s1).step s2) (r1.step s2) r2 (Res.has_calm (h2.1 d ds) q fun d q v B3 H3 s3 => q v B3 H3 ((s1.trans s2).trans s3))
  · exact q.elim
theorem nj_M {f : D → List D → Res (List D)} {go : Rho → Res D} {g : Rho → Res (List D)} (pa : PlainAttrs n) (slot : Slot n name id) (hty : typeOf (.builtin id) = pure (.type "method_descriptor")) (hm : ∃ r, MtR X id r ∧ MethN X r f) (ho : BJ X W G o go) (ha : BAJ X W G (e :: es) g)
    (hbase : attributeBase o name X.env (eval o X.env) = eval o X.env := by rfl)
    (hfew : ((backTo cpos (starEach (e :: es) X.env)).all (fun x => !x.1) && (backToKw cpos (keywordEach [] X.env)).all (fun x => x.1.isSome)
      && decide ((e :: es).length + ([] : List Keyword).length + (if ([] : List Keyword).isEmpty then 0 else 1) < 30)) = true := by rfl)
    (hline : (apos.endLine == cpos.line) = true := by rfl) (hs : starEach (e :: es) X.env = (false, eval e X.env) :: starEach es X.env := by rfl) (hplain : (backTo cpos (starEach es X.env)).any (·.1) = false := by rfl) :
    NJ X W G (.Call (.Attribute o name apos) (e :: es) [] cpos) (methV n f go g) := by
  obtain ⟨r, h1, h2⟩ := hm
  obtain ⟨to, po, vo⟩ := ho
  obtain ⟨ta, pa', va⟩ := ha
  refine ⟨_, pe_bm pa slot hty h1 po pa' hbase hfew hline hs hplain, fun F ρ own B σ H Q gd q => ?_⟩
  refine vo F ρ own B σ H _ gd (Res.has_mono (Res.has_bind q) (fun d q v B1 H1 s1 r1 => ?_) fun _ x => x)
  split at q
  · rename_i hty
    refine ⟨isTy_tyV r1 (gd.gr.step s1) hty, ?_⟩
    refine va F ρ own B1 σ H1 _ (gd.step s1) (Res.has_mono (Res.has_bind q) (fun ds q vs B2 H2 s2 r2 => ?_) fun _ x => x.step s1)
    exact h2.2 F own B2 H2 v d vs ds Q ((gd.gr.step s1).step s2) (r1.step s2) r2 (Res.has_calm (h2.1 d ds) q fun d q p vs B3 H3 s3 => q p vs B3 H3 ((s1.trans s2).trans s3))
  · exact q.elim
end
def dJoin : D → List D → Res D
  | .str a, [.lst xs] => match D.strs xs with
    | some ys => if (ys.map (·.length)).sum + ys.length * a.length ≤ 16777216 then .ok (.str (Txt.join a ys)) else .no
    | none => .no
  | _, _ => .no
def dSplit : D → List D → Res (List D)
  | .str a, [.str b] => if (b.length == 0) = false ∧ a.length + 2 ≤ sizeLine then .ok ((Txt.split a b).map D.str) else .no
  | _, _ => .no
def dIndexS : D → List D → Res D
  | .str a, [.str b] => match Builtin.Str.occurrences a b 0 a.length 1 with
    | i :: _ => .ok (.int (i : Nat))
    | [] => .no
  | _, _ => .no
def dStarts : D → List D → Res D
  | .str a, [.str b] => .ok (.bl (Txt.startswith a b))
  | _, _ => .no
section
variable {X : Cx}
theorem mth_join : ∃ r, MtR X "str.join" r ∧ MethD X r dJoin := by
  refine ⟨_, mt_join, fun d ds e h => ?_, fun F own B H v d vs ds Q g hv hx q => ?_⟩
  · unfold dJoin at h
    split at h <;> (try split at h) <;> (try split at h) <;> cases h
  · unfold dJoin at q
    split at q
    · cases hv.str
      obtain ⟨v, rfl, hv⟩ := hx.one
      obtain ⟨l, vs, rfl, hl, rv⟩ := hv.lst g
      split at q
      · rename_i ys hy
        split at q
        · rename_i hz
          have e := rv.strs hy
          subst e
          exact ⟨_, l, ys, rfl, rfl, .inl (.inl (.inl hl)), hz, q _ _ _ (.refl g) (.str _)⟩
        · exact q.elim
      · exact q.elim
    · exact q.elim
theorem mth_split : ∃ r, MtR X "str.split" r ∧ MethN X r dSplit := by
  refine ⟨_, mt_split, fun d ds e h => ?_, fun F own B H v d vs ds Q g hv hx q => ?_⟩
  · unfold dSplit at h
    split at h <;> (try split at h) <;> cases h
  · unfold dSplit at q
    split at q
    · cases hv.str
      obtain ⟨v, rfl, hv⟩ := hx.one
      cases hv.str
      split at q
      · rename_i hz
        exact ⟨_, _, rfl, rfl, hz.1, hz.2, fun n hn => new_lstN g (RpA.of_strs _) q n hn⟩
      · exact q.elim
    · exact q.elim
theorem mth_indexS : ∃ r, MtR X "str.index" r ∧ MethD X r dIndexS := by
  refine ⟨_, mt_sindex, fun d ds e h => ?_, fun F own B H v d vs ds Q g hv hx q => ?_⟩
  · unfold dIndexS at h
    split at h <;> (try split at h) <;> cases h
  · unfold dIndexS at q
    split at q
    · cases hv.str
      obtain ⟨v, rfl, hv⟩ := hx.one
      cases hv.str
      split at q
      · rename_i i r hi
        exact ⟨_, _, i, r, rfl, rfl, hi, q _ _ _ (.refl g) (.int _)⟩
      · exact q.elim
    · exact q.elim
theorem mth_starts : ∃ r, MtR X "str.startswith" r ∧ MethD X r dStarts := by
  refine ⟨_, mt_startswith, fun d ds e h => ?_, fun F own B H v d vs ds Q g hv hx q => ?_⟩
  · unfold dStarts at h
    split at h <;> cases h
  · unfold dStarts at q
    split at q
    · cases hv.str
      obtain ⟨v, rfl, hv⟩ := hx.one
      cases hv.str
      exact ⟨_, _, rfl, rfl, q _ _ _ (.refl g) (.bl _)⟩
    · exact q.elim
end

/-! ### what a loop walks: frozen items -/
def IterF (K : PySem.W.Frag) (F : Hp) (J : It) (items : List D) (B0 : Hp) : Prop :=
  ∀ (own : Own) (B H : Hp), Ext B0 B → Ground F own B H → ∀ i, (i = items.length → J.stop i H) ∧ (∀ d, items[i]? = some d → J.go i H ∧ ∀ x H', J.yld i H x H' → ∃ B', Step own F B H B' H' ∧ Rp K B' x d)
/-- .. while what is owned stays -/
def IterB (K : PySem.W.Frag) (F : Hp) (J : It) (items : List D) (own0 : Own) (B0 H0 : Hp) : Prop :=
  ∀ (own : Own) (B H : Hp), Ext B0 B → (∀ a, own0 a ≠ none → own a ≠ none ∧ H a = H0 a) → Ground F own B H → ∀ i, (i = items.length → J.stop i H) ∧ (∀ d, items[i]? = some d → J.go i H ∧ ∀ x H', J.yld i H x H' → ∃ B', Step own F B H B' H' ∧ Rp K B' x d)
theorem IterF.b {K : PySem.W.Frag} {F : Hp} {J : It} {items : List D} {own0 : Own} {B0 H0 : Hp} (h : IterF K F J items B0) : IterB K F J items own0 B0 H0 := fun own B H e _ g => h own B H e g
def EvI (X : Cx) (W : WX) (G : List Mode) (wi : TI) (g : Rho → Res (List D)) : Prop :=
  ∀ (F : Hp) (ρ : Rho) (own : Own) (B : Hp) (σ : L2.St) (H : Hp) (R : It → Hp → Prop), Good X.K F G ρ own B σ H →
    (g ρ).has (fun items => ∀ (J : It) (B' H' : Hp), Step own F B H B' H' → IterF X.K F J items B' → R J H') (WOk X.K X.mg W own F B H σ) → wi σ H R
def EvIB (X : Cx) (W : WX) (G : List Mode) (wi : TI) (g : Rho → Res (List D)) : Prop :=
  ∀ (F : Hp) (ρ : Rho) (own : Own) (B : Hp) (σ : L2.St) (H : Hp) (R : It → Hp → Prop), Good X.K F G ρ own B σ H →
    (g ρ).has (fun items => ∀ (J : It) (B' H' : Hp), Step own F B H B' H' → IterB X.K F J items own B' H' → R J H') (WOk X.K X.mg W own F B H σ) → wi σ H R
def IJ (X : Cx) (W : WX) (G : List Mode) (tg e : Expr) (g : Rho → Res (List D)) : Prop := ∃ wi, PI X tg e wi ∧ EvI X W G wi g
def IBJ (X : Cx) (W : WX) (G : List Mode) (tg e : Expr) (g : Rho → Res (List D)) : Prop := ∃ wi, PI X tg e wi ∧ EvIB X W G wi g
theorem IJ.b {X : Cx} {W : WX} {G : List Mode} {tg e : Expr} {g : Rho → Res (List D)} (h : IJ X W G tg e g) : IBJ X W G tg e g :=
  let ⟨wi, p, v⟩ := h; ⟨wi, p, fun F ρ own B σ H R gd q => v F ρ own B σ H R gd (Res.has_mono q (fun _ q J B' H' s i => q J B' H' s i.b) fun _ x => x)⟩
theorem pi_or2 {X : Cx} {tg e : Expr} {t t' : TI} (h : PI X tg e t) (h' : PI X tg e t') : PI X tg e (fun σ H Q => t σ H Q ∨ t' σ H Q) := ⟨fun pins s σ H Q I q => by
  rcases q with q | q
  · exact h.run pins s σ H Q I q
  · exact h'.run pins s σ H Q I q⟩
def dItems : D → Res (List D)
  | .lst xs => .ok xs
  | .tup xs => .ok xs
  | .scr xs => .ok xs
  | .str z => .ok (z.cps.toList.map fun c => .str ⟨#[c]⟩)
  | _ => .no
theorem iter_lst {K : PySem.W.Frag} {F : Hp} {a : Addr} {vs : List V} {ds : List D} {own0 : Own} {B0 H0 : Hp} (g0 : Ground F own0 B0 H0) (hl : H0 a = some (.lst vs)) (hb : B0 a = some (.lst vs) ∨ own0 a ≠ none) (r : RpA K B0 vs ds) : IterB K F (Itl K a) ds own0 B0 H0 := fun own B H e o g i => by
  have hH : H a = some (.lst vs) := by
    rcases hb with hb | hb
    · exact (g.base a _ (e a _ hb)).1
    · rw [(o a hb).2]
      exact hl
  have sq : SqL K H a vs := .inl (.inl hH)
  refine ⟨fun h => ⟨vs, sq, by rw [r.len]; omega⟩, fun d hd => ?_⟩
  obtain ⟨v, h1, h2⟩ := r.get hd
  refine ⟨⟨vs, v, sq, h1⟩, fun x H' y => ?_⟩
  obtain ⟨rfl, y⟩ := y
  have ev := y vs sq
  rw [h1] at ev
  cases ev
  exact ⟨B, .refl g, h2.mono e⟩
theorem iter_scr {K : PySem.W.Frag} {F : Hp} {a : Addr} {vs : List V} {ds : List D} {B0 : Hp} (sq0 : SqL K B0 a vs) (r : RpA K B0 vs ds) : IterF K F (Itl K a) ds B0 := fun own B H e g i => by
  have sq : SqL K H a vs := Same.seq (Same.trans e g.same) sq0
  refine ⟨fun h => ⟨vs, sq, by rw [r.len]; omega⟩, fun d hd => ?_⟩
  obtain ⟨v, h1, h2⟩ := r.get hd
  refine ⟨⟨vs, v, sq, h1⟩, fun x H' y => ?_⟩
  obtain ⟨rfl, y⟩ := y
  have ev := y vs sq
  rw [h1] at ev
  cases ev
  exact ⟨B, .refl g, h2.mono e⟩
theorem iter_tup {K : PySem.W.Frag} {F : Hp} {a : Addr} {vs : List V} {ds : List D} {B0 : Hp} (sq0 : SqT K B0 a vs) (r : RpA K B0 vs ds) : IterF K F (Itt K a) ds B0 := fun own B H e g i => by
  have sq : SqT K H a vs := Ext.seqT (Same.trans e g.same) sq0
  refine ⟨fun h => ⟨vs, sq, by rw [r.len]; omega⟩, fun d hd => ?_⟩
  obtain ⟨v, h1, h2⟩ := r.get hd
  refine ⟨⟨vs, v, sq, h1⟩, fun x H' y => ?_⟩
  obtain ⟨rfl, y⟩ := y
  have ev := y vs sq
  rw [h1] at ev
  cases ev
  exact ⟨B, .refl g, h2.mono e⟩
theorem iter_str {K : PySem.W.Frag} {F : Hp} {z : Str} {B0 : Hp} : IterF K F (Its z) (z.cps.toList.map fun c => .str ⟨#[c]⟩) B0 := fun own B H e g i => by
  refine ⟨fun h => ?_, fun d hd => ?_⟩
  · show z.cps.size ≤ i
    rw [h]
    simp
  · simp only [List.getElem?_map, Option.map_eq_some_iff] at hd
    obtain ⟨c, h1, rfl⟩ := hd
    have h1' : z.cps[i]? = some c := by
      rw [← Array.getElem?_toList]
      exact h1
    refine ⟨?_, fun x H' y => ?_⟩
    · show i < z.cps.size
      exact (Array.getElem?_eq_some_iff.mp h1').1
    · obtain ⟨rfl, c', h2, rfl⟩ := y
      rw [h1'] at h2
      cases h2
      exact ⟨B, .refl g, .str _⟩
section
variable {X : Cx} {W : WX} {G : List Mode} {tg e a b c : Expr} {p pos : Pos}
theorem ij_seq {g : Rho → Res D} (h : EJ X W G e g) : IJ X W G tg e (fun ρ => (g ρ).bind dItems) := by
  obtain ⟨t, pe, ve⟩ := h
  refine ⟨_, pi_or2 (pi_list pe) (pi_or2 (pi_tup pe) (pi_str pe)), fun F ρ own B σ H R gd q => ?_⟩
  have q0 := Res.has_bind q
  cases hg : g ρ with
  | no =>
    rw [hg] at q0
    exact q0.elim
  | ex x =>
    rw [hg] at q0
    refine .inl (ve F ρ own B σ H _ gd ?_)
    rw [hg]
    exact q0
  | ok d =>
    rw [hg] at q0
    have q1 : (dItems d).has _ _ := q0
    cases d with
    | lst xs =>
      refine .inl (ve F ρ own B σ H _ gd ?_)
      rw [hg]
      intro v B' H' s r
      cases r with
      | lst hl rv => exact ⟨_, rfl, ⟨_, .inl (.inl ((gd.gr.step s).base _ _ hl).1)⟩, q1 _ B' H' s (iter_scr (.inl (.inl hl)) rv)⟩
    | scr xs =>
      refine .inl (ve F ρ own B σ H _ gd ?_)
      rw [hg]
      intro v B' H' s r
      cases r with
      | scr hl rv => exact ⟨_, rfl, ⟨_, Same.seq (gd.gr.step s).same hl⟩, q1 _ B' H' s (iter_scr hl rv)⟩
    | tup xs =>
      refine .inr (.inl (ve F ρ own B σ H _ gd ?_))
      rw [hg]
      intro v B' H' s r
      cases r with
      | tup hl rv => exact ⟨_, rfl, ⟨_, Ext.seqT (gd.gr.step s).same hl⟩, q1 _ B' H' s (iter_tup hl rv)⟩
    | str z =>
      refine .inr (.inr (ve F ρ own B σ H _ gd ?_))
      rw [hg]
      intro v B' H' s r
      cases r
      exact ⟨z, rfl, q1 _ B' H' s iter_str⟩
    | _ => exact q1.elim
/-- over an owned list -/
theorem ibj_own {g : Rho → Res D} (h : BJ X W G e g) : IBJ X W G tg e (fun ρ => (g ρ).bind fun d => match d with
    | .lst xs => .ok xs
    | _ => .no) := by
  obtain ⟨t, pe, ve⟩ := h
  refine ⟨_, pi_list pe, fun F ρ own B σ H R gd q => ?_⟩
  refine ve F ρ own B σ H _ gd (Res.has_mono (Res.has_bind q) (fun d q v B' H' s r => ?_) fun _ x => x)
  cases d with
  | lst xs =>
    have g' := gd.gr.step s
    rcases r with r | ⟨l, vs, ds, e1, e2, h1, h2, h3⟩
    · cases r with
      | lst hl rv => exact ⟨_, rfl, ⟨_, .inl (.inl (g'.base _ _ hl).1)⟩, q _ B' H' s (iter_scr (.inl (.inl hl)) rv).b⟩
    · cases e2
      subst e1
      exact ⟨l, rfl, ⟨vs, .inl (.inl h2)⟩, q _ B' H' s (iter_lst g' h2 (.inr h1) h3)⟩
  | _ => exact q.elim
def upFrom (lo : Int) (n : Nat) : List D := (List.range n).map fun i => .int (lo + (i : Nat))
theorem iter_rng {K : PySem.W.Frag} {F : Hp} {lo : Int} {n : Nat} {B0 : Hp} : IterF K F (Itr lo n) (upFrom lo n) B0 := fun own B H e g i => by
  refine ⟨fun h => ?_, fun d hd => ?_⟩
  · show n ≤ i
    rw [h]
    simp [upFrom]
  · simp only [upFrom, List.getElem?_map, Option.map_eq_some_iff] at hd
    obtain ⟨j, h1, rfl⟩ := hd
    obtain ⟨h2, h3⟩ := List.getElem?_eq_some_iff.mp h1
    simp at h3 h2
    subst h3
    refine ⟨h2, fun x H' y => ?_⟩
    obtain ⟨rfl, rfl⟩ := y
    exact ⟨B, .refl g, .int _⟩
def dRng1 : List D → Res (List D)
  | [.int j] => if -(2 ^ 62) ≤ j ∧ j < 2 ^ 62 then .ok (upFrom 0 j.toNat) else .no
  | _ => .no
def dRng2 : List D → Res (List D)
  | [.int i, .int j] => if -(2 ^ 62) ≤ i ∧ i < 2 ^ 62 ∧ -(2 ^ 62) ≤ j ∧ j < 2 ^ 62 then .ok (upFrom i (j - i).toNat) else .no
  | _ => .no
theorem ij_range1 {g : Rho → Res (List D)} (hg : Gl X "range") (hm : X.mg "range" = none) (ha : AJ X W G [a] g) (hs : starEach [a] X.env = [(false, eval a X.env)] := by rfl) :
    IJ X W G tg (.Call (.Name "range" p) [a] [] pos) (callV dRng1 g) := by
  obtain ⟨t, pe, ve⟩ := ha
  refine ⟨_, pi_range1 hg hm pe hs, fun F ρ own B σ H R gd q => ?_⟩
  refine ve F ρ own B σ H _ gd (Res.has_mono (Res.has_bind q) (fun ds q vs B' H' s r => ?_) fun _ x => x)
  unfold dRng1 at q
  split at q
  · split at q
    · rename_i hz
      cases r with
      | cons r1 r2 =>
        cases r1
        cases r2
        exact ⟨_, rfl, hz.1, hz.2, q _ B' H' s iter_rng⟩
    · exact q.elim
  · exact q.elim
theorem ij_range2 {g : Rho → Res (List D)} (hg : Gl X "range") (hm : X.mg "range" = none) (ha : AJ X W G [a, b] g) (hs : starEach [a, b] X.env = [(false, eval a X.env), (false, eval b X.env)] := by rfl) (hs2 : starEach [b] X.env = [(false, eval b X.env)] := by rfl) :
    IJ X W G tg (.Call (.Name "range" p) [a, b] [] pos) (callV dRng2 g) := by
  obtain ⟨t, pe, ve⟩ := ha
  refine ⟨_, pi_range2 hg hm pe hs hs2, fun F ρ own B σ H R gd q => ?_⟩
  refine ve F ρ own B σ H _ gd (Res.has_mono (Res.has_bind q) (fun ds q vs B' H' s r => ?_) fun _ x => x)
  unfold dRng2 at q
  split at q
  · split at q
    · rename_i hz
      cases r with
      | cons r1 r2 =>
        cases r1
        cases r2 with
        | cons r2 r3 =>
          cases r2
          cases r3
          exact ⟨_, _, rfl, hz, q _ B' H' s iter_rng⟩
    · exact q.elim
  · exact q.elim
/-- range(a, b, -1) -/
def downFrom (hi : Int) (n : Nat) : List D := (List.range n).map fun i => .int (hi + (i : Nat) * (-1))
theorem iter_rngC {K : PySem.W.Frag} {F : Hp} {lo : Int} {n : Nat} {B0 : Hp} : IterF K F (Itc lo (-1) n) (downFrom lo n) B0 := fun own B H e g i => by
  refine ⟨fun h => ?_, fun d hd => ?_⟩
  · show n ≤ i
    rw [h]
    simp [downFrom]
  · simp only [downFrom, List.getElem?_map, Option.map_eq_some_iff] at hd
    obtain ⟨j, h1, rfl⟩ := hd
    obtain ⟨h2, h3⟩ := List.getElem?_eq_some_iff.mp h1
    simp at h3 h2
    subst h3
    refine ⟨h2, fun x H' y => ?_⟩
    obtain ⟨rfl, rfl⟩ := y
    exact ⟨B, .refl g, .int _⟩
def dRngD : List D → Res (List D)
  | [.int i, .int j, .int (-1)] => if -(2 ^ 62) ≤ i ∧ i < 2 ^ 62 ∧ -(2 ^ 62) ≤ j ∧ j < 2 ^ 62 then .ok (downFrom i (i - j).toNat) else .no
  | _ => .no
theorem ij_rangeD {g : Rho → Res (List D)} (hg : Gl X "range") (hm : X.mg "range" = none) (ha : AJ X W G [a, b, c] g)
    (hs : starEach [a, b, c] X.env = (false, eval a X.env) :: starEach [b, c] X.env := by rfl) (hpl : (backTo pos (starEach [b, c] X.env)).any (·.1) = false := by rfl) :
    IJ X W G tg (.Call (.Name "range" p) [a, b, c] [] pos) (callV dRngD g) := by
  obtain ⟨t, pe, ve⟩ := ha
  refine ⟨_, pi_range3 hg hm pe hs hpl, fun F ρ own B σ H R gd q => ?_⟩
  refine ve F ρ own B σ H _ gd (Res.has_mono (Res.has_bind q) (fun ds q vs B' H' s r => ?_) fun _ x => x)
  unfold dRngD at q
  split at q
  · rename_i i j
    split at q
    · rename_i hz
      cases r with
      | cons r1 r2 =>
        cases r1
        cases r2 with
        | cons r2 r3 =>
          cases r2
          cases r3 with
          | cons r3 r4 =>
            cases r3
            cases r4
            exact ⟨_, _, _, _, rfl, RgC.neg hz.1 hz.2.1 hz.2.2.1 hz.2.2.2, q _ B' H' s iter_rngC⟩
    · exact q.elim
  · exact q.elim
end
end T

set_option Elab.async false
set_option linter.all false
set_option maxRecDepth 100000
set_option maxHeartbeats 4000000
/-! T-layer, part E: setting slots, targets, comprehensions. -/
namespace T
open PySem PySem.Spec PyProof.Rows L2

/-! ### the slots set -/
/-- what label n owned is let go -/
def dropL (own : Own) (n : Nat) : Own := fun a => match own a with
  | some (m :: r) => if m = n then none else some (m :: r)
  | o => o
theorem dropL_some {own : Own} {n : Nat} {a : Addr} {l : Lab} (h : dropL own n a = some l) : own a = some l := by
  unfold dropL at h
  split at h
  · split at h
    · cases h
    · rename_i e _
      rw [e]
      exact h
  · exact h
theorem dropL_ne {own : Own} {n m : Nat} {r : Lab} {a : Addr} (h : own a = some (m :: r)) (ne : m ≠ n) : dropL own n a = some (m :: r) := by
  unfold dropL
  rw [h]
  simp [ne]
theorem VRep.own_congr {K : PySem.W.Frag} {B H : Hp} {own own' : Own} : ∀ {m : Mode} {lab : Lab} {v : V} {d : D}, (∀ a r, own a = some (lab ++ r) → own' a = some (lab ++ r)) → VRep K B H own m lab v d → VRep K B H own' m lab v d
  | .fz, _, _, _, _, h => h
  | .raw _ _, _, _, _, _, h => h
  | .own m, lab, _, _, c, ⟨l, vs, ds, hv, hd, ho, hl, hn, h⟩ =>
    ⟨l, vs, ds, hv, hd, by simpa using c l [] (by simpa using ho), hl, hn, fun k v' d' h1 h2 => VRep.own_congr (fun a r e => by
      have := c a (k :: r) (by simpa using e)
      simpa using this) (h k v' d' h1 h2)⟩
theorem none_back {own own' : Own} {a : Addr} (h : ∀ a l, own' a = some l → own a = some l) (e : own a = none) : own' a = none := by
  cases q : own' a with
  | none => rfl
  | some l =>
    have := h a l q
    rw [e] at this
    cases this
theorem Ground.drop {F : Hp} {own own' : Own} {B H : Hp} (g : Ground F own B H) (h : ∀ a l, own' a = some l → own a = some l) : Ground F own' B H where
  base := fun a o e => ⟨(g.base a o e).1, none_back h (g.base a o e).2⟩
  frame := fun a o e => ⟨(g.frame a o e).1, none_back h (g.frame a o e).2.1, (g.frame a o e).2.2⟩
  live := fun a e => g.live a fun z => e (none_back h z)
section
variable {K : PySem.W.Frag} {F B H : Hp} {own : Own} {G : List Mode} {ρ : Rho} {σ : L2.St}
theorem Good.set (g : Good K F G ρ own B σ H) {i : Nat} {v : V} {d : D} (r : Rp K B v d) : Good K F (G.set i .fz) (ρ.set i (some d)) (dropL own (i + 1)) B (σ.set i (some v)) H where
  gr := g.gr.drop fun a l h => dropL_some h
  len := by simpa using g.len
  slots := fun j e he => by
    have hl := g.len
    by_cases hj : i = j
    · subst hj
      have hlt : i < ρ.length := by
        have := (List.getElem?_eq_some_iff.mp he).1
        simpa using this
      rw [List.getElem?_set_self hlt] at he
      cases he
      refine ⟨v, List.getElem?_set_self (by omega), ?_⟩
      have e1 : (G.set i Mode.fz).getD i .fz = .fz := by
        by_cases hG : i < G.length
        · simp [List.getD, List.getElem?_set_self hG]
        · rw [List.set_eq_of_length_le (Nat.le_of_not_lt hG)]
          simp [List.getD, List.getElem?_eq_none (Nat.le_of_not_lt hG)]
      rw [e1]
      exact r
    · rw [List.getElem?_set_ne hj] at he
      obtain ⟨w, h1, h2⟩ := g.slots j e he
      refine ⟨w, by rw [List.getElem?_set_ne hj]; exact h1, ?_⟩
      have e1 : (G.set i Mode.fz).getD j .fz = G.getD j .fz := by simp [List.getD, List.getElem?_set_ne hj]
      rw [e1]
      exact VRep.own_congr (fun a r e => dropL_ne e (by omega)) h2
/-- .. a slot that owns nothing -/
theorem Good.set0 (g : Good K F G ρ own B σ H) {i : Nat} {v : V} {d : D} (hG : G.getD i .fz = .fz) (r : Rp K B v d) : Good K F G (ρ.set i (some d)) own B (σ.set i (some v)) H where
  gr := g.gr
  len := by simpa using g.len
  slots := fun j e he => by
    have hl := g.len
    by_cases hj : i = j
    · subst hj
      have hlt : i < ρ.length := by
        have := (List.getElem?_eq_some_iff.mp he).1
        simpa using this
      rw [List.getElem?_set_self hlt] at he
      cases he
      refine ⟨v, List.getElem?_set_self (by omega), ?_⟩
      rw [hG]
      exact r
    · rw [List.getElem?_set_ne hj] at he
      obtain ⟨w, h1, h2⟩ := g.slots j e he
      exact ⟨w, by rw [List.getElem?_set_ne hj]; exact h1, h2⟩
end

/-! ### targets -/
/-- only these slots differ -/
def OnlyAt (is : List Nat) (σ σ' : L2.St) : Prop := σ'.length = σ.length ∧ ∀ j, j ∉ is → σ'[j]? = σ[j]?
theorem OnlyAt.refl {is : List Nat} {σ : L2.St} : OnlyAt is σ σ := ⟨rfl, fun _ _ => rfl⟩
theorem OnlyAt.trans {is js : List Nat} {σ σ' σ2 : L2.St} (h : OnlyAt is σ σ') (h' : OnlyAt js σ' σ2) : OnlyAt (is ++ js) σ σ2 :=
  ⟨h'.1.trans h.1, fun j hj => by
    rw [List.mem_append, not_or] at hj
    exact (h'.2 j hj.2).trans (h.2 j hj.1)⟩
theorem wipe_get {σ : L2.St} : ∀ {vs : List Nat} (j : Nat), (wipe σ vs)[j]? = if j ∈ vs then (if j < σ.length then some none else none) else σ[j]?
  | [], j => by simp [wipe]
  | v :: vs, j => by
    unfold wipe
    by_cases h : v = j
    · subst h
      rw [List.getElem?_set]
      simp [wipe_length]
    · rw [List.getElem?_set_ne h, wipe_get j]
      have : (j ∈ v :: vs) ↔ j ∈ vs := by simp [Ne.symm h]
      simp [this]
theorem wipe_only {is vs : List Nat} {σ σ' : L2.St} (h : OnlyAt is (wipe σ vs) σ') (hs : ∀ i ∈ is, i ∈ vs) : wipe σ' vs = wipe σ vs := by
  apply List.ext_getElem?
  intro j
  rw [wipe_get, wipe_get]
  have hl : σ'.length = σ.length := by rw [h.1, wipe_length]
  by_cases hj : j ∈ vs
  · simp [hj, hl]
  · have hj' : j ∉ is := fun q => hj (hs j q)
    have := h.2 j hj'
    rw [wipe_get] at this
    simp only [hj, if_false] at this ⊢
    exact this
abbrev Bnd := D → Rho → Option Rho
abbrev BndA := List D → Rho → Option Rho
/-- a target: b its mirror, is the slots that it stores into -/
def GJ (X : Cx) (tg : Expr) (b : Bnd) (is : List Nat) : Prop := ∃ g, PG X tg g ∧ ∀ (F : Hp) (own : Own) (B : Hp) (σ : L2.St) (H : Hp) (G : List Mode) (ρ ρ' : Rho) (v : V) (d : D) (Q : L2.St → Hp → Prop),
  Good X.K F G ρ own B σ H → Rp X.K B v d → b d ρ = some ρ' → (∀ i ∈ is, G.getD i .fz = .fz) →
    (∀ σ', Good X.K F G ρ' own B σ' H → OnlyAt is σ σ' → Q σ' H) → g v σ H Q
def GAJ (X : Cx) (tgs : List Expr) (b : BndA) (is : List Nat) : Prop := ∃ g, PGs X tgs g ∧ ∀ (F : Hp) (own : Own) (B : Hp) (σ : L2.St) (H : Hp) (G : List Mode) (ρ ρ' : Rho) (vs : List V) (ds : List D) (Q : L2.St → Hp → Prop),
  Good X.K F G ρ own B σ H → RpA X.K B vs ds → b ds ρ = some ρ' → (∀ i ∈ is, G.getD i .fz = .fz) →
    (∀ σ', Good X.K F G ρ' own B σ' H → OnlyAt is σ σ' → Q σ' H) → g vs σ H Q
def bNm (i : Nat) : Bnd := fun d ρ => some (ρ.set i (some d))
def bNil : BndA := fun ds ρ => match ds with
  | [] => some ρ
  | _ => none
def bCons (b : Bnd) (c : BndA) : BndA := fun ds ρ => match ds with
  | d :: r => (b d ρ).bind fun ρ' => c r ρ'
  | [] => none
def bTp (n : Nat) (b : BndA) : Bnd := fun d ρ => match d with
  | .tup ds => if ds.length = n then b ds ρ else none
  | .lst ds => if ds.length = n then b ds ρ else none
  | _ => none
section
variable {X : Cx} {x : Str} {pos : Pos} {e : Expr} {es : List Expr}
theorem gj_nm {i : Nat} (h : PG X (.Name x pos) (gName i)) : GJ X (.Name x pos) (bNm i) [i] := ⟨_, h, fun F own B σ H G ρ ρ' v d Q gd r e hG q => by
  cases e
  refine q _ (gd.set0 (hG i (List.mem_singleton.mpr rfl)) r) ⟨by simp, fun j hj => ?_⟩
  rw [List.getElem?_set_ne]
  intro z
  exact hj (by simp [z])⟩
theorem gaj_nil : GAJ X [] bNil [] := ⟨_, pgs_nil, fun F own B σ H G ρ ρ' vs ds Q gd r e hG q => by
  cases r with
  | nil =>
    cases e
    exact ⟨rfl, q _ gd .refl⟩
  | cons _ _ => cases e⟩
theorem gaj_cons {b : Bnd} {c : BndA} {is js : List Nat} (h : GJ X e b is) (h' : GAJ X es c js) (hs : (assignEach (e :: es) X.env).map (·.2) = assign e X.env :: (assignEach es X.env).map (·.2) := by rfl) : GAJ X (e :: es) (bCons b c) (is ++ js) := by
  obtain ⟨g, p, v⟩ := h
  obtain ⟨g', p', v'⟩ := h'
  refine ⟨_, pgs_cons p p' hs, fun F own B σ H G ρ ρ' vs ds Q gd r e hG q => ?_⟩
  cases r with
  | nil => cases e
  | cons r1 r2 =>
    obtain ⟨ρ1, e1, e2⟩ := Option.bind_eq_some_iff.mp e
    refine ⟨_, _, rfl, v F own B σ H G ρ ρ1 _ _ _ gd r1 e1 (fun i hi => hG i (List.mem_append_left _ hi)) fun σ1 g1 o1 => ?_⟩
    refine v' F own B σ1 H G ρ1 ρ' _ _ _ g1 r2 e2 (fun i hi => hG i (List.mem_append_right _ hi)) fun σ2 g2 o2 => ?_
    exact q σ2 g2 (o1.trans o2)
theorem pg_or {t t' : TG} (h : PG X e t) (h' : PG X e t') : PG X e (fun v σ H Q => t v σ H Q ∨ t' v σ H Q) := ⟨fun pins s σ H v u Q I r q => by
  rcases q with q | q
  · exact h.run pins s σ H v u Q I r q
  · exact h'.run pins s σ H v u Q I r q⟩
theorem gj_tp {k : Nat} {b : BndA} {is : List Nat} {n : Nat} (hc : X.calm = true) (h : GAJ X es b is) (hn : (assignEach es X.env).length = n := by rfl) (hst : (assignEach es X.env).findIdx? (·.1) = none := by rfl) : GJ X (.Tuple es k pos) (bTp n b) is := by
  obtain ⟨g, p, v⟩ := h
  refine ⟨_, pg_or (pg_tup hc p hn hst) (pg_lst hc p hn hst), fun F own B σ H G ρ ρ' u d Q gd r e hG q => ?_⟩
  unfold bTp at e
  split at e
  · split at e
    · rename_i hz
      cases r with
      | tup ha rv => exact .inl ⟨_, _, rfl, Ext.seqT gd.gr.same ha, by rw [rv.len]; exact hz, v F own B σ H G ρ ρ' _ _ Q gd rv e hG q⟩
    · cases e
  · split at e
    · rename_i hz
      cases r with
      | lst ha rv => exact .inr ⟨_, _, rfl, .inl (.inl (gd.gr.base _ _ ha).1), by rw [rv.len]; exact hz, v F own B σ H G ρ ρ' _ _ Q gd rv e hG q⟩
    · cases e
  · cases e
end

/-! ### enumerate, zip, reversed -/
def numFrom (i : Nat) : List D → List D
  | [] => []
  | x :: xs => .tup [.int i, x] :: numFrom (i + 1) xs
theorem numFrom_len : ∀ (xs : List D) (i : Nat), (numFrom i xs).length = xs.length
  | [], _ => rfl
  | _ :: xs, i => congrArg (· + 1) (numFrom_len xs (i + 1))
theorem numFrom_get : ∀ (xs : List D) (i j : Nat), (numFrom i xs)[j]? = xs[j]?.map fun x => .tup [.int (i + j : Nat), x]
  | [], _, _ => by simp [numFrom]
  | x :: xs, i, 0 => by simp [numFrom]
  | x :: xs, i, j + 1 => by
    simp only [numFrom, List.getElem?_cons_succ]
    rw [numFrom_get xs (i + 1) j]
    congr 1
    funext y
    congr 3
    omega
theorem iter_enum {K : PySem.W.Frag} {F : Hp} {a : Addr} {vs : List V} {ds : List D} {own0 : Own} {B0 H0 : Hp} (hl : SqL K B0 a vs ∨ (own0 a ≠ none ∧ H0 a = some (.lst vs))) (r : RpA K B0 vs ds) : IterB K F (Ite K a) (numFrom 0 ds) own0 B0 H0 := fun own B H e o g i => by
  have sq : SqL K H a vs := by
    rcases hl with h | h
    · exact Same.seq (Same.trans e g.same) h
    · refine .inl (.inl ?_)
      rw [(o a h.1).2]
      exact h.2
  refine ⟨fun h => ⟨vs, sq, by rw [r.len, ← numFrom_len ds 0]; omega⟩, fun d hd => ?_⟩
  rw [numFrom_get] at hd
  obtain ⟨d', h0, rfl⟩ := Option.map_eq_some_iff.mp hd
  obtain ⟨v, h1, h2⟩ := r.get h0
  refine ⟨⟨vs, v, sq, h1⟩, fun x H' y => ?_⟩
  obtain ⟨T, w, rfl, hT, rfl, y⟩ := y
  have ev := y vs sq
  rw [h1] at ev
  cases ev
  refine ⟨upd B T (.tup [.int (i : Nat), v]), .new g _ hT, .tup (.inl (.inl upd_same)) ?_⟩
  have hb := ext_upd (o := .tup [.int (i : Nat), v]) (g.bfresh hT)
  refine .cons ?_ (.cons ((h2.mono e).mono hb) .nil)
  rw [Nat.zero_add]
  exact .int _
section
variable {X : Cx} {W : WX} {G : List Mode} {tg e e2 a b c : Expr} {p pos tpos : Pos} {elts : List Expr} {kk : Nat}
def dEnum : List D → Res (List D)
  | [.lst xs] => .ok (numFrom 0 xs)
  | [.scr xs] => .ok (numFrom 0 xs)
  | _ => .no
theorem ibj_enum {g : Rho → Res (List D)} (hg : Gl X "enumerate") (hm : X.mg "enumerate" = none) (ha : BAJ X W G [e] g) (hs : starEach [e] X.env = [(false, eval e X.env)] := by rfl) : IBJ X W G (.Tuple elts kk tpos) (.Call (.Name "enumerate" p) [e] [] pos) (callV dEnum g) := by
  obtain ⟨t, pe, ve⟩ := ha
  refine ⟨_, pi_enum hg hm pe hs, fun F ρ own B σ H R gd q => ?_⟩
  refine ve F ρ own B σ H _ gd (Res.has_mono (Res.has_bind q) (fun ds q vs B' H' s r => ?_) fun _ x => x)
  have g' := gd.gr.step s
  unfold dEnum at q
  split at q
  · obtain ⟨v, rfl, hv⟩ := r.one
    rcases hv with hv | ⟨l, us, ds, e1, e2, h1, h2, h3⟩
    · cases hv with
      | lst hl rv => exact ⟨_, _, rfl, .inl (.inl (g'.base _ _ hl).1), q _ B' H' s (iter_enum (.inl (.inl (.inl hl))) rv)⟩
    · cases e2
      subst e1
      exact ⟨_, _, rfl, .inl (.inl h2), q _ B' H' s (iter_enum (.inr ⟨h1, h2⟩) h3)⟩
  · obtain ⟨v, rfl, hv⟩ := r.one
    obtain ⟨l, vs, rfl, hl, rv⟩ := hv.scr
    exact ⟨_, _, rfl, Same.seq g'.same hl, q _ B' H' s (iter_enum (.inl hl) rv)⟩
  · exact q.elim
theorem ij_enum {g : Rho → Res (List D)} (hg : Gl X "enumerate") (hm : X.mg "enumerate" = none) (ha : AJ X W G [e] g) (hs : starEach [e] X.env = [(false, eval e X.env)] := by rfl) : IJ X W G (.Tuple elts kk tpos) (.Call (.Name "enumerate" p) [e] [] pos) (callV dEnum g) := by
  obtain ⟨t, pe, ve⟩ := ha
  refine ⟨_, pi_enum hg hm pe hs, fun F ρ own B σ H R gd q => ?_⟩
  refine ve F ρ own B σ H _ gd (Res.has_mono (Res.has_bind q) (fun ds q vs B' H' s r => ?_) fun _ x => x)
  have g' := gd.gr.step s
  unfold dEnum at q
  split at q
  · cases r with
    | cons r1 r2 =>
      cases r2
      cases r1 with
      | lst hl rv => exact ⟨_, _, rfl, .inl (.inl (g'.base _ _ hl).1), q _ B' H' s fun own1 B1 H1 e1 g1 => iter_enum (own0 := own1) (H0 := H1) (.inl (.inl (.inl hl))) rv own1 B1 H1 e1 (fun a h => ⟨h, rfl⟩) g1⟩
  · cases r with
    | cons r1 r2 =>
      cases r2
      cases r1 with
      | scr hl rv => exact ⟨_, _, rfl, Same.seq g'.same hl, q _ B' H' s fun own1 B1 H1 e1 g1 => iter_enum (own0 := own1) (H0 := H1) (.inl hl) rv own1 B1 H1 e1 (fun a h => ⟨h, rfl⟩) g1⟩
  · exact q.elim
end
end T

set_option Elab.async false
set_option linter.all false
set_option maxRecDepth 100000
set_option maxHeartbeats 4000000
/-! T-layer, part F: comprehensions. -/
namespace T
open PySem PySem.Spec PyProof.Rows L2

def Res.calm {α : Type} : Res α → Res α
  | .ok a => .ok a
  | _ => .no
@[simp] theorem Res.calm_ok {α : Type} (a : α) : (Res.ok a).calm = .ok a := mk_eq0 rfl
theorem Res.has_cb {α β : Type} {r : Res α} {f : α → Res β} {P : β → Prop} {E : Exn → Prop} {E' : Exn → Prop} (h : (r.calm.bind f).has P E) : r.has (fun a => (f a).has P E) E' := by
  cases r with
  | ok a => exact h
  | ex e => exact h.elim
  | no => exact h
def wipeR : Rho → List Nat → Rho
  | ρ, [] => ρ
  | ρ, v :: vs => (wipeR ρ vs).set v none
def lcM (b : Bnd) (c : Rho → Res Bool) (f : Rho → Res D) (ρ : Rho) : List D → Res (List D)
  | [] => .ok []
  | x :: xs => match b x ρ with
    | none => .no
    | some ρ' => (c ρ').calm.bind fun k => if k = true then (f ρ').calm.bind fun y => (lcM b c f ρ xs).bind fun ys => .ok (y :: ys) else lcM b c f ρ xs
def yesB : Rho → Res Bool := fun _ => .ok true
def compV (src : Rho → Res (List D)) (b : Bnd) (c : Rho → Res Bool) (f : Rho → Res D) (vs : List Nat) : Rho → Res (List D) := fun ρ => (src ρ).bind fun items => if items.length ≤ sizeLine then lcM b c f (wipeR ρ vs) items else .no
theorem wipeR_length (ρ : Rho) : ∀ vs : List Nat, (wipeR ρ vs).length = ρ.length
  | [] => rfl
  | v :: vs => by
    unfold wipeR
    rw [List.length_set, wipeR_length ρ vs]
theorem wipeR_some {ρ : Rho} {j : Nat} {d : D} : ∀ {vs : List Nat}, (wipeR ρ vs)[j]? = some (some d) → ρ[j]? = some (some d) ∧ j ∉ vs
  | [], h => ⟨h, by simp⟩
  | v :: vs, h => by
    unfold wipeR at h
    by_cases hi : v = j
    · subst hi
      by_cases hv : v < (wipeR ρ vs).length
      · rw [List.getElem?_set_self hv] at h; cases h
      · rw [List.getElem?_eq_none (by simpa using hv)] at h; cases h
    · rw [List.getElem?_set_ne hi] at h
      obtain ⟨h1, h2⟩ := wipeR_some h
      exact ⟨h1, by simp only [List.mem_cons, not_or]; exact ⟨fun e => hi e.symm, h2⟩⟩
theorem Good.wipe {K : PySem.W.Frag} {F B H : Hp} {own : Own} {G : List Mode} {ρ : Rho} {σ : L2.St} (g : Good K F G ρ own B σ H) (vs : List Nat) : Good K F G (wipeR ρ vs) own B (wipe σ vs) H where
  gr := g.gr
  len := by rw [wipe_length, wipeR_length, g.len]
  slots := fun i d e => by
    obtain ⟨h1, h2⟩ := wipeR_some e
    obtain ⟨v, k1, k2⟩ := g.slots i d h1
    exact ⟨v, by rw [wipe_get]; simp [h2, k1], k2⟩

abbrev W0 : WX := fun _ _ _ _ => False
abbrev Blk (X : Cx) (scope : Scope) (s : Shared) (H : Hp) (C : Addr) (cl : List (Str × Addr)) (fp : List Addr) : Cx := X.blk s H scope (compEnvC scope cl C X.env) fp
section
variable {X : Cx} {W : WX} {G : List Mode} {tg iter elt c : Expr} {scope : Scope}
theorem fam_e {f : Rho → Res D} (h : ∀ s H C cl fp, EJ (Blk X scope s H C cl fp) W0 G elt f) : ∃ te, (∀ s H C cl fp, PE (Blk X scope s H C cl fp) elt te) ∧ Ev X W0 G te f := by
  refine ⟨fun σ H Q => ∀ s H0 C cl fp, (h s H0 C cl fp).choose σ H Q, fun s H0 C cl fp => ⟨fun pins s1 σ H Q I q => ?_⟩, fun F ρ own B σ H Q gd q s H0 C cl fp => ?_⟩
  · exact (h s H0 C cl fp).choose_spec.1.run pins s1 σ H Q I (q s H0 C cl fp)
  · exact (h s H0 C cl fp).choose_spec.2 F ρ own B σ H Q gd q
theorem fam_t {f : Rho → Res Bool} (h : ∀ s H C cl fp, TJ (Blk X scope s H C cl fp) W0 G c f) : ∃ te, (∀ s H C cl fp, PT (Blk X scope s H C cl fp) c te) ∧ EvT X W0 G te f := by
  refine ⟨fun σ H Q => ∀ s H0 C cl fp, (h s H0 C cl fp).choose σ H Q, fun s H0 C cl fp => ⟨fun pins s1 σ H Q I q => ?_⟩, fun F ρ own B σ H Q gd q s H0 C cl fp => ?_⟩
  · exact (h s H0 C cl fp).choose_spec.1.run pins s1 σ H Q I (q s H0 C cl fp)
  · exact (h s H0 C cl fp).choose_spec.2 F ρ own B σ H Q gd q
theorem fam_g {b : Bnd} {is : List Nat} (h : ∀ s H C cl fp, GJ (Blk X scope s H C cl fp) tg b is) : ∃ g, (∀ s H C cl fp, PG (Blk X scope s H C cl fp) tg g) ∧
    ∀ (F : Hp) (own : Own) (B : Hp) (σ : L2.St) (H : Hp) (G : List Mode) (ρ ρ' : Rho) (v : V) (d : T.D) (Q : L2.St → Hp → Prop), Good X.K F G ρ own B σ H → Rp X.K B v d → b d ρ = some ρ' → (∀ i ∈ is, G.getD i .fz = .fz) →
      (∀ σ', Good X.K F G ρ' own B σ' H → OnlyAt is σ σ' → Q σ' H) → g v σ H Q := by
  refine ⟨fun v σ H Q => ∀ s H0 C cl fp, (h s H0 C cl fp).choose v σ H Q, fun s H0 C cl fp => ⟨fun pins s1 σ H v u Q I r q => ?_⟩, fun F own B σ H G ρ ρ' v d Q gd r e hG q s H0 C cl fp => ?_⟩
  · exact (h s H0 C cl fp).choose_spec.1.run pins s1 σ H v u Q I r (q s H0 C cl fp)
  · exact (h s H0 C cl fp).choose_spec.2 F own B σ H G ρ ρ' v d Q gd r e hG q

/-- D, the new list of a comprehension, is owned under the label 0 while it is made -/
def ownD (own : Own) (N : Addr) : Own := fun a => if a = N then some [0] else own a
theorem ownD_self {own : Own} {N : Addr} : ownD own N N = some [0] := by simp [ownD]
theorem ownD_ne {own : Own} {N a : Addr} (h : a ≠ N) : ownD own N a = own a := by simp [ownD, h]
theorem VRep.more {K : PySem.W.Frag} {B H H' : Hp} {own : Own} {N : Addr} (hD : own N = none) (hH : ∀ a, own a ≠ none → H' a = H a) : ∀ {m : Mode} {lab : Lab} {v : V} {d : D}, VRep K B H own m lab v d → VRep K B H' (ownD own N) m lab v d
  | .fz, _, _, _, h => h
  | .raw _ _, _, _, _, h => h
  | .own m, lab, _, _, ⟨l, vs, ds, hv, hd, ho, hl, hn, h⟩ =>
    have ho' : own l ≠ none := by rw [ho]; exact fun z => nomatch z
    ⟨l, vs, ds, hv, hd, by rw [ownD_ne (fun z => by rw [z, hD] at ho; cases ho)]; exact ho, by rw [hH l ho']; exact hl, hn, fun k v' d' h1 h2 => VRep.more hD hH (h k v' d' h1 h2)⟩
/-- the heart: the source's items walked, the new list made -/
theorem lc_heart {own0 : List Nat} {wi : TI} {g : TG} {tt : TT} {te : TE} {b : Bnd} {fc : Rho → Res Bool} {f : Rho → Res D} {src : Rho → Res (List D)} {is : List Nat} (hi : EvIB X W G wi src)
    (hg : ∀ (F : Hp) (own : Own) (B : Hp) (σ : L2.St) (H : Hp) (G : List Mode) (ρ ρ' : Rho) (v : V) (d : T.D) (Q : L2.St → Hp → Prop), Good X.K F G ρ own B σ H → Rp X.K B v d → b d ρ = some ρ' → (∀ i ∈ is, G.getD i .fz = .fz) →
      (∀ σ', Good X.K F G ρ' own B σ' H → OnlyAt is σ σ' → Q σ' H) → g v σ H Q)
    (hsub : ∀ i ∈ is, i ∈ own0) (hG : ∀ i ∈ is, G.getD i Mode.fz = Mode.fz) (ht : EvT X W0 G tt fc) (he : Ev X W0 G te f) : EvN X W G (tLc wi g tt te own0) (compV src b fc f own0) := fun F ρ own B σ H Q gd q => by
  refine hi F ρ own B σ H _ gd (Res.has_mono (Res.has_bind q) (fun items q J B1 H1 s1 itr => ?_) fun _ x => x)
  split at q
  case isFalse => exact q.elim
  rename_i hz
  intro D hD
  have g1 := gd.step s1
  have hDo := g1.gr.ofresh hD
  have hDb := g1.gr.bfresh hD
  have hDf := g1.gr.ffresh hD
  -- the state ahead of turn i
  refine ⟨fun i m H' => m = items.length - i ∧ i ≤ items.length ∧ ∃ (B' : Hp) (vs : List V) (ds : List T.D), Step own F B1 H1 B' H' ∧ B' D = none ∧ H' D = some (.lst vs) ∧ RpA X.K B' vs ds ∧ ds.length ≤ i ∧
      (lcM b fc f (wipeR ρ own0) (items.drop i)).has (fun rest => ∀ (p : Addr) (vs : List V) (B' H' : Hp), Step own F B H B' H' → B' p = none → F p = none → own p = none → H' p = some (.lst vs) → RpA X.K B' vs (ds ++ rest) → Q (.ref p) H') (fun _ => False),
    ⟨items.length, by omega, Nat.zero_le _, B1, [], [], .garbage g1.gr _ hD, hDb, upd_same, .nil, Nat.zero_le _, ?_⟩, fun i m H' hW => ?_⟩
  · simp only [List.drop_zero, List.nil_append]
    cases e : lcM b fc f (wipeR ρ own0) items with
    | ok ds =>
      rw [e] at q
      exact q
    | no =>
      rw [e] at q
      exact q
    | ex x =>
      exfalso
      clear q itr
      induction items with
      | nil => cases e
      | cons y ys ih =>
        simp only [lcM] at e
        split at e
        · cases e
        · rename_i ρ' _
          cases h1 : fc ρ' with
          | ok k =>
            rw [h1] at e
            simp only [Res.calm_ok, Res.bind_ok] at e
            split at e
            · cases h2 : f ρ' with
              | ok y' =>
                rw [h2] at e
                simp only [Res.calm_ok, Res.bind_ok] at e
                cases h3 : lcM b fc f (wipeR ρ own0) ys with
                | ok zs =>
                  rw [h3] at e
                  cases e
                | no =>
                  rw [h3] at e
                  cases e
                | ex z =>
                  rw [h3] at e
                  cases e
                  exact ih (by simp only [List.length_cons] at hz; omega) h3
              | ex _ =>
                rw [h2] at e
                cases e
              | no =>
                rw [h2] at e
                cases e
            · exact ih (by simp only [List.length_cons] at hz; omega) e
          | ex _ =>
            rw [h1] at e
            cases e
          | no =>
            rw [h1] at e
            cases e
  · obtain ⟨rfl, hile, B', vs, ds, s2, hBD, hHD, rvs, hlen, rest⟩ := hW
    have g2 := g1.step s2
    -- the ground with D owned
    have grD : Ground F (ownD own D) B' H' := ⟨fun a o e => ⟨(g2.gr.base a o e).1, by
        rw [ownD_ne (fun z => by rw [z, hBD] at e; cases e)]
        exact (g2.gr.base a o e).2⟩, fun a o e => ⟨(g2.gr.frame a o e).1, by
        rw [ownD_ne (fun z => by rw [z, hDf] at e; cases e)]
        exact (g2.gr.frame a o e).2.1, (g2.gr.frame a o e).2.2⟩, fun a h => by
        by_cases ha : a = D
        · rw [ha, hHD]
          exact fun z => nomatch z
        · rw [ownD_ne ha] at h
          exact g2.gr.live a h⟩
    have gdD : Good X.K F G (wipeR ρ own0) (ownD own D) B' (wipe σ own0) H' := by
      have gw := g2.wipe own0
      exact ⟨grD, gw.len, fun j d e => by
        obtain ⟨v, h1, h2⟩ := gw.slots j d e
        exact ⟨v, h1, VRep.more hDo (fun a _ => rfl) h2⟩⟩
    have itr' := itr (ownD own D) B' H' s2.ext (fun a h => ⟨by
      by_cases ha : a = D
      · rw [ha, ownD_self]
        exact fun z => nomatch z
      · rw [ownD_ne ha]
        exact h, (s2.ownd a h).1⟩) grD i
    by_cases hi' : i = items.length
    · refine .inl ⟨itr'.1 hi', ?_⟩
      rw [hi', List.drop_length] at rest
      have rest' : ∀ (p : Addr) (vs : List V) (B' H' : Hp), Step own F B H B' H' → B' p = none → F p = none → own p = none → H' p = some (.lst vs) → RpA X.K B' vs (ds ++ []) → Q (.ref p) H' := rest
      rw [List.append_nil] at rest'
      exact rest' D vs B' H' (s1.trans s2) hBD hDf hDo hHD rvs
    · have hlt : i < items.length := by omega
      have hd : items[i]? = some items[i] := List.getElem?_eq_getElem hlt
      obtain ⟨go, yld⟩ := itr'.2 _ hd
      refine .inr ⟨go, _, fun H4 h4 => ⟨items.length - (i + 1), by omega, h4⟩, fun x H3 hy => ?_⟩
      obtain ⟨B3, s3, rx⟩ := yld x H3 hy
      rw [List.drop_eq_getElem_cons hlt] at rest
      simp only [lcM] at rest
      split at rest
      · exact rest.elim
      · rename_i ρ' hb
        have gd3 := gdD.step s3
        -- what a step over D owned is for own
        have down : ∀ {Ba Ha Bb Hb : Hp}, Step (ownD own D) F Ba Ha Bb Hb → Step own F Ba Ha Bb Hb := fun {Ba Ha Bb Hb} s => ⟨s.ext, s.base, fun a h => s.ownd a (by
          by_cases ha : a = D
          · rw [ha, ownD_self]
            exact fun z => nomatch z
          · rw [ownD_ne ha]
            exact h), s.frame⟩
        refine hg F (ownD own D) B3 (wipe σ own0) H3 G _ ρ' x _ _ gd3 rx hb hG fun σ' gd4 o4 => ⟨wipe_only o4 hsub, ?_⟩
        refine ht F ρ' (ownD own D) B3 σ' H3 _ gd4 (Res.has_mono (Res.has_cb (E' := fun _ => False) rest) (fun k rest B5 H5 s5 => ?_) fun _ x => x.elim)
        have sAll := (s2.trans (down s3)).trans (down s5)
        have dn : ∀ {Ba Ha Bb Hb : Hp}, Step (ownD own D) F Ba Ha Bb Hb → Hb D = Ha D ∧ Bb D = none := fun {Ba Ha Bb Hb} s => s.ownd D (by rw [ownD_self]; exact fun z => nomatch z)
        cases k with
        | false => exact ⟨rfl, by omega, B5, vs, ds, sAll, (dn s5).2, by rw [(dn s5).1, (dn s3).1]; exact hHD, (rvs.mono s3.ext).mono s5.ext, by omega, rest⟩
        | true =>
          refine he F ρ' (ownD own D) B5 σ' H5 _ (gd4.step s5) (Res.has_mono (Res.has_cb (E' := fun _ => False) rest) (fun y rest v B6 H6 s6 r6 => ?_) fun _ x => x.elim)
          have hH6 : H6 D = some (.lst vs) := by rw [(dn s6).1, (dn s5).1, (dn s3).1]; exact hHD
          have sA6 := sAll.trans (down s6)
          refine ⟨vs, hH6, by rw [rvs.len]; omega, rfl, by omega, B6, vs ++ [v], ds ++ [y], ?_, (dn s6).2, upd_same, (((rvs.mono s3.ext).mono s5.ext).mono s6.ext).app (.cons r6 .nil), by simp; omega, ?_⟩
          · exact ⟨sA6.ext, fun a o e => by
              rw [upd_ne (fun z => by rw [z, (dn s6).2] at e; cases e)]
              exact sA6.base a o e, fun a ho => by
              have ne : a ≠ D := fun z => ho (by rw [z]; exact hDo)
              rw [upd_ne ne]
              exact sA6.ownd a ho, fun a o e => by
              rw [upd_ne (fun z => by rw [z, hDf] at e; cases e)]
              exact sA6.frame a o e⟩
          · refine Res.has_mono (Res.has_bind rest) (fun ys q p vs B' H' s7 h1 h2 h3 h4 h5 => ?_) fun _ x => x
            have q' : ∀ (p : Addr) (vs : List V) (B' H' : Hp), Step own F B H B' H' → B' p = none → F p = none → own p = none → H' p = some (.lst vs) → RpA X.K B' vs (ds ++ y :: ys) → Q (.ref p) H' := q
            exact q' p vs B' H' s7 h1 h2 h3 h4 (by simpa using h5)
variable {own0 : List (Str × Nat)} {b : Bnd} {f : Rho → Res D} {fc : Rho → Res Bool} {src : Rho → Res (List D)} {is : List Nat} {pos spos py : Pos}
theorem nj_lc (hc : X.calm = true) (hN : X.N.Nodup) (hi : IBJ X W G tg iter src) (ok : BlkOk X.N X.env.scope scope own0) (hg : ∀ s H C cl fp, GJ (Blk X scope s H C cl fp) tg b is) (hsub : ∀ i ∈ is, i ∈ own0.map (·.2)) (hG : ∀ i ∈ is, G.getD i Mode.fz = Mode.fz)
    (he : ∀ s H C cl fp, EJ (Blk X scope s H C cl fp) W0 G elt f) (hs : ∀ x, foldedSetIterable iter X.env x = pure x := by intro _; rfl) : NJ X W G (.ListComp elt [⟨tg, iter, [], 0⟩] scope pos) (compV src b yesB f (own0.map (·.2))) := by
  obtain ⟨wi, pi, vi⟩ := hi
  obtain ⟨te, pe, ve⟩ := fam_e he
  obtain ⟨g, pg, vg⟩ := fam_g hg
  exact ⟨_, pe_lc hc hN pi ok pg (fun _ _ _ _ _ => pts_nil) pe hs, lc_heart vi vg hsub hG (fun F ρ own B σ H Q gd q => q B H (.refl gd.gr)) ve⟩
theorem nj_lcIf (hc : X.calm = true) (hN : X.N.Nodup) (hi : IBJ X W G tg iter src) (ok : BlkOk X.N X.env.scope scope own0) (hg : ∀ s H C cl fp, GJ (Blk X scope s H C cl fp) tg b is) (hsub : ∀ i ∈ is, i ∈ own0.map (·.2)) (hG : ∀ i ∈ is, G.getD i Mode.fz = Mode.fz)
    (ht : ∀ s H C cl fp, TJ (Blk X scope s H C cl fp) W0 G c fc) (he : ∀ s H C cl fp, EJ (Blk X scope s H C cl fp) W0 G elt f) (hs : ∀ x, foldedSetIterable iter X.env x = pure x := by intro _; rfl) : NJ X W G (.ListComp elt [⟨tg, iter, [c], 0⟩] scope pos) (compV src b fc f (own0.map (·.2))) := by
  obtain ⟨wi, pi, vi⟩ := hi
  obtain ⟨te, pe, ve⟩ := fam_e he
  obtain ⟨tt, pt, vt⟩ := fam_t ht
  obtain ⟨g, pg, vg⟩ := fam_g hg
  exact ⟨_, pe_lc hc hN pi ok pg (fun s H C cl fp => pts_one (pt s H C cl fp)) pe hs, lc_heart vi vg hsub hG vt ve⟩
/-- y = [..], y in slot i -/
def LcJ (X : Cx) (W : WX) (G : List Mode) (y : Str) (py : Pos) (i : Nat) (e : Expr) (spos : Pos) (g : Rho → Res (List D)) : Prop := ∃ te, PS X (.Assign [.Name y py] e spos) (tAsg te (gName i)) ∧ EvN X W G te g
theorem lcj {i : Nat} {y : Str} (hc : X.calm = true) (hN : X.N.Nodup) (hy : X.N[i]? = some y) (hyl : X.env.scope.names.lookup y = some .local)
    (hsw : swapsWith (.ListComp elt [⟨tg, iter, [], 0⟩] scope pos) (some (.Name y py)) spos.line X.env = pure true) (hi : IBJ X W G tg iter src) (ok : BlkOk X.N X.env.scope scope own0) (hg : ∀ s H C cl fp, GJ (Blk X scope s H C cl fp) tg b is) (hsub : ∀ i ∈ is, i ∈ own0.map (·.2))
    (hG : ∀ i ∈ is, G.getD i Mode.fz = Mode.fz) (he : ∀ s H C cl fp, EJ (Blk X scope s H C cl fp) W0 G elt f) (hs : ∀ x, foldedSetIterable iter X.env x = pure x := by intro _; rfl) : LcJ X W G y py i (.ListComp elt [⟨tg, iter, [], 0⟩] scope pos) spos (compV src b yesB f (own0.map (·.2))) := by
  obtain ⟨wi, pi, vi⟩ := hi
  obtain ⟨te, pe, ve⟩ := fam_e he
  obtain ⟨g, pg, vg⟩ := fam_g hg
  exact ⟨_, ps_setLc hc hN hy hyl hsw pi ok pg (fun _ _ _ _ _ => pts_nil) pe hs, lc_heart vi vg hsub hG (fun F ρ own B σ H Q gd q => q B H (.refl gd.gr)) ve⟩
theorem lcjIf {i : Nat} {y : Str} (hc : X.calm = true) (hN : X.N.Nodup) (hy : X.N[i]? = some y) (hyl : X.env.scope.names.lookup y = some .local)
    (hsw : swapsWith (.ListComp elt [⟨tg, iter, [c], 0⟩] scope pos) (some (.Name y py)) spos.line X.env = pure true) (hi : IBJ X W G tg iter src) (ok : BlkOk X.N X.env.scope scope own0) (hg : ∀ s H C cl fp, GJ (Blk X scope s H C cl fp) tg b is) (hsub : ∀ i ∈ is, i ∈ own0.map (·.2))
    (hG : ∀ i ∈ is, G.getD i Mode.fz = Mode.fz) (ht : ∀ s H C cl fp, TJ (Blk X scope s H C cl fp) W0 G c fc) (he : ∀ s H C cl fp, EJ (Blk X scope s H C cl fp) W0 G elt f) (hs : ∀ x, foldedSetIterable iter X.env x = pure x := by intro _; rfl) : LcJ X W G y py i (.ListComp elt [⟨tg, iter, [c], 0⟩] scope pos) spos (compV src b fc f (own0.map (·.2))) := by
  obtain ⟨wi, pi, vi⟩ := hi
  obtain ⟨te, pe, ve⟩ := fam_e he
  obtain ⟨tt, pt, vt⟩ := fam_t ht
  obtain ⟨g, pg, vg⟩ := fam_g hg
  exact ⟨_, ps_setLc hc hN hy hyl hsw pi ok pg (fun s H C cl fp => pts_one (pt s H C cl fp)) pe hs, lc_heart vi vg hsub hG vt ve⟩
end
end T

set_option Elab.async false
set_option linter.all false
set_option maxRecDepth 100000
set_option maxHeartbeats 4000000
/-! T-layer, part G: statements, loops, defs. -/
namespace T
open PySem PySem.Spec PyProof.Rows L2

inductive Out where
  | nx (ρ : Rho) | rt (d : D) | bk (ρ : Rho) | ct (ρ : Rho) | ex (e : Exn) (ρ : Rho) | no
/-- the modes at a break, a continue; the mode of what is returned -/
structure LM where
  bk : List Mode
  ct : List Mode
  rt : Mode
def PostS (X : Cx) (W : WX) (L : LM) (G' : List Mode) (F B : Hp) (D : Ends) : Out → Prop
  | .nx ρ => ∀ (own : Own) (B' : Hp) (σ : L2.St) (H : Hp), Ext B B' → Good X.K F G' ρ own B' σ H → D.nx σ H
  | .bk ρ => ∀ (own : Own) (B' : Hp) (σ : L2.St) (H : Hp), Ext B B' → Good X.K F L.bk ρ own B' σ H → D.bk σ H
  | .ct ρ => ∀ (own : Own) (B' : Hp) (σ : L2.St) (H : Hp), Ext B B' → Good X.K F L.ct ρ own B' σ H → D.ct σ H
  | .rt d => ∀ (v : V) (own : Own) (B' H : Hp), Ext B B' → Ground F own B' H → VRep X.K B' H own L.rt [0] v d → D.rt v H
  | .ex e ρ => ∀ (c : Value) (dx : Option Addr) (B' : Hp) (σ : L2.St) (H : Hp), Ext B B' → Good X.K F [] ρ (fun _ => none) B' σ H → ExR X.K X.mg B' H e c dx → W c dx σ H
  | .no => False
def EvS (X : Cx) (W : WX) (L : LM) (G : List Mode) (t : TS) (f : Rho → Out) (G' : List Mode) : Prop :=
  ∀ (F : Hp) (ρ : Rho) (own : Own) (B : Hp) (σ : L2.St) (H : Hp) (D : Ends), Good X.K F G ρ own B σ H → PostS X W L G' F B D (f ρ) → t D σ H
def SJ (X : Cx) (W : WX) (L : LM) (G : List Mode) (st : Stmt) (f : Rho → Out) (G' : List Mode) : Prop := ∃ t, PS X st t ∧ EvS X W L G t f G'
def SsJ (X : Cx) (W : WX) (L : LM) (G : List Mode) (st : List Stmt) (f : Rho → Out) (G' : List Mode) : Prop := ∃ t, PSs X st t ∧ EvS X W L G t f G'
theorem PostS.ext {X : Cx} {W : WX} {L : LM} {G' : List Mode} {F B B1 : Hp} {D : Ends} (e : Ext B B1) : ∀ {o : Out}, PostS X W L G' F B D o → PostS X W L G' F B1 D o
  | .nx _, q => fun own B' σ H e' => q own B' σ H (e.trans e')
  | .bk _, q => fun own B' σ H e' => q own B' σ H (e.trans e')
  | .ct _, q => fun own B' σ H e' => q own B' σ H (e.trans e')
  | .rt _, q => fun v own B' H e' => q v own B' H (e.trans e')
  | .ex _ _, q => fun c dx B' σ H e' => q c dx B' σ H (e.trans e')
  | .no, q => q

/-! ### letting go: an owned slot freezes -/
theorem ExR.mono {K : PySem.W.Frag} {mg : Str → Option Value} {B B' H : Hp} {e : Exn} {c : Value} {dx : Option Addr} (x : ExR K mg B H e c dx) (h : Ext B B') : ExR K mg B' H e c dx := ⟨x.cls, by
  exact x.fs.mono h⟩
/-- slot j keeps its mode -/
def keepsM (G G2 : List Mode) (j : Nat) : Bool := decide (G2.getD j Mode.fz = G.getD j Mode.fz)
def leM (G2 G : List Mode) : Prop := ∀ j : Nat, G2.getD j Mode.fz = G.getD j Mode.fz ∨ G2.getD j Mode.fz = Mode.fz
def leB : List Mode → List Mode → Bool
  | [], _ => true
  | m :: ms, [] => decide (m = Mode.fz) && leB ms []
  | m :: ms, n :: ns => (decide (m = n) || decide (m = Mode.fz)) && leB ms ns
theorem leM_of : ∀ {G2 G : List Mode}, leB G2 G = true → leM G2 G
  | [], _, _, j => .inr (by simp)
  | m :: ms, [], h, j => by
    simp only [leB, Bool.and_eq_true, decide_eq_true_eq] at h
    cases j with
    | zero => exact .inr (by simpa using h.1)
    | succ j =>
      have := leM_of h.2 j
      simpa using this
  | m :: ms, n :: ns, h, j => by
    simp only [leB, Bool.and_eq_true, Bool.or_eq_true, decide_eq_true_eq] at h
    cases j with
    | zero => simpa using h.1
    | succ j =>
      have := leM_of h.2 j
      simpa using this
/-- what stays owned -/
def ownTo (G G2 : List Mode) (own : Own) : Own := fun a => match own a with
  | some ((j + 1) :: r) => if keepsM G G2 j then some ((j + 1) :: r) else none
  | _ => none
def baseTo (G G2 : List Mode) (own : Own) (B H : Hp) : Hp := fun a => match own a with
  | some ((j + 1) :: _) => if keepsM G G2 j then B a else H a
  | some _ => H a
  | none => B a
section
variable {K : PySem.W.Frag} {F B H : Hp} {own : Own} {G G2 : List Mode} {ρ : Rho} {σ : L2.St}
theorem baseTo_ext (g : Ground F own B H) : Ext B (baseTo G G2 own B H) := fun a o e => by
  unfold baseTo
  rw [(g.base a o e).2]
  exact e
theorem ground_to (g : Ground F own B H) : Ground F (ownTo G G2 own) (baseTo G G2 own B H) H where
  base := fun a o e => by
    unfold baseTo at e
    unfold ownTo
    split at e
    · rename_i j r hj
      rw [hj]
      split at e
      · have := g.bnone (a := a) (by rw [hj]; exact fun z => nomatch z)
        rw [this] at e
        cases e
      · rename_i hk
        simp [e, hk]
    · rename_i l hne hl
      refine ⟨e, ?_⟩
      rw [hl]
      split
      · rename_i j r hj
        cases hj
        exact (hne j r rfl).elim
      · rfl
    · rename_i hl
      rw [hl]
      exact ⟨(g.base a o e).1, rfl⟩
  frame := fun a o e => by
    obtain ⟨h1, h2, h3⟩ := g.frame a o e
    unfold ownTo baseTo
    rw [h2]
    exact ⟨h1, rfl, h3⟩
  live := fun a h => g.live a fun z => h (by unfold ownTo; rw [z])
theorem VRep.frozen (h0 : ∀ a o, B a = some o → own a = none) : ∀ {m : Mode} {j : Nat} {r : Lab} {v : V} {d : D}, keepsM G G2 j = false → VRep K B H own m ((j + 1) :: r) v d → Rp K (baseTo G G2 own B H) v d
  | .fz, j, r, v, d, hk, h => Rp.mono (fun a o e => by
      unfold baseTo
      rw [h0 a o e]
      exact e) h
  | .raw a dx, j, r, v, d, hk, ⟨h1, fs, h2, h3⟩ => by
    subst h1 h2
    exact .exc _ _
  | .own m, j, r, v, d, hk, ⟨l, vs, ds, hv, hd, ho, hl, hn, h⟩ => by
    subst hv hd
    refine .lst ?_ (RpA.of_get hn fun k v' d' h1 h2 => VRep.frozen h0 (r := r ++ [k]) hk (by simpa using h k v' d' h1 h2))
    unfold baseTo
    rw [ho]
    simp [hk, hl]
theorem VRep.kept (h0 : ∀ a o, B a = some o → own a = none) : ∀ {m : Mode} {j : Nat} {r : Lab} {v : V} {d : D}, keepsM G G2 j = true → VRep K B H own m ((j + 1) :: r) v d → VRep K (baseTo G G2 own B H) H (ownTo G G2 own) m ((j + 1) :: r) v d
  | .fz, j, r, v, d, hk, h => Rp.mono (fun a o e => by
      unfold baseTo
      rw [h0 a o e]
      exact e) h
  | .raw a dx, j, r, v, d, hk, ⟨h1, fs, h2, h3⟩ => ⟨h1, fs, h2, h3.mono fun a o e => by
      unfold baseTo
      rw [h0 a o e]
      exact e⟩
  | .own m, j, r, v, d, hk, ⟨l, vs, ds, hv, hd, ho, hl, hn, h⟩ =>
    ⟨l, vs, ds, hv, hd, by unfold ownTo; rw [ho]; simp [hk], hl, hn, fun k v' d' h1 h2 => VRep.kept h0 (r := r ++ [k]) hk (by simpa using h k v' d' h1 h2)⟩
/-- GHOST: slots freeze -/
theorem Good.to (g : Good K F G ρ own B σ H) (hle : leM G2 G) : Good K F G2 ρ (ownTo G G2 own) (baseTo G G2 own B H) σ H where
  gr := ground_to g.gr
  len := g.len
  slots := fun i d e => by
    obtain ⟨v, h1, h2⟩ := g.slots i d e
    refine ⟨v, h1, ?_⟩
    have h0 : ∀ a o, B a = some o → own a = none := fun a o e => (g.gr.base a o e).2
    by_cases hk : keepsM G G2 i = true
    · have e2 : G2.getD i Mode.fz = G.getD i Mode.fz := of_decide_eq_true hk
      rw [e2]
      exact VRep.kept h0 hk h2
    · have hk' : keepsM G G2 i = false := by simpa using hk
      rcases hle i with z | z
      · exact absurd (decide_eq_true z) hk
      · rw [z]
        exact VRep.frozen h0 hk' h2
theorem Good.all (g : Good K F G ρ own B σ H) : ∃ B', Ext B B' ∧ Good K F [] ρ (fun _ => none) B' σ H := by
  have hle : leM [] G := fun j => .inr (by simp)
  have g2 := g.to hle
  refine ⟨_, baseTo_ext (G := G) (G2 := []) g.gr, ⟨⟨fun a o e => ⟨(g2.gr.base a o e).1, rfl⟩, fun a o e => ⟨(g2.gr.frame a o e).1, rfl, (g2.gr.frame a o e).2.2⟩, fun a h => absurd rfl h⟩, g2.len, fun i d e => ?_⟩⟩
  obtain ⟨v, h1, h2⟩ := g2.slots i d e
  exact ⟨v, h1, h2⟩
end
section
variable {X : Cx} {W : WX} {L : LM} {G G' G2 : List Mode} {st : Stmt} {sts : List Stmt} {f : Rho → Out}
theorem ev_to {t : TS} (h : EvS X W L G2 t f G') (hle : leM G2 G) : EvS X W L G t f G' := fun F ρ own B σ H D gd q =>
  h F ρ _ _ σ H D (gd.to hle) (q.ext (baseTo_ext gd.gr))
theorem ev_out {t : TS} (h : EvS X W L G t f G') (hle : leM G2 G') : EvS X W L G t f G2 := fun F ρ own B σ H D gd q => by
  refine h F ρ own B σ H D gd ?_
  cases e : f ρ with
  | nx ρ' =>
    rw [e] at q
    exact fun own B' σ H e' g' => q _ _ σ H (e'.trans (baseTo_ext g'.gr)) (g'.to hle)
  | _ =>
    rw [e] at q
    exact q
theorem ssj_to (h : SsJ X W L G2 sts f G') (hle : leB G2 G = true) : SsJ X W L G sts f G' := let ⟨t, p, v⟩ := h; ⟨t, p, ev_to v (leM_of hle)⟩
theorem ssj_out (h : SsJ X W L G sts f G') (hle : leB G2 G' = true) : SsJ X W L G sts f G2 := let ⟨t, p, v⟩ := h; ⟨t, p, ev_out v (leM_of hle)⟩
theorem sj_to (h : SJ X W L G2 st f G') (hle : leB G2 G = true) : SJ X W L G st f G' := let ⟨t, p, v⟩ := h; ⟨t, p, ev_to v (leM_of hle)⟩

/-- an expression's exception leaves a statement -/
theorem WOk.out {F B H : Hp} {own : Own} {ρ : Rho} {σ : L2.St} {e : Exn} {D : Ends} (g : Good X.K F G ρ own B σ H) (q : PostS X W L G' F B D (.ex e ρ)) : WOk X.K X.mg W own F B H σ e := fun c dx B' H' s x => by
  obtain ⟨B2, e2, g2⟩ := (g.step s).all
  exact q c dx B2 σ H' (s.ext.trans e2) g2 (x.mono e2)
/-- what an expression gives goes on -/
def thenS {α : Type} (r : Res α) (ρ : Rho) (k : α → Out) : Out := match r with
  | .ok a => k a
  | .ex e => .ex e ρ
  | .no => .no
theorem thenS_has {α : Type} {r : Res α} {F B H : Hp} {own : Own} {ρ : Rho} {σ : L2.St} {D : Ends} {k : α → Out} (g : Good X.K F G ρ own B σ H) (q : PostS X W L G' F B D (thenS r ρ k)) : r.has (fun a => PostS X W L G' F B D (k a)) (WOk X.K X.mg W own F B H σ) := by
  cases r with
  | ok a => exact q
  | ex e => exact WOk.out g q
  | no => exact q

/-! ### blocks -/
def sSkip : Rho → Out := .nx
def sSeq (f g : Rho → Out) : Rho → Out := fun ρ => match f ρ with
  | .nx ρ' => g ρ'
  | o => o
theorem ssj_nil : SsJ X W L G [] sSkip G := ⟨_, pss_nil, fun F ρ own B σ H D gd q => q own B σ H (Same.refl B) gd⟩
theorem ssj_one (h : SJ X W L G st f G') : SsJ X W L G [st] f G' := let ⟨t, p, v⟩ := h; ⟨t, pss_one p, v⟩
theorem ssj_cons {g : Rho → Out} (h : SJ X W L G st f G2) (h' : SsJ X W L G2 sts g G') : SsJ X W L G (st :: sts) (sSeq f g) G' := by
  obtain ⟨t, p, v⟩ := h
  obtain ⟨u, p', v'⟩ := h'
  refine ⟨_, pss_cons p p', fun F ρ own B σ H D gd q => ?_⟩
  refine v F ρ own B σ H _ gd ?_
  unfold sSeq at q
  cases e : f ρ with
  | nx ρ' =>
    rw [e] at q
    exact fun own B' σ H e' g' => v' F ρ' own B' σ H D g' (q.ext e')
  | _ =>
    rw [e] at q
    exact q
theorem sj_pass {pos : Pos} : SJ X W L G (.Pass pos) sSkip G := ⟨_, ps_pass, fun F ρ own B σ H D gd q => q own B σ H (Same.refl B) gd⟩
theorem sj_break {pos : Pos} (h : leB L.bk G = true := by rfl) : SJ X W L G (.Break pos) .bk G' := ⟨_, ps_break, fun F ρ own B σ H D gd q => q _ _ σ H (baseTo_ext gd.gr) (gd.to (leM_of h))⟩
theorem sj_cont {pos : Pos} (h : leB L.ct G = true := by rfl) : SJ X W L G (.Continue pos) .ct G' := ⟨_, ps_continue, fun F ρ own B σ H D gd q => q _ _ σ H (baseTo_ext gd.gr) (gd.to (leM_of h))⟩
theorem sj_never : SJ X W L G st (fun _ => .no) G' := ⟨_, ps_never, fun F ρ own B σ H D gd q => q.elim⟩
def sIf (c : Rho → Res Bool) (f g : Rho → Out) : Rho → Out := fun ρ => thenS (c ρ) ρ fun b => if b = true then f ρ else g ρ
theorem sj_if {c : Expr} {a b : List Stmt} {gc : Rho → Res Bool} {g : Rho → Out} {pos : Pos} (hc : TJ X W G c gc) (ha : SsJ X W L G a f G') (hb : SsJ X W L G b g G') : SJ X W L G (.If c a b pos) (sIf gc f g) G' := by
  obtain ⟨tc, pc, vc⟩ := hc
  obtain ⟨ta, pa, va⟩ := ha
  obtain ⟨tb, pb, vb⟩ := hb
  refine ⟨_, ps_if pc pa pb, fun F ρ own B σ H D gd q => ?_⟩
  refine vc F ρ own B σ H _ gd (Res.has_mono (thenS_has gd q) (fun b q B' H' s => ?_) fun _ x => x)
  cases b with
  | true => exact va F ρ own B' σ H' D (gd.step s) (q.ext s.ext)
  | false => exact vb F ρ own B' σ H' D (gd.step s) (q.ext s.ext)

/-! ### assignments -/
variable {e : Expr} {x : Str} {i : Nat} {pos px : Pos}
def sSet (i : Nat) (g : Rho → Res D) : Rho → Out := fun ρ => thenS (g ρ) ρ fun d => .nx (ρ.set i (some d))
def sSetN (i : Nat) (g : Rho → Res (List D)) : Rho → Out := fun ρ => thenS (g ρ) ρ fun d => .nx (ρ.set i (some (.lst d)))
theorem ev_set {te : TE} {g : Rho → Res D} (v : Ev X W G te g) : EvS X W L G (tAsg te (gName i)) (sSet i g) (G.set i Mode.fz) := fun F ρ own B σ H D gd q => by
  refine v F ρ own B σ H _ gd (Res.has_mono (thenS_has gd q) (fun d q u B' H' s r => ?_) fun _ x => x)
  exact q _ B' _ H' s.ext ((gd.step s).set r)
theorem sj_set {g : Rho → Res D} (hN : X.N.Nodup) (hi : X.N[i]? = some x) (hx : Loc X.env.scope x) (he : EJ X W G e g) (hs : swapsWith e (some (.Name x px)) pos.line X.env = pure false := by rfl)
    (hf : X.fn x = true ∨ X.env.scope.names.lookup x = some .local := by first | exact .inl rfl | exact .inr rfl | assumption) : SJ X W L G (.Assign [.Name x px] e pos) (sSet i g) (G.set i Mode.fz) := by
  obtain ⟨te, pe, ve⟩ := he
  exact ⟨_, ps_set hN hi hx pe hs hf, ev_set ve⟩
/-- a new list becomes the slot's own -/
theorem Good.setN {K : PySem.W.Frag} {F B H B' H' : Hp} {own : Own} {ρ : Rho} {σ : L2.St} {p : Addr} {vs : List V} {ds : List D} (g : Good K F G ρ own B σ H) (s : Step own F B H B' H') (hB : B' p = none) (hF : F p = none) (ho : own p = none) (hp : H' p = some (.lst vs)) (r : RpA K B' vs ds)
    (hi : (G.set i (Mode.own Mode.fz)).getD i Mode.fz = Mode.own Mode.fz) : Good K F (G.set i (Mode.own Mode.fz)) (ρ.set i (some (.lst ds))) (fun a => if a = p then some [i + 1] else dropL own (i + 1) a) B' (σ.set i (some (.ref p))) H' := by
  have g1 := g.step s
  refine ⟨⟨fun a o e => ?_, fun a o e => ?_, fun a h => ?_⟩, by simpa using g.len, fun j d e => ?_⟩
  · have ne : a ≠ p := fun z => by
      rw [z, hB] at e
      cases e
    simp only [ne, if_false]
    exact ⟨(g1.gr.base a o e).1, none_back (fun a l h => dropL_some h) (g1.gr.base a o e).2⟩
  · have ne : a ≠ p := fun z => by
      rw [z, hF] at e
      cases e
    simp only [ne, if_false]
    exact ⟨(g1.gr.frame a o e).1, none_back (fun a l h => dropL_some h) (g1.gr.frame a o e).2.1, (g1.gr.frame a o e).2.2⟩
  · by_cases ha : a = p
    · rw [ha, hp]
      exact fun z => nomatch z
    · simp only [ha, if_false] at h
      exact g1.gr.live a fun z => h (none_back (fun a l h => dropL_some h) z)
  · have hl := g.len
    by_cases hj : i = j
    · subst hj
      have hlt : i < ρ.length := by
        have := (List.getElem?_eq_some_iff.mp e).1
        simpa using this
      rw [List.getElem?_set_self hlt] at e
      cases e
      refine ⟨.ref p, List.getElem?_set_self (by omega), ?_⟩
      rw [hi]
      refine ⟨p, vs, ds, rfl, rfl, by simp, hp, r.len, fun k v' d' h1 h2 => ?_⟩
      obtain ⟨d2, e1, e2⟩ := r.get' h1
      rw [h2] at e1
      cases e1
      exact e2
    · rw [List.getElem?_set_ne hj] at e
      obtain ⟨w, h1, h2⟩ := g1.slots j d e
      refine ⟨w, by rw [List.getElem?_set_ne hj]; exact h1, ?_⟩
      have e1 : (G.set i (Mode.own Mode.fz)).getD j Mode.fz = G.getD j Mode.fz := by simp [List.getD, List.getElem?_set_ne hj]
      rw [e1]
      refine VRep.own_congr (fun a r e => ?_) h2
      have ne : a ≠ p := fun z => by
        rw [z, ho] at e
        cases e
      simp only [ne, if_false]
      exact dropL_ne e (by omega)
theorem ev_setN {te : TE} {g : Rho → Res (List D)} (v : EvN X W G te g) (hi : (G.set i (Mode.own Mode.fz)).getD i Mode.fz = Mode.own Mode.fz) : EvS X W L G (tAsg te (gName i)) (sSetN i g) (G.set i (Mode.own Mode.fz)) := fun F ρ own B σ H D gd q => by
  refine v F ρ own B σ H _ gd (Res.has_mono (thenS_has gd q) (fun d q p vs B' H' s hB hF ho hp r => ?_) fun _ x => x)
  exact q _ B' _ H' s.ext (gd.setN s hB hF ho hp r hi)
theorem sj_setN {g : Rho → Res (List D)} (hN : X.N.Nodup) (hi : X.N[i]? = some x) (hx : Loc X.env.scope x) (he : NJ X W G e g) (hm : (G.set i (Mode.own Mode.fz)).getD i Mode.fz = Mode.own Mode.fz := by rfl) (hs : swapsWith e (some (.Name x px)) pos.line X.env = pure false := by rfl)
    (hf : X.fn x = true ∨ X.env.scope.names.lookup x = some .local := by first | exact .inl rfl | exact .inr rfl | assumption) : SJ X W L G (.Assign [.Name x px] e pos) (sSetN i g) (G.set i (Mode.own Mode.fz)) := by
  obtain ⟨te, pe, ve⟩ := he
  exact ⟨_, ps_set hN hi hx pe hs hf, ev_setN ve hm⟩
theorem sj_lc {g : Rho → Res (List D)} (h : LcJ X W G x px i e pos g) : SJ X W L G (.Assign [.Name x px] e pos) (sSet i (lstD g)) (G.set i Mode.fz) := by
  obtain ⟨te, ps, ve⟩ := h
  exact ⟨_, ps, ev_set ve.ev⟩
theorem sj_lcN {g : Rho → Res (List D)} (h : LcJ X W G x px i e pos g) (hm : (G.set i (Mode.own Mode.fz)).getD i Mode.fz = Mode.own Mode.fz := by rfl) : SJ X W L G (.Assign [.Name x px] e pos) (sSetN i g) (G.set i (Mode.own Mode.fz)) := by
  obtain ⟨te, ps, ve⟩ := h
  exact ⟨_, ps, ev_setN ve hm⟩
/-- a, b, .. = e -/
def sUnp (b : Bnd) (g : Rho → Res D) : Rho → Out := fun ρ => thenS (g ρ) ρ fun d => match b d ρ with
  | some ρ' => .nx ρ'
  | none => .no
theorem sj_unp {tg : Expr} {b : Bnd} {is : List Nat} {g : Rho → Res D} (he : EJ X W G e g) (hg : GJ X tg b is) (hG : ∀ i ∈ is, G.getD i Mode.fz = Mode.fz) (h1 : (assignEach [tg] X.env).map (·.2) = [assign tg X.env] := by rfl) (hs : swapsWithSole [tg] e pos.line X.env = pure false := by rfl) (hw : swappedStores [tg] e X.env = pure none := by rfl) :
    SJ X W L G (.Assign [tg] e pos) (sUnp b g) G := by
  obtain ⟨te, pe, ve⟩ := he
  obtain ⟨tg', pg, vg⟩ := hg
  refine ⟨_, ps_asg pe pg hs hw h1, fun F ρ own B σ H D gd q => ?_⟩
  refine ve F ρ own B σ H _ gd (Res.has_mono (thenS_has gd q) (fun d q u B' H' s r => ?_) fun _ x => x)
  cases hb : b d ρ with
  | none =>
    rw [hb] at q
    exact q.elim
  | some ρ' =>
    rw [hb] at q
    exact vg F own B' σ H' G ρ ρ' u d _ (gd.step s) r hb hG fun σ' g' _ => q own B' σ' H' s.ext g'
/-- x += e, ints -/
def sAug (h : Int → Int → Int) (i : Nat) (g : Rho → Res D) : Rho → Out := fun ρ => match ρ[i]? with
  | some (some (.int a)) => thenS (g ρ) ρ fun d => match d with
    | .int b => .nx (ρ.set i (some (.int (h a b))))
    | _ => .no
  | _ => .no
theorem sj_aug {g : Rho → Res D} {op : Operator} {h : Int → Int → Int} (ho : PIp X op (ipI h)) (hN : X.N.Nodup) (hi : X.N[i]? = some x) (hx : Loc X.env.scope x) (hm : G.getD i Mode.fz = Mode.fz) (he : BJ X W G e g)
    (hf : X.fn x = true ∨ X.env.scope.names.lookup x = some .local := by first | exact .inl rfl | exact .inr rfl | assumption) : SJ X W L G (.AugAssign (.Name x px) op e pos) (sAug h i g) G := by
  obtain ⟨te, pe, ve⟩ := he
  refine ⟨_, ps_aug hN hi hx pe ho hf, fun F ρ own B σ H D gd q => ?_⟩
  unfold sAug at q
  split at q
  · rename_i a ha
    obtain ⟨v, h1, h2⟩ := gd.slots i _ ha
    rw [hm] at h2
    cases h2
    refine ⟨_, h1, ve F ρ own B σ H _ gd (Res.has_mono (thenS_has gd q) (fun d q u B' H' s r => ?_) fun _ x => x)⟩
    cases d with
    | int b =>
      cases r.int
      exact ⟨a, b, rfl, rfl, q own B' _ H' s.ext ((gd.step s).set0 hm (.int _))⟩
    | _ => exact q.elim
  · exact q.elim

/-! ### an owned list changes -/
section
variable {K : PySem.W.Frag} {F B H : Hp} {own : Own} {ρ : Rho} {σ : L2.St}
theorem Good.ownAt {d : D} (g : Good K F G ρ own B σ H) (hG : G.getD i Mode.fz = Mode.own Mode.fz) (hρ : ρ[i]? = some (some d)) :
    ∃ (l : Addr) (vs : List V) (ds : List D), σ[i]? = some (some (.ref l)) ∧ d = .lst ds ∧ own l = some [i + 1] ∧ H l = some (.lst vs) ∧ RpA K B vs ds := by
  obtain ⟨v, h1, h2⟩ := g.slots i d hρ
  rw [hG] at h2
  obtain ⟨l, vs, ds, rfl, rfl, ho, hl, hn, h⟩ := h2
  exact ⟨l, vs, ds, h1, rfl, ho, hl, RpA.of_get hn h⟩
theorem VRep.upd {l : Addr} {o : HO} {lb : Lab} (ho : own l = some lb) : ∀ {m : Mode} {lab : Lab} {v : V} {d : D}, (∀ r, lab ++ r ≠ lb) → VRep K B H own m lab v d → VRep K B (upd H l o) own m lab v d
  | .fz, _, _, _, _, h => h
  | .raw _ _, _, _, _, _, h => h
  | .own m, lab, _, _, ne, ⟨l', vs, ds, hv, hd, ho', hl, hn, h⟩ =>
    ⟨l', vs, ds, hv, hd, ho', by
      rw [upd_ne]
      · exact hl
      · intro z
        rw [z, ho] at ho'
        exact ne [] (by simpa using (Option.some.inj ho').symm), hn, fun k v' d' h1 h2 => VRep.upd ho (fun r z => ne (k :: r) (by simpa using z)) (h k v' d' h1 h2)⟩
theorem Good.mut {l : Addr} {vs : List V} {ds : List D} (g : Good K F G ρ own B σ H) (hG : G.getD i Mode.fz = Mode.own Mode.fz) (hσ : σ[i]? = some (some (.ref l))) (ho : own l = some [i + 1]) (r : RpA K B vs ds) :
    Good K F G (ρ.set i (some (.lst ds))) own B σ (upd H l (.lst vs)) := by
  have hoN : own l ≠ none := by rw [ho]; exact fun z => nomatch z
  refine ⟨⟨fun a o e => ?_, fun a o e => ?_, fun a h => ?_⟩, by simpa using g.len, fun j d e => ?_⟩
  · have ne : a ≠ l := fun z => hoN (by rw [← z]; exact (g.gr.base a o e).2)
    rw [upd_ne ne]
    exact g.gr.base a o e
  · have ne : a ≠ l := fun z => hoN (by rw [← z]; exact (g.gr.frame a o e).2.1)
    rw [upd_ne ne]
    exact g.gr.frame a o e
  · by_cases ha : a = l
    · rw [ha, upd_same]
      exact fun z => nomatch z
    · rw [upd_ne ha]
      exact g.gr.live a h
  · by_cases hj : i = j
    · subst hj
      have hlt : i < ρ.length := by
        have := (List.getElem?_eq_some_iff.mp e).1
        simpa using this
      rw [List.getElem?_set_self hlt] at e
      cases e
      refine ⟨.ref l, hσ, ?_⟩
      rw [hG]
      refine ⟨l, vs, ds, rfl, rfl, ho, upd_same, r.len, fun k v' d' h1 h2 => ?_⟩
      obtain ⟨d2, e1, e2⟩ := r.get' h1
      rw [h2] at e1
      cases e1
      exact e2
    · rw [List.getElem?_set_ne hj] at e
      obtain ⟨w, h1, h2⟩ := g.slots j d e
      refine ⟨w, h1, VRep.upd ho (fun r z => ?_) h2⟩
      have := (List.cons.inj z).1
      omega
end
/-- what the owned list of slot i becomes -/
def atL (i : Nat) (ρ : Rho) (k : List D → Out) : Out := match ρ[i]? with
  | some (some (.lst xs)) => k xs
  | _ => .no
theorem atL_has {F B H : Hp} {own : Own} {ρ : Rho} {σ : L2.St} {D : Ends} {k : List T.D → Out} (g : Good X.K F G ρ own B σ H) (hG : G.getD i Mode.fz = Mode.own Mode.fz) (q : PostS X W L G' F B D (atL i ρ k)) :
    ∃ (l : Addr) (vs : List V) (ds : List T.D), σ[i]? = some (some (.ref l)) ∧ ρ[i]? = some (some (.lst ds)) ∧ own l = some [i + 1] ∧ H l = some (.lst vs) ∧ RpA X.K B vs ds ∧ PostS X W L G' F B D (k ds) := by
  unfold atL at q
  split at q
  · rename_i xs hx
    obtain ⟨l, vs, ds, h1, h2, h3, h4, h5⟩ := g.ownAt hG hx
    cases h2
    exact ⟨l, vs, xs, h1, hx, h3, h4, h5, q⟩
  · exact q.elim
def sApp (i : Nat) (g : Rho → Res D) : Rho → Out := fun ρ => atL i ρ fun xs => thenS (g ρ) ρ fun d => if xs.length < sizeLine then .nx (ρ.set i (some (.lst (xs ++ [d])))) else .no
variable {apos cpos : Pos}
theorem sj_app {g : Rho → Res D} (hv : PE X (.Name x px) (tVar i)) (hm : G.getD i Mode.fz = Mode.own Mode.fz) (he : EJ X W G e g)
    (hs : swapsWith (.Call (.Attribute (.Name x px) "append" apos) [e] [] cpos) none pos.line X.env = pure false := by rfl) (hbase : attributeBase (.Name x px) "append" X.env (eval (.Name x px) X.env) = eval (.Name x px) X.env := by rfl)
    (hfew : ((backTo cpos (starEach [e] X.env)).all (fun x => !x.1) && (backToKw cpos (keywordEach [] X.env)).all (fun x => x.1.isSome)
      && decide ([e].length + ([] : List Keyword).length + (if ([] : List Keyword).isEmpty then 0 else 1) < 30)) = true := by rfl)
    (hline : (apos.endLine == cpos.line) = true := by rfl) (hst : starEach [e] X.env = (false, eval e X.env) :: starEach [] X.env := by rfl) (hplain : (backTo cpos (starEach [] X.env)).any (·.1) = false := by rfl) :
    SJ X W L G (.Expr (.Call (.Attribute (.Name x px) "append" apos) [e] [] cpos) pos) (sApp i g) G := by
  obtain ⟨te, pe, ve⟩ := he
  refine ⟨_, ps_expr (pe_bm PySem.F.plainAttrs_list PySem.F.slot_list_append PySem.F.type_list_append mt_append hv (pa_cons pe pa_nil hst) hbase hfew hline hst hplain) hs, fun F ρ own B σ H D gd q => ?_⟩
  obtain ⟨l, vs, ds, h1, h2, h3, h4, h5, q⟩ := atL_has gd hm q
  refine ⟨.ref l, h1, .inl ⟨rfl, vs, .inl (.inl h4)⟩, ?_⟩
  refine ve F ρ own B σ H _ gd (Res.has_mono (thenS_has gd q) (fun d q u B' H' s r => ?_) fun _ x => x)
  split at q
  · rename_i hz
    have hoN : own l ≠ none := by rw [h3]; exact fun z => nomatch z
    refine ⟨l, vs, u, rfl, rfl, (s.ownd l hoN).1.trans h4, by rw [h5.len]; exact hz, ?_⟩
    exact q own B' σ _ s.ext ((gd.step s).mut hm h1 h3 ((h5.mono s.ext).app (.cons r .nil)))
  · exact q.elim
def sSetI (i : Nat) (gk g : Rho → Res D) : Rho → Out := fun ρ => thenS (g ρ) ρ fun d => atL i ρ fun xs => thenS (gk ρ) ρ fun k => match k with
  | .int k => match ixN xs.length k with
    | some j => .nx (ρ.set i (some (.lst (xs.set j d))))
    | none => .no
  | _ => .no
theorem sj_setI {k : Expr} {sp : Pos} {g gk : Rho → Res D} (hv : PE X (.Name x px) (tVar i)) (hm : G.getD i Mode.fz = Mode.own Mode.fz) (he : EJ X W G e g) (hk : BJ X W G k gk)
    (hg : ∀ {to ti : TE}, PE X (.Name x px) to → PE X k ti → PG X (.Subscript (.Name x px) k sp) (gSub to ti rSetL)) (h1 : (assignEach [.Subscript (.Name x px) k sp] X.env).map (·.2) = [assign (.Subscript (.Name x px) k sp) X.env] := by rfl) (hs : swapsWithSole [.Subscript (.Name x px) k sp] e pos.line X.env = pure false := by rfl) (hw : swappedStores [.Subscript (.Name x px) k sp] e X.env = pure none := by rfl) :
    SJ X W L G (.Assign [.Subscript (.Name x px) k sp] e pos) (sSetI i gk g) G := by
  obtain ⟨te, pe, ve⟩ := he
  obtain ⟨tk, pk, vk⟩ := hk
  refine ⟨_, ps_asg pe (hg hv pk) hs hw h1, fun F ρ own B σ H D gd q => ?_⟩
  refine ve F ρ own B σ H _ gd (Res.has_mono (thenS_has gd q) (fun d q u B' H' s r => ?_) fun _ x => x)
  have g1 := gd.step s
  obtain ⟨l, vs, ds, h1, h2, h3, h4, h5, q⟩ := atL_has g1 hm (q.ext s.ext)
  refine ⟨.ref l, h1, ?_⟩
  refine vk F ρ own B' σ H' _ g1 (Res.has_mono (thenS_has g1 q) (fun dk q w B2 H2 s2 r2 => ?_) fun _ x => x)
  cases dk with
  | int k =>
    cases r2.int
    simp only at q
    cases hj : ixN ds.length k with
    | none =>
      rw [hj] at q
      exact q.elim
    | some j =>
      rw [hj] at q
      have hoN : own l ≠ none := by rw [h3]; exact fun z => nomatch z
      refine ⟨l, vs, k, j, rfl, rfl, (s2.ownd l hoN).1.trans h4, by rw [h5.len]; exact hj, ?_⟩
      exact q own B2 σ _ s2.ext ((g1.step s2).mut hm h1 h3 ((h5.mono s2.ext).set j (r.mono s2.ext)))
  | _ => exact q.elim

/-! ### return -/
def sRet (g : Rho → Res D) : Rho → Out := fun ρ => thenS (g ρ) ρ .rt
def sRetN (g : Rho → Res (List D)) : Rho → Out := fun ρ => thenS (g ρ) ρ fun ds => .rt (.lst ds)
theorem sj_ret {g : Rho → Res D} (he : EJ X W G e g) (hm : L.rt = Mode.fz := by rfl) : SJ X W L G (.Return (some e) pos) (sRet g) G' := by
  obtain ⟨te, pe, ve⟩ := he
  refine ⟨_, ps_ret pe, fun F ρ own B σ H D gd q => ?_⟩
  refine ve F ρ own B σ H _ gd (Res.has_mono (thenS_has gd q) (fun d q u B' H' s r => ?_) fun _ x => x)
  refine q u own B' H' s.ext (gd.gr.step s) ?_
  rw [hm]
  exact r
theorem sj_retN {g : Rho → Res (List D)} (he : NJ X W G e g) (hm : L.rt = Mode.own Mode.fz := by rfl) : SJ X W L G (.Return (some e) pos) (sRetN g) G' := by
  obtain ⟨te, pe, ve⟩ := he
  refine ⟨_, ps_ret pe, fun F ρ own B σ H D gd q => ?_⟩
  refine ve F ρ own B σ H _ gd (Res.has_mono (thenS_has gd q) (fun d q p vs B' H' s hB hF ho hp r => ?_) fun _ x => x)
  have g1 := gd.gr.step s
  refine q (.ref p) (fun a => if a = p then some [0] else none) B' H' s.ext ⟨fun a o e => ⟨(g1.base a o e).1, ?_⟩, fun a o e => ⟨(g1.frame a o e).1, ?_, (g1.frame a o e).2.2⟩, fun a h => ?_⟩ ?_
  · have ne : a ≠ p := fun z => by
      rw [z, hB] at e
      cases e
    simp [ne]
  · have ne : a ≠ p := fun z => by
      rw [z, hF] at e
      cases e
    simp [ne]
  · by_cases ha : a = p
    · rw [ha, hp]
      exact fun z => nomatch z
    · simp [ha] at h
  · rw [hm]
    refine ⟨p, vs, d, rfl, rfl, by simp, hp, r.len, fun k v' d' h1 h2 => ?_⟩
    obtain ⟨d2, e1, e2⟩ := r.get' h1
    rw [h2] at e1
    cases e1
    exact e2
/-- return x, x an owned list -/
theorem sj_retV (hv : PE X (.Name x px) (tVar i)) (hG : G.getD i Mode.fz = Mode.own Mode.fz := by rfl) (hm : L.rt = Mode.own Mode.fz := by rfl) : SJ X W L G (.Return (some (.Name x px)) pos) (sRet (getV i)) G' := by
  refine ⟨_, ps_ret hv, fun F ρ own B σ H D gd q => ?_⟩
  unfold sRet getV at q
  cases e : ρ[i]? with
  | none =>
    rw [e] at q
    exact q.elim
  | some o =>
    cases o with
    | none =>
      rw [e] at q
      exact q.elim
    | some d =>
      rw [e] at q
      obtain ⟨l, vs, ds, h1, rfl, h3, h4, h5⟩ := gd.ownAt hG e
      refine ⟨_, h1, q (.ref l) (fun a => if a = l then some [0] else none) B H (Same.refl B) ⟨fun a o e => ⟨(gd.gr.base a o e).1, ?_⟩, fun a o e => ⟨(gd.gr.frame a o e).1, ?_, (gd.gr.frame a o e).2.2⟩, fun a h => ?_⟩ ?_⟩
      · have ne : a ≠ l := fun z => by
          have := (gd.gr.base a o e).2
          rw [z, h3] at this
          cases this
        simp [ne]
      · have ne : a ≠ l := fun z => by
          have := (gd.gr.frame a o e).2.1
          rw [z, h3] at this
          cases this
        simp [ne]
      · by_cases ha : a = l
        · rw [ha, h4]
          exact fun z => nomatch z
        · simp [ha] at h
      · rw [hm]
        refine ⟨l, vs, ds, rfl, rfl, by simp, h4, h5.len, fun k v' d' h1 h2 => ?_⟩
        obtain ⟨d2, e1, e2⟩ := h5.get' h1
        rw [h2] at e1
        cases e1
        exact e2
theorem sj_expr {g : Rho → Res D} (he : BJ X W G e g) (hs : swapsWith e none pos.line X.env = pure false := by rfl) : SJ X W L G (.Expr e pos) (fun ρ => thenS (g ρ) ρ fun _ => .nx ρ) G := by
  obtain ⟨te, pe, ve⟩ := he
  refine ⟨_, ps_expr pe hs, fun F ρ own B σ H D gd q => ?_⟩
  exact ve F ρ own B σ H _ gd (Res.has_mono (thenS_has gd q) (fun d q u B' H' s r => q own B' σ H' s.ext (gd.step s)) fun _ x => x)

/-! ### loops -/
def forM (b : Bnd) (body : Rho → Out) : List D → Rho → Out
  | [], ρ => .nx ρ
  | x :: xs, ρ => match b x ρ with
    | none => .no
    | some ρ1 => match body ρ1 with
      | .nx ρ2 => forM b body xs ρ2
      | .ct ρ2 => forM b body xs ρ2
      | .bk ρ2 => .nx ρ2
      | o => o
def sFor (src : Rho → Res (List D)) (b : Bnd) (body : Rho → Out) : Rho → Out := fun ρ => thenS (src ρ) ρ fun items => forM b body items ρ
theorem sj_for {tg iter : Expr} {body : List Stmt} {src : Rho → Res (List D)} {b : Bnd} {is : List Nat} {fb : Rho → Out} (hp : PassesOwn (model X.prog X.w) X.A X.env X.xe) (hc : X.calm = true) (hi : IJ X W G tg iter src) (hg : GJ X tg b is) (hG : ∀ i ∈ is, G.getD i Mode.fz = Mode.fz)
    (hb : SsJ X W ⟨G, G, L.rt⟩ G body fb G) (hs : ∀ x, foldedSetIterable iter X.env x = pure x := by intro _; rfl) : SJ X W L G (.For tg iter body [] pos) (sFor src b fb) G := by
  obtain ⟨wi, pi, vi⟩ := hi
  obtain ⟨g, pg, vg⟩ := hg
  obtain ⟨tb, pb, vb⟩ := hb
  refine ⟨_, ps_for hp hc pi pg pb hs, fun F ρ own B σ H D gd q => ?_⟩
  refine vi F ρ own B σ H _ gd (Res.has_mono (thenS_has gd q) (fun items q J B1 H1 s1 itr => ?_) fun _ x => x)
  refine ⟨fun i m σ' H' => m = items.length - i ∧ i ≤ items.length ∧ ∃ (ρ' : Rho) (own' : Own) (B' : Hp), Ext B1 B' ∧ Good X.K F G ρ' own' B' σ' H' ∧ PostS X W L G F B1 D (forM b fb (items.drop i) ρ'),
    ⟨items.length, by omega, Nat.zero_le _, ρ, own, B1, Same.refl B1, gd.step s1, by simpa using q.ext s1.ext⟩, fun i m σ' H' hW => ?_⟩
  obtain ⟨rfl, hile, ρ', own', B', e1, g1, q1⟩ := hW
  have itr' := itr own' B' H' e1 g1.gr i
  by_cases hi' : i = items.length
  · refine .inl ⟨itr'.1 hi', ?_⟩
    rw [hi', List.drop_length] at q1
    exact q1 own' B' σ' H' e1 g1
  · have hlt : i < items.length := by omega
    have hd : items[i]? = some items[i] := List.getElem?_eq_getElem hlt
    obtain ⟨go, yld⟩ := itr'.2 _ hd
    refine .inr ⟨go, _, fun σ4 H4 h4 => ⟨items.length - (i + 1), by omega, h4⟩, fun x H3 hy => ?_⟩
    obtain ⟨B3, s3, rx⟩ := yld x H3 hy
    rw [List.drop_eq_getElem_cons hlt] at q1
    simp only [forM] at q1
    cases hb : b items[i] ρ' with
    | none =>
      rw [hb] at q1
      exact q1.elim
    | some ρ1 =>
      rw [hb] at q1
      refine vg F own' B3 σ' H3 G ρ' ρ1 x _ _ (g1.step s3) rx hb hG fun σ2 g2 _ => ?_
      have e3 : Ext B1 B3 := e1.trans s3.ext
      refine vb F ρ1 own' B3 σ2 H3 _ g2 ?_
      simp only at q1
      cases ho : fb ρ1 with
      | nx ρ2 =>
        rw [ho] at q1
        exact fun own4 B4 σ4 H4 e4 g4 => ⟨rfl, by omega, ρ2, own4, B4, e3.trans e4, g4, q1⟩
      | ct ρ2 =>
        rw [ho] at q1
        exact fun own4 B4 σ4 H4 e4 g4 => ⟨rfl, by omega, ρ2, own4, B4, e3.trans e4, g4, q1⟩
      | bk ρ2 =>
        rw [ho] at q1
        exact fun own4 B4 σ4 H4 e4 g4 => q1 own4 B4 σ4 H4 (e3.trans e4) g4
      | rt d =>
        rw [ho] at q1
        exact fun v own4 B4 H4 e4 => q1 v own4 B4 H4 (e3.trans e4)
      | ex x ρ2 =>
        rw [ho] at q1
        exact fun c dx B4 σ4 H4 e4 => q1 c dx B4 σ4 H4 (e3.trans e4)
      | no =>
        rw [ho] at q1
        exact q1
def whileM (c : Rho → Res Bool) (body : Rho → Out) : Nat → Rho → Out
  | 0, _ => .no
  | n + 1, ρ => thenS (c ρ) ρ fun k => if k = true then match body ρ with
      | .nx ρ2 => whileM c body n ρ2
      | .ct ρ2 => whileM c body n ρ2
      | .bk ρ2 => .nx ρ2
      | o => o
    else .nx ρ
theorem sj_while {c : Expr} {body : List Stmt} {gc : Rho → Res Bool} {fb : Rho → Out} (n : Nat) (hp : PassesOwn (model X.prog X.w) X.A X.env X.xe) (hc : TJ X W G c gc) (hb : SsJ X W ⟨G, G, L.rt⟩ G body fb G) : SJ X W L G (.While c body [] pos) (whileM gc fb n) G := by
  obtain ⟨tc, pc, vc⟩ := hc
  obtain ⟨tb, pb, vb⟩ := hb
  refine ⟨_, ps_while hp pc pb, fun F ρ own B σ H D gd q => ?_⟩
  refine ⟨fun m σ' H' => ∃ (ρ' : Rho) (own' : Own) (B' : Hp), Good X.K F G ρ' own' B' σ' H' ∧ PostS X W L G F B' D (whileM gc fb m ρ'), ⟨n, ρ, own, B, gd, q⟩, fun m σ' H' hW => ?_⟩
  obtain ⟨ρ', own', B', g1, q1⟩ := hW
  cases m with
  | zero => exact q1.elim
  | succ m =>
    simp only [whileM] at q1
    refine vc F ρ' own' B' σ' H' _ g1 (Res.has_mono (thenS_has g1 q1) (fun k q2 B2 H2 s2 => ?_) fun _ x => x)
    have q3 := q2.ext s2.ext
    cases k with
    | false => exact q2 own' B2 σ' H2 s2.ext (g1.step s2)
    | true =>
      rw [if_pos rfl] at q3
      rw [if_pos rfl]
      refine ⟨fun σ4 H4 => ∃ (ρ4 : Rho) (own4 : Own) (B4 : Hp), Good X.K F G ρ4 own4 B4 σ4 H4 ∧ PostS X W L G F B4 D (whileM gc fb m ρ4), fun σ4 H4 h4 => ⟨m, Nat.lt_succ_self m, h4⟩, ?_⟩
      refine vb F ρ' own' B2 σ' H2 _ (g1.step s2) ?_
      cases ho : fb ρ' with
      | nx ρ2 =>
        rw [ho] at q3
        exact fun own4 B4 σ4 H4 e4 g4 => ⟨ρ2, own4, B4, g4, q3.ext e4⟩
      | ct ρ2 =>
        rw [ho] at q3
        exact fun own4 B4 σ4 H4 e4 g4 => ⟨ρ2, own4, B4, g4, q3.ext e4⟩
      | _ =>
        rw [ho] at q3
        exact q3
end

/-! ### defs -/
def startR (N : Nat) (ds : List D) : Rho := ds.map some ++ List.replicate (N - ds.length) none
/-- a def's mirror: n parameters, N names, its body -/
def runF (n N : Nat) (f : Rho → Out) : List D → Res D := fun ds => if ds.length = n then match f (startR N ds) with
    | .nx _ => .ok .non
    | .rt d => .ok d
    | .ex e _ => .ex e
    | _ => .no
  else .no
/-- a def's promise, by its mirror m -/
def spT (K : PySem.W.Frag) (mg : Str → Option Value) (md : Mode) (n : Nat) (m : List D → Res D) : Sp := fun vs H Q E => ∃ (ds : List D) (F B : Hp), ds.length = n ∧ RpA K B vs ds ∧ Ground F (fun _ => none) B H ∧
  (m ds).has (fun d => ∀ (v : V) (own : Own) (B' H' : Hp), Ext B B' → Ground F own B' H' → VRep K B' H' own md [0] v d → Q v H') fun e => ∀ (c : Value) (dx : Option Addr) (B' H' : Hp), Ext B B' → Ground F (fun _ => none) B' H' → ExR K mg B' H' e c dx → E c dx H'
abbrev WE1 (E : XK) : WX := fun cls d _ H => E cls d H
theorem good_start {K : PySem.W.Frag} {F B H : Hp} {G : List Mode} {N : Nat} {vs : List V} {ds : List D} {N' : List Str} (hN : N'.length = N) (g : Ground F (fun _ => none) B H) (r : RpA K B vs ds) (hG : ∀ j : Nat, G.getD j Mode.fz = Mode.fz) : Good K F G (startR N ds) (fun _ => none) B (L2.start N' vs) H := by
  refine ⟨g, by simp [startR, L2.start, r.len, hN], fun i d e => ?_⟩
  unfold startR at e
  rw [List.getElem?_append] at e
  split at e
  · rename_i hi
    rw [List.getElem?_map] at e
    obtain ⟨d', e1, e2⟩ := Option.map_eq_some_iff.mp e
    cases e2
    obtain ⟨v, h1, h2⟩ := r.get e1
    refine ⟨v, ?_, ?_⟩
    · unfold L2.start
      rw [List.getElem?_append_left (by simpa [r.len] using hi), List.getElem?_map, h1]
      rfl
    · rw [hG]
      exact h2
  · rename_i hi
    rw [List.getElem?_replicate] at e
    split at e <;> cases e
section
variable {P : Program} {w : World} {K : PySem.W.Frag} {mg : Str → Option Value} {base : Heap}
/-- THE RULE for a def -/
theorem fn_ok {x qual : Str} {st : Stmt} {f : Addr} {fd : FuncData} {N ps : List Str} {k : Nat} {md : Mode} {G : List Mode} {fm : Rho → Out} (Fn : Fun K x qual st f fd) (S : FnScope N ps (defScope st)) (n NN : Nat) (hn : ps.length = n := by rfl) (hNN : N.length = NN := by rfl) (hG : leB G [] = true := by rfl)
    (hm : ∀ ρ, md = Mode.fz ∨ ∀ ρ', fm ρ ≠ .nx ρ')
    (hbody : ∀ (cdv : Value) (A : Around) (outer : List Env) (s : Shared) (H : Hp) (E : XK), Room k (A.deeper (envOfC qual (defScope st) s.heap.objs.size f cdv)) →
      ∃ G', SsJ (cxOf (L2.CX P w) P w K mg base N qual (defScope st) f cdv A outer s H E) (WE1 E) ⟨[], [], md⟩ G (defBody st) fm G') : FnOk P w K mg base (L2.CX P w) (k + 1) f fd ps (spT K mg md n (runF n NN fm)) := by
  refine Fn.okX S (fun vs H Q E h => ?_) (fun cdv A outer s H vs Q E hr h => ?_)
  · obtain ⟨ds, F, B, h1, h2, _⟩ := h
    rw [h2.len, h1, hn]
  · obtain ⟨ds, F, B, h1, h2, h3, h4⟩ := h
    obtain ⟨G', t, p, v⟩ := hbody cdv A outer s H E hr
    refine ⟨t, p, v F (startR NN ds) (fun _ => none) B _ H _ (good_start hNN h3 h2 fun j => ?_) ?_⟩
    · rcases leM_of hG j with z | z
      · rw [z]
        simp
      · exact z
    · unfold runF at h4
      rw [if_pos h1] at h4
      cases e : fm (startR NN ds) with
      | nx ρ' =>
        rw [e] at h4
        rcases hm (startR NN ds) with z | z
        · subst z
          exact fun own B' σ H' e' g' => h4 .non own B' H' e' g'.gr .non
        · exact absurd e (z ρ')
      | rt d =>
        rw [e] at h4
        exact fun v own B' H' e' g' r => h4 v own B' H' e' g' r
      | ex x ρ' =>
        rw [e] at h4
        exact fun c dx B' σ H' e' g' r => h4 c dx B' H' e' g'.gr r
      | _ =>
        rw [e] at h4
        exact h4.elim
end

/-! ### calls of defs -/
/-- what the caller owns, others' for the callee -/
def lend (own : Own) (F H : Hp) : Hp := fun a => match own a with
  | some _ => H a
  | none => F a
section
variable {F B H B' H' : Hp} {own own' : Own}
theorem ground_lend (g : Ground F own B H) : Ground (lend own F H) (fun _ => none) B H where
  base := fun a o e => ⟨(g.base a o e).1, rfl⟩
  frame := fun a o e => by
    unfold lend at e
    split at e
    · rename_i l hl
      exact ⟨e, rfl, g.bnone (by rw [hl]; exact fun z => nomatch z)⟩
    · exact ⟨(g.frame a o e).1, rfl, (g.frame a o e).2.2⟩
  live := fun a h => absurd rfl h
theorem step_lend (g : Ground F own B H) (e : Ext B B') (g' : Ground (lend own F H) own' B' H') : Step own F B H B' H' where
  ext := e
  base := fun a o z => (g'.base a o z).1
  ownd := fun a h => by
    cases hH : H a with
    | none => exact absurd hH (g.live a h)
    | some o =>
      have hl : lend own F H a = some o := by
        unfold lend
        split
        · exact hH
        · rename_i z
          exact absurd z h
      exact ⟨(g'.frame a o hl).1, (g'.frame a o hl).2.2⟩
  frame := fun a o z => by
    have hl : lend own F H a = some o := by
      unfold lend
      rw [(g.frame a o z).2.1]
      exact z
    exact ⟨(g'.frame a o hl).1, (g'.frame a o hl).2.2⟩
end
section
variable {X : Cx} {W : WX} {G : List Mode} {e : Expr} {es : List Expr} {x : Str} {p pos : Pos} {k n : Nat} {f : Addr} {fd : FuncData} {ps : List Str} {m : List D → Res D}
theorem ej_call {g : Rho → Res (List D)} (hlen : ∀ ds, ds.length ≠ n → m ds = .no) (Fn : FnOk X.prog X.w X.K X.mg X.base (L2.CX X.prog X.w) k f fd ps (spT X.K X.mg Mode.fz n m)) (hr : Room k X.A) (hg : Gl X x) (hm : X.mg x = some (.ref f)) (hk : PySem.W.keepIn X.K (.ref f) = true) (hb : Binds X.K fd ps [])
    (tk : Takes X W) (ha : AJ X W G (e :: es) g) (hdb : (x == ("__debug__" : Str)) = false := by decide) (he : starEach (e :: es) X.env = (false, eval e X.env) :: starEach es X.env := by rfl) (hpl : (backTo pos (starEach es X.env)).any (·.1) = false := by rfl) :
    EJ X W G (.Call (.Name x p) (e :: es) [] pos) (callV m g) := by
  obtain ⟨t, pa, va⟩ := ha
  refine ⟨_, pe_callS Fn hr hg hm hk hb (fun σ => passAt tk σ) pa hdb he hpl, fun F ρ own B σ H Q gd q => ?_⟩
  refine va F ρ own B σ H _ gd (Res.has_mono (Res.has_bind q) (fun ds q vs B1 H1 s1 r => ?_) fun _ x => x)
  have g1 := (gd.step s1).gr
  have hl : ds.length = n := Classical.byContradiction fun z => by
    rw [hlen ds z] at q
    exact q
  refine ⟨ds, lend own F H1, B1, hl, r, ground_lend g1, Res.has_mono q (fun d q v own' B' H' e' g' r' => q v B' H' (s1.trans (step_lend g1 e' g')) r') fun x wk c dx B' H' e' g' xr => wk c dx B' H' (s1.trans (step_lend g1 e' g')) xr⟩
def asL : Res D → Res (List D)
  | .ok (.lst xs) => .ok xs
  | .ok _ => .no
  | .ex e => .ex e
  | .no => .no
def callN (m : List D → Res D) (g : Rho → Res (List D)) : Rho → Res (List D) := fun ρ => (g ρ).bind fun ds => asL (m ds)
theorem nj_call {g : Rho → Res (List D)} (hlen : ∀ ds, ds.length ≠ n → m ds = .no) (Fn : FnOk X.prog X.w X.K X.mg X.base (L2.CX X.prog X.w) k f fd ps (spT X.K X.mg (Mode.own Mode.fz) n m)) (hr : Room k X.A) (hg : Gl X x) (hm : X.mg x = some (.ref f)) (hk : PySem.W.keepIn X.K (.ref f) = true) (hb : Binds X.K fd ps [])
    (tk : Takes X W) (ha : AJ X W G (e :: es) g) (hdb : (x == ("__debug__" : Str)) = false := by decide) (he : starEach (e :: es) X.env = (false, eval e X.env) :: starEach es X.env := by rfl) (hpl : (backTo pos (starEach es X.env)).any (·.1) = false := by rfl) :
    NJ X W G (.Call (.Name x p) (e :: es) [] pos) (callN m g) := by
  obtain ⟨t, pa, va⟩ := ha
  refine ⟨_, pe_callS Fn hr hg hm hk hb (fun σ => passAt tk σ) pa hdb he hpl, fun F ρ own B σ H Q gd q => ?_⟩
  refine va F ρ own B σ H _ gd (Res.has_mono (Res.has_bind q) (fun ds q vs B1 H1 s1 r => ?_) fun _ x => x)
  have g1 := (gd.step s1).gr
  have hl : ds.length = n := Classical.byContradiction fun z => by
    rw [hlen ds z] at q
    exact q
  refine ⟨ds, lend own F H1, B1, hl, r, ground_lend g1, ?_⟩
  cases hd : m ds with
  | no =>
    rw [hd] at q
    exact q
  | ex x =>
    rw [hd] at q
    exact fun c dx B' H' e' g' xr => q c dx B' H' (s1.trans (step_lend g1 e' g')) xr
  | ok d =>
    rw [hd] at q
    rintro v own' B' H' e' g' ⟨l, us, es, rfl, rfl, ho, hl, hn, hr⟩
    have q' : ∀ (p : Addr) (vs : List V) (B' H' : Hp), Step own F B H B' H' → B' p = none → F p = none → own p = none → H' p = some (.lst vs) → RpA X.K B' vs es → Q (.ref p) H' := q
    have hlend : lend own F H1 l = none := by
      cases z : lend own F H1 l with
      | none => rfl
      | some o =>
        have := (g'.frame l o z).2.1
        rw [ho] at this
        cases this
    have hown : own l = none := by
      cases z : own l with
      | none => rfl
      | some lb =>
        unfold lend at hlend
        rw [z] at hlend
        exact absurd hlend (g1.live l (by rw [z]; exact fun z => nomatch z))
    have hF : F l = none := by
      unfold lend at hlend
      rw [hown] at hlend
      exact hlend
    exact q' l us B' H' (s1.trans (step_lend g1 e' g')) (g'.bnone (by rw [ho]; exact fun z => nomatch z)) hF hown hl (RpA.of_get hn hr)
theorem runF_len {n N : Nat} {f : Rho → Out} (ds : List D) (h : ds.length ≠ n) : runF n N f ds = .no := by
  unfold runF
  rw [if_neg h]
end
end T

set_option Elab.async false
set_option linter.all false
set_option maxRecDepth 100000
set_option maxHeartbeats 4000000
/-! T-layer, part H: short names, the law's end. -/
namespace T
open PySem PySem.Spec PyProof.Rows L2
def negV (f : Rho → Res D) : Rho → Res D := fun ρ => (f ρ).bind dNeg
def truV (f : Rho → Res D) : Rho → Res Bool := fun ρ => (f ρ).bind dTru
def itemsV (f : Rho → Res D) : Rho → Res (List D) := fun ρ => (f ρ).bind dItems
def ownItems (f : Rho → Res D) : Rho → Res (List D) := fun ρ => (f ρ).bind fun d => match d with
    | .lst xs => .ok xs
    | _ => .no
def sNever : Rho → Out := fun _ => .no
def sDrop (g : Rho → Res D) : Rho → Out := fun ρ => thenS (g ρ) ρ fun _ => .nx ρ

section
variable {X : Cx} {W : WX} {G : List Mode} {a b c : Expr} {pos : Pos}
theorem ev_test {t : TE} {g : Rho → Res D} (h : EvB X W G t g) : EvT X W G (tTest t) (toB g) := ev_toB h
theorem tj_cmp {op : CmpOp} {f : D → D → Res D} {ga gb : Rho → Res D} (ho : ∃ r, OpR X (compareOp op) r ∧ OpD X r f) (hf : Calm f) (hm : behindInMarks op b = false) (ha : BJ X W G a ga) (hb : BJ X W G b gb) : TJ X W G (.Compare a [op] [b] pos) (toB (bin f ga gb)) := by
  obtain ⟨r, h1, h2⟩ := ho
  obtain ⟨ta, pa, va⟩ := ha
  obtain ⟨tb, pb, vb⟩ := hb
  exact ⟨_, pt_cmpR h1 pa pb hm, ev_test (ev_op h2 hf va vb).b⟩
theorem tj_chain {op op' : CmpOp} {f g : D → D → Res D} {ga gb gc : Rho → Res D} (ho : ∃ r, OpR X (compareOp op) r ∧ OpD X r f) (hf : Calm f) (ho' : ∃ r, OpR X (compareOp op') r ∧ OpD X r g) (hg : Calm g) (ha : BJ X W G a ga) (hb : BJ X W G b gb) (hc : BJ X W G c gc)
    (hm : lastMarks [op, op'] [b, c] = false := by with_unfolding_all rfl) : TJ X W G (.Compare a [op, op'] [b, c] pos) (toB (chainV f g ga gb gc)) := by
  obtain ⟨r, h1, h2⟩ := ho
  obtain ⟨r', h1', h2'⟩ := ho'
  obtain ⟨ta, pa, va⟩ := ha
  obtain ⟨tb, pb, vb⟩ := hb
  obtain ⟨tc, pc, vc⟩ := hc
  exact ⟨_, pt_chain h1 h1' pa pb pc hm, ev_test (ev_chain h2 hf h2' hg va vb vc).b⟩
end
theorem RpA.of_ints {K : PySem.W.Frag} {B : Hp} : ∀ ys : List Int, RpA K B (ys.map V.int) (ys.map D.int)
  | [] => .nil
  | y :: ys => .cons (.int y) (RpA.of_ints ys)
def spLaw (K : PySem.W.Frag) : Sp := fun vs H Q _ => ∃ (a : Addr) (ns : List Int), vs = [.ref a] ∧ SqL K H a (ns.map V.int) ∧ ns.length ≤ 63 ∧ (∀ z ∈ ns, Builtin.Int.intBits z ≤ 1048576) ∧ ∀ H', Q (.bl true) H'
theorem law_imp {K : PySem.W.Frag} {mg : Str → Option Value} {f : List D → Res D} (goal : ∀ ns : List Int, ns.length ≤ 63 → (∀ z ∈ ns, Builtin.Int.intBits z ≤ 1048576) → f [.scr (ns.map D.int)] = .ok (.bl true)) (vs : List V) (H : Hp) (Q : VK) (E : XK) (h : spLaw K vs H Q E) : spT K mg Mode.fz 1 f vs H Q E := by
  obtain ⟨a, ns, rfl, hS, hl, hb, q⟩ := h
  refine ⟨[.scr (ns.map D.int)], fun _ => none, H, rfl, .cons (.scr hS (RpA.of_ints ns)) .nil, ⟨fun a o e => ⟨e, rfl⟩, fun a o e => (nomatch e), fun a h => absurd rfl h⟩, ?_⟩
  rw [goal ns hl hb]
  intro v own B' H' e g r
  cases r
  exact q H'
theorem cx_false {P : Program} {w : World} {outer : List Env} {H : Hp} {s : Shared} {e : Value} {s' : Shared} (h : L2.CX P w outer H s (fun _ _ _ => False) e s') : False := by
  obtain ⟨_, _, _, _, _, _, _, _, _, _, _, _, z⟩ := h
  exact z
end T

set_option Elab.async false
set_option linter.all false
set_option maxRecDepth 100000
set_option maxHeartbeats 4000000
/-! T-layer, part M: the mirrors, evaluated. -/
namespace T
open PySem L2
/-- so that simp does not take a theorem for a definitional one: the kernel would evaluate the tests of sizes -/
theorem mk_eq {α : Sort u} {a b : α} (h : a = b) : a = b := h
section
variable {α β : Type} {ρ : Rho} {f g : Rho → Out} {i : Nat} {d e : D}
theorem x_getV (h : ρ[i]? = some (some d)) : getV i ρ = .ok d := by
  unfold getV
  rw [h]
@[simp] theorem getV_0 {a : D} {r : Rho} : getV 0 (some a :: r) = .ok a := mk_eq rfl
@[simp] theorem getV_s {a : Option D} {r : Rho} : getV (i + 1) (a :: r) = getV i r := mk_eq rfl
@[simp] theorem conD_ap : conD d ρ = .ok d := mk_eq rfl
@[simp] theorem bin_ap {h : D → D → Res α} {a b : Rho → Res D} : bin h a b ρ = (a ρ).bind fun x => (b ρ).bind fun y => h x y := mk_eq rfl
@[simp] theorem toB_ap {a : Rho → Res D} : toB a ρ = (a ρ).bind fun d => match d with
  | .bl b => .ok b
  | _ => .no := rfl
@[simp] theorem truV_ap {a : Rho → Res D} : truV a ρ = (a ρ).bind dTru := mk_eq rfl
@[simp] theorem negV_ap {a : Rho → Res D} : negV a ρ = (a ρ).bind dNeg := mk_eq rfl
@[simp] theorem notV_ap {a : Rho → Res D} : notV a ρ = (a ρ).bind dNotB := mk_eq rfl
@[simp] theorem itemsV_ap {a : Rho → Res D} : itemsV a ρ = (a ρ).bind dItems := mk_eq rfl
@[simp] theorem andB_ap {a b : Rho → Res Bool} : andB a b ρ = (a ρ).bind fun k => if k = true then b ρ else .ok false := mk_eq rfl
@[simp] theorem orB_ap {a b : Rho → Res Bool} : orB a b ρ = (a ρ).bind fun k => if k = true then .ok true else b ρ := mk_eq rfl
@[simp] theorem notB_ap {a : Rho → Res Bool} : notB a ρ = (a ρ).bind fun k => .ok (!k) := mk_eq rfl
@[simp] theorem andV_ap {a b : Rho → Res D} : andV a b ρ = (a ρ).bind fun d => match d with
  | .bl k => if k = true then b ρ else .ok (.bl false)
  | _ => .no := rfl
@[simp] theorem orV_ap {a b : Rho → Res D} : orV a b ρ = (a ρ).bind fun d => match d with
  | .bl k => if k = true then .ok (.bl true) else b ρ
  | _ => .no := rfl
@[simp] theorem ifV_ap {c : Rho → Res Bool} {a b : Rho → Res D} : ifV c a b ρ = (c ρ).bind fun k => if k = true then a ρ else b ρ := mk_eq rfl
@[simp] theorem chainV_ap {h h' : D → D → Res D} {a b c : Rho → Res D} : chainV h h' a b c ρ = (a ρ).bind fun x => (b ρ).bind fun y => (h x y).bind fun z => match z with
  | .bl k => if k = true then (c ρ).bind fun w => h' y w else .ok (.bl false)
  | _ => .no := rfl
@[simp] theorem noA_ap : noA ρ = .ok [] := mk_eq rfl
@[simp] theorem consA_ap {a : Rho → Res D} {b : Rho → Res (List D)} : consA a b ρ = (a ρ).bind fun d => (b ρ).bind fun ds => .ok (d :: ds) := mk_eq rfl
@[simp] theorem callV_ap {h : List D → Res α} {b : Rho → Res (List D)} : callV h b ρ = (b ρ).bind h := mk_eq rfl
@[simp] theorem callN_ap {h : List D → Res D} {b : Rho → Res (List D)} : callN h b ρ = (b ρ).bind fun ds => asL (h ds) := mk_eq rfl
@[simp] theorem asL_lst {xs : List D} : asL (.ok (.lst xs)) = .ok xs := mk_eq rfl
@[simp] theorem lstD_ap {b : Rho → Res (List D)} : lstD b ρ = (b ρ).bind fun ds => .ok (.lst ds) := mk_eq rfl
@[simp] theorem lstV_ap {b : Rho → Res (List D)} : lstV b ρ = (b ρ).bind fun ds => if ds.length ≤ sizeLine then .ok ds else .no := mk_eq rfl
@[simp] theorem tupV_ap {b : Rho → Res (List D)} : tupV b ρ = (b ρ).bind fun ds => if ds.length ≤ sizeLine then .ok (.tup ds) else .no := mk_eq rfl
@[simp] theorem noPart_ap : noPart ρ = .ok none := mk_eq rfl
@[simp] theorem toPart_ap {a : Rho → Res D} : toPart a ρ = (a ρ).bind fun d => match d with
  | .int i => .ok (some i)
  | _ => .no := rfl
@[simp] theorem slV_ap {h : D → Option Int → Option Int → Res α} {a : Rho → Res D} {l k : Rho → Res (Option Int)} : slV h a l k ρ = (a ρ).bind fun x => (l ρ).bind fun l => (k ρ).bind fun k => h x l k := mk_eq rfl
@[simp] theorem methV_ap {n : String} {h : D → List D → Res α} {a : Rho → Res D} {b : Rho → Res (List D)} : methV n h a b ρ = (a ρ).bind fun d => if d.isTy n = true then (b ρ).bind fun ds => h d ds else .no := mk_eq rfl
@[simp] theorem compV_ap {s : Rho → Res (List D)} {b : Bnd} {c : Rho → Res Bool} {h : Rho → Res D} {vs : List Nat} : compV s b c h vs ρ = (s ρ).bind fun items => if items.length ≤ sizeLine then lcM b c h (wipeR ρ vs) items else .no := mk_eq rfl
@[simp] theorem yesB_ap : yesB ρ = .ok true := mk_eq rfl
@[simp] theorem ownItems_ap {a : Rho → Res D} : ownItems a ρ = (a ρ).bind fun d => match d with
    | .lst xs => .ok xs
    | _ => .no := rfl
/-! statements -/
@[simp] theorem thenS_ok {a : α} {k : α → Out} : thenS (.ok a) ρ k = k a := mk_eq rfl
@[simp] theorem thenS_no {k : α → Out} : thenS (.no : Res α) ρ k = .no := mk_eq rfl
@[simp] theorem thenS_ex {x : Exn} {k : α → Out} : thenS (.ex x : Res α) ρ k = .ex x ρ := mk_eq rfl
@[simp] theorem sSkip_ap : sSkip ρ = .nx ρ := mk_eq rfl
theorem sSeq_ap : sSeq f g ρ = match f ρ with
  | .nx ρ' => g ρ'
  | o => o := rfl
theorem sSeq_nx {ρ' : Rho} (h : f ρ = .nx ρ') : sSeq f g ρ = g ρ' := by rw [sSeq_ap, h]
theorem sSeq_rt (h : f ρ = .rt d) : sSeq f g ρ = .rt d := by rw [sSeq_ap, h]
@[simp] theorem sIf_ap {c : Rho → Res Bool} : sIf c f g ρ = thenS (c ρ) ρ fun b => if b = true then f ρ else g ρ := mk_eq rfl
@[simp] theorem sSet_ap {a : Rho → Res D} : sSet i a ρ = thenS (a ρ) ρ fun d => .nx (ρ.set i (some d)) := mk_eq rfl
@[simp] theorem sSetN_ap {a : Rho → Res (List D)} : sSetN i a ρ = thenS (a ρ) ρ fun d => .nx (ρ.set i (some (.lst d))) := mk_eq rfl
@[simp] theorem sRet_ap {a : Rho → Res D} : sRet a ρ = thenS (a ρ) ρ .rt := mk_eq rfl
@[simp] theorem sRetN_ap {a : Rho → Res (List D)} : sRetN a ρ = thenS (a ρ) ρ fun ds => .rt (.lst ds) := mk_eq rfl
@[simp] theorem sDrop_ap {a : Rho → Res D} : sDrop a ρ = thenS (a ρ) ρ fun _ => .nx ρ := mk_eq rfl
@[simp] theorem sNever_ap : sNever ρ = .no := mk_eq rfl
@[simp] theorem sUnp_ap {b : Bnd} {a : Rho → Res D} : sUnp b a ρ = thenS (a ρ) ρ fun d => match b d ρ with
  | some ρ' => .nx ρ'
  | none => .no := rfl
@[simp] theorem sApp_ap {a : Rho → Res D} : sApp i a ρ = atL i ρ fun xs => thenS (a ρ) ρ fun d => if xs.length < sizeLine then .nx (ρ.set i (some (.lst (xs ++ [d])))) else .no := mk_eq rfl
@[simp] theorem sSetI_ap {gk a : Rho → Res D} : sSetI i gk a ρ = thenS (a ρ) ρ fun d => atL i ρ fun xs => thenS (gk ρ) ρ fun k => match k with
  | .int k => match ixN xs.length k with
    | some j => .nx (ρ.set i (some (.lst (xs.set j d))))
    | none => .no
  | _ => .no := rfl
theorem x_atL {xs : List D} {k : List D → Out} (h : ρ[i]? = some (some (.lst xs))) : atL i ρ k = k xs := by
  unfold atL
  rw [h]
@[simp] theorem atL_0 {xs : List D} {r : Rho} {k : List D → Out} : atL 0 (some (.lst xs) :: r) k = k xs := mk_eq rfl
theorem atL_s {a : Option D} {r : Rho} {k : List D → Out} : atL (i + 1) (a :: r) k = atL i r k := mk_eq rfl
@[simp] theorem sFor_ap {s : Rho → Res (List D)} {b : Bnd} : sFor s b f ρ = thenS (s ρ) ρ fun items => forM b f items ρ := mk_eq rfl
@[simp] theorem bNm_ap : bNm i d ρ = some (ρ.set i (some d)) := mk_eq rfl
@[simp] theorem bNil_ap : bNil [] ρ = some ρ := mk_eq rfl
@[simp] theorem bCons_ap {b : Bnd} {c : BndA} {r : List D} : bCons b c (d :: r) ρ = (b d ρ).bind fun ρ' => c r ρ' := mk_eq rfl
@[simp] theorem bTp_tup {n : Nat} {b : BndA} {ds : List D} : bTp n b (.tup ds) ρ = if ds.length = n then b ds ρ else none := mk_eq rfl
@[simp] theorem bTp_lst {n : Nat} {b : BndA} {ds : List D} : bTp n b (.lst ds) ρ = if ds.length = n then b ds ρ else none := mk_eq rfl
/-! operations -/
variable {x y : Int} {s t : Str} {p q : Bool} {xs ys : List D}
@[simp] theorem dAdd_i : dAdd (.int x) (.int y) = .ok (.int (x + y)) := mk_eq rfl
@[simp] theorem dAdd_l : dAdd (.lst xs) (.lst ys) = if xs.length + ys.length ≤ sizeLine then .ok (.lst (xs ++ ys)) else .no := mk_eq rfl
@[simp] theorem dAdd_t : dAdd (.tup xs) (.tup ys) = if xs.length + ys.length ≤ sizeLine then .ok (.tup (xs ++ ys)) else .no := mk_eq rfl
@[simp] theorem dAdd_s : dAdd (.str s) (.str t) = if s.length + t.length ≤ sizeLine then .ok (.str (s ++ t)) else .no := mk_eq rfl
@[simp] theorem dCat_l : dCat (.lst xs) (.lst ys) = if xs.length + ys.length ≤ sizeLine then .ok (xs ++ ys) else .no := mk_eq rfl
@[simp] theorem dSub_i : dSub (.int x) (.int y) = .ok (.int (x - y)) := mk_eq rfl
theorem dMul_i : dMul (.int x) (.int y) = if CMulX x y then .ok (.int (x * y)) else .no := mk_eq rfl
theorem dMul_ok (h : CMulX x y) : dMul (.int x) (.int y) = .ok (.int (x * y)) := if_pos h
theorem dDiv_i : dDiv (.int x) (.int y) = if 0 < y ∧ y.natAbs.log2 < 9000 then .ok (.int (x / y)) else .no := mk_eq rfl
theorem dDiv_ok (h : 0 < y ∧ y.natAbs.log2 < 9000) : dDiv (.int x) (.int y) = .ok (.int (x / y)) := if_pos h
theorem dMod_i : dMod (.int x) (.int y) = if 0 < y then .ok (.int (x % y)) else .no := mk_eq rfl
theorem dMod_ok (h : 0 < y) : dMod (.int x) (.int y) = .ok (.int (x % y)) := if_pos h
@[simp] theorem dNeg_i : dNeg (.int x) = .ok (.int (-x)) := mk_eq rfl
@[simp] theorem dNotB_b : dNotB (.bl p) = .ok (.bl (!p)) := mk_eq rfl
@[simp] theorem dLt_i : dLt (.int x) (.int y) = .ok (.bl (decide (x < y))) := mk_eq rfl
@[simp] theorem dLe_i : dLe (.int x) (.int y) = .ok (.bl (decide (x ≤ y))) := mk_eq rfl
@[simp] theorem dGt_i : dGt (.int x) (.int y) = .ok (.bl (decide (y < x))) := mk_eq rfl
@[simp] theorem dGe_i : dGe (.int x) (.int y) = .ok (.bl (decide (y ≤ x))) := mk_eq rfl
@[simp] theorem dEq_i : dEq (.int x) (.int y) = .ok (.bl (decide (x = y))) := by
  show Res.ok (D.bl (x == y)) = _
  rw [show (x == y) = decide (x = y) by rw [Bool.eq_iff_iff]; simp]
@[simp] theorem dNe_i : dNe (.int x) (.int y) = .ok (.bl (!decide (x = y))) := by
  show Res.ok (D.bl (!(x == y))) = _
  rw [show (x == y) = decide (x = y) by rw [Bool.eq_iff_iff]; simp]
@[simp] theorem dEq_b : dEq (.bl p) (.bl q) = .ok (.bl (decide (p = q))) := by
  show Res.ok (D.bl (p == q)) = _
  rw [show (p == q) = decide (p = q) by rw [Bool.eq_iff_iff]; simp]
@[simp] theorem dNe_b : dNe (.bl p) (.bl q) = .ok (.bl (!decide (p = q))) := by
  show Res.ok (D.bl (!(p == q))) = _
  rw [show (p == q) = decide (p = q) by rw [Bool.eq_iff_iff]; simp]
@[simp] theorem dEq_s : dEq (.str s) (.str t) = .ok (.bl (decide (s = t))) := by
  show Res.ok (D.bl (s == t)) = _
  rw [show (s == t) = decide (s = t) by rw [Bool.eq_iff_iff]; simp]
@[simp] theorem dNe_s : dNe (.str s) (.str t) = .ok (.bl (!decide (s = t))) := by
  show Res.ok (D.bl (!(s == t))) = _
  rw [show (s == t) = decide (s = t) by rw [Bool.eq_iff_iff]; simp]
theorem dEq_d (h : D.dat 60 d = true) (h' : D.dat 60 e = true) : dEq d e = .ok (.bl (d.eqb e)) := if_pos ⟨h, h'⟩
theorem dNe_d (h : D.dat 60 d = true) (h' : D.dat 60 e = true) : dNe d e = .ok (.bl (!d.eqb e)) := if_pos ⟨h, h'⟩
@[simp] theorem dLen_l : dLen [.lst xs] = .ok (.int xs.length) := mk_eq rfl
@[simp] theorem dLen_t : dLen [.tup xs] = .ok (.int xs.length) := mk_eq rfl
@[simp] theorem dLen_c : dLen [.scr xs] = .ok (.int xs.length) := mk_eq rfl
@[simp] theorem dLen_s : dLen [.str s] = if s.length ≤ sizeLine then .ok (.int s.length) else .no := mk_eq rfl
@[simp] theorem dList_l : dList [.lst xs] = .ok xs := mk_eq rfl
@[simp] theorem dList_t : dList [.tup xs] = .ok xs := mk_eq rfl
@[simp] theorem dTuple_l : dTuple [.lst xs] = .ok (.tup xs) := mk_eq rfl
@[simp] theorem dTuple_t : dTuple [.tup xs] = .ok (.tup xs) := mk_eq rfl
@[simp] theorem dInt_i : dInt [.int x] = .ok (.int x) := mk_eq rfl
@[simp] theorem dMax2_i : dMax2 [.int x, .int y] = .ok (.int (if y > x then y else x)) := mk_eq rfl
@[simp] theorem dMin2_i : dMin2 [.int x, .int y] = .ok (.int (if y < x then y else x)) := mk_eq rfl
@[simp] theorem dItems_l : dItems (.lst xs) = .ok xs := mk_eq rfl
@[simp] theorem dItems_t : dItems (.tup xs) = .ok xs := mk_eq rfl
@[simp] theorem dItems_s : dItems (.str s) = .ok (s.cps.toList.map fun c => .str ⟨#[c]⟩) := mk_eq rfl
@[simp] theorem dTru_b : dTru (.bl p) = .ok p := mk_eq rfl
@[simp] theorem dSl_l {lo hi : Option Int} : dSl (.lst xs) lo hi = .ok (.lst (cutL xs lo hi)) := mk_eq rfl
@[simp] theorem dSl_t {lo hi : Option Int} : dSl (.tup xs) lo hi = .ok (.tup (cutL xs lo hi)) := mk_eq rfl
@[simp] theorem dSlN_l {lo hi : Option Int} : dSlN (.lst xs) lo hi = .ok (cutL xs lo hi) := mk_eq rfl
theorem dIx_l (h : atI xs x = some d) : dIx (.lst xs) (.int x) = .ok d := by
  show (match atI xs x with | some d => Res.ok d | none => .no) = _
  rw [h]
theorem dIx_t (h : atI xs x = some d) : dIx (.tup xs) (.int x) = .ok d := by
  show (match atI xs x with | some d => Res.ok d | none => .no) = _
  rw [h]
theorem dIx_c (h : atI xs x = some d) : dIx (.scr xs) (.int x) = .ok d := by
  show (match atI xs x with | some d => Res.ok d | none => .no) = _
  rw [h]
@[simp] theorem isi_ll : dIsi [.lst xs, .ty "list"] = .ok (.bl true) := by
  show (match kitB "list" "list" with | some r => Res.ok (D.bl r) | none => .no) = _
  rw [show kitB "list" "list" = some true by decide +kernel]
@[simp] theorem isi_tt : dIsi [.tup xs, .ty "tuple"] = .ok (.bl true) := by
  show (match kitB "tuple" "tuple" with | some r => Res.ok (D.bl r) | none => .no) = _
  rw [show kitB "tuple" "tuple" = some true by decide +kernel]
@[simp] theorem isi_ss : dIsi [.str s, .ty "str"] = .ok (.bl true) := by
  show (match kitB "str" "str" with | some r => Res.ok (D.bl r) | none => .no) = _
  rw [show kitB "str" "str" = some true by decide +kernel]
@[simp] theorem isi_ii : dIsi [.int x, .ty "int"] = .ok (.bl true) := by
  show (match kitB "int" "int" with | some r => Res.ok (D.bl r) | none => .no) = _
  rw [show kitB "int" "int" = some true by decide +kernel]
@[simp] theorem isi_ni : dIsi [.non, .ty "int"] = .ok (.bl false) := by
  show (match kitB "NoneType" "int" with | some r => Res.ok (D.bl r) | none => .no) = _
  rw [show kitB "NoneType" "int" = some false by decide +kernel]
@[simp] theorem dIs_n : dIs d .non = .ok (.bl d.isNon) := mk_eq rfl
@[simp] theorem dIs_b : dIs (.bl p) (.bl q) = .ok (.bl (p == q)) := mk_eq rfl
@[simp] theorem dIsNot_n : dIsNot d .non = .ok (.bl (!d.isNon)) := mk_eq rfl
@[simp] theorem dIsNot_b : dIsNot (.bl p) (.bl q) = .ok (.bl (!(p == q))) := mk_eq rfl
end

/-! ### data of one kind -/
theorem ints_map : ∀ ns : List Int, D.ints (ns.map D.int) = some ns
  | [] => rfl
  | n :: ns => by simp [D.ints, ints_map ns]
theorem bools_map : ∀ ns : List Bool, D.bools (ns.map D.bl) = some ns
  | [] => rfl
  | n :: ns => by simp [D.bools, bools_map ns]
theorem strs_map : ∀ ns : List Str, D.strs (ns.map D.str) = some ns
  | [] => rfl
  | n :: ns => by simp [D.strs, strs_map ns]
theorem eqbA_map {α : Type} [DecidableEq α] {f : α → D} (h : ∀ a b, (f a).eqb (f b) = decide (a = b)) : ∀ xs ys : List α, D.eqbA (xs.map f) (ys.map f) = decide (xs = ys)
  | [], [] => by simp [D.eqbA]
  | [], _ :: _ => by simp [D.eqbA]
  | _ :: _, [] => by simp [D.eqbA]
  | x :: xs, y :: ys => by
    simp only [List.map_cons, D.eqbA, h, eqbA_map h xs ys]
    by_cases h1 : x = y <;> by_cases h2 : xs = ys <;> simp [h1, h2]
theorem datA_map {α : Type} {f : α → D} {n : Nat} (h : ∀ a, D.dat n (f a) = true) : ∀ xs : List α, D.datA n (xs.map f) = true
  | [] => by simp [D.datA]
  | x :: xs => by simp [D.datA, h, datA_map h xs]
@[simp] theorem dat_int {n : Nat} {x : Int} : D.dat n (.int x) = true := by cases n <;> rfl
@[simp] theorem dat_str {n : Nat} {x : Str} : D.dat n (.str x) = true := by cases n <;> rfl
@[simp] theorem dat_bl {n : Nat} {x : Bool} : D.dat n (.bl x) = true := by cases n <;> rfl
@[simp] theorem dat_non {n : Nat} : D.dat n .non = true := by cases n <;> rfl
@[simp] theorem dat_lst {n : Nat} {xs : List D} : D.dat (n + 1) (.lst xs) = D.datA n xs := mk_eq rfl
@[simp] theorem dat_tup {n : Nat} {xs : List D} : D.dat (n + 1) (.tup xs) = D.datA n xs := mk_eq rfl
@[simp] theorem datA_nil {n : Nat} : D.datA n [] = true := by simp [D.datA]
@[simp] theorem datA_cons {n : Nat} {x : D} {xs : List D} : D.datA n (x :: xs) = (D.dat n x && D.datA n xs) := by simp [D.datA]
@[simp] theorem datA_ints {n : Nat} (ns : List Int) : D.datA n (ns.map D.int) = true := datA_map (fun _ => dat_int) ns
theorem eqb_int (a b : Int) : (D.int a).eqb (.int b) = decide (a = b) := by
  show (a == b) = _
  rw [Bool.eq_iff_iff]
  simp
theorem eqb_str (a b : Str) : (D.str a).eqb (.str b) = decide (a = b) := by
  show (a == b) = _
  rw [Bool.eq_iff_iff]
  simp
theorem eqbA_ints (xs ys : List Int) : D.eqbA (xs.map D.int) (ys.map D.int) = decide (xs = ys) := eqbA_map eqb_int xs ys

/-! ### loops -/
/-- a loop that stores: s the state, j what is forgotten; I by the turn -/
theorem forM_foldA {α σ τ : Type} {b : Bnd} {body : Rho → Out} {enc : α → D} (st : σ → τ → Rho) (f : σ → α → σ) (I : Nat → σ → Prop) : ∀ (xs : List α) (k : Nat), (∀ (i : Nat) s j x, xs[i]? = some x → I (k + i) s → ∃ ρ1 j', b (enc x) (st s j) = some ρ1 ∧ (body ρ1 = .nx (st (f s x) j') ∨ body ρ1 = .ct (st (f s x) j')) ∧ I (k + i + 1) (f s x)) →
    ∀ s j, I k s → ∃ j', forM b body (xs.map enc) (st s j) = .nx (st (xs.foldl f s) j') ∧ I (k + xs.length) (xs.foldl f s)
  | [], _, _, s, j, hI => ⟨j, rfl, hI⟩
  | x :: xs, k, h, s, j, hI => by
    obtain ⟨ρ1, j1, h1, h2, h3⟩ := h 0 s j x rfl hI
    obtain ⟨j2, h4, h5⟩ := forM_foldA st f I xs (k + 1) (fun i s j y hy hI => by
      have := h (i + 1) s j y (by simpa using hy) (by rw [show k + (i + 1) = k + 1 + i by omega]; exact hI)
      rw [show k + (i + 1) + 1 = k + 1 + i + 1 by omega] at this
      exact this) (f s x) j1 (by simpa using h3)
    refine ⟨j2, ?_, by rw [show k + (x :: xs).length = k + 1 + xs.length by simp; omega]; exact h5⟩
    simp only [List.map_cons, forM, h1]
    rcases h2 with h2 | h2
    · rw [h2]
      exact h4
    · rw [h2]
      exact h4
theorem forM_fold {α σ τ : Type} {b : Bnd} {body : Rho → Out} {enc : α → D} (st : σ → τ → Rho) (f : σ → α → σ) (I : Nat → σ → Prop) (xs : List α) (h : ∀ (i : Nat) s j x, xs[i]? = some x → I i s → ∃ ρ1 j', b (enc x) (st s j) = some ρ1 ∧ (body ρ1 = .nx (st (f s x) j') ∨ body ρ1 = .ct (st (f s x) j')) ∧ I (i + 1) (f s x))
    (s : σ) (j : τ) (hI : I 0 s) : ∃ j', forM b body (xs.map enc) (st s j) = .nx (st (xs.foldl f s) j') ∧ I xs.length (xs.foldl f s) := by
  have := forM_foldA st f I xs 0 (fun i s j x hx hI => by
    rw [Nat.zero_add] at hI ⊢
    exact h i s j x hx hI) s j hI
  rw [Nat.zero_add] at this
  exact this
/-- a comprehension whose elements never fail -/
theorem lcM_map {α β : Type} {b : Bnd} {f : Rho → Res D} {ρ : Rho} {enc : α → D} {dec : β → D} (g : α → β) : ∀ (xs : List α), (∀ x, x ∈ xs → ∃ ρ1, b (enc x) ρ = some ρ1 ∧ f ρ1 = .ok (dec (g x))) → lcM b yesB f ρ (xs.map enc) = .ok ((xs.map g).map dec)
  | [], _ => rfl
  | x :: xs, h => by
    obtain ⟨ρ1, h1, h2⟩ := h x List.mem_cons_self
    have ih := lcM_map (dec := dec) g xs fun y hy => h y (List.mem_cons_of_mem _ hy)
    simp only [List.map_cons, lcM, h1, yesB, Res.calm_ok, Res.bind_ok, if_true, h2, ih]
theorem lcM_filterMap {α β : Type} {b : Bnd} {c : Rho → Res Bool} {f : Rho → Res D} {ρ : Rho} {enc : α → D} {dec : β → D} (p : α → Bool) (g : α → β) : ∀ (xs : List α), (∀ x, x ∈ xs → ∃ ρ1, b (enc x) ρ = some ρ1 ∧ c ρ1 = .ok (p x) ∧ (p x = true → f ρ1 = .ok (dec (g x)))) →
    lcM b c f ρ (xs.map enc) = .ok (((xs.filter p).map g).map dec)
  | [], _ => rfl
  | x :: xs, h => by
    obtain ⟨ρ1, h1, h2, h3⟩ := h x List.mem_cons_self
    have ih := lcM_filterMap (dec := dec) p g xs fun y hy => h y (List.mem_cons_of_mem _ hy)
    simp only [List.map_cons, lcM, h1, h2, Res.calm_ok, Res.bind_ok, ih]
    cases hp : p x with
    | true => simp [hp, h3 hp]
    | false => simp [hp]
theorem upFrom_eq (lo : Int) (n : Nat) : upFrom lo n = (List.range n).map fun (i : Nat) => D.int (lo + i) := mk_eq rfl
theorem runF_rt {n N : Nat} {f : Rho → Out} {ds : List D} {d : D} (h : ds.length = n) (e : f (startR N ds) = .rt d) : runF n N f ds = .ok d := by
  unfold runF
  rw [if_pos h, e]
theorem atI_get {α : Type} {xs : List α} {i : Int} {j : Nat} {x : α} (h : i = (j : Int)) (e : xs[j]? = some x) : atI xs i = some x := by
  subst h
  exact atI_nat e
theorem sz1 {n : Nat} (h : n ≤ 1000000) : n ≤ sizeLine := Nat.le_trans h (by decide)
theorem sz2 {n : Nat} (h : n < 1000000) : n < sizeLine := Nat.lt_of_lt_of_le h (by decide)
end T

set_option Elab.async false
set_option linter.all false
set_option maxRecDepth 100000
set_option maxHeartbeats 4000000
/-! T-layer, part X: the draws of a law. -/
namespace T
open PySem L2
def mDraws : Rho → Out := (sSeq (sSetN 2 (lstV noA)) (sSeq (sFor (callV dRng1 (consA (getV 1) noA)) (bNm 3) (sSeq (sSet 4 (conD (.int 0))) (sSeq (sIf (toB (bin dGt (callV dLen (consA (getV 0) noA)) (conD (.int 0)))) (sSet 4 (callV dInt (consA (bin dIx (getV 0) (bin dMod (getV 3) (callV dLen (consA (getV 0) noA)))) noA))) sSkip) (sSeq (sIf (toB (bin dLt (getV 4) (conD (.int 0)))) (sSet 4 (bin dSub (conD (.int 1)) (bin dMul (conD (.int 2)) (getV 4)))) sSkip) (sSeq (sIf (orB (toB (bin dLt (getV 4) (conD (.int 1000000000)))) (toB (bin dGe (getV 3) (callV dLen (consA (getV 0) noA))))) (sSeq (sSet 4 (bin dMod (callV dInt (consA (bin dAdd (bin dMul (getV 4) (conD (.int 6364136223846793005))) (bin dMul (conD (.int 1442695040888963407)) (bin dAdd (getV 3) (conD (.int 1))))) noA)) (conD (.int 9223372036854775783)))) (sSet 4 (bin dMod (callV dInt (consA (bin dAdd (bin dAdd (bin dMul (getV 4) (conD (.int 2862933555777941757))) (conD (.int 3037000493))) (getV 3)) noA)) (conD (.int 18446744073709551557))))) sSkip) (sApp 2 (getV 4))))))) (sRet (getV 2))))
def cell0 (ns : List Int) (k : Nat) : Int := if 0 < ns.length then ns.getD (k % ns.length) 0 else 0
def cell1 (ns : List Int) (k : Nat) : Int := if cell0 ns k < 0 then 1 - 2 * cell0 ns k else cell0 ns k
def cellG (T0 A1 B1 M1 A2 C2 M2 : Int) (ns : List Int) (k : Nat) : Int := if cell1 ns k < T0 ∨ ns.length ≤ k then ((cell1 ns k * A1 + B1 * (k + 1)) % M1 * A2 + C2 + k) % M2 else cell1 ns k
def cell2 (ns : List Int) (k : Nat) : Int := cellG 1000000000 6364136223846793005 1442695040888963407 9223372036854775783 2862933555777941757 3037000493 18446744073709551557 ns k
/-- numbers of at most n bits -/
def Fits (n : Nat) (x : Int) : Prop := x.natAbs < 2 ^ n
theorem Fits.mono {n m : Nat} {x : Int} (h : Fits n x) (e : n ≤ m) : Fits m x := Nat.lt_of_lt_of_le h (Nat.pow_le_pow_right (by decide) e)
theorem Fits.mul {n m : Nat} {x y : Int} (h : Fits n x) (h' : Fits m y) (e : n + m ≤ 134217728) : CMulX x y := mulx_ok h h' e
theorem fits_of_bits {n : Nat} {x : Int} (h : Builtin.Int.intBits x ≤ n) : Fits n x := by
  unfold Builtin.Int.intBits at h
  unfold Fits
  by_cases hx : x = 0
  · subst hx
    simp
    exact Nat.two_pow_pos n
  · have h1 : (x == 0) = false := by simpa using hx
    rw [h1] at h
    simp only [if_neg Bool.false_ne_true] at h
    have h2 : x.natAbs ≠ 0 := by omega
    exact (Nat.log2_lt h2).mp (by omega)
theorem fits_small {x : Int} (h : -(2 ^ 64) < x) (h' : x < 2 ^ 64) : Fits 64 x := by
  unfold Fits
  have : (2 : Nat) ^ 64 = 18446744073709551616 := by decide
  rw [this]
  omega
theorem Fits.two {n : Nat} {x : Int} (h : Fits n x) : Fits (n + 2) (1 - 2 * x) := by
  unfold Fits at *
  have : (2 : Nat) ^ (n + 2) = 4 * 2 ^ n := by rw [Nat.pow_add]; omega
  omega
theorem Fits.pos {n : Nat} {x : Int} (h : Fits n x) (h0 : 0 < n) : 0 < n := h0
section
variable {ns : List Int} {n : Nat} (hn : n ≤ 2000000) (hb : ∀ z ∈ ns, Fits n z)
include hb
theorem cell0_fits (k : Nat) : Fits n (cell0 ns k) := by
  unfold cell0
  by_cases h : 0 < ns.length
  · rw [if_pos h]
    have hlt : k % ns.length < ns.length := Nat.mod_lt _ h
    rw [List.getD_eq_getElem?_getD, List.getElem?_eq_getElem hlt]
    exact hb _ (List.getElem_mem hlt)
  · rw [if_neg h]
    unfold Fits
    simp
    exact Nat.two_pow_pos n
theorem cell1_fits (k : Nat) : Fits (n + 2) (cell1 ns k) := by
  unfold cell1
  split
  · exact (cell0_fits hb k).two
  · exact (cell0_fits hb k).mono (by omega)
omit hb in
theorem cell1_nn (k : Nat) : 0 ≤ cell1 ns k := by
  unfold cell1
  split <;> omega
omit hb in
theorem cell2_nn (k : Nat) : 0 ≤ cell2 ns k := by
  unfold cell2 cellG
  split
  · exact Int.emod_nonneg _ (by decide)
  · exact cell1_nn k
theorem cell2_fits (k : Nat) : Fits (n + 66) (cell2 ns k) := by
  unfold cell2 cellG
  split
  · refine (fits_small ?_ ?_).mono (by omega)
    · exact Int.lt_of_lt_of_le (by decide) (Int.emod_nonneg _ (by decide))
    · exact Int.lt_trans (Int.emod_lt_of_pos _ (by decide)) (by decide)
  · exact (cell1_fits hb k).mono (by omega)
omit hn hb in
theorem draws_e0 (S C L K : D) (x : Nat) (hK : K = .int (x : Int)) (hS : S = .scr (ns.map D.int)) : (sIf (toB (bin dGt (callV dLen (consA (getV 0) noA)) (conD (.int 0)))) (sSet 4 (callV dInt (consA (bin dIx (getV 0) (bin dMod (getV 3) (callV dLen (consA (getV 0) noA)))) noA))) sSkip) [some S, some C, some L, some K, some (.int 0)] = .nx [some S, some C, some L, some K, some (.int (cell0 ns x))] := by
  subst hK hS
  by_cases h : 0 < ns.length
  · have hm : (0 : Int) < ns.length := by omega
    have hlt : x % ns.length < ns.length := Nat.mod_lt _ h
    have hix : dIx (.scr (ns.map D.int)) (.int ((x : Int) % ns.length)) = .ok (.int (cell0 ns x)) := by
      refine dIx_c (atI_get (j := x % ns.length) (by simp) ?_)
      rw [List.getElem?_map, List.getElem?_eq_getElem hlt]
      unfold cell0
      rw [if_pos h, List.getD_eq_getElem?_getD, List.getElem?_eq_getElem hlt]
      rfl
    simp only [sIf_ap, toB_ap, bin_ap, callV_ap, consA_ap, noA_ap, getV_s, getV_0, conD_ap, Res.bind_ok, dLen_c, List.length_map, dGt_i, hm, decide_true, thenS_ok, if_true, sSet_ap, dMod_ok hm, hix, dInt_i, List.set]
  · have hm : ¬ (0 : Int) < ns.length := by omega
    simp only [sIf_ap, toB_ap, bin_ap, callV_ap, consA_ap, noA_ap, getV_s, getV_0, conD_ap, Res.bind_ok, dLen_c, List.length_map, dGt_i, hm, decide_false, thenS_ok, if_false, Bool.false_eq_true, sSkip_ap, cell0, h]
include hn
theorem draws_e1 (S C L K : D) (x : Nat) : (sIf (toB (bin dLt (getV 4) (conD (.int 0)))) (sSet 4 (bin dSub (conD (.int 1)) (bin dMul (conD (.int 2)) (getV 4)))) sSkip) [some S, some C, some L, some K, some (.int (cell0 ns x))] = .nx [some S, some C, some L, some K, some (.int (cell1 ns x))] := by
  have hmul : CMulX 2 (cell0 ns x) := (fits_small (by decide) (by decide) : Fits 64 2).mul (cell0_fits hb x) (by omega)
  by_cases h : cell0 ns x < 0
  · simp [h, dMul_ok hmul, cell1]
  · simp [h, cell1]
omit hn hb in
theorem draws_a (S C L : D) (k c A1 B1 M1 : Int) (hM1 : 0 < M1) (m1 : CMulX c A1) (m2 : CMulX B1 (k + 1)) : (bin dMod (callV dInt (consA (bin dAdd (bin dMul (getV 4) (conD (.int A1))) (bin dMul (conD (.int B1)) (bin dAdd (getV 3) (conD (.int 1))))) noA)) (conD (.int M1))) [some S, some C, some L, some (.int k), some (.int c)] = .ok (.int ((c * A1 + B1 * (k + 1)) % M1)) := by
  have a : (bin dMul (conD (.int B1)) (bin dAdd (getV 3) (conD (.int 1)))) [some S, some C, some L, some (.int k), some (.int c)] = .ok (.int (B1 * (k + 1))) := by
    simp only [bin_ap, getV_s, getV_0, conD_ap, Res.bind_ok, dAdd_i, dMul_ok m2]
  have b : (bin dAdd (bin dMul (getV 4) (conD (.int A1))) (bin dMul (conD (.int B1)) (bin dAdd (getV 3) (conD (.int 1))))) [some S, some C, some L, some (.int k), some (.int c)] = .ok (.int (c * A1 + B1 * (k + 1))) := by
    rw [bin_ap, a]
    simp only [bin_ap, getV_s, getV_0, conD_ap, Res.bind_ok, dMul_ok m1, dAdd_i]
  rw [bin_ap, callV_ap, consA_ap, b]
  simp only [noA_ap, Res.bind_ok, dInt_i, dMod_ok hM1, conD_ap]
omit hn hb in
theorem draws_b (S C L : D) (k c A2 C2 M2 : Int) (hM2 : 0 < M2) (m3 : CMulX c A2) : (bin dMod (callV dInt (consA (bin dAdd (bin dAdd (bin dMul (getV 4) (conD (.int A2))) (conD (.int C2))) (getV 3)) noA)) (conD (.int M2))) [some S, some C, some L, some (.int k), some (.int c)] = .ok (.int ((c * A2 + C2 + k) % M2)) := by
  simp only [bin_ap, callV_ap, consA_ap, getV_s, getV_0, conD_ap, noA_ap, Res.bind_ok, dMul_ok m3, dAdd_i, dInt_i, dMod_ok hM2]
omit hn hb in
theorem draws_g (T0 A1 B1 M1 A2 C2 M2 : Int) (S C L K : D) (x : Nat) (hM1 : 0 < M1) (hM2 : 0 < M2) (m1 : CMulX (cell1 ns x) A1) (m2 : CMulX B1 ((x : Int) + 1)) (m3 : CMulX ((cell1 ns x * A1 + B1 * ((x : Int) + 1)) % M1) A2) (hK : K = .int (x : Int)) (hS : S = .scr (ns.map D.int)) :
    (sIf (orB (toB (bin dLt (getV 4) (conD (.int T0)))) (toB (bin dGe (getV 3) (callV dLen (consA (getV 0) noA))))) (sSeq (sSet 4 (bin dMod (callV dInt (consA (bin dAdd (bin dMul (getV 4) (conD (.int A1))) (bin dMul (conD (.int B1)) (bin dAdd (getV 3) (conD (.int 1))))) noA)) (conD (.int M1)))) (sSet 4 (bin dMod (callV dInt (consA (bin dAdd (bin dAdd (bin dMul (getV 4) (conD (.int A2))) (conD (.int C2))) (getV 3)) noA)) (conD (.int M2))))) sSkip) [some S, some C, some L, some K, some (.int (cell1 ns x))] = .nx [some S, some C, some L, some K, some (.int (cellG T0 A1 B1 M1 A2 C2 M2 ns x))] := by
  subst hK hS
  have h1 := draws_a (.scr (ns.map D.int)) C L (x : Int) (cell1 ns x) A1 B1 M1 hM1 m1 m2
  have h2 := draws_b (.scr (ns.map D.int)) C L (x : Int) ((cell1 ns x * A1 + B1 * ((x : Int) + 1)) % M1) A2 C2 M2 hM2 m3
  have h3 : sSeq (sSet 4 (bin dMod (callV dInt (consA (bin dAdd (bin dMul (getV 4) (conD (.int A1))) (bin dMul (conD (.int B1)) (bin dAdd (getV 3) (conD (.int 1))))) noA)) (conD (.int M1)))) (sSet 4 (bin dMod (callV dInt (consA (bin dAdd (bin dAdd (bin dMul (getV 4) (conD (.int A2))) (conD (.int C2))) (getV 3)) noA)) (conD (.int M2)))) [some (.scr (ns.map D.int)), some C, some L, some (.int (x : Int)), some (.int (cell1 ns x))] = .nx [some (.scr (ns.map D.int)), some C, some L, some (.int (x : Int)), some (.int (((cell1 ns x * A1 + B1 * ((x : Int) + 1)) % M1 * A2 + C2 + (x : Int)) % M2))] := by
    rw [sSeq_nx (ρ' := [some (.scr (ns.map D.int)), some C, some L, some (.int (x : Int)), some (.int ((cell1 ns x * A1 + B1 * ((x : Int) + 1)) % M1))]) (by rw [sSet_ap, h1]; rfl), sSet_ap, h2]
    rfl
  have h4 : (orB (toB (bin dLt (getV 4) (conD (.int T0)))) (toB (bin dGe (getV 3) (callV dLen (consA (getV 0) noA))))) [some (.scr (ns.map D.int)), some C, some L, some (.int (x : Int)), some (.int (cell1 ns x))] = .ok (decide (cell1 ns x < T0 ∨ ns.length ≤ x)) := by
    simp only [orB_ap, toB_ap, bin_ap, callV_ap, consA_ap, getV_s, getV_0, conD_ap, noA_ap, Res.bind_ok, dLt_i, dGe_i, dLen_c, List.length_map, Int.ofNat_le]
    by_cases h : cell1 ns x < T0 <;> simp [h]
  rw [sIf_ap, h4, thenS_ok]
  unfold cellG
  by_cases h : cell1 ns x < T0 ∨ ns.length ≤ x
  · rw [decide_eq_true h, if_pos rfl, if_pos h]
    exact h3
  · rw [decide_eq_false h, if_neg Bool.false_ne_true, if_neg h]
    rfl
theorem draws_e2 (S C L K : D) (x : Nat) (hx : x < 100000) (hK : K = .int (x : Int)) (hS : S = .scr (ns.map D.int)) : (sIf (orB (toB (bin dLt (getV 4) (conD (.int 1000000000)))) (toB (bin dGe (getV 3) (callV dLen (consA (getV 0) noA))))) (sSeq (sSet 4 (bin dMod (callV dInt (consA (bin dAdd (bin dMul (getV 4) (conD (.int 6364136223846793005))) (bin dMul (conD (.int 1442695040888963407)) (bin dAdd (getV 3) (conD (.int 1))))) noA)) (conD (.int 9223372036854775783)))) (sSet 4 (bin dMod (callV dInt (consA (bin dAdd (bin dAdd (bin dMul (getV 4) (conD (.int 2862933555777941757))) (conD (.int 3037000493))) (getV 3)) noA)) (conD (.int 18446744073709551557))))) sSkip) [some S, some C, some L, some K, some (.int (cell1 ns x))] = .nx [some S, some C, some L, some K, some (.int (cell2 ns x))] :=
  draws_g _ _ _ _ _ _ _ S C L K x (by decide) (by decide) ((cell1_fits hb x).mul (fits_small (by decide) (by decide)) (by omega)) (Fits.mul (m := 64) (fits_small (by decide) (by decide)) (fits_small (by omega) (by omega)) (by omega))
    (Fits.mul (n := 64) (m := 64) (fits_small (Int.lt_of_lt_of_le (by decide) (Int.emod_nonneg _ (by decide))) (Int.lt_trans (Int.emod_lt_of_pos _ (by decide)) (by decide))) (fits_small (by decide) (by decide)) (by omega)) hK hS
def bDraws : Rho → Out := (sSeq (sSet 4 (conD (.int 0))) (sSeq (sIf (toB (bin dGt (callV dLen (consA (getV 0) noA)) (conD (.int 0)))) (sSet 4 (callV dInt (consA (bin dIx (getV 0) (bin dMod (getV 3) (callV dLen (consA (getV 0) noA)))) noA))) sSkip) (sSeq (sIf (toB (bin dLt (getV 4) (conD (.int 0)))) (sSet 4 (bin dSub (conD (.int 1)) (bin dMul (conD (.int 2)) (getV 4)))) sSkip) (sSeq (sIf (orB (toB (bin dLt (getV 4) (conD (.int 1000000000)))) (toB (bin dGe (getV 3) (callV dLen (consA (getV 0) noA))))) (sSeq (sSet 4 (bin dMod (callV dInt (consA (bin dAdd (bin dMul (getV 4) (conD (.int 6364136223846793005))) (bin dMul (conD (.int 1442695040888963407)) (bin dAdd (getV 3) (conD (.int 1))))) noA)) (conD (.int 9223372036854775783)))) (sSet 4 (bin dMod (callV dInt (consA (bin dAdd (bin dAdd (bin dMul (getV 4) (conD (.int 2862933555777941757))) (conD (.int 3037000493))) (getV 3)) noA)) (conD (.int 18446744073709551557))))) sSkip) (sApp 2 (getV 4))))))
omit hn hb in
theorem draws_app (S C K : D) (s : List Int) (z : Int) (hs : s.length < 100000) : sApp 2 (getV 4) [some S, some C, some (.lst (s.map D.int)), some K, some (.int z)] = .nx [some S, some C, some (.lst ((s ++ [z]).map D.int)), some K, some (.int z)] := by
  have e3 : (s.map D.int).length < sizeLine := sz2 (by simp; omega)
  rw [sApp_ap, x_atL (xs := s.map D.int) rfl, x_getV (d := .int z) rfl, thenS_ok, if_pos e3, List.map_append]
  rfl
theorem draws_body (hl : ns.length ≤ 63) (x : Nat) (hx : x < 100000) (C : D) (a : Option D) (s : List Int) (hs : s.length < 100000) : bDraws [some (.scr (ns.map D.int)), some C, some (.lst (s.map D.int)), some (.int (x : Int)), a] = .nx [some (.scr (ns.map D.int)), some C, some (.lst ((s ++ [cell2 ns x]).map D.int)), some (.int (x : Int)), some (.int (cell2 ns x))] := by
  have e := draws_e2 hn hb (.scr (ns.map D.int)) C (.lst (s.map D.int)) (.int (x : Int)) x hx rfl rfl
  generalize cell2 ns x = z at e ⊢
  unfold bDraws
  rw [sSeq_nx (f := sSet 4 (conD (.int 0))) (ρ' := [some (.scr (ns.map D.int)), some C, some (.lst (s.map D.int)), some (.int (x : Int)), some (.int 0)]) rfl, sSeq_nx (draws_e0 _ _ _ _ x rfl rfl), sSeq_nx (draws_e1 hn hb _ _ _ _ x), sSeq_nx e]
  exact draws_app _ _ _ s z hs
omit hn hb in
theorem draws_loop (body : Rho → Out) (cell : Nat → Int) (S : D) (c : Nat) (hc : c ≤ 100000) (h : ∀ (x : Nat), x < 100000 → ∀ (C : D) (a : Option D) (s : List Int), s.length < 100000 → body [some S, some C, some (.lst (s.map D.int)), some (.int (x : Int)), a] = .nx [some S, some C, some (.lst ((s ++ [cell x]).map D.int)), some (.int (x : Int)), some (.int (cell x))]) :
    runF 2 5 (sSeq (sSetN 2 (lstV noA)) (sSeq (sFor (callV dRng1 (consA (getV 1) noA)) (bNm 3) body) (sRet (getV 2)))) [S, .int c] = .ok (.lst (((List.range c).map cell).map D.int)) := by
  refine runF_rt rfl ?_
  rw [sSeq_nx (f := sSetN 2 (lstV noA)) (ρ' := [some S, some (.int c), some (.lst []), none, none]) rfl]
  obtain ⟨j, hj, hI⟩ := forM_fold (b := bNm 3) (enc := fun (i : Nat) => D.int i) (body := body) (fun (s : List Int) (j : Option D × Option D) => [some S, some (.int c), some (.lst (s.map D.int)), j.1, j.2]) (fun s k => s ++ [cell k]) (fun i s => s = (List.range i).map cell) (List.range c) (fun i s j x hx hI => by
    have hx' : x = i ∧ i < c := by
      obtain ⟨h1, h2⟩ := List.getElem?_eq_some_iff.mp hx
      simp at h1 h2
      omega
    obtain ⟨rfl, hic⟩ := hx'
    refine ⟨_, (some (.int (x : Int)), some (.int (cell x))), rfl, .inl (h x (by omega) _ _ s ?_), ?_⟩
    · rw [hI, List.length_map, List.length_range]
      omega
    · rw [hI, List.range_succ, List.map_append]
      rfl) [] (none, none) rfl
  have hr : callV dRng1 (consA (getV 1) noA) [some S, some (.int c), some (.lst []), none, none] = .ok ((List.range c).map fun (i : Nat) => D.int i) := by
    simp only [callV_ap, consA_ap, getV_s, getV_0, Res.bind_ok, noA_ap, dRng1, upFrom]
    rw [if_pos (by omega)]
    simp
  rw [List.length_range] at hI
  rw [hI] at hj
  rw [sSeq_nx (f := sFor (callV dRng1 (consA (getV 1) noA)) (bNm 3) body) (by
    rw [sFor_ap, hr, thenS_ok]
    exact hj)]
  rfl
theorem draws_run (hl : ns.length ≤ 63) (c : Nat) (hc : c ≤ 100000) : runF 2 5 mDraws [.scr (ns.map D.int), .int c] = .ok (.lst (((List.range c).map (cell2 ns)).map D.int)) :=
  draws_loop bDraws (cell2 ns) _ c hc fun x hx C a s hs => draws_body hn hb hl x hx C a s hs
end
/-- the draws, as a list of numbers that are not negative -/
theorem draws_ok {ns : List Int} (hl : ns.length ≤ 63) (hb : ∀ z ∈ ns, Builtin.Int.intBits z ≤ 1048576) (c : Nat) (hc : c ≤ 100000) : ∃ ds : List Int, ds.length = c ∧ (∀ d ∈ ds, 0 ≤ d ∧ Fits 1048650 d) ∧ runF 2 5 mDraws [.scr (ns.map D.int), .int c] = .ok (.lst (ds.map D.int)) := by
  have hb' : ∀ z ∈ ns, Fits 1048576 z := fun z hz => fits_of_bits (hb z hz)
  refine ⟨(List.range c).map (cell2 ns), by simp, fun d hd => ?_, draws_run (n := 1048576) (by omega) hb' hl c hc⟩
  obtain ⟨k, _, rfl⟩ := List.mem_map.mp hd
  exact ⟨cell2_nn k, (cell2_fits hb' k).mono (by omega)⟩
end T

set_option Elab.async false
set_option linter.all false
set_option maxRecDepth 100000
set_option maxHeartbeats 4000000
/-! T-layer, part N: going through a mirror; texts. -/
namespace T
open PySem L2
section
variable {ρ ρ' : Rho} {f g : Rho → Out} {o : Out} {d : D} {c : Rho → Res Bool}
theorem seq_nx (h : f ρ = .nx ρ') (h' : g ρ' = o) : sSeq f g ρ = o := by rw [sSeq_nx h, h']
theorem seq_rt (h : f ρ = .rt d) : sSeq f g ρ = .rt d := sSeq_rt h
theorem seq_ex {e : Exn} (h : f ρ = .ex e ρ') : sSeq f g ρ = .ex e ρ' := by rw [sSeq_ap, h]
theorem if_t (h : c ρ = .ok true) (h' : f ρ = o) : sIf c f g ρ = o := by rw [sIf_ap, h, thenS_ok, if_pos rfl, h']
theorem if_f (h : c ρ = .ok false) (h' : g ρ = o) : sIf c f g ρ = o := by rw [sIf_ap, h, thenS_ok, if_neg Bool.false_ne_true, h']
/-- a test that is not met, ahead of the rest -/
theorem seq_no (h : c ρ = .ok false) (h' : g ρ = o) : sSeq (sIf c f sSkip) g ρ = o := seq_nx (if_f h rfl) h'
theorem set_ok {i : Nat} {a : Rho → Res D} (h : a ρ = .ok d) : sSet i a ρ = .nx (ρ.set i (some d)) := by rw [sSet_ap, h, thenS_ok]
theorem setN_ok {i : Nat} {a : Rho → Res (List D)} {ds : List D} (h : a ρ = .ok ds) : sSetN i a ρ = .nx (ρ.set i (some (.lst ds))) := by rw [sSetN_ap, h, thenS_ok]
theorem ret_ok {a : Rho → Res D} (h : a ρ = .ok d) : sRet a ρ = .rt d := by rw [sRet_ap, h, thenS_ok]
theorem app_ok {i : Nat} {a : Rho → Res D} {xs : List D} (h0 : ρ[i]? = some (some (.lst xs))) (h : a ρ = .ok d) (hs : xs.length < 1000000) : sApp i a ρ = .nx (ρ.set i (some (.lst (xs ++ [d])))) := by
  rw [sApp_ap, x_atL h0, h, thenS_ok, if_pos (sz2 hs)]
theorem for_ok {s : Rho → Res (List D)} {b : Bnd} {items : List D} (h : s ρ = .ok items) (h' : forM b f items ρ = o) : sFor s b f ρ = o := by rw [sFor_ap, h, thenS_ok, h']
theorem orB_f {a b : Rho → Res Bool} (h : a ρ = .ok false) (h' : b ρ = .ok false) : orB a b ρ = .ok false := by rw [orB_ap, h, Res.bind_ok, if_neg Bool.false_ne_true, h']
theorem orB_t {a b : Rho → Res Bool} (h : a ρ = .ok true) : orB a b ρ = .ok true := by rw [orB_ap, h, Res.bind_ok, if_pos rfl]
theorem orB_r {a b : Rho → Res Bool} {k : Bool} (h : a ρ = .ok false) (h' : b ρ = .ok k) : orB a b ρ = .ok k := by rw [orB_ap, h, Res.bind_ok, if_neg Bool.false_ne_true, h']
theorem andB_f {a b : Rho → Res Bool} (h : a ρ = .ok false) : andB a b ρ = .ok false := by rw [andB_ap, h, Res.bind_ok, if_neg Bool.false_ne_true]
theorem andB_r {a b : Rho → Res Bool} {k : Bool} (h : a ρ = .ok true) (h' : b ρ = .ok k) : andB a b ρ = .ok k := by rw [andB_ap, h, Res.bind_ok, if_pos rfl, h']
theorem orB_ok {a b : Rho → Res Bool} {k l : Bool} (h : a ρ = .ok k) (h' : b ρ = .ok l) : orB a b ρ = .ok (k || l) := by
  rw [orB_ap, h, Res.bind_ok]
  cases k with
  | true => rfl
  | false => simpa using h'
theorem andB_ok {a b : Rho → Res Bool} {k l : Bool} (h : a ρ = .ok k) (h' : k = true → b ρ = .ok l) : andB a b ρ = .ok (k && l) := by
  rw [andB_ap, h, Res.bind_ok]
  cases k with
  | true => simpa using h' rfl
  | false => rfl
theorem notB_ok {a : Rho → Res Bool} {k : Bool} (h : a ρ = .ok k) : notB a ρ = .ok (!k) := by rw [notB_ap, h, Res.bind_ok]
theorem toB_ok {a : Rho → Res D} {k : Bool} (h : a ρ = .ok (.bl k)) : toB a ρ = .ok k := by rw [toB_ap, h, Res.bind_ok]
theorem bin_ok {α : Type} {h : D → D → Res α} {a b : Rho → Res D} {x y : D} {z : Res α} (ha : a ρ = .ok x) (hb : b ρ = .ok y) (hh : h x y = z) : bin h a b ρ = z := by rw [bin_ap, ha, Res.bind_ok, hb, Res.bind_ok, hh]
theorem call1_ok {α : Type} {h : List D → Res α} {a : Rho → Res D} {x : D} {z : Res α} (ha : a ρ = .ok x) (hh : h [x] = z) : callV h (consA a noA) ρ = z := by rw [callV_ap, consA_ap, ha, Res.bind_ok, noA_ap, Res.bind_ok, Res.bind_ok, hh]
theorem call2_ok {α : Type} {h : List D → Res α} {a b : Rho → Res D} {x y : D} {z : Res α} (ha : a ρ = .ok x) (hb : b ρ = .ok y) (hh : h [x, y] = z) : callV h (consA a (consA b noA)) ρ = z := by
  rw [callV_ap, consA_ap, ha, Res.bind_ok, consA_ap, hb, Res.bind_ok, noA_ap, Res.bind_ok, Res.bind_ok, Res.bind_ok, hh]
theorem call3_ok {α : Type} {h : List D → Res α} {a b c : Rho → Res D} {x y w : D} {z : Res α} (ha : a ρ = .ok x) (hb : b ρ = .ok y) (hc : c ρ = .ok w) (hh : h [x, y, w] = z) : callV h (consA a (consA b (consA c noA))) ρ = z := by
  rw [callV_ap, consA_ap, ha, Res.bind_ok, consA_ap, hb, Res.bind_ok, consA_ap, hc, Res.bind_ok, noA_ap, Res.bind_ok, Res.bind_ok, Res.bind_ok, Res.bind_ok, hh]
theorem lstD_ok {a : Rho → Res (List D)} {ds : List D} (h : a ρ = .ok ds) : lstD a ρ = .ok (.lst ds) := by rw [lstD_ap, h, Res.bind_ok]
/-- an item of a list of numbers -/
theorem ix_ints {a b : Rho → Res D} {ns : List Int} {i : Int} {j : Nat} (ha : a ρ = .ok (.lst (ns.map D.int))) (hb : b ρ = .ok (.int i)) (hi : i = (j : Int)) (hj : j < ns.length) : bin dIx a b ρ = .ok (.int (ns.getD j 0)) := by
  refine bin_ok ha hb (dIx_l (atI_get hi ?_))
  rw [List.getElem?_map, List.getElem?_eq_getElem hj, List.getD_eq_getElem?_getD, List.getElem?_eq_getElem hj]
  rfl
end
theorem getD_mem {ns : List Int} {j : Nat} (h : j < ns.length) : ns.getD j 0 ∈ ns := by
  rw [List.getD_eq_getElem?_getD, List.getElem?_eq_getElem h]
  exact List.getElem_mem h
theorem rng1_ok {n : Nat} (h : n ≤ 1000000) : dRng1 [.int n] = .ok ((List.range n).map fun (i : Nat) => D.int i) := by
  unfold dRng1
  simp only
  rw [if_pos (by omega)]
  simp [upFrom]
theorem rng1_int {z : Int} (h0 : 0 ≤ z) (h : z ≤ 1000000) : dRng1 [.int z] = .ok ((List.range z.toNat).map fun (i : Nat) => D.int i) := by
  have := rng1_ok (n := z.toNat) (by omega)
  rw [Int.toNat_of_nonneg h0] at this
  exact this
theorem joinL_nil : ∀ ys : List (List Nat), TL.joinL [] ys = ys.flatten
  | [] => rfl
  | [p] => by simp [TL.joinL]
  | p :: q :: r => by
    show p ++ ([] ++ TL.joinL [] (q :: r)) = _
    rw [joinL_nil (q :: r)]
    simp
theorem join_nil (ys : List (List Nat)) : Txt.join (SX.S []) (ys.map SX.S) = SX.S ys.flatten := by rw [SX.join_S, joinL_nil]
end T

set_option Elab.async false
set_option linter.all false
set_option maxRecDepth 100000
set_option maxHeartbeats 4000000
/-! T-layer, part O: tables (an owned list of owned lists). -/
namespace T
open PySem PySem.Spec PyProof.Rows L2

abbrev lsts (rows : List (List D)) : List D := rows.map D.lst
/-- rows at addresses -/
def RowsAt (K : PySem.W.Frag) (B H : Hp) (ps : List Addr) (rows : List (List D)) : Prop := ps.length = rows.length ∧ ∀ (k : Nat) (a : Addr) (row : List D), ps[k]? = some a → rows[k]? = some row → ∃ vs, H a = some (.lst vs) ∧ RpA K B vs row
def Fresh (B F : Hp) (own : Own) (a : Addr) : Prop := B a = none ∧ F a = none ∧ own a = none
/-- to a new list of new lists -/
def EvNN (X : Cx) (W : WX) (G : List Mode) (t : TE) (g : Rho → Res (List (List D))) : Prop :=
  ∀ (F : Hp) (ρ : Rho) (own : Own) (B : Hp) (σ : L2.St) (H : Hp) (Q : VK), Good X.K F G ρ own B σ H →
    (g ρ).has (fun rows => ∀ (p : Addr) (ps : List Addr) (B' H' : Hp), Step own F B H B' H' → (∀ a ∈ p :: ps, Fresh B' F own a) → (p :: ps).Nodup → H' p = some (.lst (ps.map V.ref)) → RowsAt X.K B' H' ps rows → Q (.ref p) H') (WOk X.K X.mg W own F B H σ) → t σ H Q
def lcNM (b : Bnd) (f : Rho → Res (List D)) (ρ : Rho) : List D → Res (List (List D))
  | [] => .ok []
  | x :: xs => match b x ρ with
    | none => .no
    | some ρ' => (f ρ').calm.bind fun y => (lcNM b f ρ xs).bind fun ys => .ok (y :: ys)
def compNV (src : Rho → Res (List D)) (b : Bnd) (f : Rho → Res (List D)) (vs : List Nat) : Rho → Res (List (List D)) := fun ρ => (src ρ).bind fun items => if items.length ≤ sizeLine then lcNM b f (wipeR ρ vs) items else .no
/-- these are owned (label 0) while it is made -/
def ownS (own : Own) (S : List Addr) : Own := fun a => if a ∈ S then some [0] else own a
theorem ownS_in {own : Own} {S : List Addr} {a : Addr} (h : a ∈ S) : ownS own S a ≠ none := by simp [ownS, h]
theorem ownS_out {own : Own} {S : List Addr} {a : Addr} (h : a ∉ S) : ownS own S a = own a := by simp [ownS, h]
theorem ownS_up {own : Own} {S : List Addr} {a : Addr} (h : own a ≠ none) : ownS own S a ≠ none := by
  unfold ownS
  split
  · exact fun z => nomatch z
  · exact h
theorem VRep.moreS {K : PySem.W.Frag} {B H H' : Hp} {own : Own} {S : List Addr} (hD : ∀ a ∈ S, own a = none) (hH : ∀ a, own a ≠ none → H' a = H a) : ∀ {m : Mode} {lab : Lab} {v : V} {d : D}, VRep K B H own m lab v d → VRep K B H' (ownS own S) m lab v d
  | .fz, _, _, _, h => h
  | .raw _ _, _, _, _, h => h
  | .own m, lab, _, _, ⟨l, vs, ds, hv, hd, ho, hl, hn, h⟩ =>
    have ho' : own l ≠ none := by rw [ho]; exact fun z => nomatch z
    ⟨l, vs, ds, hv, hd, by rw [ownS_out (fun z => ho' (hD l z))]; exact ho, by rw [hH l ho']; exact hl, hn, fun k v' d' h1 h2 => VRep.moreS hD hH (h k v' d' h1 h2)⟩
theorem RowsAt.step {K : PySem.W.Frag} {F B H B' H' : Hp} {own : Own} {ps : List Addr} {rows : List (List D)} (r : RowsAt K B H ps rows) (s : Step own F B H B' H') (ho : ∀ a ∈ ps, own a ≠ none) : RowsAt K B' H' ps rows :=
  ⟨r.1, fun k a row h1 h2 => by
    obtain ⟨vs, h3, h4⟩ := r.2 k a row h1 h2
    exact ⟨vs, by rw [(s.ownd a (ho a (List.mem_of_getElem? h1))).1]; exact h3, h4.mono s.ext⟩⟩
theorem RowsAt.snoc {K : PySem.W.Frag} {B H : Hp} {ps : List Addr} {rows : List (List D)} {a : Addr} {row : List D} {vs : List V} (r : RowsAt K B H ps rows) (h : H a = some (.lst vs)) (h' : RpA K B vs row) : RowsAt K B H (ps ++ [a]) (rows ++ [row]) :=
  ⟨by simp [r.1], fun k b row' h1 h2 => by
    by_cases hk : k < ps.length
    · rw [List.getElem?_append_left hk] at h1
      rw [List.getElem?_append_left (by rw [← r.1]; exact hk)] at h2
      exact r.2 k b row' h1 h2
    · rw [List.getElem?_append_right (by omega)] at h1
      rw [List.getElem?_append_right (by rw [← r.1]; omega), ← r.1] at h2
      have hk0 : k - ps.length = 0 := by
        have := (List.getElem?_eq_some_iff.mp h1).1
        simp at this
        omega
      rw [hk0] at h1 h2
      simp at h1 h2
      subst h1 h2
      exact ⟨vs, h, h'⟩⟩
section
variable {X : Cx} {W : WX} {G : List Mode} {tg iter elt c : Expr} {scope : Scope}
theorem fam_n {f : Rho → Res (List D)} (h : ∀ s H C cl fp, NJ (Blk X scope s H C cl fp) W0 G elt f) : ∃ te, (∀ s H C cl fp, PE (Blk X scope s H C cl fp) elt te) ∧ EvN X W0 G te f := by
  refine ⟨fun σ H Q => ∀ s H0 C cl fp, (h s H0 C cl fp).choose σ H Q, fun s H0 C cl fp => ⟨fun pins s1 σ H Q I q => ?_⟩, fun F ρ own B σ H Q gd q s H0 C cl fp => ?_⟩
  · exact (h s H0 C cl fp).choose_spec.1.run pins s1 σ H Q I (q s H0 C cl fp)
  · exact (h s H0 C cl fp).choose_spec.2 F ρ own B σ H Q gd q
theorem lcNM_calm {b : Bnd} {f : Rho → Res (List D)} {ρ : Rho} : ∀ {xs : List D} {e : Exn}, lcNM b f ρ xs ≠ .ex e
  | [], _, h => nomatch h
  | x :: xs, e, h => by
    simp only [lcNM] at h
    split at h
    · cases h
    · rename_i ρ' _
      cases h2 : f ρ' with
      | ok y =>
        rw [h2] at h
        simp only [Res.calm_ok, Res.bind_ok] at h
        cases h3 : lcNM b f ρ xs with
        | ok zs =>
          rw [h3] at h
          cases h
        | no =>
          rw [h3] at h
          cases h
        | ex z => exact lcNM_calm h3
      | ex _ =>
        rw [h2] at h
        cases h
      | no =>
        rw [h2] at h
        cases h
/-- the heart: the source's items walked, the new list of new lists made -/
theorem lc_heartN {own0 : List Nat} {wi : TI} {g : TG} {tt : TT} {te : TE} {b : Bnd} {f : Rho → Res (List D)} {src : Rho → Res (List D)} {is : List Nat} (hi : EvIB X W G wi src)
    (hg : ∀ (F : Hp) (own : Own) (B : Hp) (σ : L2.St) (H : Hp) (G : List Mode) (ρ ρ' : Rho) (v : V) (d : T.D) (Q : L2.St → Hp → Prop), Good X.K F G ρ own B σ H → Rp X.K B v d → b d ρ = some ρ' → (∀ i ∈ is, G.getD i .fz = .fz) →
      (∀ σ', Good X.K F G ρ' own B σ' H → OnlyAt is σ σ' → Q σ' H) → g v σ H Q)
    (hsub : ∀ i ∈ is, i ∈ own0) (hG : ∀ i ∈ is, G.getD i Mode.fz = Mode.fz) (ht : EvT X W0 G tt yesB) (he : EvN X W0 G te f) : EvNN X W G (tLc wi g tt te own0) (compNV src b f own0) := fun F ρ own B σ H Q gd q => by
  refine hi F ρ own B σ H _ gd (Res.has_mono (Res.has_bind q) (fun items q J B1 H1 s1 itr => ?_) fun _ x => x)
  split at q
  case isFalse => exact q.elim
  rename_i hz
  intro D hD
  have g1 := gd.step s1
  have hDo := g1.gr.ofresh hD
  have hDb := g1.gr.bfresh hD
  have hDf := g1.gr.ffresh hD
  refine ⟨fun i m H' => m = items.length - i ∧ i ≤ items.length ∧ ∃ (B' : Hp) (ps : List Addr) (rows : List (List T.D)), Step own F B1 H1 B' H' ∧ (∀ a ∈ D :: ps, Fresh B' F own a ∧ H' a ≠ none) ∧ (D :: ps).Nodup ∧ H' D = some (.lst (ps.map V.ref)) ∧ RowsAt X.K B' H' ps rows ∧ ps.length = i ∧
      (lcNM b f (wipeR ρ own0) (items.drop i)).has (fun rest => ∀ (p : Addr) (ps : List Addr) (B' H' : Hp), Step own F B H B' H' → (∀ a ∈ p :: ps, Fresh B' F own a) → (p :: ps).Nodup → H' p = some (.lst (ps.map V.ref)) → RowsAt X.K B' H' ps (rows ++ rest) → Q (.ref p) H') (fun _ => False),
    ⟨items.length, by omega, Nat.zero_le _, B1, [], [], .garbage g1.gr _ hD, fun a ha => ?_, by simp, upd_same, ⟨rfl, fun k a row h => by simp at h⟩, rfl, ?_⟩, fun i m H' hW => ?_⟩
  · rw [List.mem_singleton.mp ha]
    exact ⟨⟨hDb, hDf, hDo⟩, by rw [upd_same]; exact fun z => nomatch z⟩
  · simp only [List.drop_zero, List.nil_append]
    cases e : lcNM b f (wipeR ρ own0) items with
    | ok ds =>
      rw [e] at q
      exact q
    | no =>
      rw [e] at q
      exact q
    | ex x => exact (lcNM_calm e).elim
  · obtain ⟨rfl, hile, B', ps, rows, s2, hfr, hnd, hHD, hrows, hlen, rest⟩ := hW
    have g2 := g1.step s2
    have hS : ∀ a ∈ D :: ps, own a = none := fun a ha => (hfr a ha).1.2.2
    have grD : Ground F (ownS own (D :: ps)) B' H' := ⟨fun a o e => ⟨(g2.gr.base a o e).1, by
        rw [ownS_out (fun z => by rw [(hfr a z).1.1] at e; cases e)]
        exact (g2.gr.base a o e).2⟩, fun a o e => ⟨(g2.gr.frame a o e).1, by
        rw [ownS_out (fun z => by rw [(hfr a z).1.2.1] at e; cases e)]
        exact (g2.gr.frame a o e).2.1, (g2.gr.frame a o e).2.2⟩, fun a h => by
        by_cases ha : a ∈ D :: ps
        · exact (hfr a ha).2
        · rw [ownS_out ha] at h
          exact g2.gr.live a h⟩
    have gdD : Good X.K F G (wipeR ρ own0) (ownS own (D :: ps)) B' (wipe σ own0) H' := by
      have gw := g2.wipe own0
      exact ⟨grD, gw.len, fun j d e => by
        obtain ⟨v, h1, h2⟩ := gw.slots j d e
        exact ⟨v, h1, VRep.moreS hS (fun a _ => rfl) h2⟩⟩
    have itr' := itr (ownS own (D :: ps)) B' H' s2.ext (fun a h => ⟨ownS_up h, (s2.ownd a h).1⟩) grD i
    by_cases hi' : i = items.length
    · refine .inl ⟨itr'.1 hi', ?_⟩
      rw [hi', List.drop_length] at rest
      have rest' : ∀ (p : Addr) (ps : List Addr) (B' H' : Hp), Step own F B H B' H' → (∀ a ∈ p :: ps, Fresh B' F own a) → (p :: ps).Nodup → H' p = some (.lst (ps.map V.ref)) → RowsAt X.K B' H' ps (rows ++ []) → Q (.ref p) H' := rest
      rw [List.append_nil] at rest'
      exact rest' D ps B' H' (s1.trans s2) (fun a ha => (hfr a ha).1) hnd hHD hrows
    · have hlt : i < items.length := by omega
      have hd : items[i]? = some items[i] := List.getElem?_eq_getElem hlt
      obtain ⟨go, yld⟩ := itr'.2 _ hd
      refine .inr ⟨go, _, fun H4 h4 => ⟨items.length - (i + 1), by omega, h4⟩, fun x H3 hy => ?_⟩
      obtain ⟨B3, s3, rx⟩ := yld x H3 hy
      rw [List.drop_eq_getElem_cons hlt] at rest
      simp only [lcNM] at rest
      split at rest
      · exact rest.elim
      · rename_i ρ' hb
        have gd3 := gdD.step s3
        have down : ∀ {Ba Ha Bb Hb : Hp}, Step (ownS own (D :: ps)) F Ba Ha Bb Hb → Step own F Ba Ha Bb Hb := fun {Ba Ha Bb Hb} s => ⟨s.ext, s.base, fun a h => s.ownd a (ownS_up h), s.frame⟩
        refine hg F (ownS own (D :: ps)) B3 (wipe σ own0) H3 G _ ρ' x _ _ gd3 rx hb hG fun σ' gd4 o4 => ⟨wipe_only o4 hsub, ?_⟩
        refine ht F ρ' (ownS own (D :: ps)) B3 σ' H3 _ gd4 (fun B5 H5 s5 => ?_)
        refine he F ρ' (ownS own (D :: ps)) B5 σ' H5 _ (gd4.step s5) (Res.has_mono (Res.has_cb (E' := fun _ => False) rest) (fun y rest r vs B6 H6 s6 hrB hrF hro hrH hrr => ?_) fun _ x => x.elim)
        have s36 := (s3.trans s5).trans s6
        have sA6 := s2.trans (down s36)
        have hown : ∀ a ∈ D :: ps, ownS own (D :: ps) a ≠ none := fun a ha => ownS_in ha
        have hH6 : H6 D = some (.lst (ps.map V.ref)) := by
          rw [(s36.ownd D (hown D (List.mem_cons_self ..))).1]
          exact hHD
        have hrN : r ∉ D :: ps := fun z => hown r z hro
        have hroN : own r = none := by rw [ownS_out hrN] at hro; exact hro
        have hDr : D ≠ r := fun z => hrN (by rw [← z]; exact List.mem_cons_self ..)
        have hDps : D ∉ ps := (List.nodup_cons.mp hnd).1
        refine ⟨ps.map V.ref, hH6, by simp; omega, rfl, by omega, B6, ps ++ [r], rows ++ [y], ?_, fun a ha => ?_, ?_, ?_, ?_, by simp; omega, ?_⟩
        · exact ⟨sA6.ext, fun a o e => by
              rw [upd_ne (fun z => by rw [z, (s36.ownd D (hown D (List.mem_cons_self ..))).2] at e; cases e)]
              exact sA6.base a o e, fun a ho => by
              have ne : a ≠ D := fun z => ho (by rw [z]; exact hDo)
              rw [upd_ne ne]
              exact sA6.ownd a ho, fun a o e => by
              rw [upd_ne (fun z => by rw [z, hDf] at e; cases e)]
              exact sA6.frame a o e⟩
        · have ha' : a ∈ D :: ps ∨ a = r := by
            rcases List.mem_cons.mp ha with h | h
            · exact .inl (by rw [h]; exact List.mem_cons_self ..)
            · rcases List.mem_append.mp h with h | h
              · exact .inl (List.mem_cons_of_mem _ h)
              · exact .inr (List.mem_singleton.mp h)
          rcases ha' with h | h
          · obtain ⟨h1, h2⟩ := s36.ownd a (hown a h)
            refine ⟨⟨h2, (hfr a h).1.2.1, hS a h⟩, ?_⟩
            by_cases hz : a = D
            · rw [hz, upd_same]
              exact fun z => nomatch z
            · rw [upd_ne hz, h1]
              exact (hfr a h).2
          · subst h
            refine ⟨⟨hrB, hrF, hroN⟩, ?_⟩
            rw [upd_ne (Ne.symm hDr), hrH]
            exact fun z => nomatch z
        · have : (D :: ps ++ [r]).Nodup := by
            rw [List.nodup_append]
            exact ⟨hnd, by simp, fun a ha b hb z => hrN (by rw [← List.mem_singleton.mp hb, ← z]; exact ha)⟩
          exact this
        · rw [upd_same, List.map_append]
          rfl
        · have hr6 := hrows.step s36 (fun a ha => hown a (List.mem_cons_of_mem _ ha))
          have hr7 := hr6.snoc hrH hrr
          refine ⟨hr7.1, fun k a row h1 h2 => ?_⟩
          obtain ⟨us, h3, h4⟩ := hr7.2 k a row h1 h2
          refine ⟨us, ?_, h4⟩
          rw [upd_ne]
          · exact h3
          · intro z
            have := List.mem_of_getElem? h1
            rw [z] at this
            rcases List.mem_append.mp this with h | h
            · exact hDps h
            · exact hDr (List.mem_singleton.mp h)
        · refine Res.has_mono (Res.has_bind rest) (fun ys q p ps' B' H' s7 h1 h2 h3 h4 => ?_) fun _ x => x
          have q' : ∀ (p : Addr) (ps : List Addr) (B' H' : Hp), Step own F B H B' H' → (∀ a ∈ p :: ps, Fresh B' F own a) → (p :: ps).Nodup → H' p = some (.lst (ps.map V.ref)) → RowsAt X.K B' H' ps (rows ++ y :: ys) → Q (.ref p) H' := q
          exact q' p ps' B' H' s7 h1 h2 h3 (by simpa using h4)
end

section
variable {X : Cx} {W : WX} {L : LM} {G G' : List Mode} {tg iter elt c e : Expr} {scope : Scope} {own0 : List (Str × Nat)} {b : Bnd} {src : Rho → Res (List D)} {is : List Nat} {pos spos py px : Pos} {i : Nat} {x y : Str}
abbrev Mode.tab : Mode := .own (.own .fz)
/-- y = [[..] for ..], y in slot i -/
def LcNJ (X : Cx) (W : WX) (G : List Mode) (y : Str) (py : Pos) (i : Nat) (e : Expr) (spos : Pos) (g : Rho → Res (List (List D))) : Prop := ∃ te, PS X (.Assign [.Name y py] e spos) (tAsg te (gName i)) ∧ EvNN X W G te g
theorem lcjN {f : Rho → Res (List D)} (hc : X.calm = true) (hN : X.N.Nodup) (hy : X.N[i]? = some y) (hyl : X.env.scope.names.lookup y = some .local)
    (hsw : swapsWith (.ListComp elt [⟨tg, iter, [], 0⟩] scope pos) (some (.Name y py)) spos.line X.env = pure true) (hi : IBJ X W G tg iter src) (ok : BlkOk X.N X.env.scope scope own0) (hg : ∀ s H C cl fp, GJ (Blk X scope s H C cl fp) tg b is) (hsub : ∀ i ∈ is, i ∈ own0.map (·.2))
    (hG : ∀ i ∈ is, G.getD i Mode.fz = Mode.fz) (he : ∀ s H C cl fp, NJ (Blk X scope s H C cl fp) W0 G elt f) (hs : ∀ x, foldedSetIterable iter X.env x = pure x := by intro _; rfl) : LcNJ X W G y py i (.ListComp elt [⟨tg, iter, [], 0⟩] scope pos) spos (compNV src b f (own0.map (·.2))) := by
  obtain ⟨wi, pi, vi⟩ := hi
  obtain ⟨te, pe, ve⟩ := fam_n he
  obtain ⟨g, pg, vg⟩ := fam_g hg
  exact ⟨_, ps_setLc hc hN hy hyl hsw pi ok pg (fun _ _ _ _ _ => pts_nil) pe hs, lc_heartN vi vg hsub hG (fun F ρ own B σ H Q gd q => q B H (.refl gd.gr)) ve⟩
def sSetNN (i : Nat) (g : Rho → Res (List (List D))) : Rho → Out := fun ρ => thenS (g ρ) ρ fun rows => .nx (ρ.set i (some (.lst (lsts rows))))
/-- the labels of a table -/
def ownT (own : Own) (i : Nat) (p : Addr) (ps : List Addr) : Own := fun a => if a = p then some [i + 1] else if a ∈ ps then some [i + 1, ps.idxOf a] else dropL own (i + 1) a
theorem Good.setNN {K : PySem.W.Frag} {F B H B' H' : Hp} {own : Own} {ρ : Rho} {σ : L2.St} {p : Addr} {ps : List Addr} {rows : List (List D)} (g : Good K F G ρ own B σ H) (s : Step own F B H B' H') (hfr : ∀ a ∈ p :: ps, Fresh B' F own a) (hnd : (p :: ps).Nodup) (hp : H' p = some (.lst (ps.map V.ref))) (r : RowsAt K B' H' ps rows)
    (hi : (G.set i Mode.tab).getD i Mode.fz = Mode.tab) : Good K F (G.set i Mode.tab) (ρ.set i (some (.lst (lsts rows)))) (ownT own i p ps) B' (σ.set i (some (.ref p))) H' := by
  have g1 := g.step s
  have hout : ∀ {a : Addr}, a ∉ p :: ps → ownT own i p ps a = dropL own (i + 1) a := fun {a} h => by
    rw [List.mem_cons, not_or] at h
    unfold ownT
    rw [if_neg h.1, if_neg h.2]
  have hpn : p ∉ ps := (List.nodup_cons.mp hnd).1
  have hnd2 : ps.Nodup := (List.nodup_cons.mp hnd).2
  refine ⟨⟨fun a o e => ?_, fun a o e => ?_, fun a h => ?_⟩, by simpa using g.len, fun j d e => ?_⟩
  · have ne : a ∉ p :: ps := fun z => by
      rw [(hfr a z).1] at e
      cases e
    rw [hout ne]
    exact ⟨(g1.gr.base a o e).1, none_back (fun a l h => dropL_some h) (g1.gr.base a o e).2⟩
  · have ne : a ∉ p :: ps := fun z => by
      rw [(hfr a z).2.1] at e
      cases e
    rw [hout ne]
    exact ⟨(g1.gr.frame a o e).1, none_back (fun a l h => dropL_some h) (g1.gr.frame a o e).2.1, (g1.gr.frame a o e).2.2⟩
  · by_cases ha : a ∈ p :: ps
    · rcases List.mem_cons.mp ha with z | z
      · rw [z, hp]
        exact fun z => nomatch z
      · obtain ⟨k, hk⟩ := List.getElem?_of_mem z
        have hkl : k < rows.length := by rw [← r.1]; exact (List.getElem?_eq_some_iff.mp hk).1
        obtain ⟨vs, h3, _⟩ := r.2 k a rows[k] hk (List.getElem?_eq_getElem hkl)
        rw [h3]
        exact fun z => nomatch z
    · rw [hout ha] at h
      exact g1.gr.live a fun z => h (none_back (fun a l h => dropL_some h) z)
  · have hl := g.len
    by_cases hj : i = j
    · subst hj
      have hlt : i < ρ.length := by
        have := (List.getElem?_eq_some_iff.mp e).1
        simpa using this
      rw [List.getElem?_set_self hlt] at e
      cases e
      refine ⟨.ref p, List.getElem?_set_self (by omega), ?_⟩
      rw [hi]
      refine ⟨p, ps.map V.ref, lsts rows, rfl, rfl, by simp [ownT], hp, by simp [r.1], fun k v' d' h1 h2 => ?_⟩
      rw [List.getElem?_map] at h1 h2
      obtain ⟨a, ha, rfl⟩ := Option.map_eq_some_iff.mp h1
      obtain ⟨row, hr, rfl⟩ := Option.map_eq_some_iff.mp h2
      obtain ⟨vs, h3, h4⟩ := r.2 k a row ha hr
      have hkl : k < ps.length := (List.getElem?_eq_some_iff.mp ha).1
      have hak : ps[k] = a := (List.getElem?_eq_some_iff.mp ha).2
      refine ⟨a, vs, row, rfl, rfl, ?_, h3, h4.len, fun k2 v2 d2 e1 e2 => ?_⟩
      · have hm : a ∈ ps := List.mem_of_getElem? ha
        unfold ownT
        rw [if_neg (fun z : a = p => hpn (by rw [← z]; exact hm)), if_pos hm]
        have : ps.idxOf a = k := by
          rw [← hak]
          exact hnd2.idxOf_getElem k hkl
        rw [this]
        rfl
      · obtain ⟨d3, e3, e4⟩ := h4.get' e1
        rw [e2] at e3
        cases e3
        exact e4
    · rw [List.getElem?_set_ne hj] at e
      obtain ⟨w, h1, h2⟩ := g1.slots j d e
      refine ⟨w, by rw [List.getElem?_set_ne hj]; exact h1, ?_⟩
      have e1 : (G.set i Mode.tab).getD j Mode.fz = G.getD j Mode.fz := by simp [List.getD, List.getElem?_set_ne hj]
      rw [e1]
      refine VRep.own_congr (fun a r e => ?_) h2
      have ne : a ∉ p :: ps := fun z => by
        rw [(hfr a z).2.2] at e
        cases e
      rw [hout ne]
      exact dropL_ne e (by omega)
theorem sj_lcNN {g : Rho → Res (List (List D))} (h : LcNJ X W G x px i e pos g) (hm : (G.set i Mode.tab).getD i Mode.fz = Mode.tab := by rfl) : SJ X W L G (.Assign [.Name x px] e pos) (sSetNN i g) (G.set i Mode.tab) := by
  obtain ⟨te, ps, ve⟩ := h
  refine ⟨_, ps, fun F ρ own B σ H D gd q => ?_⟩
  refine ve F ρ own B σ H _ gd (Res.has_mono (thenS_has gd q) (fun rows q p ps B' H' s hfr hnd hp r => ?_) fun _ x => x)
  exact q _ B' _ H' s.ext (gd.setNN s hfr hnd hp r hm)

/-! ### a row, borrowed -/
section
variable {K : PySem.W.Frag} {F B H : Hp} {own : Own} {ρ : Rho} {σ : L2.St}
theorem Good.tabAt {d : D} (g : Good K F G ρ own B σ H) (hG : G.getD i Mode.fz = Mode.tab) (hρ : ρ[i]? = some (some d)) :
    ∃ (l : Addr) (vs : List V) (ds : List D), σ[i]? = some (some (.ref l)) ∧ d = .lst ds ∧ own l = some [i + 1] ∧ H l = some (.lst vs) ∧ vs.length = ds.length ∧
      ∀ (k : Nat) (v' : V) (d' : D), vs[k]? = some v' → ds[k]? = some d' → ∃ (a : Addr) (us : List V) (es : List D), v' = .ref a ∧ d' = .lst es ∧ own a = some [i + 1, k] ∧ H a = some (.lst us) ∧ RpA K B us es := by
  obtain ⟨v, h1, h2⟩ := g.slots i d hρ
  rw [hG] at h2
  obtain ⟨l, vs, ds, rfl, rfl, ho, hl, hn, h⟩ := h2
  refine ⟨l, vs, ds, h1, rfl, ho, hl, hn, fun k v' d' e1 e2 => ?_⟩
  obtain ⟨a, us, es, rfl, rfl, h3, h4, h5, h6⟩ := h k v' d' e1 e2
  exact ⟨a, us, es, rfl, rfl, h3, h4, RpA.of_get h5 h6⟩
end
def ixT (i : Nat) (gk : Rho → Res D) : Rho → Res D := bin dIx (getV i) gk
theorem get_ixN {α β : Type} {vs : List α} {ds : List β} {k : Int} {d : β} (hn : vs.length = ds.length) (h : atI ds k = some d) : ∃ (j : Nat) (v : α), ixN vs.length k = some j ∧ vs[j]? = some v ∧ ds[j]? = some d := by
  unfold atI at h
  obtain ⟨j, h1, h2⟩ := Option.bind_eq_some_iff.mp h
  have hj : j < ds.length := (List.getElem?_eq_some_iff.mp h2).1
  exact ⟨j, vs[j], by rw [hn]; exact h1, List.getElem?_eq_getElem (by omega), h2⟩
theorem ev_row {tk : TE} {gk : Rho → Res D} (hG : G.getD i Mode.fz = Mode.tab) (hk : EvB X W G tk gk) : EvB X W G (tOp (rIx X.K) (tVar i) tk) (bin dIx (getV i) gk) := fun F ρ own B σ H Q gd q => by
  unfold bin getV at q
  cases e : ρ[i]? with
  | none =>
    rw [e] at q
    exact q.elim
  | some o =>
    cases o with
    | none =>
      rw [e] at q
      exact q.elim
    | some d =>
      rw [e] at q
      simp only [Res.bind_ok] at q
      obtain ⟨l, vs, ds, h1, rfl, h3, h4, h5, h6⟩ := gd.tabAt hG e
      refine ⟨.ref l, h1, ?_⟩
      refine hk F ρ own B σ H _ gd (Res.has_mono (Res.has_bind q) (fun dk q w B2 H2 s2 r2 => ?_) fun _ x => x)
      cases dk with
      | int k =>
        cases r2.int
        have q : (dIx (.lst ds) (.int k)).has (fun d => ∀ (v : V) (B' H' : Hp), Step own F B H B' H' → Sn X.K own B' H' v d → Q v H') (WOk X.K X.mg W own F B H σ) := q
        unfold dIx at q
        simp only at q
        split at q
        · rename_i d hd
          obtain ⟨j, v, j1, j2, j3⟩ := get_ixN h5 hd
          obtain ⟨a, us, es, rfl, rfl, a1, a2, a3⟩ := h6 j v d j2 j3
          have hl : H2 l = some (.lst vs) := (s2.ownd l (by rw [h3]; exact fun z => nomatch z)).1.trans h4
          have ha : H2 a = some (.lst us) := (s2.ownd a (by rw [a1]; exact fun z => nomatch z)).1.trans a2
          refine .inl ⟨l, vs, _, .ref a, rfl, rfl, .inl (.inl hl), ?_, q _ _ _ s2 (.inr ⟨a, us, es, rfl, rfl, (by rw [a1]; exact (fun z => nomatch z)), ha, a3.mono s2.ext⟩)⟩
          first
            | (unfold atI; rw [j1]; exact j2)
            | (rw [j1]; exact j2)
        · exact q.elim
      | _ => exact q.elim
theorem bj_row {k : Expr} {gk : Rho → Res D} {sp : Pos} (hv : PE X (.Name x px) (tVar i)) (hk : BJ X W G k gk) (hm : G.getD i Mode.fz = Mode.tab := by rfl) (hs : PlainIx k := by exact fun _ _ => rfl) : BJ X W G (.Subscript (.Name x px) k sp) (bin dIx (getV i) gk) := by
  obtain ⟨tk, pk, vk⟩ := hk
  exact ⟨_, pe_ix ix_seq hv pk hs, ev_row hm vk⟩

/-! ### table[a][b] = e -/
def sSetII (i : Nat) (ga gb g : Rho → Res D) : Rho → Out := fun ρ => thenS (g ρ) ρ fun d => atL i ρ fun xs => thenS (ga ρ) ρ fun a => match a with
  | .int a => match ixN xs.length a with
    | some j => match xs[j]? with
      | some (.lst row) => thenS (gb ρ) ρ fun b => match b with
        | .int b => match ixN row.length b with
          | some k => .nx (ρ.set i (some (.lst (xs.set j (.lst (row.set k d))))))
          | none => .no
        | _ => .no
      | _ => .no
    | none => .no
  | _ => .no
theorem Good.mutII {K : PySem.W.Frag} {F B H : Hp} {own : Own} {ρ : Rho} {σ : L2.St} {l a : Addr} {vs us : List V} {ds es : List D} {j : Nat} (g : Good K F G ρ own B σ H) (hG : G.getD i Mode.fz = Mode.tab) (hρ : ρ[i]? = some (some (.lst ds))) (hσ : σ[i]? = some (some (.ref l))) (hol : own l = some [i + 1]) (hl : H l = some (.lst vs)) (hv : vs[j]? = some (.ref a)) (ho : own a = some [i + 1, j]) (r : RpA K B us es) :
    Good K F G (ρ.set i (some (.lst (ds.set j (.lst es))))) own B σ (upd H a (.lst us)) := by
  have hoN : own a ≠ none := by rw [ho]; exact fun z => nomatch z
  refine ⟨⟨fun a' o e => ?_, fun a' o e => ?_, fun a' h => ?_⟩, by simpa using g.len, fun j' d e => ?_⟩
  · have ne : a' ≠ a := fun z => hoN (by rw [← z]; exact (g.gr.base a' o e).2)
    rw [upd_ne ne]
    exact g.gr.base a' o e
  · have ne : a' ≠ a := fun z => hoN (by rw [← z]; exact (g.gr.frame a' o e).2.1)
    rw [upd_ne ne]
    exact g.gr.frame a' o e
  · by_cases ha : a' = a
    · rw [ha, upd_same]
      exact fun z => nomatch z
    · rw [upd_ne ha]
      exact g.gr.live a' h
  · by_cases hj : i = j'
    · subst hj
      have hlt : i < ρ.length := (List.getElem?_eq_some_iff.mp hρ).1
      rw [List.getElem?_set_self hlt] at e
      cases e
      refine ⟨.ref l, hσ, ?_⟩
      rw [hG]
      obtain ⟨v, h1, h2⟩ := g.slots i _ hρ
      rw [hG] at h2
      obtain ⟨l', vs', ds', rfl, e', ho', hl', hn, h⟩ := h2
      cases e'
      rw [hσ] at h1
      cases h1
      rw [hl] at hl'
      cases hl'
      have hla : l ≠ a := fun z => by
        rw [z, ho] at hol
        simp at hol
      refine ⟨l, vs, _, rfl, rfl, hol, by rw [upd_ne hla]; exact hl, by simpa using hn, fun k v' d' e1 e2 => ?_⟩
      by_cases hk : j = k
      · subst hk
        rw [hv] at e1
        cases e1
        have hjl : j < ds.length := by
          have := (List.getElem?_eq_some_iff.mp e2).1
          simpa using this
        rw [List.getElem?_set_self hjl] at e2
        cases e2
        refine ⟨a, us, es, rfl, rfl, by rw [ho]; rfl, upd_same, r.len, fun k2 v2 d2 f1 f2 => ?_⟩
        obtain ⟨d3, f3, f4⟩ := r.get' f1
        rw [f2] at f3
        cases f3
        exact f4
      · rw [List.getElem?_set_ne hk] at e2
        refine VRep.upd ho (fun r z => ?_) (h k v' d' e1 e2)
        simp at z
        exact hk z.1.symm
    · rw [List.getElem?_set_ne hj] at e
      obtain ⟨w, h1, h2⟩ := g.slots j' d e
      refine ⟨w, h1, VRep.upd ho (fun r z => ?_) h2⟩
      have := (List.cons.inj z).1
      omega
theorem sj_setII {ka kb : Expr} {sp sp2 : Pos} {g ga gb : Rho → Res D} (hv : PE X (.Name x px) (tVar i)) (hm : G.getD i Mode.fz = Mode.tab) (he : EJ X W G e g) (ha : BJ X W G ka ga) (hb : BJ X W G kb gb)
    (hg : ∀ {to ti : TE}, PE X (.Subscript (.Name x px) ka sp2) to → PE X kb ti → PG X (.Subscript (.Subscript (.Name x px) ka sp2) kb sp) (gSub to ti rSetL)) (hsa : PlainIx ka := by exact fun _ _ => rfl) (h1 : (assignEach [.Subscript (.Subscript (.Name x px) ka sp2) kb sp] X.env).map (·.2) = [assign (.Subscript (.Subscript (.Name x px) ka sp2) kb sp) X.env] := by rfl) (hs : swapsWithSole [.Subscript (.Subscript (.Name x px) ka sp2) kb sp] e pos.line X.env = pure false := by rfl) (hw : swappedStores [.Subscript (.Subscript (.Name x px) ka sp2) kb sp] e X.env = pure none := by rfl) :
    SJ X W L G (.Assign [.Subscript (.Subscript (.Name x px) ka sp2) kb sp] e pos) (sSetII i ga gb g) G := by
  obtain ⟨te, pe, ve⟩ := he
  obtain ⟨ta, pa, va⟩ := ha
  obtain ⟨tb, pb, vb⟩ := hb
  refine ⟨_, ps_asg pe (hg (pe_ix ix_seq hv pa hsa) pb) hs hw h1, fun F ρ own B σ H D gd q => ?_⟩
  refine ve F ρ own B σ H _ gd (Res.has_mono (thenS_has gd q) (fun d q u B' H' s r => ?_) fun _ x => x)
  have g1 := gd.step s
  have q := q.ext s.ext
  unfold atL at q
  split at q
  case h_2 => exact q.elim
  rename_i xs hx
  obtain ⟨l, vs, ds, h1, h2, h3, h4, h5, h6⟩ := g1.tabAt hm hx
  cases h2
  refine ⟨.ref l, h1, ?_⟩
  refine va F ρ own B' σ H' _ g1 (Res.has_mono (thenS_has g1 q) (fun da q w B2 H2 s2 r2 => ?_) fun _ x => x)
  have g2 := g1.step s2
  have hl2 : H2 l = some (.lst vs) := (s2.ownd l (by rw [h3]; exact fun z => nomatch z)).1.trans h4
  have q := q.ext s2.ext
  cases da with
  | int k =>
    cases r2.int
    simp only at q
    cases hj : ixN xs.length k with
    | none =>
      rw [hj] at q
      exact q.elim
    | some j =>
      rw [hj] at q
      simp only at q
      split at q
      case h_2 => exact q.elim
      rename_i row hrow
      have hjl : j < xs.length := (List.getElem?_eq_some_iff.mp hrow).1
      have hjv : vs[j]? = some vs[j] := List.getElem?_eq_getElem (by omega)
      obtain ⟨a, us, es, e1, e2, a1, a2, a3⟩ := h6 j _ _ hjv hrow
      cases e2
      rw [e1] at hjv
      have ha2 : H2 a = some (.lst us) := (s2.ownd a (by rw [a1]; exact fun z => nomatch z)).1.trans a2
      refine .inl ⟨l, vs, k, .ref a, rfl, rfl, .inl (.inl hl2), ?_, ?_⟩
      · first
          | (unfold atI; rw [h5, hj]; exact hjv)
          | (rw [h5, hj]; exact hjv)
      refine vb F ρ own B2 σ H2 _ g2 (Res.has_mono (thenS_has g2 q) (fun db q w B3 H3 s3 r3 => ?_) fun _ x => x)
      cases db with
      | int b =>
        cases r3.int
        simp only at q
        cases hk : ixN row.length b with
        | none =>
          rw [hk] at q
          exact q.elim
        | some m =>
          rw [hk] at q
          have ha3 : H3 a = some (.lst us) := (s3.ownd a (by rw [a1]; exact fun z => nomatch z)).1.trans ha2
          have hl3 : H3 l = some (.lst vs) := (s3.ownd l (by rw [h3]; exact fun z => nomatch z)).1.trans hl2
          have r3 := ((a3.mono s2.ext).mono s3.ext)
          refine ⟨a, us, b, m, rfl, rfl, ha3, by rw [r3.len]; exact hk, ?_⟩
          exact q own B3 σ _ s3.ext ((g2.step s3).mutII hm hx h1 h3 hl3 hjv a1 (r3.set m ((r.mono s2.ext).mono s3.ext)))
      | _ => exact q.elim
  | _ => exact q.elim
end
end T

set_option Elab.async false
set_option linter.all false
set_option maxRecDepth 100000
set_option maxHeartbeats 4000000
/-! T-layer, part P: loops by what holds at each turn; sequences as arguments. -/
namespace T
open PySem L2
/-- a for loop: I at each turn; Bk where it breaks -/
theorem forM_inv {b : Bnd} {body : Rho → Out} (I : Nat → Rho → Prop) (Bk : Rho → Prop) : ∀ (xs : List D) (k : Nat), (∀ (i : Nat) (x : D) (ρ : Rho), xs[i]? = some x → I (k + i) ρ → ∃ ρ1, b x ρ = some ρ1 ∧ ((∃ ρ2, (body ρ1 = .nx ρ2 ∨ body ρ1 = .ct ρ2) ∧ I (k + i + 1) ρ2) ∨ ∃ ρ2, body ρ1 = .bk ρ2 ∧ Bk ρ2)) →
    ∀ ρ, I k ρ → ∃ ρ', forM b body xs ρ = .nx ρ' ∧ (I (k + xs.length) ρ' ∨ Bk ρ')
  | [], _, _, ρ, hI => ⟨ρ, rfl, .inl hI⟩
  | x :: xs, k, h, ρ, hI => by
    obtain ⟨ρ1, h1, h2⟩ := h 0 x ρ rfl hI
    simp only [forM, h1]
    rcases h2 with ⟨ρ2, h2, h3⟩ | ⟨ρ2, h2, h3⟩
    · have ih := forM_inv I Bk xs (k + 1) (fun i y ρ hy hI => by
        have := h (i + 1) y ρ (by simpa using hy) (by rw [show k + (i + 1) = k + 1 + i by omega]; exact hI)
        rw [show k + (i + 1) + 1 = k + 1 + i + 1 by omega] at this
        exact this) ρ2 (by simpa using h3)
      rw [show k + (x :: xs).length = k + 1 + xs.length by simp; omega]
      rcases h2 with h2 | h2
      · rw [h2]
        exact ih
      · rw [h2]
        exact ih
    · rw [h2]
      exact ⟨ρ2, rfl, .inr h3⟩
theorem for_inv {b : Bnd} {body : Rho → Out} (I : Nat → Rho → Prop) (xs : List D) (h : ∀ (i : Nat) (x : D) (ρ : Rho), xs[i]? = some x → I i ρ → ∃ ρ1, b x ρ = some ρ1 ∧ ∃ ρ2, (body ρ1 = .nx ρ2 ∨ body ρ1 = .ct ρ2) ∧ I (i + 1) ρ2) {ρ : Rho} (hI : I 0 ρ) : ∃ ρ', forM b body xs ρ = .nx ρ' ∧ I xs.length ρ' := by
  obtain ⟨ρ', h1, h2⟩ := forM_inv I (fun _ => False) xs 0 (fun i x ρ hx hI => by
    rw [Nat.zero_add] at hI ⊢
    obtain ⟨ρ1, h1, h2⟩ := h i x ρ hx hI
    exact ⟨ρ1, h1, .inl h2⟩) ρ hI
  rw [Nat.zero_add] at h2
  exact ⟨ρ', h1, h2.resolve_right id⟩
theorem for_invB {b : Bnd} {body : Rho → Out} (I : Nat → Rho → Prop) (Bk : Rho → Prop) (xs : List D) (h : ∀ (i : Nat) (x : D) (ρ : Rho), xs[i]? = some x → I i ρ → ∃ ρ1, b x ρ = some ρ1 ∧ ((∃ ρ2, (body ρ1 = .nx ρ2 ∨ body ρ1 = .ct ρ2) ∧ I (i + 1) ρ2) ∨ ∃ ρ2, body ρ1 = .bk ρ2 ∧ Bk ρ2)) {ρ : Rho} (hI : I 0 ρ) : ∃ ρ', forM b body xs ρ = .nx ρ' ∧ (I xs.length ρ' ∨ Bk ρ') := by
  obtain ⟨ρ', h1, h2⟩ := forM_inv I Bk xs 0 (fun i x ρ hx hI => by
    rw [Nat.zero_add] at hI ⊢
    exact h i x ρ hx hI) ρ hI
  rw [Nat.zero_add] at h2
  exact ⟨ρ', h1, h2⟩
/-- a while loop: I with what is left -/
theorem while_inv {c : Rho → Res Bool} {body : Rho → Out} (I : Nat → Rho → Prop) (Post : Rho → Prop) (h : ∀ n ρ, I n ρ → (c ρ = .ok false ∧ Post ρ) ∨ (c ρ = .ok true ∧ ((∃ ρ2 k, (body ρ = .nx ρ2 ∨ body ρ = .ct ρ2) ∧ k < n ∧ I k ρ2) ∨ ∃ ρ2, body ρ = .bk ρ2 ∧ Post ρ2))) :
    ∀ (fuel n : Nat) (ρ : Rho), n < fuel → I n ρ → ∃ ρ', whileM c body fuel ρ = .nx ρ' ∧ Post ρ'
  | 0, _, _, hn, _ => absurd hn (Nat.not_lt_zero _)
  | fuel + 1, n, ρ, hn, hI => by
    rcases h n ρ hI with ⟨h1, h2⟩ | ⟨h1, ⟨ρ2, k, h2, h3, h4⟩ | ⟨ρ2, h2, h3⟩⟩
    · refine ⟨ρ, ?_, h2⟩
      simp [whileM, h1]
    · obtain ⟨ρ', e, hp⟩ := while_inv I Post h fuel k ρ2 (by omega) h4
      refine ⟨ρ', ?_, hp⟩
      rcases h2 with h2 | h2 <;> simp [whileM, h1, h2, e]
    · refine ⟨ρ2, ?_, h3⟩
      simp [whileM, h1, h2]
theorem seq_bk {f g : Rho → Out} {ρ ρ' : Rho} (h : f ρ = .bk ρ') : sSeq f g ρ = .bk ρ' := by rw [sSeq_ap, h]
theorem seq_ct {f g : Rho → Out} {ρ ρ' : Rho} (h : f ρ = .ct ρ') : sSeq f g ρ = .ct ρ' := by rw [sSeq_ap, h]
theorem cut_from {α : Type} (xs : List α) (i : Nat) (z : Int) (hz : z = (i : Int)) (h : i ≤ xs.length) : cutL xs (some z) none = xs.drop i := by
  subst hz
  have h1 : HT.sIx xs.length 0 (some (i : Int)) = i := by
    rw [HT.sIx_nat]
    omega
  have h2 : HT.sIx xs.length xs.length none = xs.length := rfl
  unfold cutL
  rw [h1, h2]
  exact List.take_of_length_le (by simp)
theorem cut_to {α : Type} (xs : List α) (i : Nat) (z : Int) (hz : z = (i : Int)) (h : i ≤ xs.length) : cutL xs none (some z) = xs.take i := by
  subst hz
  have h1 : HT.sIx xs.length xs.length (some (i : Int)) = i := by
    rw [HT.sIx_nat]
    omega
  have h2 : HT.sIx xs.length 0 none = 0 := rfl
  unfold cutL
  rw [h1, h2]
  simp
theorem cut_mid {α : Type} (xs : List α) (i j : Nat) (y z : Int) (hy : y = (i : Int)) (hz : z = (j : Int)) (hi : i ≤ xs.length) (h : j ≤ xs.length) : cutL xs (some y) (some z) = (xs.drop i).take (j - i) := by
  subst hy hz
  have h1 : HT.sIx xs.length xs.length (some (j : Int)) = j := by
    rw [HT.sIx_nat]
    omega
  have h2 : HT.sIx xs.length 0 (some (i : Int)) = i := by
    rw [HT.sIx_nat]
    omega
  unfold cutL
  rw [h1, h2]
theorem while_ok {c : Rho → Res Bool} {body : Rho → Out} {fuel : Nat} {ρ ρ' : Rho} {g : Rho → Out} {o : Out} (h : whileM c body fuel ρ = .nx ρ') (h' : g ρ' = o) : sSeq (whileM c body fuel) g ρ = o := seq_nx h h'
theorem rngD_ok {n : Nat} (h : n ≤ 1000000) : dRngD [.int ((n : Int) - 1), .int (-1), .int (-1)] = .ok ((List.range n).map fun k => D.int (((n - 1 - k : Nat) : Int))) := by
  unfold dRngD
  simp only
  rw [if_pos (by omega)]
  unfold downFrom
  rw [show ((n : Int) - 1 - -1).toNat = n by omega]
  refine congrArg Res.ok (List.map_congr_left fun k hk => ?_)
  have := List.mem_range.mp hk
  exact congrArg D.int (by omega)
theorem runF_nx {n N : Nat} {f : Rho → Out} {ds : List D} {ρ : Rho} (h : ds.length = n) (e : f (startR N ds) = .nx ρ) : runF n N f ds = .ok .non := by
  unfold runF
  rw [if_pos h, e]
theorem runF_ex {n N : Nat} {f : Rho → Out} {ds : List D} {ρ : Rho} {x : Exn} (h : ds.length = n) (e : f (startR N ds) = .ex x ρ) : runF n N f ds = .ex x := by
  unfold runF
  rw [if_pos h, e]
/-- a sequence of things -/
structure Sq {α : Type} (enc : α → D) (S : D) (xs : List α) : Prop where
  ix : ∀ (j : Nat) (x : α), xs[j]? = some x → dIx S (.int (j : Int)) = .ok (enc x)
  len : dLen [S] = .ok (.int xs.length)
theorem sq_l {α : Type} {enc : α → D} (xs : List α) : Sq enc (.lst (xs.map enc)) xs :=
  ⟨fun j x h => dIx_l (atI_get rfl (by rw [List.getElem?_map, h]; rfl)), by simp⟩
theorem sq_t {α : Type} {enc : α → D} (xs : List α) : Sq enc (.tup (xs.map enc)) xs :=
  ⟨fun j x h => dIx_t (atI_get rfl (by rw [List.getElem?_map, h]; rfl)), by simp⟩
section
variable {ρ : Rho} {a b : Rho → Res D} {i : Int} {j : Nat}
theorem ix_ok {α : Type} {enc : α → D} {S : D} {xs : List α} {x : α} (hs : Sq enc S xs) (ha : a ρ = .ok S) (hb : b ρ = .ok (.int i)) (hi : i = (j : Int)) (hx : xs[j]? = some x) : bin dIx a b ρ = .ok (enc x) := by
  refine bin_ok ha hb ?_
  rw [hi]
  exact hs.ix j x hx
theorem len_ok {α : Type} {enc : α → D} {S : D} {xs : List α} (hs : Sq enc S xs) (ha : a ρ = .ok S) : callV dLen (consA a noA) ρ = .ok (.int xs.length) := call1_ok ha hs.len
theorem add_ok {x y : Int} (ha : a ρ = .ok (.int x)) (hb : b ρ = .ok (.int y)) : bin dAdd a b ρ = .ok (.int (x + y)) := bin_ok ha hb dAdd_i
theorem sub_ok {x y : Int} (ha : a ρ = .ok (.int x)) (hb : b ρ = .ok (.int y)) : bin dSub a b ρ = .ok (.int (x - y)) := bin_ok ha hb dSub_i
theorem mod_ok {x y : Int} (ha : a ρ = .ok (.int x)) (hb : b ρ = .ok (.int y)) (h : 0 < y) : bin dMod a b ρ = .ok (.int (x % y)) := bin_ok ha hb (dMod_ok h)
theorem div_ok {x y : Int} (ha : a ρ = .ok (.int x)) (hb : b ρ = .ok (.int y)) (h : 0 < y ∧ y.natAbs.log2 < 9000) : bin dDiv a b ρ = .ok (.int (x / y)) := bin_ok ha hb (dDiv_ok h)
theorem lt_ok {x y : Int} (ha : a ρ = .ok (.int x)) (hb : b ρ = .ok (.int y)) : toB (bin dLt a b) ρ = .ok (decide (x < y)) := toB_ok (bin_ok ha hb dLt_i)
theorem le_ok {x y : Int} (ha : a ρ = .ok (.int x)) (hb : b ρ = .ok (.int y)) : toB (bin dLe a b) ρ = .ok (decide (x ≤ y)) := toB_ok (bin_ok ha hb dLe_i)
theorem gt_ok {x y : Int} (ha : a ρ = .ok (.int x)) (hb : b ρ = .ok (.int y)) : toB (bin dGt a b) ρ = .ok (decide (y < x)) := toB_ok (bin_ok ha hb dGt_i)
theorem ge_ok {x y : Int} (ha : a ρ = .ok (.int x)) (hb : b ρ = .ok (.int y)) : toB (bin dGe a b) ρ = .ok (decide (y ≤ x)) := toB_ok (bin_ok ha hb dGe_i)
theorem eq_ok {x y : Int} (ha : a ρ = .ok (.int x)) (hb : b ρ = .ok (.int y)) : toB (bin dEq a b) ρ = .ok (decide (x = y)) := toB_ok (bin_ok ha hb dEq_i)
theorem ne_ok {x y : Int} (ha : a ρ = .ok (.int x)) (hb : b ρ = .ok (.int y)) : toB (bin dNe a b) ρ = .ok (!decide (x = y)) := toB_ok (bin_ok ha hb dNe_i)
theorem int_ok {x : Int} (ha : a ρ = .ok (.int x)) : callV dInt (consA a noA) ρ = .ok (.int x) := call1_ok ha dInt_i
theorem max_ok {x y : Int} (ha : a ρ = .ok (.int x)) (hb : b ρ = .ok (.int y)) : callV dMax2 (consA a (consA b noA)) ρ = .ok (.int (max x y)) := by
  refine call2_ok ha hb ?_
  rw [dMax2_i]
  refine congrArg _ (congrArg _ ?_)
  split <;> omega
theorem tup1_ok {x : D} (ha : a ρ = .ok x) : tupV (consA a noA) ρ = .ok (.tup [x]) := by
  rw [tupV_ap, consA_ap, ha, noA_ap]
  simp [sz1]
theorem tup2_ok {x y : D} (ha : a ρ = .ok x) (hb : b ρ = .ok y) : tupV (consA a (consA b noA)) ρ = .ok (.tup [x, y]) := by
  rw [tupV_ap, consA_ap, ha, consA_ap, hb, noA_ap]
  simp [sz1]
theorem tup3_ok {c : Rho → Res D} {x y z : D} (ha : a ρ = .ok x) (hb : b ρ = .ok y) (hc : c ρ = .ok z) : tupV (consA a (consA b (consA c noA))) ρ = .ok (.tup [x, y, z]) := by
  rw [tupV_ap, consA_ap, ha, consA_ap, hb, consA_ap, hc, noA_ap]
  simp [sz1]
theorem isi_l {xs : List D} (ha : a ρ = .ok (.lst xs)) : truV (callV dIsi (consA a (consA (conD (.ty "list")) noA))) ρ = .ok true := by rw [truV_ap, call2_ok ha rfl isi_ll, Res.bind_ok, dTru_b]
theorem isi_t {xs : List D} (ha : a ρ = .ok (.tup xs)) : truV (callV dIsi (consA a (consA (conD (.ty "tuple")) noA))) ρ = .ok true := by rw [truV_ap, call2_ok ha rfl isi_tt, Res.bind_ok, dTru_b]
theorem isi_s {x : Str} (ha : a ρ = .ok (.str x)) : truV (callV dIsi (consA a (consA (conD (.ty "str")) noA))) ρ = .ok true := by rw [truV_ap, call2_ok ha rfl isi_ss, Res.bind_ok, dTru_b]
theorem isi_i {x : Int} (ha : a ρ = .ok (.int x)) : truV (callV dIsi (consA a (consA (conD (.ty "int")) noA))) ρ = .ok true := by rw [truV_ap, call2_ok ha rfl isi_ii, Res.bind_ok, dTru_b]
end
theorem rng1_of {z : Int} {n : Nat} (e : z = (n : Int)) (h : n ≤ 1000000) : dRng1 [.int z] = .ok ((List.range n).map fun (i : Nat) => D.int i) := by
  rw [e]
  exact rng1_ok h
theorem rngD_of {z : Int} {n : Nat} (e : z = (n : Int) - 1) (h : n ≤ 1000000) : dRngD [.int z, .int (-1), .int (-1)] = .ok ((List.range n).map fun k => D.int (((n - 1 - k : Nat) : Int))) := by
  rw [e]
  exact rngD_ok h
theorem rep_flat {β : Type} (x : β) : ∀ n : Nat, (List.replicate n [x]).flatten = List.replicate n x
  | 0 => rfl
  | n + 1 => by rw [List.replicate_succ, List.flatten_cons, rep_flat x n]; rfl
theorem rep_of {x : D} {z : Int} {n : Nat} (e : z = (n : Int)) (h : n ≤ 1000000) : dRep (.lst [x]) (.int z) = .ok (List.replicate n x) := by
  rw [e]
  unfold dRep
  simp only
  rw [if_pos ⟨by omega, by omega, by simpa using sz1 h⟩, Int.toNat_natCast, rep_flat]
theorem ok_b {k l : Bool} {f : Rho → Res Bool} {ρ : Rho} (h : f ρ = .ok k) (e : k = l) : f ρ = .ok l := by rw [h, e]

mutual
theorem D.dat_self : ∀ (d : D) (n : Nat), D.dat n d = true → D.eqb d d = true
  | .non, _, _ => rfl
  | .bl b, _, _ => by simp [D.eqb]
  | .int b, _, _ => by simp [D.eqb]
  | .str b, _, _ => by simp [D.eqb]
  | .lst xs, 0, h => by simp [D.dat] at h
  | .lst xs, n + 1, h => by
    rw [D.eqb]
    exact D.datA_self xs n (by simpa [D.dat] using h)
  | .scr xs, 0, h => by simp [D.dat] at h
  | .scr xs, n + 1, h => by
    rw [D.eqb]
    exact D.datA_self xs n (by simpa [D.dat] using h)
  | .tup xs, 0, h => by simp [D.dat] at h
  | .tup xs, n + 1, h => by
    rw [D.eqb]
    exact D.datA_self xs n (by simpa [D.dat] using h)
  | .dct _, 0, h => by simp [D.dat] at h
  | .dct _, n + 1, h => by simp [D.dat] at h
  | .exc _, 0, h => by simp [D.dat] at h
  | .exc _, n + 1, h => by simp [D.dat] at h
  | .ty _, 0, h => by simp [D.dat] at h
  | .ty _, n + 1, h => by simp [D.dat] at h
theorem D.datA_self : ∀ (ds : List D) (n : Nat), D.datA n ds = true → D.eqbA ds ds = true
  | [], _, _ => by simp [D.eqbA]
  | d :: ds, n, h => by
    simp only [D.datA, Bool.and_eq_true] at h
    rw [D.eqbA, D.dat_self d n h.1, D.datA_self ds n h.2]
    rfl
end
theorem dEq_self {d : D} (h : D.dat 60 d = true) : dEq d d = .ok (.bl true) := by rw [dEq_d h h, D.dat_self d 60 h]
theorem dNe_self {d : D} (h : D.dat 60 d = true) : dNe d d = .ok (.bl false) := by rw [dNe_d h h, D.dat_self d 60 h]; rfl
theorem in_ints {i : List Int} {x : Int} : dIn (.int x) (.lst (i.map D.int)) = .ok (.bl (decide (x ∈ i))) := by
  show (if D.dat 60 (.int x) = true ∧ D.datA 60 (i.map D.int) = true then _ else _) = _
  rw [if_pos ⟨dat_int, datA_ints i⟩]
  refine congrArg Res.ok (congrArg D.bl ?_)
  rw [List.any_map, Bool.eq_iff_iff]
  simp only [List.any_eq_true, Function.comp, eqb_int, decide_eq_true_eq]
  exact ⟨fun ⟨y, h1, h2⟩ => h2 ▸ h1, fun h => ⟨x, h, rfl⟩⟩
end T

set_option Elab.async false
set_option linter.all false
set_option maxRecDepth 100000
set_option maxHeartbeats 4000000
/-! T-layer, part Q: raise of own exceptions, try. -/
namespace T
open PySem PySem.Spec PyProof.Rows L2

/-- what the text says of an own exception class without __init__ -/
structure XCls (K : PySem.W.Frag) (mg : Str → Option Value) (x : Str) (C : Addr) : Prop where
  g : mg x = some (.ref C)
  kp : PySem.W.keepIn K (.ref C) = true
  sub : PySem.W.subIn K (.ref C) (.type "BaseException") = some true
  ty : PySem.W.typeIn K (.ref C) = some (.type "type")
  dct : PySem.W.hasDictIn K C = true
structure XNew (K : PySem.W.Frag) (C : Addr) (B newId initId : String) (bmB : List Value) : Prop where
  F : ExcBaseFacts B newId initId bmB
  q : PySem.W.excIn K C bmB newId = true
section
variable {X : Cx} {W : WX} {L : LM} {G G' : List Mode} {C : Addr} {bmB : List Value} {Bs newId initId : String} {x : Str} {e : Expr} {es : List Expr} {p pos pos' : Pos}
theorem pmk_own0 (N : XNew X.K C Bs newId initId bmB) (Tx : XCls X.K X.mg x C) (hg : Gl X x) (hdb : (x == ("__debug__" : Str)) = false := by decide) : PMk X (.Call (.Name x p) [] [] pos) (fun _ H Q => Q (.ref C) none H) := by
  intro pins s σ H Q I h
  refine wpAny_Call_Name_kw (ld_glob I hg Tx.g ?_ hdb)
  refine PySem.W.callWith_K0 I.kIn Tx.kp ?_
  show wpAny _ _ (call (.ref C) []) _ _ _
  obtain ⟨bm, N', nm, qn, bs, hdct, sn, sub, ab, col, dd, k0, k1, k2, k3, k5, mN, hC, hN, hni, T'⟩ := exc_obj I.kIn N.q
  refine wpAny_call_exc_subT N.F T' hC hN hni (fun h' e hm => ?_) (Nat.zero_le _)
  exact mk_of I hm (raises_own Tx.sub Tx.ty) h (I.hok.gone hm.new)
/-- raise X() -/
def sRaise (c : Str) : Rho → Out := fun ρ => .ex ⟨c, []⟩ ρ
theorem sj_raise0 (hc : X.calm = true) (tk : Takes X W) (N : XNew X.K C Bs newId initId bmB) (Tx : XCls X.K X.mg x C) (hg : Gl X x) (hdb : (x == ("__debug__" : Str)) = false := by decide) : SJ X W L G (.Raise (some (.Call (.Name x p) [] [] pos)) none pos') (sRaise x) G' := by
  refine ⟨_, ps_raise hc tk (pmk_own0 N Tx hg hdb), fun F ρ own B σ H D gd q => ?_⟩
  obtain ⟨B', e', g'⟩ := gd.all
  exact q (.ref C) none B' σ H e' g' ⟨Tx.g, .inl ⟨rfl, rfl⟩⟩
/-- raise X(e, ..) -/
def sRaiseA (c : Str) (g : Rho → Res (List D)) : Rho → Out := fun ρ => thenS (g ρ) ρ fun ds => if ds.length ≤ sizeLine then .ex ⟨c, []⟩ ρ else .no
theorem SnA.len {K : PySem.W.Frag} {own : Own} {B H : Hp} : ∀ {vs : List V} {ds : List D}, SnA K own B H vs ds → vs.length = ds.length
  | _, _, .nil => rfl
  | _, _, .cons _ r => congrArg (· + 1) (SnA.len r)
theorem sj_raiseA {g : Rho → Res (List D)} (hc : X.calm = true) (tk : Takes X W) (N : XNew X.K C Bs newId initId bmB) (Tx : XCls X.K X.mg x C) (hg : Gl X x) (ha : BAJ X W G (e :: es) g) (hdb : (x == ("__debug__" : Str)) = false := by decide)
    (he : starEach (e :: es) X.env = (false, eval e X.env) :: starEach es X.env := by rfl) (hpl : (backTo pos (starEach es X.env)).any (·.1) = false := by rfl) : SJ X W L G (.Raise (some (.Call (.Name x p) (e :: es) [] pos)) none pos') (sRaiseA x g) G' := by
  obtain ⟨t, pa, va⟩ := ha
  refine ⟨_, ps_raise hc tk (pmk_ownA N.F N.q Tx.g Tx.kp (raises_own Tx.sub Tx.ty) hg pa hdb he hpl), fun F ρ own B σ H D gd q => ?_⟩
  refine va F ρ own B σ H _ gd (Res.has_mono (thenS_has gd q) (fun ds q vs B' H' s r => ?_) fun _ x => x)
  split at q
  · rename_i hz
    refine ⟨by rw [r.len]; exact hz, ?_⟩
    obtain ⟨B2, e2, g2⟩ := (gd.step s).all
    exact q (.ref C) none B2 σ H' (s.ext.trans e2) g2 ⟨Tx.g, .inl ⟨rfl, rfl⟩⟩
  · exact q.elim

/-! ### try -/
/-- the classes of the text, and who is whose child -/
structure Subs (K : PySem.W.Frag) (mg : Str → Option Value) (cl : List Str) (sub : Str → Str → Bool) : Prop where
  ok : ∀ a ∈ cl, ∀ c ∈ cl, ∀ va vc : Value, mg a = some va → mg c = some vc → PySem.W.exmOne K va vc = some (sub a c)
theorem subs_one {K : PySem.W.Frag} {mg : Str → Option Value} {a c : Str} {A C va vc : Value} {b b' : Bool} (ha : mg a = some A) (hc : mg c = some C) (h1 : mg a = some va) (h2 : mg c = some vc) (h : PySem.W.exmOne K A C = some b) (e : b = b') : PySem.W.exmOne K va vc = some b' := by
  rw [ha] at h1
  rw [hc] at h2
  cases h1
  cases h2
  rw [h, e]
/-- a suite may not raise -/
def noEx : Out → Out
  | .ex _ _ => .no
  | o => o
/-- the first clause that takes it -/
def pickS (sub : Str → Str → Bool) (e : Exn) : List (Str × (Exn → Rho → Out)) → Rho → Out
  | [], ρ => .ex e ρ
  | (c, g) :: r, ρ => if sub e.cls c = true then noEx (g e ρ) else pickS sub e r ρ
def sTry (cl : List Str) (sub : Str → Str → Bool) (f : Rho → Out) (hs : List (Str × (Exn → Rho → Out))) : Rho → Out := fun ρ => match f ρ with
  | .ex e ρ' => if e.cls ∈ cl then pickS sub e hs ρ' else .no
  | o => o
/-- a suite, for every exception that it may get -/
def SuiJ (X : Cx) (L : LM) (suite : List Stmt) (g : Exn → Rho → Out) (G' : List Mode) : Prop :=
  ∀ (a : Addr) (oe : Obj) (cls : Value) (d : Option Addr) (pn : List (Addr × Obj)) (e : Exn), Zc cls d oe → (∃ vs, oe.data = .fields vs) → SsJ (X.suite a ((a, oe) :: pn)) W0 L [] suite (g e) G'
def suiT {X : Cx} {L : LM} {suite : List Stmt} {g : Exn → Rho → Out} {G' : List Mode} (h : SuiJ X L suite g G') (a : Addr) (cls : Value) (d : Option Addr) : TS :=
  fun D σ H => ∃ e : Exn, ∀ (oe : Obj) (pn : List (Addr × Obj)) (hz : Zc cls d oe) (hf : ∃ vs, oe.data = .fields vs), (h a oe cls d pn e hz hf).choose D σ H
theorem suiT_ok {X : Cx} {L : LM} {suite : List Stmt} {g : Exn → Rho → Out} {G' : List Mode} (h : SuiJ X L suite g G') (a : Addr) (oe : Obj) (cls : Value) (d : Option Addr) (pn : List (Addr × Obj)) (hz : Zc cls d oe) (hf : ∃ vs, oe.data = .fields vs) :
    PSs (X.suite a ((a, oe) :: pn)) suite (suiT h a cls d) := by
  refine ⟨fun pins s σ H D I q => ?_⟩
  obtain ⟨e, q⟩ := q
  exact (h a oe cls d pn e hz hf).choose_spec.1.run pins s σ H D I (q oe pn hz hf)
/-- the clauses of a try -/
inductive HdsJ (X : Cx) (L : LM) (G' : List Mode) (cl : List Str) : List ExceptHandler → List (Str × (Exn → Rho → Out)) → Prop
  | nil : HdsJ X L G' cl [] []
  | cons {y : Str} {C : Addr} {b₀ : Stmt} {suite : List Stmt} {np pos' : Pos} {g : Exn → Rho → Out} {hds : List ExceptHandler} {l : List (Str × (Exn → Rho → Out))} (hm : y ∈ cl) (Tx : XCls X.K X.mg y C) (hg : Gl X y) (hdb : (y == ("__debug__" : Str)) = false) (hsu : SuiJ X L (b₀ :: suite) g G') (r : HdsJ X L G' cl hds l) :
      HdsJ X L G' cl (.ExceptHandler (some (.Name y np)) none (b₀ :: suite) pos' :: hds) ((y, g) :: l)
theorem HdsJ.hds {cl : List Str} : ∀ {hds : List ExceptHandler} {l : List (Str × (Exn → Rho → Out))}, HdsJ X L G' cl hds l → ∃ l' : List (Value × (Addr → Value → Option Addr → TS)), HdsOk X hds l' ∧
    ∀ (sub : Str → Str → Bool), Subs X.K X.mg cl sub → ∀ (F B : Hp) (D : Ends) (e : Exn) (ρ : Rho), e.cls ∈ cl → PostS X W L G' F B D (pickS sub e l ρ) →
      ∀ (c : Value) (dx : Option Addr) (B' : Hp) (σ : L2.St) (H : Hp), Ext B B' → Good X.K F [] ρ (fun _ => none) B' σ H → ExR X.K X.mg B' H e c dx → wMany X.K W D l' c dx σ H
  | _, _, .nil => ⟨[], .nil, fun sub hs F B D e ρ hc q c dx B' σ H e' g' x => q c dx B' σ H e' g' x⟩
  | _, _, .cons (g := g) (l := l) hm Tx hg hdb hsu r => by
    obtain ⟨l', h1, h2⟩ := HdsJ.hds r
    refine ⟨_, .cons (c := .ref _) (ts := suiT hsu) ⟨hg, hdb, .inl Tx.g⟩ (fun a oe cls d pn hz hf => suiT_ok hsu a oe cls d pn hz hf) h1, fun sub hs F B D e ρ hc q c dx B' σ H e' g' x => ?_⟩
    refine ⟨_, hs.ok e.cls hc _ hm c _ x.cls Tx.g, fun hb a ha => ⟨e, fun oe pn hz hf => ?_⟩, fun hb => ?_⟩
    · rw [pickS, if_pos hb] at q
      refine (hsu a oe c dx pn e hz hf).choose_spec.2 F ρ (fun _ => none) B' σ H D g' ?_
      cases ho : g e ρ with
      | nx ρ2 =>
        rw [ho] at q
        exact fun own B2 σ2 H2 e2 g2 => q own B2 σ2 H2 (e'.trans e2) g2
      | bk ρ2 =>
        rw [ho] at q
        exact fun own B2 σ2 H2 e2 g2 => q own B2 σ2 H2 (e'.trans e2) g2
      | ct ρ2 =>
        rw [ho] at q
        exact fun own B2 σ2 H2 e2 g2 => q own B2 σ2 H2 (e'.trans e2) g2
      | rt d =>
        rw [ho] at q
        exact fun v own B2 H2 e2 => q v own B2 H2 (e'.trans e2)
      | ex e2 ρ2 =>
        rw [ho] at q
        exact q.elim
      | no =>
        rw [ho] at q
        exact q.elim
    · rw [pickS, if_neg (by rw [hb]; exact Bool.false_ne_true)] at q
      exact h2 sub hs F B D e ρ hc q c dx B' σ H e' g' x
theorem sj_try {cl : List Str} {sub : Str → Str → Bool} {body : List Stmt} {h₀ : ExceptHandler} {hds : List ExceptHandler} {f : Rho → Out} {l : List (Str × (Exn → Rho → Out))} (hs : X.stack = X.env :: X.outer) (hf : X.env.frame = some X.env.locals) (tk : Takes X W) (hsub : Subs X.K X.mg cl sub)
    (hb : ∀ (W : WX) (pn : List (Addr × Obj)) (xe : Value → Shared → Prop), Takes (X.tr pn xe) W → PassesOwn (model X.prog X.w) X.A X.env xe → SsJ (X.tr pn xe) W L G body f G')
    (hh : HdsJ X L G' cl (h₀ :: hds) l) : SJ X W L G (.Try body (h₀ :: hds) [] [] pos) (sTry cl sub f l) G' := by
  obtain ⟨l', h1, h2⟩ := hh.hds (W := W)
  refine ⟨_, ps_try_many hs hf tk (tb := fun W D σ H => ∀ pn xe (t1 : Takes (X.tr pn xe) W) (t2 : PassesOwn (model X.prog X.w) X.A X.env xe), (hb W pn xe t1 t2).choose D σ H) (fun W pn xe t1 t2 => ⟨fun pins s σ H D I q => (hb W pn xe t1 t2).choose_spec.1.run pins s σ H D I (q pn xe t1 t2)⟩) h1, fun F ρ own B σ H D gd q => ?_⟩
  intro pn xe t1 t2
  refine (hb _ pn xe t1 t2).choose_spec.2 F ρ own B σ H D gd ?_
  unfold sTry at q
  cases ho : f ρ with
  | ex e ρ2 =>
    rw [ho] at q
    simp only at q
    split at q
    · rename_i hc
      exact fun c dx B' σ' H' e' g' x => h2 sub hsub F B D e ρ2 hc q c dx B' σ' H' e' g' x
    · exact q.elim
  | nx ρ2 =>
    rw [ho] at q
    exact q
  | bk ρ2 =>
    rw [ho] at q
    exact q
  | ct ρ2 =>
    rw [ho] at q
    exact q
  | rt d =>
    rw [ho] at q
    exact q
  | no =>
    rw [ho] at q
    exact q.elim
end
end T

set_option Elab.async false
set_option linter.all false
set_option maxRecDepth 100000
set_option maxHeartbeats 4000000
/-! T-layer, part R: sorted, of pairs of numbers. -/
namespace T
open PySem PySem.Spec PyProof.Rows L2
def leP (p q : Int × Int) : Prop := p.1 < q.1 ∨ (p.1 = q.1 ∧ p.2 ≤ q.2)
instance (p q : Int × Int) : Decidable (leP p q) := by unfold leP; infer_instance
def insP (x : Int × Int) : List (Int × Int) → List (Int × Int)
  | [] => [x]
  | y :: ys => if leP x y then x :: y :: ys else y :: insP x ys
def sortP : List (Int × Int) → List (Int × Int)
  | [] => []
  | x :: xs => insP x (sortP xs)
theorem insP_perm (x : Int × Int) : ∀ ys, (insP x ys).Perm (x :: ys)
  | [] => .refl _
  | y :: ys => by
    unfold insP
    split
    · exact .refl _
    · exact ((insP_perm x ys).cons y).trans (.swap x y ys)
theorem sortP_perm : ∀ xs, (sortP xs).Perm xs
  | [] => .refl _
  | x :: xs => (insP_perm x (sortP xs)).trans ((sortP_perm xs).cons x)
theorem insP_sorted {x : Int × Int} : ∀ {ys}, List.Pairwise leP ys → List.Pairwise leP (insP x ys)
  | [], _ => by simp [insP]
  | y :: ys, h => by
    obtain ⟨h1, h2⟩ := List.pairwise_cons.mp h
    unfold insP
    split
    · rename_i hxy
      refine List.pairwise_cons.mpr ⟨fun z hz => ?_, h⟩
      rcases List.mem_cons.mp hz with rfl | hz
      · exact hxy
      · have := h1 z hz
        unfold leP at *
        omega
    · rename_i hxy
      refine List.pairwise_cons.mpr ⟨fun z hz => ?_, insP_sorted h2⟩
      rcases List.mem_cons.mp ((insP_perm x ys).mem_iff.mp hz) with rfl | hz
      · unfold leP at *
        omega
      · exact h1 z hz
theorem sortP_sorted : ∀ xs, List.Pairwise leP (sortP xs)
  | [] => List.Pairwise.nil
  | x :: xs => insP_sorted (sortP_sorted xs)
theorem sorted_uniq : ∀ {l m : List (Int × Int)}, List.Pairwise leP l → List.Pairwise leP m → l.Perm m → l = m
  | [], m, _, _, h => (List.nil_perm.mp h).symm
  | x :: l, [], _, _, h => by simpa using h.length_eq
  | x :: l, y :: m, h1, h2, h => by
    obtain ⟨a1, a2⟩ := List.pairwise_cons.mp h1
    obtain ⟨b1, b2⟩ := List.pairwise_cons.mp h2
    have e : x = y := by
      rcases List.mem_cons.mp (h.mem_iff.mp List.mem_cons_self) with e | hx
      · exact e
      · rcases List.mem_cons.mp (h.symm.mem_iff.mp List.mem_cons_self) with e | hy
        · exact e.symm
        · have p1 := a1 y hy
          have p2 := b1 x hx
          unfold leP at p1 p2
          exact Prod.ext (by omega) (by omega)
    subst e
    rw [sorted_uniq a2 b2 (List.Perm.cons_inv h)]
/-- sorted, a pair may be frozen -/
def rSortedPT (K : PySem.W.Frag) : List V → Hp → VK → Prop := fun vs H Q => ∃ (a : Addr) (xs : List V) (ps : List (Int × Int)), vs = [V.ref a] ∧ SqL K H a xs ∧ xs.length = ps.length ∧ (∀ (m : Nat) (x : V) (p : Int × Int), xs[m]? = some x → ps[m]? = some p → ∃ t, x = V.ref t ∧ SqT K H t [.int p.1, .int p.2]) ∧
  ∀ (zs : List (V × (Int × Int))) (p : Addr), zs.Perm (xs.zip ps) → List.Pairwise leP (zs.map (·.2)) → H p = none → Q (.ref p) (upd H p (.lst (zs.map (·.1))))
theorem zip_k {α β : Type} (k : α → β) : ∀ l : List α, l.zip (l.map k) = l.map fun y => (y, k y)
  | [] => rfl
  | x :: l => by rw [List.map_cons, List.zip_cons_cons, zip_k k l]; rfl
theorem cr_sortedPT {X : Cx} : CallR X (.builtin "sorted") (rSortedPT X.K) := by
  intro pins s σ H vs us Q I r h
  obtain ⟨a, xs, ps, rfl, hs, hlen, hx, q⟩ := h
  obtain ⟨its, rv, hl, hz⟩ := I.list hs
  obtain ⟨u, rfl, ru⟩ := vals1 r
  obtain rfl : u = Value.ref a := ru
  -- what each thing says
  have hk : ∃ k : V → Int × Int, ∀ (m : Nat) (x : V) (p : Int × Int), xs[m]? = some x → ps[m]? = some p → k x = p := by
    refine ⟨fun x => Classical.epsilon fun p => ∃ m : Nat, xs[m]? = some x ∧ ps[m]? = some p, fun m x p h1 h2 => ?_⟩
    obtain ⟨m', e1, e2⟩ := Classical.epsilon_spec (p := fun p => ∃ m : Nat, xs[m]? = some x ∧ ps[m]? = some p) ⟨p, m, h1, h2⟩
    obtain ⟨t, e, h3⟩ := hx m x p h1 h2
    obtain ⟨t', e', h4⟩ := hx m' x _ e1 e2
    rw [e] at e'
    cases e'
    have := I.tuple_inj h4 h3
    simp at this
    exact Prod.ext this.1 this.2
  obtain ⟨k, hk⟩ := hk
  have hat : ∀ x ∈ xs, ∃ t, x = V.ref t ∧ SqT X.K H t [.int (k x).1, .int (k x).2] := fun x hm => by
    obtain ⟨m, hm⟩ := List.getElem?_of_mem hm
    have hml : m < ps.length := by rw [← hlen]; exact (List.getElem?_eq_some_iff.mp hm).1
    rw [hk m x ps[m] hm (List.getElem?_eq_getElem hml)]
    exact hx m x ps[m] hm (List.getElem?_eq_getElem hml)
  have hps : ps = xs.map k := by
    refine List.ext_getElem? fun m => ?_
    rw [List.getElem?_map]
    cases e : xs[m]? with
    | none =>
      have := List.getElem?_eq_none_iff.mp e
      rw [List.getElem?_eq_none (by omega)]
      rfl
    | some x =>
      have hml : m < ps.length := by rw [← hlen]; exact (List.getElem?_eq_some_iff.mp e).1
      rw [List.getElem?_eq_getElem hml, ← hk m x ps[m] e (List.getElem?_eq_getElem hml)]
      rfl
  obtain ⟨e1, e2⟩ := refs_back rv fun x m => by
    obtain ⟨t, e, _⟩ := hat x m
    exact ⟨t, e⟩
  refine SrtO.sorted_pairsO (k := fun u => k (backV u)) hl.isList (by rw [← rv.length]; exact hz) (fun v hv => ?_) fun h' d out h1 h2 kp hd hn => ?_
  · obtain ⟨t, rfl⟩ := e2 v hv
    have hm : V.ref t ∈ xs := by rw [e1]; exact List.mem_map.mpr ⟨_, hv, rfl⟩
    obtain ⟨t', e, ht⟩ := hat _ hm
    cases e
    obtain ⟨its2, r2, tt, _⟩ := I.tuple ht
    obtain ⟨u1, u2, rfl, ri, rj⟩ := vals2 r2
    obtain ⟨t1, rfl⟩ := ri
    obtain ⟨t2, rfl⟩ := rj
    obtain ⟨o, ho, hc, n, hd⟩ := tt
    exact ⟨t, o, t1, t2, n, rfl, ho, hc, hd⟩
  · have h3 : ∀ u ∈ out, ∃ a, u = Value.ref a := fun u hu => e2 u (h2.perm.mem_iff.mp hu)
    obtain ⟨n, hn⟩ := hn
    have hb : SrtO.Stb (ltP k) (out.map backV) xs := by
      rw [e1]
      exact SrtO.Stb.map (ltP_swo k) backV h2
    have hsrt : SrtO.Srtd (ltP k) (out.map backV) := SrtO.srtd_map h1
    have hvb : Vals (out.map backV) out := vals_back h3
    generalize out.map backV = ys at *
    have hz1 : (ys.map fun y => (y, k y)).map (·.1) = ys := by
      rw [List.map_map]
      exact List.map_id ys
    have hz2 : (ys.map fun y => (y, k y)).Perm (xs.zip ps) := by
      rw [hps, zip_k k xs]
      exact hb.perm.map _
    have q' := q (ys.map fun y => (y, k y)) d hz2 ?_ (I.hok.fresh hd)
    · rw [hz1] at q'
      refine ⟨.ref d, upd H d (.lst ys), I.laid (t' := s.toks) kp hd ⟨?_, out, n, ?_, hn⟩, rfl, q'⟩
      · rw [hb.len]
        exact hz
      · exact hvb
    · rw [List.map_map]
      refine List.pairwise_map.mpr (List.Pairwise.imp (fun {x y} h => ?_) hsrt)
      have := SrtO.lexB_no.mp h
      show leP (k x) (k y)
      unfold leP
      omega

def D.pairs : List D → Option (List (Int × Int))
  | [] => some []
  | .tup [.int i, .int j] :: r => (D.pairs r).map ((i, j) :: ·)
  | _ => none
def dPair (p : Int × Int) : D := .tup [.int p.1, .int p.2]
def dSortedP : List D → Res (List D)
  | [.lst xs] => match D.pairs xs with
    | some ps => .ok ((sortP ps).map dPair)
    | none => .no
  | _ => .no
theorem pairs_eq : ∀ {ds : List D} {ps : List (Int × Int)}, D.pairs ds = some ps → ds = ps.map dPair
  | [], ps, h => by
    simp [D.pairs] at h
    subst h
    rfl
  | d :: ds, ps, h => by
    unfold D.pairs at h
    split at h
    · rename_i he; cases he
    · rename_i i j r he
      cases he
      cases h2 : D.pairs ds with
      | none =>
        rw [h2] at h
        cases h
      | some qs =>
        rw [h2] at h
        cases h
        rw [pairs_eq h2]
        rfl
    · cases h
theorem pairs_map : ∀ ps : List (Int × Int), D.pairs (ps.map dPair) = some ps
  | [] => rfl
  | p :: ps => by
    show (D.pairs (ps.map dPair)).map ((p.1, p.2) :: ·) = _
    rw [pairs_map ps]
    rfl
theorem fn_sortedP {X : Cx} : ∃ r, CallR X (.builtin "sorted") r ∧ CallN X r dSortedP := by
  refine ⟨_, cr_sortedPT, fun ds e h => ?_, fun F own B H vs ds Q g hx q => ?_⟩
  · unfold dSortedP at h
    split at h
    · split at h <;> cases h
    · cases h
  · unfold dSortedP at q
    split at q
    · rename_i xs
      obtain ⟨v, rfl, hv⟩ := hx.one
      obtain ⟨l, vs, rfl, hl, rv⟩ := hv.lst g
      cases hp : D.pairs xs with
      | none =>
        rw [hp] at q
        exact q.elim
      | some ps =>
        rw [hp] at q
        have hxs := pairs_eq hp
        subst hxs
        have hlen : vs.length = ps.length := by rw [rv.len, List.length_map]
        have hat : ∀ (m : Nat) (x : V) (p : Int × Int), vs[m]? = some x → ps[m]? = some p → Rp X.K B x (dPair p) := fun m x p h1 h2 => by
          obtain ⟨d, h3, h4⟩ := rv.get' h1
          rw [List.getElem?_map, h2] at h3
          cases h3
          exact h4
        refine ⟨l, vs, ps, rfl, .inl (.inl hl), hlen, fun m x p h1 h2 => ?_, fun zs p hz hsort hn => ?_⟩
        · cases hat m x p h1 h2 with
          | tup ha r =>
            cases r with
            | cons r1 r2 =>
              cases r2 with
              | cons r2 r3 =>
                cases r3
                cases r1
                cases r2
                exact ⟨_, rfl, Ext.seqT g.same ha⟩
        · have hzs : zs.map (·.2) = sortP ps := by
            refine sorted_uniq hsort (sortP_sorted ps) ?_
            have := hz.map (·.2)
            rw [List.map_snd_zip (by omega)] at this
            exact this.trans (sortP_perm ps).symm
          have hrep : RpA X.K B (zs.map (·.1)) ((sortP ps).map dPair) := by
            rw [← hzs, List.map_map]
            refine RpA.of_get (by simp) fun m x d h1 h2 => ?_
            rw [List.getElem?_map] at h1 h2
            obtain ⟨z, hz1, rfl⟩ := Option.map_eq_some_iff.mp h1
            rw [hz1] at h2
            cases h2
            have hmem : z ∈ vs.zip ps := hz.mem_iff.mp (List.mem_of_getElem? hz1)
            obtain ⟨j, hj⟩ := List.getElem?_of_mem hmem
            rw [List.getElem?_zip_eq_some] at hj
            exact hat j z.1 z.2 hj.1 hj.2
          exact new_lstN g hrep q p hn
    · exact q.elim
end T

set_option Elab.async false
set_option linter.all false
set_option maxRecDepth 100000
set_option maxHeartbeats 4000000
/-! T-layer, part S: f-strings, xs[::-1]. -/
namespace T
open PySem PySem.Spec PyProof.Rows L2
def dFmt : D → Res D
  | .str y => if y.length ≤ sizeLine then .ok (.str y) else .no
  | .int i => if i.natAbs.log2 < 1920 then .ok (.str (toString i)) else .no
  | _ => .no
def fmtV (g : Rho → Res D) : Rho → Res D := fun ρ => (g ρ).bind dFmt
/-- the parts one behind the other -/
def fsNil : Str → Rho → Res Str := fun acc _ => .ok acc
def fsCons (g : Rho → Res D) (r : Str → Rho → Res Str) : Str → Rho → Res Str := fun acc ρ => (g ρ).bind fun d => match d with
  | .str y => if (acc ++ y).length ≤ sizeLine then r (acc ++ y) ρ else .no
  | _ => .no
def fsV (r : Str → Rho → Res Str) : Rho → Res D := fun ρ => (r Str.empty ρ).bind fun s => .ok (.str s)
section
variable {X : Cx} {W : WX} {G : List Mode} {e : Expr} {es : List Expr} {pos : Pos}
theorem ej_fmt {g : Rho → Res D} (h : BJ X W G e g) : EJ X W G (.FormattedValue e (-1) none pos) (fmtV g) := by
  obtain ⟨t, p, v⟩ := h
  refine ⟨_, pe_fmt p, fun F ρ own B σ H Q gd q => ?_⟩
  refine v F ρ own B σ H _ gd (Res.has_mono (Res.has_bind q) (fun d q u B' H' s r => ?_) fun _ x => x)
  unfold dFmt at q
  split at q
  · rename_i y
    split at q
    · rename_i hz
      cases r.frz (fun ds z => nomatch z)
      exact .inl ⟨y, rfl, hz, q _ B' H' s (.str y)⟩
    · exact q.elim
  · rename_i i
    split at q
    · rename_i hz
      cases r.frz (fun ds z => nomatch z)
      exact .inr ⟨i, rfl, hz, q _ B' H' s (.str _)⟩
    · exact q.elim
  · exact q.elim
def FJ (X : Cx) (W : WX) (G : List Mode) (es : List Expr) (r : Str → Rho → Res Str) : Prop := ∃ ts, PJ X es ts ∧ ∀ (F : Hp) (ρ : Rho) (own : Own) (B : Hp) (σ : L2.St) (H : Hp) (acc : Str) (Q : Str → Hp → Prop), Good X.K F G ρ own B σ H →
    (r acc ρ).has (fun s => ∀ (B' H' : Hp), Step own F B H B' H' → Q s H') (WOk X.K X.mg W own F B H σ) → tJs ts acc σ H Q
theorem fj_nil : FJ X W G [] fsNil := ⟨_, .nil, fun F ρ own B σ H acc Q gd q => q B H (.refl gd.gr)⟩
theorem fj_cons {g : Rho → Res D} {r : Str → Rho → Res Str} (h : EJ X W G e g) (h' : FJ X W G es r) : FJ X W G (e :: es) (fsCons g r) := by
  obtain ⟨t, p, v⟩ := h
  obtain ⟨ts, ps, vs⟩ := h'
  refine ⟨_, .cons p ps, fun F ρ own B σ H acc Q gd q => ?_⟩
  refine v F ρ own B σ H _ gd (Res.has_mono (Res.has_bind q) (fun d q u B' H' s rr => ?_) fun _ x => x)
  cases d with
  | str y =>
    simp only at q
    split at q
    · rename_i hz
      cases rr
      exact ⟨y, rfl, hz, vs F ρ own B' σ H' (acc ++ y) Q (gd.step s) (Res.has_mono q (fun s' q B2 H2 s2 => q B2 H2 (s.trans s2)) fun _ x => x.step s)⟩
    · exact q.elim
  | _ => exact q.elim
theorem ej_fs {v1 v2 : Expr} {rest : List Expr} {r : Str → Rho → Res Str} (h : FJ X W G (v1 :: v2 :: rest) r) : EJ X W G (.JoinedStr (v1 :: v2 :: rest) pos) (fsV r) := by
  obtain ⟨ts, p, v⟩ := h
  refine ⟨_, pe_joined p, fun F ρ own B σ H Q gd q => ?_⟩
  exact v F ρ own B σ H Str.empty _ gd (Res.has_mono (Res.has_bind q) (fun s q B' H' st => q _ B' H' st (.str s)) fun _ x => x)
theorem ej_fs1 {g : Rho → Res D} (h : EJ X W G e g) : EJ X W G (.JoinedStr [e] pos) g := by
  obtain ⟨t, p, v⟩ := h
  exact ⟨_, pe_joined1 p, v⟩
/-! xs[::-1] -/
def dRev : D → Res (List D)
  | .lst xs => .ok xs.reverse
  | .scr xs => .ok xs.reverse
  | _ => .no
def revV (g : Rho → Res D) : Rho → Res (List D) := fun ρ => (g ρ).bind dRev
theorem nj_rev {g : Rho → Res D} {k : Nat} {p1 p2 p3 : Pos} (h : BJ X W G e g) : NJ X W G (.Subscript e (.Slice none none (some (.UnaryOp .USub (.Constant (.int 1) k p1) p2)) p3) pos) (revV g) := by
  obtain ⟨t, p, v⟩ := h
  refine ⟨_, pe_revL p, fun F ρ own B σ H Q gd q => ?_⟩
  refine v F ρ own B σ H _ gd (Res.has_mono (Res.has_bind q) (fun d q u B' H' s r => ?_) fun _ x => x)
  have g' := gd.gr.step s
  have fin : ∀ {us : List V} {ds : List D} {p : Addr}, RpA X.K B' us ds → H' p = none → (∀ (p : Addr) (vs : List V) (B2 H2 : Hp), Step own F B H B2 H2 → B2 p = none → F p = none → own p = none → H2 p = some (.lst vs) → RpA X.K B2 vs ds.reverse → Q (.ref p) H2) → Q (.ref p) (upd H' p (.lst us.reverse)) := fun {us ds p} r hn q =>
    q p us.reverse B' _ (s.trans (.garbage g' _ hn)) (g'.bfresh hn) (g'.ffresh hn) (g'.ofresh hn) upd_same r.rev
  cases d with
  | lst xs =>
    obtain ⟨l, vs, rfl, hl, rv⟩ := r.lst g'
    exact ⟨l, vs, rfl, .inl (.inl hl), fun p hn => fin rv hn q⟩
  | scr xs =>
    obtain ⟨l, vs, rfl, hl, rv⟩ := r.scr
    exact ⟨l, vs, rfl, Same.seq g'.same hl, fun p hn => fin rv hn q⟩
  | _ => exact q.elim
end
end T

set_option Elab.async false
set_option linter.all false
set_option maxRecDepth 100000
set_option maxHeartbeats 4000000
/-! T-layer, part T: texts as lists of codes. -/
namespace T
open PySem L2
abbrev dS (l : List Nat) : D := .str (SX.S l)
theorem dS_of {s : Str} {l : List Nat} (h : s = SX.S l) : (D.str s) = dS l := by rw [h]
section
variable {a b : List Nat}
theorem S_len' (a : List Nat) : (SX.S a).length = a.length := SX.S_len a
theorem dAdd_S (h : a.length + b.length ≤ 1000000) : dAdd (dS a) (dS b) = .ok (dS (a ++ b)) := by
  rw [dAdd_s, if_pos (sz1 (by rw [SX.S_len, SX.S_len]; exact h)), SX.S_cat]
theorem dLen_S (h : a.length ≤ 1000000) : dLen [dS a] = .ok (.int a.length) := by
  rw [dLen_s, if_pos (sz1 (by rw [SX.S_len]; exact h)), SX.S_len]
theorem dEq_S : dEq (dS a) (dS b) = .ok (.bl (decide (a = b))) := by
  rw [dEq_s]
  refine congrArg Res.ok (congrArg D.bl ?_)
  rw [Bool.eq_iff_iff]
  simp only [decide_eq_true_eq]
  exact ⟨SX.S_inj, fun h => by rw [h]⟩
theorem dNe_S : dNe (dS a) (dS b) = .ok (.bl (!decide (a = b))) := by
  rw [dNe_s]
  refine congrArg Res.ok (congrArg D.bl (congrArg not ?_))
  rw [Bool.eq_iff_iff]
  simp only [decide_eq_true_eq]
  exact ⟨SX.S_inj, fun h => by rw [h]⟩
theorem dIn_S {c : Nat} : dIn (dS [c]) (dS a) = .ok (.bl (decide (c ∈ a))) := by
  show Res.ok (D.bl (!(Builtin.Str.occurrences (SX.S a) (SX.S [c]) 0 (SX.S a).length 1).isEmpty)) = _
  rw [SX.in_one]
theorem dNotIn_S {c : Nat} : dNotIn (dS [c]) (dS a) = .ok (.bl (!decide (c ∈ a))) := by
  unfold dNotIn
  rw [dIn_S, Res.bind_ok, dNotB_b]
theorem dOrd_S {c : Nat} : dOrd [dS [c]] = .ok (.int (c : Int)) := by
  show (if (SX.S [c]).length = 1 then Res.ok (D.int ((SX.S [c]).cps.getD 0 0 : Nat)) else .no) = _
  rw [if_pos (show (SX.S [c]).length = 1 from SX.S_len [c])]
  rfl
theorem dIx_S {i : Int} {j c : Nat} (hi : i = (j : Int)) (h : a[j]? = some c) (hl : a.length ≤ 1000000) : dIx (dS a) (.int i) = .ok (dS [c]) := by
  unfold dIx
  simp only
  rw [if_pos (sz1 (by rw [SX.S_len]; exact hl)), atI_get hi h]
theorem num_fits {n : Nat} (h : n < 10 ^ 20) : ((n : Int)).natAbs.log2 < 1920 := by
  rw [Int.natAbs_natCast]
  by_cases h0 : n = 0
  · subst h0
    decide
  · exact (Nat.log2_lt h0).mpr (Nat.lt_of_lt_of_le h (Nat.le_trans (show 10 ^ 20 ≤ 2 ^ 70 by decide) (Nat.pow_le_pow_right (by decide) (by decide))))
theorem dFmt_n {n : Nat} (h : n < 10 ^ 20) : dFmt (.int (n : Int)) = .ok (dS (TL.numL n)) := by
  unfold dFmt
  simp only
  rw [if_pos (num_fits h)]
  exact congrArg (fun s => Res.ok (D.str s)) (SX.num_S n)
theorem dStrI_n {n : Nat} (h : n < 10 ^ 20) : dStrI [.int (n : Int)] = .ok (dS (TL.numL n)) := by
  unfold dStrI
  simp only
  rw [if_pos (num_fits h)]
  exact congrArg (fun s => Res.ok (D.str s)) (SX.num_S n)
theorem dSl_S {lo hi : Option Int} (h : a.length ≤ 1000000) : dSl (dS a) lo hi = .ok (dS (cutL a lo hi)) := by
  show (if (SX.S a).length ≤ sizeLine then Res.ok (D.str (cutS (SX.S a) lo hi)) else .no) = _
  rw [if_pos (sz1 (by rw [SX.S_len]; exact h))]
  unfold cutS cutL
  rw [SX.S_len]
theorem dSplit_S {c : Nat} (hc : c < 256) (h : a.length + 2 ≤ 1000000) : dSplit (dS a) [dS [c]] = .ok ((TL.spl [c] 0 [] a).map dS) := by
  unfold dSplit
  simp only
  rw [if_pos ⟨by rw [SX.S_len]; rfl, sz1 (by rw [SX.S_len]; exact h)⟩, SX.split_S (List.cons_ne_nil _ _) (by simpa using hc), List.map_map]
  rfl
theorem dJoin_nil {ls : List (List Nat)} (h : ls.flatten.length ≤ 1000000) : dJoin (dS []) [.lst (ls.map dS)] = .ok (dS ls.flatten) := by
  unfold dJoin
  simp only
  rw [show ls.map dS = (ls.map SX.S).map D.str by rw [List.map_map]; rfl, strs_map]
  simp only
  rw [if_pos, join_nil]
  rw [SX.S_len]
  have : ((ls.map SX.S).map fun (x : Str) => x.length).sum = ls.flatten.length := by
    rw [SX.lens, List.length_flatten]
  rw [show ((ls.map SX.S).map (·.length)).sum = ls.flatten.length from this, List.length_nil, Nat.mul_zero]
  omega
theorem fs_cons {g : Rho → Res D} {r : Str → Rho → Res Str} {ρ : Rho} {acc : List Nat} {z : Res Str} (h : g ρ = .ok (dS b)) (hl : acc.length + b.length ≤ 1000000) (h' : r (SX.S (acc ++ b)) ρ = z) : fsCons g r (SX.S acc) ρ = z := by
  unfold fsCons
  rw [h, Res.bind_ok]
  simp only
  rw [SX.S_cat, if_pos (sz1 (by rw [SX.S_len, List.length_append]; exact hl)), h']
theorem fs_ok {r : Str → Rho → Res Str} {ρ : Rho} {l : List Nat} (h : r (SX.S []) ρ = .ok (SX.S l)) : fsV r ρ = .ok (dS l) := by
  unfold fsV
  rw [show Str.empty = SX.S [] from rfl, h, Res.bind_ok]
end
end T

set_option Elab.async false
set_option linter.all false
set_option maxRecDepth 100000
set_option maxHeartbeats 4000000
/-! T-layer, part U: lemmas for evaluation by a tactic. -/
namespace T
open PySem L2
section
variable {ρ ρ' : Rho} {f g : Rho → Out} {o : Out} {d : D} {c : Rho → Res Bool} {a b : Rho → Res D} {k l : Bool}
theorem u_tru (h : a ρ = .ok d) (h' : dTru d = .ok k) : truV a ρ = .ok k := by rw [truV_ap, h, Res.bind_ok, h']
theorem ok_d {d' : D} (h : a ρ = .ok d) (e : d = d') : a ρ = .ok d' := by rw [h, e]
theorem u_neg {e : D} (h : a ρ = .ok d) (h' : dNeg d = .ok e) : negV a ρ = .ok e := by rw [negV_ap, h, Res.bind_ok, h']
theorem u_notV {e : D} (h : a ρ = .ok d) (h' : dNotB d = .ok e) : notV a ρ = .ok e := by rw [notV_ap, h, Res.bind_ok, h']
theorem u_items {ds : List D} (h : a ρ = .ok d) (h' : dItems d = .ok ds) : itemsV a ρ = .ok ds := by rw [itemsV_ap, h, Res.bind_ok, h']
theorem u_chain {f g : D → D → Res D} {a b c : Rho → Res D} {x y z : D} {p q : Bool} (ha : a ρ = .ok x) (hb : b ρ = .ok y) (h1 : f x y = .ok (.bl p)) (hc : c ρ = .ok z) (h2 : g y z = .ok (.bl q)) : chainV f g a b c ρ = .ok (.bl (p && q)) := by
  rw [chainV_ap, ha, Res.bind_ok, hb, Res.bind_ok, h1, Res.bind_ok]
  cases p with
  | true => simpa [hc] using h2
  | false => rfl
theorem u_andV (h : a ρ = .ok (.bl k)) (h' : b ρ = .ok (.bl l)) : andV a b ρ = .ok (.bl (k && l)) := by
  rw [andV_ap, h, Res.bind_ok]
  cases k with
  | true => simpa using h'
  | false => rfl
theorem u_orV (h : a ρ = .ok (.bl k)) (h' : b ρ = .ok (.bl l)) : orV a b ρ = .ok (.bl (k || l)) := by
  rw [orV_ap, h, Res.bind_ok]
  cases k with
  | true => rfl
  | false => simpa using h'
theorem u_and {a b : Rho → Res Bool} (h : a ρ = .ok k) (h' : b ρ = .ok l) : andB a b ρ = .ok (k && l) := andB_ok h fun _ => h'
theorem u_sl {α : Type} {h : D → Option Int → Option Int → Res α} {p q : Rho → Res (Option Int)} {i j : Option Int} {z : Res α} (ha : a ρ = .ok d) (hp : p ρ = .ok i) (hq : q ρ = .ok j) (hh : h d i j = z) : slV h a p q ρ = z := by rw [slV_ap, ha, Res.bind_ok, hp, Res.bind_ok, hq, Res.bind_ok, hh]
theorem u_part {i : Int} (h : a ρ = .ok (.int i)) : toPart a ρ = .ok (some i) := by rw [toPart_ap, h, Res.bind_ok]
theorem u_meth {α : Type} {n : String} {h : D → List D → Res α} {p : Rho → Res (List D)} {ds : List D} {z : Res α} (ha : a ρ = .ok d) (ht : d.isTy n = true) (hp : p ρ = .ok ds) (hh : h d ds = z) : methV n h a p ρ = z := by rw [methV_ap, ha, Res.bind_ok, if_pos ht, hp, Res.bind_ok, hh]
theorem u_call {α : Type} {h : List D → Res α} {p : Rho → Res (List D)} {ds : List D} {z : Res α} (hp : p ρ = .ok ds) (hh : h ds = z) : callV h p ρ = z := by rw [callV_ap, hp, Res.bind_ok, hh]
theorem u_callN {h : List D → Res D} {p : Rho → Res (List D)} {ds xs : List D} (hp : p ρ = .ok ds) (hh : h ds = .ok (.lst xs)) : callN h p ρ = .ok xs := by rw [callN_ap, hp, Res.bind_ok, hh, asL_lst]
theorem u_consA {p : Rho → Res (List D)} {ds : List D} (ha : a ρ = .ok d) (hp : p ρ = .ok ds) : consA a p ρ = .ok (d :: ds) := by rw [consA_ap, ha, Res.bind_ok, hp, Res.bind_ok]
theorem u_tup {p : Rho → Res (List D)} {ds : List D} (hp : p ρ = .ok ds) (hl : ds.length ≤ 1000000) : tupV p ρ = .ok (.tup ds) := by rw [tupV_ap, hp, Res.bind_ok, if_pos (sz1 hl)]
theorem u_lst {p : Rho → Res (List D)} {ds : List D} (hp : p ρ = .ok ds) (hl : ds.length ≤ 1000000) : lstV p ρ = .ok ds := by rw [lstV_ap, hp, Res.bind_ok, if_pos (sz1 hl)]
theorem u_own {ds : List D} (h : a ρ = .ok (.lst ds)) : ownItems a ρ = .ok ds := by rw [ownItems_ap, h, Res.bind_ok]
theorem u_if {z : Res D} (hc : c ρ = .ok k) (h1 : k = true → a ρ = z) (h2 : k = false → b ρ = z) : ifV c a b ρ = z := by
  rw [ifV_ap, hc, Res.bind_ok]
  cases k with
  | true => exact h1 rfl
  | false => exact h2 rfl
/-- a test, either way -/
theorem if_c (h : c ρ = .ok k) (h1 : k = true → f ρ = o) (h2 : k = false → g ρ = o) : sIf c f g ρ = o := by
  rw [sIf_ap, h, thenS_ok]
  cases k with
  | true => exact h1 rfl
  | false => exact h2 rfl
theorem if_k (h : c ρ = .ok k) (e : k = true) (h1 : f ρ = o) : sIf c f g ρ = o := if_t (h.trans (by rw [e])) h1
theorem if_n (h : c ρ = .ok k) (e : k = false) (h1 : g ρ = o) : sIf c f g ρ = o := if_f (h.trans (by rw [e])) h1
/-- a guard that does not hold -/
theorem seq_g (h : c ρ = .ok k) (e : k = false) (h' : g ρ = o) : sSeq (sIf c f sSkip) g ρ = o := seq_no (h.trans (by rw [e])) h'
/-- a guard that leaves -/
theorem seq_gt (h : c ρ = .ok k) (e : k = true) (h' : f ρ = .rt d) : sSeq (sIf c f sSkip) g ρ = .rt d := seq_rt (if_t (h.trans (by rw [e])) h')
theorem seq_gx {x : Exn} (h : c ρ = .ok k) (e : k = true) (h' : f ρ = .ex x ρ') : sSeq (sIf c f sSkip) g ρ = .ex x ρ' := seq_ex (if_t (h.trans (by rw [e])) h')
/-- a guard that may leave -/
theorem seq_gc (h : c ρ = .ok k) (h1 : k = true → f ρ = .rt d) (h' : k = false → g ρ = .rt d) : sSeq (sIf c f sSkip) g ρ = .rt d := by
  cases k with
  | true => exact seq_gt h rfl (h1 rfl)
  | false => exact seq_g h rfl (h' rfl)
theorem set_eq {i : Nat} {a : Rho → Res D} {ρ' : Rho} (h : a ρ = .ok d) (e : ρ.set i (some d) = ρ') : sSet i a ρ = .nx ρ' := by rw [set_ok h, e]
theorem setN_eq {i : Nat} {a : Rho → Res (List D)} {ds : List D} {ρ' : Rho} (h : a ρ = .ok ds) (e : ρ.set i (some (.lst ds)) = ρ') : sSetN i a ρ = .nx ρ' := by rw [setN_ok h, e]
theorem ret_eq {a : Rho → Res D} {d' : D} (h : a ρ = .ok d) (e : d = d') : sRet a ρ = .rt d' := by rw [ret_ok h, e]
theorem app_eq {i : Nat} {a : Rho → Res D} {xs : List D} {ρ' : Rho} (h0 : ρ[i]? = some (some (.lst xs))) (h : a ρ = .ok d) (hs : xs.length < 1000000) (e : ρ.set i (some (.lst (xs ++ [d]))) = ρ') : sApp i a ρ = .nx ρ' := by rw [app_ok h0 h hs, e]
theorem skip_eq (e : ρ = ρ') : sSkip ρ = .nx ρ' := by rw [sSkip_ap, e]
theorem u_app {i : Nat} {a : Rho → Res D} {xs : List D} (h0 : ρ[i]? = some (some (.lst xs))) (h : a ρ = .ok d) (hs : xs.length < 1000000) : sApp i a ρ = .nx (ρ.set i (some (.lst (xs ++ [d])))) := app_ok h0 h hs
end
section
variable {α : Type} {enc : α → D}
theorem dAdd_L {a b : List α} (h : a.length + b.length ≤ 1000000) : dAdd (.lst (a.map enc)) (.lst (b.map enc)) = .ok (.lst ((a ++ b).map enc)) := by
  rw [dAdd_l, if_pos (sz1 (by simpa using h)), List.map_append]
theorem dIx_last {a : List α} {l : α} : dIx (.lst ((a ++ [l]).map enc)) (.int (-1)) = .ok (enc l) := by
  rw [List.map_append]
  refine dIx_l ?_
  show atI (a.map enc ++ [enc l]) (-1) = _
  unfold atI
  have e : ixN ((a.map enc).length + 1) (-1) = some (a.map enc).length := by
    unfold ixN
    simp
    omega
  rw [List.length_append, List.length_singleton, e]
  simp
theorem setI_last {ρ : Rho} {i : Nat} {gk g : Rho → Res D} {a : List α} {l m : α} (hg : g ρ = .ok (enc m)) (h0 : ρ[i]? = some (some (.lst ((a ++ [l]).map enc)))) (hk : gk ρ = .ok (.int (-1))) : sSetI i gk g ρ = .nx (ρ.set i (some (.lst ((a ++ [m]).map enc)))) := by
  rw [sSetI_ap, hg, thenS_ok, x_atL h0, hk, thenS_ok]
  have e : ixN (((a ++ [l]).map enc).length) (-1) = some a.length := by
    unfold ixN
    simp
    omega
  simp only [e]
  simp
theorem setI_at {ρ : Rho} {i : Nat} {gk g : Rho → Res D} {xs : List D} {d : D} {z : Int} {j : Nat} (hg : g ρ = .ok d) (h0 : ρ[i]? = some (some (.lst xs))) (hk : gk ρ = .ok (.int z)) (hz : z = (j : Int)) (hj : j < xs.length) : sSetI i gk g ρ = .nx (ρ.set i (some (.lst (xs.set j d)))) := by
  rw [sSetI_ap, hg, thenS_ok, x_atL h0, hk, thenS_ok]
  have e : ixN xs.length z = some j := by
    subst hz
    unfold ixN
    simp
    omega
  simp only [e]
theorem dIn_l' (x : D) (ys : List D) : dIn x (.lst ys) = if D.dat 60 x = true ∧ D.datA 60 ys = true then .ok (.bl (ys.any fun y => y.eqb x)) else .no := by
  cases x <;> rfl
end
theorem for_cons {b : Bnd} {body : Rho → Out} {x : D} {xs : List D} {ρ ρ1 ρ2 : Rho} {o : Out} (h : b x ρ = some ρ1) (h1 : body ρ1 = .nx ρ2) (h2 : forM b body xs ρ2 = o) : forM b body (x :: xs) ρ = o := by
  simp only [forM, h, h1, h2]
theorem for_nil {b : Bnd} {body : Rho → Out} {ρ : Rho} : forM b body [] ρ = .nx ρ := rfl
theorem isi_k {x : D} {n : String} {t : String} {r : Bool} (h : dIsi [x, .ty t] = .ok (.bl r)) : dIsi [x, .ty t] = .ok (.bl r) := h
@[simp] theorem isi_bi {p : Bool} : dIsi [.bl p, .ty "int"] = .ok (.bl true) := by
  show (match kitB "bool" "int" with | some r => Res.ok (D.bl r) | none => .no) = _
  rw [show kitB "bool" "int" = some true by decide +kernel]
theorem dTru_l {xs : List D} : dTru (.lst xs) = .ok (!xs.isEmpty) := mk_eq rfl
end T

set_option Elab.async false
set_option linter.all false
set_option maxRecDepth 100000
set_option maxHeartbeats 4000000
/-! T-layer, part V: except X as n; isinstance of n; its fields. -/
namespace T
open PySem PySem.Spec PyProof.Rows L2
/-- the slot of the error is let go -/
def dropO (i : Nat) : Out → Out
  | .nx ρ => .nx (ρ.set i none)
  | .bk ρ => .bk (ρ.set i none)
  | .ct ρ => .ct (ρ.set i none)
  | o => o
def sTryAs (cl : List Str) (sub : Str → Str → Bool) (f : Rho → Out) (i : Nat) (c : Str) (g : Exn → Rho → Out) : Rho → Out := fun ρ => match f ρ with
  | .ex e ρ' => if e.cls ∈ cl then (if sub e.cls c = true then dropO i (noEx (g e (ρ'.set i (some (.exc e.fs))))) else .ex e ρ') else .no
  | o => o
section
variable {K : PySem.W.Frag} {F B H : Hp} {own : Own} {G G2 : List Mode} {ρ : Rho} {σ : L2.St} {i : Nat}
theorem Good.raw {a : Addr} {d : Option Addr} {fs : List (Str × D)} (g : Good K F [] ρ (fun _ => none) B σ H) (h0 : ∀ j, j ≠ i → G.getD j Mode.fz = Mode.fz) (hi : G.getD i Mode.fz = Mode.raw a d) (hx : ExcFs K B d fs) :
    Good K F G (ρ.set i (some (.exc fs))) (fun _ => none) B (σ.set i (some (.ref a))) H where
  gr := g.gr
  len := by simpa using g.len
  slots := fun j e he => by
    by_cases hj : j = i
    · subst hj
      have hl := (List.getElem?_eq_some_iff.mp he).1
      rw [List.length_set] at hl
      rw [List.getElem?_set_self hl] at he
      cases he
      refine ⟨.ref a, ?_, ?_⟩
      · rw [List.getElem?_set_self (by rw [g.len]; exact hl)]
      · rw [hi]
        exact ⟨rfl, fs, rfl, hx⟩
    · rw [List.getElem?_set_ne (Ne.symm hj)] at he
      obtain ⟨v, h1, h2⟩ := g.slots j e he
      refine ⟨v, by rw [List.getElem?_set_ne (Ne.symm hj)]; exact h1, ?_⟩
      rw [h0 j hj]
      simpa using h2
theorem Good.drop1 (g : Good K F G ρ own B σ H) (h : ∀ j, j ≠ i → G2.getD j Mode.fz = G.getD j Mode.fz) : Good K F G2 (ρ.set i none) own B (σ.set i none) H where
  gr := g.gr
  len := by simpa using g.len
  slots := fun j e he => by
    have hj : j ≠ i := fun z => by
      subst z
      have hl := (List.getElem?_eq_some_iff.mp he).1
      rw [List.length_set] at hl
      rw [List.getElem?_set_self hl] at he
      cases he
    rw [List.getElem?_set_ne (Ne.symm hj)] at he
    obtain ⟨v, h1, h2⟩ := g.slots j e he
    refine ⟨v, by rw [List.getElem?_set_ne (Ne.symm hj)]; exact h1, ?_⟩
    rw [h j hj]
    exact h2
end
/-- alike but at i -/
def alike (i : Nat) (G2 G : List Mode) : Bool := (List.range (max G2.length G.length)).all fun j => j == i || decide (G2.getD j Mode.fz = G.getD j Mode.fz)
theorem alike_ok {i : Nat} {G2 G : List Mode} (h : alike i G2 G = true) (j : Nat) (hj : j ≠ i) : G2.getD j Mode.fz = G.getD j Mode.fz := by
  by_cases hl : j < max G2.length G.length
  · have := List.all_eq_true.mp h j (List.mem_range.mpr hl)
    simp only [Bool.or_eq_true, beq_iff_eq, decide_eq_true_eq] at this
    exact this.resolve_left hj
  · have h1 : G2.length ≤ j := by omega
    have h2 : G.length ≤ j := by omega
    rw [List.getD_eq_getElem?_getD, List.getD_eq_getElem?_getD, List.getElem?_eq_none h1, List.getElem?_eq_none h2]
/-- the suite of except X as n, for every exception that it may get -/
def SuiA (X : Cx) (cl : List Str) (sub : Str → Str → Bool) (c : Str) (i : Nat) (L : LM) (suite : List Stmt) (g : Exn → Rho → Out) (G' : List Mode) : Prop :=
  ∀ (a : Addr) (oe : Obj) (cls : Value) (d : Option Addr) (pn : List (Addr × Obj)) (e : Exn), Zc cls d oe → (∃ vs, oe.data = .fields vs) → X.mg e.cls = some cls → e.cls ∈ cl →
    ∃ (G0 G1 : List Mode), SsJ (X.suite a ((a, oe) :: pn)) W0 ⟨L.bk.set i (Mode.raw a d), L.ct.set i (Mode.raw a d), L.rt⟩ G0 suite (g e) G1 ∧ alike i [] G0 = true ∧ G0.getD i Mode.fz = Mode.raw a d ∧ alike i G' G1 = true
theorem getD_setne {i : Nat} {l : List Mode} {m : Mode} (j : Nat) (hj : j ≠ i) : l.getD j Mode.fz = (l.set i m).getD j Mode.fz := by
  rw [List.getD_eq_getElem?_getD, List.getD_eq_getElem?_getD, List.getElem?_set_ne (Ne.symm hj)]
section
variable {X : Cx} {W : WX} {L : LM} {G G' : List Mode} {cl : List Str} {sub : Str → Str → Bool} {c : Str} {i : Nat} {pos : Pos}
def suiAT {suite : List Stmt} {g : Exn → Rho → Out} (h : SuiA X cl sub c i L suite g G') (a : Addr) (cls : Value) (d : Option Addr) : TS :=
  fun D σ H => ∃ (e : Exn) (h1 : X.mg e.cls = some cls) (h2 : e.cls ∈ cl), ∀ (oe : Obj) (pn : List (Addr × Obj)) (hz : Zc cls d oe) (hf : ∃ vs, oe.data = .fields vs), (h a oe cls d pn e hz hf h1 h2).choose_spec.choose_spec.1.choose D σ H
theorem suiAT_ok {suite : List Stmt} {g : Exn → Rho → Out} (h : SuiA X cl sub c i L suite g G') (a : Addr) (oe : Obj) (cls : Value) (d : Option Addr) (pn : List (Addr × Obj)) (hz : Zc cls d oe) (hf : ∃ vs, oe.data = .fields vs) :
    PSs (X.suite a ((a, oe) :: pn)) suite (suiAT h a cls d) := by
  refine ⟨fun pins s σ H D I q => ?_⟩
  obtain ⟨e, h1, h2, q⟩ := q
  exact (h a oe cls d pn e hz hf h1 h2).choose_spec.choose_spec.1.choose_spec.1.run pins s σ H D I (q oe pn hz hf)
theorem sj_tryAs {body suite : List Stmt} {b₀ : Stmt} {n : Str} {C : Addr} {np pos' : Pos} {f : Rho → Out} {g : Exn → Rho → Out} (hs : X.stack = X.env :: X.outer) (hf : X.env.frame = some X.env.locals) (tk : Takes X W) (hsub : Subs X.K X.mg cl sub)
    (hN : X.N.Nodup) (hi : X.N[i]? = some n) (hln : X.env.kindOf n = some .local) (hm : c ∈ cl) (Tx : XCls X.K X.mg c C) (hg : Gl X c) (hdb : (c == ("__debug__" : Str)) = false)
    (hb : ∀ (W : WX) (pn : List (Addr × Obj)) (xe : Value → Shared → Prop), Takes (X.tr pn xe) W → PassesOwn (model X.prog X.w) X.A X.env xe → SsJ (X.tr pn xe) W L G body f G')
    (hsu : SuiA X cl sub c i L (b₀ :: suite) g G') : SJ X W L G (.Try body [.ExceptHandler (some (.Name c np)) (some n) (b₀ :: suite) pos'] [] [] pos) (sTryAs cl sub f i c g) G' := by
  refine ⟨_, ps_try_as (c := .ref C) hs hf hN hi hln ⟨hg, hdb, .inl Tx.g⟩ tk (tb := fun W D σ H => ∀ pn xe (t1 : Takes (X.tr pn xe) W) (t2 : PassesOwn (model X.prog X.w) X.A X.env xe), (hb W pn xe t1 t2).choose D σ H) (fun W pn xe t1 t2 => ⟨fun pins s σ H D I q => (hb W pn xe t1 t2).choose_spec.1.run pins s σ H D I (q pn xe t1 t2)⟩)
    (ts := suiAT hsu) (fun a oe cls d pn hz hf => suiAT_ok hsu a oe cls d pn hz hf), fun F ρ own B σ H D gd q => ?_⟩
  intro pn xe t1 t2
  refine (hb _ pn xe t1 t2).choose_spec.2 F ρ own B σ H D gd ?_
  unfold sTryAs at q
  cases ho : f ρ with
  | ex e ρ2 =>
    rw [ho] at q
    simp only at q
    split at q
    · rename_i hc
      intro cv dx B' σ' H' e' g' x
      refine ⟨_, hsub.ok e.cls hc _ hm cv _ x.cls Tx.g, fun hb2 a ha => ⟨e, x.cls, hc, fun oe pn hz hf => ?_⟩, fun hb2 => ?_⟩
      · rw [if_pos hb2] at q
        obtain ⟨h1, h2, h3⟩ := (hsu a oe cv dx pn e hz hf x.cls hc).choose_spec.choose_spec.2
        have hL := (hsu a oe cv dx pn e hz hf x.cls hc).choose_spec.choose_spec.1.choose_spec.2
        have g2 := Good.raw (i := i) (a := a) (d := dx) g' (fun j hj => (alike_ok h1 j hj).symm.trans (by simp)) h2 x.fs
        refine hL F _ (fun _ => none) B' _ H' _ g2 ?_
        cases ho2 : g e (ρ2.set i (some (.exc e.fs))) with
        | nx ρ3 =>
          rw [ho2] at q
          exact fun own B2 σ2 H2 e2 g3 => q own B2 _ H2 (e'.trans e2) (g3.drop1 fun j hj => alike_ok h3 j hj)
        | bk ρ3 =>
          rw [ho2] at q
          exact fun own B2 σ2 H2 e2 g3 => q own B2 _ H2 (e'.trans e2) (g3.drop1 fun j hj => getD_setne j hj)
        | ct ρ3 =>
          rw [ho2] at q
          exact fun own B2 σ2 H2 e2 g3 => q own B2 _ H2 (e'.trans e2) (g3.drop1 fun j hj => getD_setne j hj)
        | rt d =>
          rw [ho2] at q
          exact fun v own B2 H2 e2 g3 r => q v own B2 H2 (e'.trans e2) g3 r
        | ex e2 ρ3 =>
          rw [ho2] at q
          exact q.elim
        | no =>
          rw [ho2] at q
          exact q.elim
      · rw [if_neg (by rw [hb2]; exact Bool.false_ne_true)] at q
        exact q cv dx B' σ' H' e' g' x
    · exact q.elim
  | nx ρ2 =>
    rw [ho] at q
    exact q
  | bk ρ2 =>
    rw [ho] at q
    exact q
  | ct ρ2 =>
    rw [ho] at q
    exact q
  | rt d =>
    rw [ho] at q
    exact q
  | no =>
    rw [ho] at q
    exact q.elim
/-! ### isinstance(n, C) in the suite; n without fields -/
structure IsEs (K : PySem.W.Frag) (mg : Str → Option Value) (cl : List Str) (sub : Str → Str → Bool) : Prop where
  ok : ∀ a ∈ cl, ∀ va : Value, mg a = some va → ∃ A, va = .ref A ∧ ExcC K A ∧ ∀ c ∈ cl, ∀ C : Addr, mg c = some (.ref C) → PySem.W.kitOne K (.ref A) (.ref C) = some (sub a c)
theorem kit_ref {K : PySem.W.Frag} {A C : Addr} {b : Bool} (hs : PySem.W.subIn K (.ref A) (.ref C) = some b) (hself : PySem.W.subIn K (.ref A) (.ref A) = some true) (hd : PySem.W.hasDictIn K C = true) (ht : PySem.W.typeIn K (.ref C) = some (.type "type")) : PySem.W.kitOne K (.ref A) (.ref C) = some b := by
  unfold PySem.W.kitOne
  by_cases h : A = C
  · subst h
    rw [hs] at hself
    rw [if_pos (by simp)]
    exact hself.symm
  · rw [if_neg (by simpa using h)]
    obtain ⟨cd, hc, _⟩ := PySem.W.any_some hd
    unfold PySem.W.kitCls
    simp only
    rw [hc, ht, if_pos (by rfl)]
    exact hs
theorem isEs_one {K : PySem.W.Frag} {mg : Str → Option Value} {c : Str} {A C C' : Addr} {b b' : Bool} (hc : mg c = some (.ref C)) (h2 : mg c = some (.ref C')) (h : PySem.W.kitOne K (.ref A) (.ref C) = some b) (e : b = b') : PySem.W.kitOne K (.ref A) (.ref C') = some b' := by
  rw [hc] at h2
  cases h2
  rw [h, e]
def isE (sub : Str → Str → Bool) (e : Exn) (c : Str) (g : Rho → Res D) : Rho → Res D := fun ρ => (g ρ).bind fun d => match d with
  | .exc [] => .ok (.bl (sub e.cls c))
  | _ => .no
theorem ej_isE {a : Addr} {oe : Obj} {cls : Value} {d : Option Addr} {pn : List (Addr × Obj)} {e : Exn} {n : Str} {C : Addr} {p p1 p2 : Pos} {nm : Str} (hI : IsEs X.K X.mg cl sub) (hz : Zc cls d oe) (hf : ∃ vs, oe.data = .fields vs) (he : X.mg e.cls = some cls) (hcl : e.cls ∈ cl)
    (hg : Gl (X.suite a ((a, oe) :: pn)) nm) (hm : X.mg nm = none) (hv : bootBuiltins nm = some (.builtin "isinstance")) (hn : nm ≠ "__name__") (hdb : (nm == ("__debug__" : Str)) = false)
    (pv : PE (X.suite a ((a, oe) :: pn)) (.Name n p1) (tVar i)) (hG : G.getD i Mode.fz = Mode.raw a d)
    (hc : c ∈ cl) (Tx : XCls X.K X.mg c C) (hgc : Gl (X.suite a ((a, oe) :: pn)) c) (hdc : (c == ("__debug__" : Str)) = false) :
    EJ (X.suite a ((a, oe) :: pn)) W G (.Call (.Name nm p) [.Name n p1, .Name c p2] [] pos) (isE sub e c (getV i)) := by
  obtain ⟨A, rfl, hE, hk⟩ := hI.ok e.cls hcl cls he
  by_cases hd : d = none
  · subst hd
    refine ⟨_, pe_callB (call_isE hE hz hf) hg hm hv (pa_cons pv (pa_cons (pe_glob (v := .ref C) hgc Tx.g rfl hdc) pa_nil)) hn hdb, fun F ρ own B σ H Q gd q => ?_⟩
    unfold isE getV at q
    cases hi : ρ[i]? with
    | none =>
      rw [hi] at q
      exact q.elim
    | some o =>
      cases o with
      | none =>
        rw [hi] at q
        exact q.elim
      | some dv =>
        rw [hi] at q
        obtain ⟨v, h1, h2⟩ := gd.slots i dv hi
        rw [hG] at h2
        obtain ⟨rfl, fs, rfl, hx⟩ := h2
        cases fs with
        | nil => exact ⟨_, h1, .ref C, .ref C, _, rfl, fun u hu => hu, hk c hc C Tx.g, q _ B H (.refl gd.gr) (.bl _)⟩
        | cons f fs => exact q.elim
  · refine ⟨fun _ _ _ => False, ⟨fun _ _ _ _ _ _ z => z.elim⟩, fun F ρ own B σ H Q gd q => ?_⟩
    unfold isE getV at q
    cases hi : ρ[i]? with
    | none =>
      rw [hi] at q
      exact q
    | some o =>
      cases o with
      | none =>
        rw [hi] at q
        exact q
      | some dv =>
        rw [hi] at q
        obtain ⟨v, h1, h2⟩ := gd.slots i dv hi
        rw [hG] at h2
        obtain ⟨rfl, fs, rfl, hx⟩ := h2
        cases fs with
        | nil =>
          rcases hx with ⟨_, hx⟩ | ⟨dd, vs, h3, _⟩
          · exact hd hx
          · exact h3 rfl
        | cons f fs => exact q
end
end T

set_option Elab.async false
set_option linter.all false
set_option maxRecDepth 100000
set_option maxHeartbeats 4000000
/-! T-layer, part W: written dicts, read by a key. -/
namespace T
open PySem PySem.Spec PyProof.Rows L2
def kD : Key → D
  | .inl i => .int i
  | .inr x => .str x
def pairsV (kvs : List (Key × Key)) : List (Key × V) := kvs.map fun kv => (kv.1, kV kv.2)
def pairsD (kvs : List (Key × Key)) : List (D × D) := kvs.map fun kv => (kD kv.1, kD kv.2)
section
variable {X : Cx} {W : WX} {G : List Mode} {pos : Pos}
theorem rp_k {K : PySem.W.Frag} {B : Hp} (k : Key) : Rp K B (kV k) (kD k) := by
  cases k with
  | inl i => exact .int i
  | inr x => exact .str x
theorem rpP_pairs {K : PySem.W.Frag} {B : Hp} : ∀ kvs : List (Key × Key), RpP K B (pairsV kvs) (pairsD kvs)
  | [] => .nil
  | (.inl i, v) :: r => .consI (rp_k v) (rpP_pairs r)
  | (.inr x, v) :: r => .consS (rp_k v) (rpP_pairs r)
/-- a display of constants -/
def CJ (X : Cx) (pos : Pos) (ks : List (Option Expr)) (vs : List Expr) (kvs : List (Key × Key)) : Prop :=
  ∃ trs, PPs X pos ks vs trs ∧ ∀ (σ : L2.St) (H : Hp) (Q : List (V × V) → Hp → Prop), Q ((pairsV kvs).map fun kv => (kV kv.1, kv.2)) H → tPairs trs σ H Q
theorem cj_nil : CJ X pos [] [] [] := ⟨_, pps_nil, fun σ H Q q => q⟩
def ConE (X : Cx) (e : Expr) (k : Key) : Prop := PE X e (tC (kV k))
theorem con_i {i : Int} {j p} : ConE X (.Constant (.int i) j p) (.inl i) := pe_int
theorem con_s {x : Str} {j p} : ConE X (.Constant (.str x) j p) (.inr x) := pe_str
theorem cj_cons {k v : Expr} {ks : List (Option Expr)} {vs : List Expr} {a b : Key} {kvs : List (Key × Key)} (hk : ConE X k a) (hv : ConE X v b) (hr : CJ X pos ks vs kvs) : CJ X pos (some k :: ks) (v :: vs) ((a, b) :: kvs) := by
  obtain ⟨trs, h1, h2⟩ := hr
  exact ⟨_, pps_cons hk hv h1, fun σ H Q q => h2 σ H _ q⟩
theorem ej_dct {ks : List (Option Expr)} {vs : List Expr} {kvs : List (Key × Key)} (h : CJ X pos ks vs kvs) (hm : mergeK [] (pairsV kvs) = pairsV kvs) (hall : ks.all (·.isSome) = true) (hl : ks.length = vs.length) (h0 : ks ≠ []) (h15 : ks.length ≤ 15) (hz : kvs.length ≤ 15) :
    EJ X W G (.Dict ks vs pos) (conD (.dct (pairsD kvs))) := by
  obtain ⟨trs, h1, h2⟩ := h
  refine ⟨_, pe_disp h1 hall hl h0 h15, fun F ρ own B σ H Q gd q => ?_⟩
  intro p hp
  refine h2 σ _ _ ⟨upd_same, pairsV kvs, rfl, by simpa [pairsV] using hz, ?_⟩
  rw [upd_upd, hm]
  exact q (.ref p) (upd B p (.dK (pairsV kvs))) _ (Step.new gd.gr _ hp) (.dct upd_same (rpP_pairs kvs))
/-- d[k] -/
def keyOf : D → Option Key
  | .int i => some (.inl i)
  | .str x => some (.inr x)
  | _ => none
def lookD (ds : List (D × D)) (k : Key) : Option D := (ds.find? fun kv => decide (keyOf kv.1 = some k)).map (·.2)
def dGetK : D → D → Res D
  | .dct ds, y => match keyOf y with
    | some k => match lookD ds k with
      | some d => .ok d
      | none => .no
    | none => .no
  | _, _ => .no
theorem RpP.look {K : PySem.W.Frag} {B : Hp} {k : Key} : ∀ {kvs : List (Key × V)} {ds : List (D × D)} {d : D}, RpP K B kvs ds → lookD ds k = some d → ∃ v, valV kvs k = some v ∧ Rp K B v d
  | _, _, _, .nil, h => by cases h
  | _, _, d, .consI (n := n) (v := v) (d := d0) r rs, h => by
    unfold lookD at h
    unfold valV
    by_cases e : (Sum.inl n : Key) = k
    · subst e
      simp [keyOf] at h ⊢
      subst h
      exact r
    · have e' : ¬ (some (Sum.inl n : Key) = some k) := fun z => e (Option.some.inj z)
      rw [List.find?_cons, show decide (keyOf (D.int n) = some k) = false from decide_eq_false e'] at h
      obtain ⟨v', h1, h2⟩ := RpP.look (k := k) rs h
      refine ⟨v', ?_, h2⟩
      rw [List.find?_cons, show decide ((Sum.inl n : Key) = k) = false from decide_eq_false e]
      exact h1
  | _, _, d, .consS (x := n) (v := v) (d := d0) r rs, h => by
    unfold lookD at h
    unfold valV
    by_cases e : (Sum.inr n : Key) = k
    · subst e
      simp [keyOf] at h ⊢
      subst h
      exact r
    · have e' : ¬ (some (Sum.inr n : Key) = some k) := fun z => e (Option.some.inj z)
      rw [List.find?_cons, show decide (keyOf (D.str n) = some k) = false from decide_eq_false e'] at h
      obtain ⟨v', h1, h2⟩ := RpP.look (k := k) rs h
      refine ⟨v', ?_, h2⟩
      rw [List.find?_cons, show decide ((Sum.inr n : Key) = k) = false from decide_eq_false e]
      exact h1
theorem key_v {K : PySem.W.Frag} {B : Hp} {y : V} {d : D} {k : Key} (h : Rp K B y d) (e : keyOf d = some k) : y = kV k := by
  unfold keyOf at e
  split at e
  · cases e
    cases h
    rfl
  · cases e
    cases h
    rfl
  · cases e
theorem ej_dget {o i : Expr} {ga gb : Rho → Res D} (hu : X.A.units + 1 < cLine) (ha : EJ X W G o ga) (hb : EJ X W G i gb) (hs : NoSl i := by exact fun _ _ => rfl) : EJ X W G (.Subscript o i pos) (bin dGetK ga gb) := by
  obtain ⟨ta, pa, va⟩ := ha
  obtain ⟨tb, pb, vb⟩ := hb
  refine ⟨_, pe_dget hu pa pb hs, fun F ρ own B σ H Q gd q => ?_⟩
  refine va F ρ own B σ H _ gd (Res.has_mono (Res.has_bind q) (fun dx q v B1 H1 s1 r1 => ?_) fun _ x => x)
  refine vb F ρ own B1 σ H1 _ (gd.step s1) (Res.has_mono (Res.has_bind q) (fun dy q w B2 H2 s2 r2 => ?_) fun _ x => x.step s1)
  unfold dGetK at q
  cases dx with
  | dct ds =>
    simp only at q
    cases hk : keyOf dy with
    | none =>
      rw [hk] at q
      exact q.elim
    | some k =>
      rw [hk] at q
      simp only at q
      cases hl : lookD ds k with
      | none =>
        rw [hl] at q
        exact q.elim
      | some d =>
        rw [hl] at q
        have r1' := r1.mono s2.ext
        cases r1' with
        | dct h rp =>
          obtain ⟨u, h1, h2⟩ := rp.look hl
          refine ⟨_, u, rfl, ?_, q u B2 H2 (s1.trans s2) h2⟩
          have e := key_v r2 hk
          subst e
          rw [← h1]
          exact DGet.k (s2.base _ _ h)
  | _ => exact q.elim
end
/-! ### xs.count(text) -/
def eqt (k : Str) (v : Value) : Bool := match v with
  | .str n _ => n == k
  | _ => false
theorem eqt_all {k : Str} {t : Tok} : ∀ {ns : List Str} {us : List Value}, Vals (ns.map V.str) us → us.countP (eqt k) = ns.count k ∧ ∀ y ∈ us, MeetsSeq.EqGives y (.str k t) (eqt k y)
  | [], us, h => by
    cases h
    exact ⟨rfl, fun y hy => by simp at hy⟩
  | n :: ns, us, h => by
    cases h with
    | cons r rs =>
      obtain ⟨t', rfl⟩ := r
      obtain ⟨h1, h2⟩ := eqt_all (k := k) (t := t) rs
      refine ⟨?_, fun y hy => ?_⟩
      · rw [List.countP_cons, List.count_cons, h1]
        rfl
      · rcases List.mem_cons.mp hy with e | e
        · rw [e]
          have z := SeqRoads2.EqGives.str n k t' t
          rw [PySem.SeqAt.str_beq] at z
          exact z
        · exact h2 y e
def rCntS (K : PySem.W.Frag) : V → List V → Hp → VK → Prop := fun x xs H Q => ∃ (p : Addr) (ns : List Str) (k : Str), x = .ref p ∧ xs = [.str k] ∧ SqL K H p (ns.map V.str) ∧ Q (.int (ns.count k : Nat)) H
theorem mt_lcountS {X : Cx} : MtR X "list.count" (rCntS X.K) := by
  intro pins s σ H x xs v us Q I rx rxs h
  obtain ⟨p, ns, k, rfl, rfl, hs, q⟩ := h
  cases rx
  obtain ⟨u, rfl, ru⟩ := rxs.one
  obtain ⟨t, rfl⟩ := ru
  obtain ⟨its, rv, ⟨⟨cls, dd, data, sl⟩, n, ho, hc, hdn, hd⟩, hlen⟩ := I.list hs
  simp only at hc hd
  subst hc hd
  obtain ⟨h1, h2⟩ := eqt_all (k := k) (t := t) rv
  refine call_meets PySem.F.slot_list_count ⟨_, ho, rfl⟩ PySem.F.entry_list_count (PySem.F.args_list_count_2 _ _)
    (SeqAt.list_countAt p its.toArray n dd sl (.str k t) (eqt k)) ⟨ho, fun y hy => (h2 y (by simpa using hy)).at _ _, ?_⟩
  refine ⟨.int (ns.count k : Nat), H, I.tok _, ⟨s.toks, ?_⟩, q⟩
  show Value.int ((its.toArray.toList.countP (eqt k) : Nat) : Int) s.toks = Value.int ((ns.count k : Nat) : Int) s.toks
  rw [show its.toArray.toList = its from rfl, h1]
def dCountS : D → List D → Res D
  | .lst xs, [.str k] => match D.strs xs with
    | some ns => .ok (.int (ns.count k : Nat))
    | none => .no
  | _, _ => .no
theorem mth_countS {X : Cx} : ∃ r, MtR X "list.count" r ∧ MethD X r dCountS := by
  refine ⟨_, mt_lcountS, fun d ds e h => ?_, fun F own B H v d vs ds Q g hv hx q => ?_⟩
  · unfold dCountS at h
    split at h <;> (try split at h) <;> cases h
  · unfold dCountS at q
    split at q
    · rename_i xs k
      split at q
      · rename_i ns hns
        obtain ⟨l, ws, rfl, hl, rv⟩ := hv.lst g
        obtain ⟨w, rfl, hw⟩ := hx.one
        cases hw.str
        have e2 := RpA.strs rv hns
        subst e2
        exact ⟨l, ns, k, rfl, rfl, .inl (.inl hl), q _ _ _ (.refl g) (.int _)⟩
      · exact q.elim
    · exact q.elim
end T

set_option Elab.async false
set_option linter.all false
set_option maxRecDepth 100000
set_option maxHeartbeats 4000000
/-! Longest common subsequences: plain mathematics. -/
namespace LC
variable {α : Type} [DecidableEq α]
def lcs : List α → List α → Nat
  | [], _ => 0
  | _ :: _, [] => 0
  | x :: xs, y :: ys => if x = y then lcs xs ys + 1 else max (lcs xs (y :: ys)) (lcs (x :: xs) ys)
termination_by xs ys => xs.length + ys.length
theorem lcs_nl (ys : List α) : lcs [] ys = 0 := by rw [lcs]
theorem lcs_nr (xs : List α) : lcs xs [] = 0 := by cases xs <;> rw [lcs]
theorem lcs_cons (x y : α) (xs ys : List α) : lcs (x :: xs) (y :: ys) = if x = y then lcs xs ys + 1 else max (lcs xs (y :: ys)) (lcs (x :: xs) ys) := by rw [lcs]
theorem lcs_le : ∀ (n : Nat) (xs ys zs : List α), xs.length + ys.length ≤ n → zs.Sublist xs → zs.Sublist ys → zs.length ≤ lcs xs ys
  | n, [], ys, zs, _, h, _ => by
    rw [List.sublist_nil.mp h]
    exact Nat.zero_le _
  | n, x :: xs, [], zs, _, _, h => by
    rw [List.sublist_nil.mp h]
    exact Nat.zero_le _
  | 0, x :: xs, y :: ys, _, h, _, _ => by simp at h
  | n + 1, x :: xs, y :: ys, zs, hn, h1, h2 => by
    simp only [List.length_cons] at hn
    rw [lcs_cons]
    split
    · cases zs with
      | nil => exact Nat.zero_le _
      | cons z zs =>
        have := lcs_le n xs ys zs (by omega) (by simpa using h1.tail) (by simpa using h2.tail)
        simpa using this
    · rename_i ne
      rcases List.sublist_cons_iff.mp h1 with h | ⟨r, rfl, h⟩
      · exact Nat.le_trans (lcs_le n xs (y :: ys) zs (by simp only [List.length_cons]; omega) h h2) (Nat.le_max_left _ _)
      · rcases List.sublist_cons_iff.mp h2 with h' | ⟨r', e, h'⟩
        · exact Nat.le_trans (lcs_le n (x :: xs) ys _ (by simp only [List.length_cons]; omega) h1 h') (Nat.le_max_right _ _)
        · cases e
          exact absurd rfl ne
theorem lcs_ex : ∀ (n : Nat) (xs ys : List α), xs.length + ys.length ≤ n → ∃ zs : List α, zs.Sublist xs ∧ zs.Sublist ys ∧ zs.length = lcs xs ys
  | n, [], ys, _ => ⟨[], .refl _, List.nil_sublist _, by rw [lcs_nl]; rfl⟩
  | n, x :: xs, [], _ => ⟨[], List.nil_sublist _, .refl _, by rw [lcs_nr]; rfl⟩
  | 0, x :: xs, y :: ys, h => by simp at h
  | n + 1, x :: xs, y :: ys, hn => by
    simp only [List.length_cons] at hn
    rw [lcs_cons]
    split
    · rename_i e
      subst e
      obtain ⟨zs, h1, h2, h3⟩ := lcs_ex n xs ys (by omega)
      exact ⟨x :: zs, h1.cons₂ x, h2.cons₂ x, by simp [h3]⟩
    · obtain ⟨zs, h1, h2, h3⟩ := lcs_ex n xs (y :: ys) (by simp only [List.length_cons]; omega)
      obtain ⟨ws, k1, k2, k3⟩ := lcs_ex n (x :: xs) ys (by simp only [List.length_cons]; omega)
      by_cases h : lcs xs (y :: ys) ≤ lcs (x :: xs) ys
      · exact ⟨ws, k1, k2.cons y, by rw [k3, Nat.max_eq_right h]⟩
      · exact ⟨zs, h1.cons x, h2, by rw [h3, Nat.max_eq_left (by omega)]⟩
theorem lcs_rev_le (xs ys : List α) : lcs xs ys ≤ lcs xs.reverse ys.reverse := by
  obtain ⟨zs, h1, h2, h3⟩ := lcs_ex _ xs ys (Nat.le_refl _)
  have := lcs_le _ xs.reverse ys.reverse zs.reverse (Nat.le_refl _) h1.reverse h2.reverse
  rw [List.length_reverse, h3] at this
  exact this
theorem lcs_rev (xs ys : List α) : lcs xs.reverse ys.reverse = lcs xs ys := by
  refine Nat.le_antisymm ?_ (lcs_rev_le xs ys)
  have := lcs_rev_le xs.reverse ys.reverse
  simpa using this
theorem lcs_sym : ∀ (n : Nat) (xs ys : List α), xs.length + ys.length ≤ n → lcs xs ys = lcs ys xs
  | n, [], ys, _ => by rw [lcs_nl, lcs_nr]
  | n, x :: xs, [], _ => by rw [lcs_nl, lcs_nr]
  | 0, x :: xs, y :: ys, h => by simp at h
  | n + 1, x :: xs, y :: ys, hn => by
    simp only [List.length_cons] at hn
    rw [lcs_cons, lcs_cons, lcs_sym n xs ys (by omega), lcs_sym n xs (y :: ys) (by simp only [List.length_cons]; omega), lcs_sym n (x :: xs) ys (by simp only [List.length_cons]; omega)]
    by_cases h : x = y
    · rw [if_pos h, if_pos h.symm]
    · rw [if_neg h, if_neg (Ne.symm h), Nat.max_comm]
/-- at the places i, j -/
def at_ (xs ys : List α) (i j : Nat) : Nat := lcs (xs.drop i) (ys.drop j)
theorem at_step {xs ys : List α} {i j : Nat} {x y : α} (hx : xs[i]? = some x) (hy : ys[j]? = some y) : at_ xs ys i j = if x = y then at_ xs ys (i + 1) (j + 1) + 1 else max (at_ xs ys (i + 1) j) (at_ xs ys i (j + 1)) := by
  obtain ⟨h1, rfl⟩ := List.getElem?_eq_some_iff.mp hx
  obtain ⟨h2, rfl⟩ := List.getElem?_eq_some_iff.mp hy
  unfold at_
  rw [List.drop_eq_getElem_cons h1, List.drop_eq_getElem_cons h2, lcs_cons]
theorem at_end1 {xs ys : List α} {i j : Nat} (h : xs.length ≤ i) : at_ xs ys i j = 0 := by
  unfold at_
  rw [List.drop_eq_nil_of_le h, lcs_nl]
theorem at_end2 {xs ys : List α} {i j : Nat} (h : ys.length ≤ j) : at_ xs ys i j = 0 := by
  unfold at_
  rw [List.drop_eq_nil_of_le h, lcs_nr]
theorem at_le1 (xs ys : List α) (i j : Nat) : at_ xs ys i j ≤ xs.length - i := by
  obtain ⟨zs, h1, h2, h3⟩ := lcs_ex _ (xs.drop i) (ys.drop j) (Nat.le_refl _)
  have := h1.length_le
  rw [h3, List.length_drop] at this
  exact this
/-- the pairs -/
def walk (xs ys : List α) : Nat → Nat → Nat → List (Nat × Nat)
  | 0, _, _ => []
  | n + 1, i, j => match xs[i]?, ys[j]? with
    | some x, some y => if x = y then (i, j) :: walk xs ys n (i + 1) (j + 1) else if at_ xs ys i (j + 1) ≤ at_ xs ys (i + 1) j then walk xs ys n (i + 1) j else walk xs ys n i (j + 1)
    | _, _ => []
theorem walk_more (xs ys : List α) : ∀ (n m i j : Nat), (xs.length - i) + (ys.length - j) ≤ n → (xs.length - i) + (ys.length - j) ≤ m → walk xs ys n i j = walk xs ys m i j
  | 0, 0, _, _, _, _ => rfl
  | 0, m + 1, i, j, h, _ => by
    rw [walk, walk, List.getElem?_eq_none (show xs.length ≤ i by omega)]
  | n + 1, 0, i, j, _, h => by
    rw [walk, walk, List.getElem?_eq_none (show xs.length ≤ i by omega)]
  | n + 1, m + 1, i, j, h1, h2 => by
    rw [walk, walk]
    cases hx : xs[i]? with
    | none => rfl
    | some x =>
      cases hy : ys[j]? with
      | none => rfl
      | some y =>
        have h3 := (List.getElem?_eq_some_iff.mp hx).1
        have h4 := (List.getElem?_eq_some_iff.mp hy).1
        simp only
        rw [walk_more xs ys n m (i + 1) (j + 1) (by omega) (by omega), walk_more xs ys n m (i + 1) j (by omega) (by omega), walk_more xs ys n m i (j + 1) (by omega) (by omega)]
/-- pairs from i, j on: rising, alike -/
def Rising (xs ys : List α) : Nat → Nat → List (Nat × Nat) → Prop
  | _, _, [] => True
  | i, j, p :: ps => i ≤ p.1 ∧ j ≤ p.2 ∧ (∃ x, xs[p.1]? = some x ∧ ys[p.2]? = some x) ∧ Rising xs ys (p.1 + 1) (p.2 + 1) ps
theorem Rising.down {xs ys : List α} {i j i' j' : Nat} (hi : i' ≤ i) (hj : j' ≤ j) : ∀ {ps : List (Nat × Nat)}, Rising xs ys i j ps → Rising xs ys i' j' ps
  | [], _ => trivial
  | _ :: _, ⟨h1, h2, h3⟩ => ⟨by omega, by omega, h3⟩
theorem walk_rising (xs ys : List α) : ∀ (n i j : Nat), Rising xs ys i j (walk xs ys n i j)
  | 0, _, _ => trivial
  | n + 1, i, j => by
    rw [walk]
    split
    · rename_i x y hx hy
      split
      · rename_i e
        exact ⟨Nat.le_refl _, Nat.le_refl _, ⟨x, hx, by rw [hy, e]⟩, walk_rising xs ys n (i + 1) (j + 1)⟩
      · split
        · exact (walk_rising xs ys n (i + 1) j).down (by omega) (Nat.le_refl _)
        · exact (walk_rising xs ys n i (j + 1)).down (Nat.le_refl _) (by omega)
    · trivial
theorem walk_len (xs ys : List α) : ∀ (n i j : Nat), (xs.length - i) + (ys.length - j) ≤ n → (walk xs ys n i j).length = at_ xs ys i j
  | 0, i, j, h => by
    rw [at_end1 (by omega)]
    rfl
  | n + 1, i, j, h => by
    rw [walk]
    split
    · rename_i x y hx hy
      have h3 := (List.getElem?_eq_some_iff.mp hx).1
      have h4 := (List.getElem?_eq_some_iff.mp hy).1
      rw [at_step hx hy]
      split
      · rw [List.length_cons, walk_len xs ys n (i + 1) (j + 1) (by omega)]
      · split
        · rename_i h
          rw [walk_len xs ys n (i + 1) j (by omega), Nat.max_eq_left h]
        · rename_i h
          rw [walk_len xs ys n i (j + 1) (by omega), Nat.max_eq_right (by omega)]
    · rename_i h
      by_cases h1 : i < xs.length
      · by_cases h2 : j < ys.length
        · exact absurd (List.getElem?_eq_getElem h2) (h _ _ (List.getElem?_eq_getElem h1))
        · rw [at_end2 (by omega)]
          rfl
      · rw [at_end1 (by omega)]
        rfl
end LC

set_option Elab.async false
set_option linter.all false
set_option maxRecDepth 100000
set_option maxHeartbeats 4000000
/-! Edits: plain mathematics. -/
namespace EC
open LC
variable {α : Type} [DecidableEq α]
structure Edit (α : Type) where
  pos : Nat
  rem : List α
  put : List α
def mid (xs : List α) (i b : Nat) : List α := (xs.drop i).take (b - i)
theorem mid_len {xs : List α} {i b : Nat} (h : b ≤ xs.length) : (mid xs i b).length = b - i := by
  unfold mid
  rw [List.length_take, List.length_drop]
  omega
theorem mid_self {xs : List α} {i : Nat} : mid xs i i = [] := by unfold mid; simp
theorem mid_app {xs : List α} {i b c : Nat} (h : i ≤ b) (h' : b ≤ c) : mid xs i b ++ mid xs b c = mid xs i c := by
  unfold mid
  have e : xs.drop b = (xs.drop i).drop (b - i) := by
    rw [List.drop_drop]
    congr 1
    omega
  rw [e, show c - i = (b - i) + (c - b) by omega]
  rw [List.take_add]
theorem mid_one {xs : List α} {i : Nat} {x : α} (h : xs[i]? = some x) : mid xs i (i + 1) = [x] := by
  obtain ⟨h1, rfl⟩ := List.getElem?_eq_some_iff.mp h
  unfold mid
  rw [List.drop_eq_getElem_cons h1, show i + 1 - i = 0 + 1 by omega, List.take_succ_cons, List.take_zero]
theorem mid_end {xs : List α} {i : Nat} : mid xs i xs.length = xs.drop i := by
  unfold mid
  exact List.take_of_length_le (by simp)
theorem drop_one {xs : List α} {i : Nat} {x : α} (h : xs[i]? = some x) : xs.drop i = x :: xs.drop (i + 1) := by
  obtain ⟨h1, rfl⟩ := List.getElem?_eq_some_iff.mp h
  exact List.drop_eq_getElem_cons h1
def one (xs ys : List α) (i j b a : Nat) : List (Edit α) := if i < b ∨ j < a then [⟨i, mid xs i b, mid ys j a⟩] else []
/-- the edits from i, j on -/
def ebs (xs ys : List α) : Nat → Nat → List (Nat × Nat) → List (Edit α)
  | i, j, [] => one xs ys i j xs.length ys.length
  | i, j, p :: ps => one xs ys i j p.1 p.2 ++ ebs xs ys (p.1 + 1) (p.2 + 1) ps
/-- from low on: in order, apart, what is removed stands there -/
def Okay (xs : List α) : Nat → List (Edit α) → Prop
  | _, [] => True
  | lo, e :: es => lo ≤ e.pos ∧ e.pos + e.rem.length ≤ xs.length ∧ mid xs e.pos (e.pos + e.rem.length) = e.rem ∧ 0 < e.rem.length + e.put.length ∧ Okay xs (e.pos + e.rem.length + 1) es
theorem Okay.down {xs : List α} {lo lo' : Nat} (h : lo' ≤ lo) : ∀ {es : List (Edit α)}, Okay xs lo es → Okay xs lo' es
  | [], _ => trivial
  | _ :: _, ⟨h1, h2⟩ => ⟨by omega, h2⟩
theorem okay_one {xs ys : List α} {i j b a : Nat} (h1 : i ≤ b) (h2 : j ≤ a) (h3 : b ≤ xs.length) (h4 : a ≤ ys.length) {es : List (Edit α)} (h : Okay xs (b + 1) es) : Okay xs i (one xs ys i j b a ++ es) := by
  unfold one
  split
  · refine ⟨Nat.le_refl _, ?_, ?_, ?_, ?_⟩
    · show i + (mid xs i b).length ≤ _
      rw [mid_len h3]
      omega
    · show mid xs i (i + (mid xs i b).length) = mid xs i b
      rw [mid_len h3, show i + (b - i) = b by omega]
    · show 0 < (mid xs i b).length + (mid ys j a).length
      rw [mid_len h3, mid_len h4]
      omega
    · show Okay xs (i + (mid xs i b).length + 1) es
      rw [mid_len h3, show i + (b - i) = b by omega]
      exact h
  · exact h.down (by omega)
theorem rising_lt {xs ys : List α} {i j : Nat} {p : Nat × Nat} {ps : List (Nat × Nat)} (h : Rising xs ys i j (p :: ps)) : p.1 < xs.length ∧ p.2 < ys.length := by
  obtain ⟨_, _, ⟨x, h1, h2⟩, _⟩ := h
  exact ⟨(List.getElem?_eq_some_iff.mp h1).1, (List.getElem?_eq_some_iff.mp h2).1⟩
theorem ebs_okay (xs ys : List α) : ∀ (ps : List (Nat × Nat)) (i j : Nat), Rising xs ys i j ps → i ≤ xs.length → j ≤ ys.length → Okay xs i (ebs xs ys i j ps)
  | [], i, j, _, h1, h2 => by
    have := okay_one (xs := xs) (ys := ys) h1 h2 (Nat.le_refl _) (Nat.le_refl _) (es := []) trivial
    rw [List.append_nil] at this
    exact this
  | p :: ps, i, j, h, h1, h2 => by
    have hl := rising_lt h
    obtain ⟨k1, k2, _, k4⟩ := h
    exact okay_one k1 k2 (by omega) (by omega) (ebs_okay xs ys ps _ _ k4 (by omega) (by omega))
/-- what the edits make, d done -/
def appl (xs : List α) : Nat → List (Edit α) → List α
  | d, [] => xs.drop d
  | d, e :: es => mid xs d e.pos ++ e.put ++ appl xs (e.pos + e.rem.length) es
theorem ebs_appl (xs ys : List α) : ∀ (ps : List (Nat × Nat)) (i j d : Nat), Rising xs ys i j ps → i ≤ xs.length → j ≤ ys.length → d ≤ i → appl xs d (ebs xs ys i j ps) = mid xs d i ++ ys.drop j
  | [], i, j, d, _, h1, h2, hd => by
    unfold ebs one
    split
    · simp only [appl]
      rw [mid_len (Nat.le_refl _), show i + (xs.length - i) = xs.length by omega, List.drop_length, List.append_nil, mid_end]
    · simp only [appl]
      rw [show i = xs.length by omega, show j = ys.length by omega, mid_end, List.drop_length, List.append_nil]
  | p :: ps, i, j, d, h, h1, h2, hd => by
    have hl := rising_lt h
    obtain ⟨k1, k2, ⟨x, e1, e2⟩, k4⟩ := h
    unfold ebs one
    split
    · simp only [List.cons_append, List.nil_append, appl]
      rw [mid_len (show p.1 ≤ xs.length by omega), show i + (p.1 - i) = p.1 by omega, ebs_appl xs ys ps _ _ p.1 k4 (by omega) (by omega) (by omega), mid_one e1]
      rw [List.append_assoc, ← List.append_assoc (mid ys j p.2)]
      congr 1
      have : ys.drop j = mid ys j p.2 ++ ys.drop p.2 := by
        rw [← mid_end (i := p.2), mid_app k2 (by omega), mid_end]
      rw [this, drop_one e2, List.append_assoc]
      rfl
    · have q1 : i = p.1 := by omega
      have q2 : j = p.2 := by omega
      rw [List.nil_append, ebs_appl xs ys ps _ _ d k4 (by omega) (by omega) (by omega), q1, q2, ← mid_app (show d ≤ p.1 by omega) (show p.1 ≤ p.1 + 1 by omega), mid_one e1, drop_one e2, List.append_assoc]
      rfl
def size : List (Edit α) → Nat
  | [] => 0
  | e :: es => e.rem.length + e.put.length + size es
theorem size_app : ∀ (es fs : List (Edit α)), size (es ++ fs) = size es + size fs
  | [], fs => by simp [size]
  | e :: es, fs => by
    simp only [List.cons_append, size, size_app es fs]
    omega
theorem size_one {xs ys : List α} {i j b a : Nat} (h1 : i ≤ b) (h2 : j ≤ a) (h3 : b ≤ xs.length) (h4 : a ≤ ys.length) : size (one xs ys i j b a) = (b - i) + (a - j) := by
  unfold one
  split
  · simp only [size]
    rw [mid_len h3, mid_len h4]
    omega
  · simp only [size]
    omega
theorem ebs_size (xs ys : List α) : ∀ (ps : List (Nat × Nat)) (i j : Nat), Rising xs ys i j ps → i ≤ xs.length → j ≤ ys.length → size (ebs xs ys i j ps) + 2 * ps.length = (xs.length - i) + (ys.length - j)
  | [], i, j, _, h1, h2 => by
    unfold ebs
    rw [size_one h1 h2 (Nat.le_refl _) (Nat.le_refl _)]
    simp
  | p :: ps, i, j, h, h1, h2 => by
    have hl := rising_lt h
    obtain ⟨k1, k2, _, k4⟩ := h
    unfold ebs
    rw [size_app, size_one k1 k2 (by omega) (by omega)]
    have := ebs_size xs ys ps _ _ k4 (by omega) (by omega)
    simp only [List.length_cons]
    omega
theorem okay_size {xs : List α} : ∀ {es : List (Edit α)} {lo : Nat}, Okay xs lo es → size es = 0 → es = []
  | [], _, _, _ => rfl
  | e :: es, lo, ⟨_, _, _, h, _⟩, hz => by
    simp only [size] at hz
    omega
/-! the other way round -/
def swp (p : Nat × Nat) : Nat × Nat := (p.2, p.1)
theorem rising_swap {xs ys : List α} : ∀ {ps : List (Nat × Nat)} {i j : Nat}, Rising xs ys i j ps → Rising ys xs j i (ps.map swp)
  | [], _, _, _ => trivial
  | p :: ps, i, j, ⟨h1, h2, ⟨x, h3, h4⟩, h5⟩ => ⟨h2, h1, ⟨x, h4, h3⟩, rising_swap h5⟩
def invl : Int → List (Edit α) → List (Edit α)
  | _, [] => []
  | s, e :: es => ⟨((e.pos : Int) + s).toNat, e.put, e.rem⟩ :: invl (s + e.put.length - e.rem.length) es
theorem inv_one {xs ys : List α} {i j b a : Nat} (h1 : i ≤ b) (h2 : j ≤ a) (h3 : b ≤ xs.length) (h4 : a ≤ ys.length) {es : List (Edit α)} : invl ((j : Int) - i) (one xs ys i j b a ++ es) = one ys xs j i a b ++ invl ((a : Int) - b) es := by
  unfold one
  by_cases h : i < b ∨ j < a
  · rw [if_pos h, if_pos (Or.symm h)]
    simp only [List.cons_append, List.nil_append, invl]
    rw [mid_len h3, mid_len h4, show ((i : Int) + (j - i)).toNat = j by omega, show (j : Int) - i + ((a - j : Nat) : Int) - ((b - i : Nat) : Int) = a - b by omega]
  · rw [if_neg h, if_neg (fun z => h (Or.symm z)), List.nil_append, List.nil_append, show i = b by omega, show j = a by omega]
theorem ebs_inv (xs ys : List α) : ∀ (ps : List (Nat × Nat)) (i j : Nat), Rising xs ys i j ps → i ≤ xs.length → j ≤ ys.length → invl ((j : Int) - i) (ebs xs ys i j ps) = ebs ys xs j i (ps.map swp)
  | [], i, j, _, h1, h2 => by
    have := inv_one (xs := xs) (ys := ys) h1 h2 (Nat.le_refl _) (Nat.le_refl _) (es := [])
    simp only [List.append_nil, invl] at this
    exact this
  | p :: ps, i, j, h, h1, h2 => by
    have hl := rising_lt h
    obtain ⟨k1, k2, _, k4⟩ := h
    unfold ebs
    rw [inv_one k1 k2 (by omega) (by omega)]
    have := ebs_inv xs ys ps _ _ k4 (by omega) (by omega)
    rw [show (((p.2 + 1 : Nat) : Int) - ((p.1 + 1 : Nat) : Int)) = (p.2 : Int) - p.1 by omega] at this
    rw [this]
    rfl
/-- every place of an edit, moved by s, stands at or behind 0 -/
def Fit : Int → List (Edit α) → Prop
  | _, [] => True
  | s, e :: es => 0 ≤ (e.pos : Int) + s ∧ Fit (s + e.put.length - e.rem.length) es
theorem fit_one {xs ys : List α} {i j b a : Nat} (h1 : i ≤ b) (h2 : j ≤ a) (h3 : b ≤ xs.length) (h4 : a ≤ ys.length) {es : List (Edit α)} (h : Fit ((a : Int) - b) es) : Fit ((j : Int) - i) (one xs ys i j b a ++ es) := by
  unfold one
  split
  · refine ⟨by show 0 ≤ (i : Int) + _; omega, ?_⟩
    show Fit ((j : Int) - i + ((mid ys j a).length : Int) - ((mid xs i b).length : Int)) es
    rw [mid_len h3, mid_len h4, show (j : Int) - i + ((a - j : Nat) : Int) - ((b - i : Nat) : Int) = a - b by omega]
    exact h
  · rw [List.nil_append, show i = b by omega, show j = a by omega]
    exact h
theorem ebs_fit (xs ys : List α) : ∀ (ps : List (Nat × Nat)) (i j : Nat), Rising xs ys i j ps → i ≤ xs.length → j ≤ ys.length → Fit ((j : Int) - i) (ebs xs ys i j ps)
  | [], i, j, _, h1, h2 => by
    have := fit_one (xs := xs) (ys := ys) h1 h2 (Nat.le_refl _) (Nat.le_refl _) (es := []) trivial
    rw [List.append_nil] at this
    exact this
  | p :: ps, i, j, h, h1, h2 => by
    have hl := rising_lt h
    obtain ⟨k1, k2, _, k4⟩ := h
    unfold ebs
    refine fit_one k1 k2 (by omega) (by omega) ?_
    have := ebs_fit xs ys ps _ _ k4 (by omega) (by omega)
    rw [show (((p.2 + 1 : Nat) : Int) - ((p.1 + 1 : Nat) : Int)) = (p.2 : Int) - p.1 by omega] at this
    exact this
/-- where a line is after -/
def lineAf (k : Nat) : Int → List (Edit α) → Option Int
  | s, [] => some (k + s)
  | s, e :: es => if e.pos ≤ k ∧ k < e.pos + e.rem.length then none else lineAf k (if e.pos + e.rem.length ≤ k then s + e.put.length - e.rem.length else s) es
theorem lineAf_far {xs : List α} {k : Nat} {s : Int} : ∀ {es : List (Edit α)} {lo : Nat}, Okay xs lo es → k < lo → lineAf k s es = some (k + s)
  | [], _, _, _ => rfl
  | e :: es, lo, ⟨h1, _, _, _, h5⟩, h => by
    rw [lineAf, if_neg (by omega), if_neg (by omega)]
    exact lineAf_far h5 (by omega)
def mate (k : Nat) : List (Nat × Nat) → Option Nat
  | [] => none
  | p :: ps => if p.1 = k then some p.2 else mate k ps
theorem line_one {xs ys : List α} {i j b a k : Nat} (h1 : i ≤ b) (h2 : j ≤ a) (h3 : b ≤ xs.length) (h4 : a ≤ ys.length) (hk : i ≤ k) {es : List (Edit α)} : lineAf k ((j : Int) - i) (one xs ys i j b a ++ es) = if k < b then none else lineAf k ((a : Int) - b) es := by
  unfold one
  split
  · rw [List.cons_append, List.nil_append, lineAf]
    simp only
    rw [mid_len h3, mid_len h4, show i + (b - i) = b by omega]
    by_cases h : k < b
    · rw [if_pos ⟨hk, h⟩, if_pos h]
    · rw [if_neg (by omega), if_neg h, if_pos (by omega), show (j : Int) - i + ((a - j : Nat) : Int) - ((b - i : Nat) : Int) = a - b by omega]
  · rw [List.nil_append, if_neg (by omega), show i = b by omega, show j = a by omega]
theorem ebs_line (xs ys : List α) {k : Nat} (hkl : k < xs.length) : ∀ (ps : List (Nat × Nat)) (i j : Nat), Rising xs ys i j ps → i ≤ xs.length → j ≤ ys.length → i ≤ k → lineAf k ((j : Int) - i) (ebs xs ys i j ps) = (mate k ps).map fun a => (a : Int)
  | [], i, j, _, h1, h2, hk => by
    have := line_one (xs := xs) (ys := ys) h1 h2 (Nat.le_refl _) (Nat.le_refl _) hk (es := [])
    rw [List.append_nil, if_pos hkl] at this
    exact this
  | p :: ps, i, j, h, h1, h2, hk => by
    have hl := rising_lt h
    obtain ⟨k1, k2, _, k4⟩ := h
    unfold ebs
    rw [line_one k1 k2 (by omega) (by omega) hk]
    rw [mate]
    by_cases hc : k < p.1
    · rw [if_pos hc, if_neg (by omega)]
      have : ∀ (ps : List (Nat × Nat)) (i j : Nat), Rising xs ys i j ps → k < i → mate k ps = none := fun ps => by
        induction ps with
        | nil => intro i j _ _; rfl
        | cons q qs ih =>
          intro i j h hk
          obtain ⟨g1, g2, _, g4⟩ := h
          rw [mate, if_neg (by omega)]
          exact ih _ _ g4 (by omega)
      rw [this ps _ _ k4 (by omega)]
      rfl
    · rw [if_neg hc]
      by_cases he : p.1 = k
      · rw [if_pos he, lineAf_far (ebs_okay xs ys ps _ _ k4 (by omega) (by omega)) (by omega)]
        refine congrArg some ?_
        show (k : Int) + ((p.2 : Int) - (p.1 : Int)) = (p.2 : Int)
        omega
      · rw [if_neg he]
        have := ebs_line xs ys hkl ps _ _ k4 (by omega) (by omega) (by omega)
        rw [show (((p.2 + 1 : Nat) : Int) - ((p.1 + 1 : Nat) : Int)) = (p.2 : Int) - p.1 by omega] at this
        exact this
/-- covered: in what is removed -/
def covers (k : Nat) : List (Edit α) → Prop
  | [] => False
  | e :: es => (e.pos ≤ k ∧ k < e.pos + e.rem.length) ∨ covers k es
theorem lineAf_none {k : Nat} : ∀ {es : List (Edit α)} {s : Int}, lineAf k s es = none ↔ covers k es
  | [], _ => by simp [lineAf, covers]
  | e :: es, s => by
    rw [lineAf, covers]
    by_cases h : e.pos ≤ k ∧ k < e.pos + e.rem.length
    · rw [if_pos h]
      simp [h]
    · rw [if_neg h, lineAf_none]
      simp [h]
theorem mate_mem {xs ys : List α} {k a : Nat} : ∀ {ps : List (Nat × Nat)} {i j : Nat}, Rising xs ys i j ps → mate k ps = some a → i ≤ k ∧ j ≤ a ∧ (∃ x, xs[k]? = some x ∧ ys[a]? = some x) ∧ mate a (ps.map swp) = some k
  | [], _, _, _, h => by simp [mate] at h
  | p :: ps, i, j, ⟨h1, h2, h3, h4⟩, h => by
    rw [mate] at h
    rw [List.map_cons, mate]
    by_cases e : p.1 = k
    · rw [if_pos e] at h
      have e2 : p.2 = a := by simpa using h
      subst e e2
      refine ⟨h1, h2, h3, ?_⟩
      rw [if_pos (show (swp p).1 = p.2 from rfl)]
      rfl
    · rw [if_neg e] at h
      obtain ⟨g1, g2, g3, g4⟩ := mate_mem h4 h
      refine ⟨by omega, by omega, g3, ?_⟩
      rw [if_neg (show ¬ (swp p).1 = a by show ¬ p.2 = a; omega)]
      exact g4
theorem mate_mono {xs ys : List α} {k k' a a' : Nat} (hk : k < k') : ∀ {ps : List (Nat × Nat)} {i j : Nat}, Rising xs ys i j ps → mate k ps = some a → mate k' ps = some a' → a < a'
  | [], _, _, _, h, _ => by simp [mate] at h
  | p :: ps, i, j, ⟨h1, h2, h3, h4⟩, h, h' => by
    rw [mate] at h h'
    by_cases e : p.1 = k
    · rw [if_pos e] at h
      have e2 : p.2 = a := by simpa using h
      rw [if_neg (by omega)] at h'
      have := (mate_mem h4 h').2.1
      omega
    · rw [if_neg e] at h
      by_cases e' : p.1 = k'
      · have := (mate_mem h4 h).1
        omega
      · rw [if_neg e'] at h'
        exact mate_mono hk h4 h h'
end EC

set_option Elab.async false
set_option linter.all false
set_option maxRecDepth 100000
set_option maxHeartbeats 4000000
/-! Merging: plain mathematics. -/
namespace MG
open LC EC
abbrev Span := Nat × Nat
/-! ### spans that touch become one -/
def stepS (found : List Span) (s : Span) : List Span := match found.getLast? with
  | some l => if s.1 ≤ l.2 then found.dropLast ++ [(l.1, max l.2 s.2)] else found ++ [s]
  | none => [s]
def tsp (qs : List Span) : List Span := qs.foldl stepS []
structure Sep (found : List Span) : Prop where
  le : ∀ s ∈ found, s.1 ≤ s.2
  lt : found.Pairwise fun s t => s.2 < t.1
structure InvS (done found : List Span) : Prop where
  sep : Sep found
  cov : ∀ q ∈ done, ∃ s ∈ found, s.1 ≤ q.1 ∧ q.2 ≤ s.2
  frm : ∀ s ∈ found, ∃ q ∈ done, s.1 = q.1 ∧ q.2 ≤ s.2
  bnd : ∀ s ∈ found, ∃ q ∈ done, s.2 = q.2
theorem invS_nil : InvS [] [] := ⟨⟨by simp, .nil⟩, by simp, by simp, by simp⟩
theorem invS_step {done found : List Span} {s : Span} (h : InvS done found) (hs : s.1 ≤ s.2) (hd : ∀ q ∈ done, q.1 ≤ s.1) : InvS (done ++ [s]) (stepS found s) := by
  rcases List.eq_nil_or_concat found with rfl | ⟨F, l, rfl⟩
  · refine ⟨⟨?_, ?_⟩, ?_, ?_, ?_⟩
    · intro t ht
      rw [List.mem_singleton.mp ht]
      exact hs
    · exact List.pairwise_singleton _ _
    · intro q hq
      rcases List.mem_append.mp hq with hq | hq
      · obtain ⟨t, ht, _⟩ := h.cov q hq
        simp at ht
      · rw [List.mem_singleton.mp hq]
        exact ⟨s, by simp [stepS], Nat.le_refl _, Nat.le_refl _⟩
    · intro t ht
      rw [List.mem_singleton.mp ht]
      exact ⟨s, by simp, rfl, Nat.le_refl _⟩
    · intro t ht
      rw [List.mem_singleton.mp ht]
      exact ⟨s, by simp, rfl⟩
  · rw [List.concat_eq_append] at *
    have hl : (F ++ [l]).getLast? = some l := by simp
    have hls : l.1 ≤ s.1 := by
      obtain ⟨q, hq, e, _⟩ := h.frm l (by simp)
      rw [e]
      exact hd q hq
    have hll := h.sep.le l (by simp)
    have hlt := h.sep.lt
    rw [List.pairwise_append] at hlt
    obtain ⟨p1, _, p3⟩ := hlt
    unfold stepS
    rw [hl]
    simp only
    split
    · rename_i ht
      rw [List.dropLast_concat]
      refine ⟨⟨?_, ?_⟩, ?_, ?_, ?_⟩
      · intro t ht'
        rcases List.mem_append.mp ht' with ht' | ht'
        · exact h.sep.le t (by simp [ht'])
        · rw [List.mem_singleton.mp ht']
          show l.1 ≤ max l.2 s.2
          omega
      · rw [List.pairwise_append]
        refine ⟨p1, List.pairwise_singleton _ _, fun a ha b hb => ?_⟩
        rw [List.mem_singleton.mp hb]
        exact p3 a ha l (by simp)
      · intro q hq
        rcases List.mem_append.mp hq with hq | hq
        · obtain ⟨t, ht', h1, h2⟩ := h.cov q hq
          rcases List.mem_append.mp ht' with ht' | ht'
          · exact ⟨t, by simp [ht'], h1, h2⟩
          · rw [List.mem_singleton.mp ht'] at h1 h2
            exact ⟨(l.1, max l.2 s.2), by simp, h1, by show q.2 ≤ max l.2 s.2; omega⟩
        · rw [List.mem_singleton.mp hq]
          exact ⟨(l.1, max l.2 s.2), by simp, hls, by show s.2 ≤ max l.2 s.2; omega⟩
      · intro t ht'
        rcases List.mem_append.mp ht' with ht' | ht'
        · obtain ⟨q, hq, r⟩ := h.frm t (by simp [ht'])
          exact ⟨q, by simp [hq], r⟩
        · rw [List.mem_singleton.mp ht']
          obtain ⟨q, hq, r1, r2⟩ := h.frm l (by simp)
          exact ⟨q, by simp [hq], r1, by show q.2 ≤ max l.2 s.2; omega⟩
      · intro t ht'
        rcases List.mem_append.mp ht' with ht' | ht'
        · obtain ⟨q, hq, r⟩ := h.bnd t (by simp [ht'])
          exact ⟨q, by simp [hq], r⟩
        · rw [List.mem_singleton.mp ht']
          by_cases hm : l.2 ≤ s.2
          · exact ⟨s, by simp, by show max l.2 s.2 = s.2; omega⟩
          · obtain ⟨q, hq, r⟩ := h.bnd l (by simp)
            exact ⟨q, by simp [hq], by show max l.2 s.2 = q.2; omega⟩
    · rename_i ht
      refine ⟨⟨?_, ?_⟩, ?_, ?_, ?_⟩
      · intro t ht'
        rcases List.mem_append.mp ht' with ht' | ht'
        · exact h.sep.le t ht'
        · rw [List.mem_singleton.mp ht']
          exact hs
      · rw [List.pairwise_append]
        refine ⟨h.sep.lt, List.pairwise_singleton _ _, fun a ha b hb => ?_⟩
        rw [List.mem_singleton.mp hb]
        rcases List.mem_append.mp ha with ha | ha
        · have := p3 a ha l (by simp)
          omega
        · rw [List.mem_singleton.mp ha]
          omega
      · intro q hq
        rcases List.mem_append.mp hq with hq | hq
        · obtain ⟨t, ht', h1, h2⟩ := h.cov q hq
          exact ⟨t, List.mem_append_left _ ht', h1, h2⟩
        · rw [List.mem_singleton.mp hq]
          exact ⟨s, by simp, Nat.le_refl _, Nat.le_refl _⟩
      · intro t ht'
        rcases List.mem_append.mp ht' with ht' | ht'
        · obtain ⟨q, hq, r⟩ := h.frm t ht'
          exact ⟨q, by simp [hq], r⟩
        · rw [List.mem_singleton.mp ht']
          exact ⟨s, by simp, rfl, Nat.le_refl _⟩
      · intro t ht'
        rcases List.mem_append.mp ht' with ht' | ht'
        · obtain ⟨q, hq, r⟩ := h.bnd t ht'
          exact ⟨q, by simp [hq], r⟩
        · rw [List.mem_singleton.mp ht']
          exact ⟨s, by simp, rfl⟩
theorem invS_fold : ∀ (qs done found : List Span), InvS done found → (∀ q ∈ qs, q.1 ≤ q.2) → (done ++ qs).Pairwise (fun p q => p.1 ≤ q.1) → InvS (done ++ qs) (qs.foldl stepS found)
  | [], done, found, h, _, _ => by simpa using h
  | q :: qs, done, found, h, h1, h2 => by
    have hp := h2
    rw [List.pairwise_append] at hp
    have := invS_fold qs (done ++ [q]) (stepS found q) (invS_step h (h1 q (by simp)) fun p hp' => hp.2.2 p hp' q (by simp)) (fun p hp' => h1 p (by simp [hp'])) (by simpa using h2)
    simpa using this
theorem tsp_inv {qs : List Span} (h1 : ∀ q ∈ qs, q.1 ≤ q.2) (h2 : qs.Pairwise fun p q => p.1 ≤ q.1) : InvS qs (tsp qs) := by
  have := invS_fold qs [] [] invS_nil h1 (by simpa using h2)
  rw [List.nil_append] at this
  exact this

section
variable {α : Type} [DecidableEq α]
/-! ### a side within a span -/
def inS (s : Span) (e : Edit α) : Bool := decide (s.1 ≤ e.pos ∧ e.pos + e.rem.length ≤ s.2)
def sideGo (xs : List α) (s : Span) : Nat → List (Edit α) → List α
  | d, [] => mid xs d s.2
  | d, e :: es => if inS s e then mid xs d e.pos ++ e.put ++ sideGo xs s (e.pos + e.rem.length) es else sideGo xs s d es
def side (xs : List α) (es : List (Edit α)) (s : Span) : List α := sideGo xs s s.1 es
/-- all spans, one behind the other -/
def segs (xs : List α) (es : List (Edit α)) : Nat → List Span → List α
  | d, [] => xs.drop d
  | d, s :: S => mid xs d s.1 ++ side xs es s ++ segs xs es s.2 S
theorem appl_split {xs : List α} {d m : Nat} (hd : d ≤ m) (hm : m ≤ xs.length) : ∀ {es : List (Edit α)}, Okay xs m es → appl xs d es = mid xs d m ++ appl xs m es
  | [], _ => by
    simp only [appl]
    rw [← mid_end, ← mid_end, mid_app hd hm]
  | e :: es, h => by
    simp only [appl]
    rw [← mid_app hd h.1]
    simp
theorem Okay.lo {xs : List α} : ∀ {es : List (Edit α)} {lo : Nat}, Okay xs lo es → ∀ e ∈ es, lo ≤ e.pos ∧ e.pos + e.rem.length ≤ xs.length ∧ 0 < e.rem.length + e.put.length
  | [], _, _, e, he => by simp at he
  | f :: es, lo, h, e, he => by
    rcases List.mem_cons.mp he with rfl | he
    · exact ⟨h.1, h.2.1, h.2.2.2.1⟩
    · have := Okay.lo h.2.2.2.2 e he
      have := h.1
      omega
theorem sideGo_skip {xs : List α} {s : Span} : ∀ {pre es : List (Edit α)} {d : Nat}, (∀ e ∈ pre, inS s e = false) → sideGo xs s d (pre ++ es) = sideGo xs s d es
  | [], _, _, _ => rfl
  | e :: pre, es, d, h => by
    rw [List.cons_append, sideGo, h e (by simp), if_neg Bool.false_ne_true]
    exact sideGo_skip fun f hf => h f (by simp [hf])
theorem sideGo_out {xs : List α} {s : Span} {es : List (Edit α)} {d : Nat} (h : ∀ e ∈ es, inS s e = false) : sideGo xs s d es = mid xs d s.2 := by
  have := sideGo_skip (xs := xs) (d := d) (es := []) h
  rw [List.append_nil] at this
  exact this
theorem sideGo_tail {xs : List α} {s : Span} {e2 : List (Edit α)} (h : ∀ e ∈ e2, inS s e = false) : ∀ {e1 : List (Edit α)} {d : Nat}, sideGo xs s d (e1 ++ e2) = sideGo xs s d e1
  | [], d => sideGo_out h
  | e :: e1, d => by
    rw [List.cons_append, sideGo, sideGo, sideGo_tail h, sideGo_tail h]
/-- within a span, and what comes behind -/
theorem appl_in {xs : List α} {s : Span} (hs : s.2 ≤ xs.length) {e2 : List (Edit α)} (h2 : Okay xs s.2 e2) : ∀ {e1 : List (Edit α)} {d : Nat}, d ≤ s.2 → Okay xs d e1 → (∀ e ∈ e1, inS s e = true) → appl xs d (e1 ++ e2) = sideGo xs s d e1 ++ appl xs s.2 e2
  | [], d, hd, _, _ => appl_split hd hs h2
  | e :: e1, d, hd, ho, hi => by
    have hie := hi e (by simp)
    have hie' := of_decide_eq_true hie
    rw [List.cons_append, sideGo, if_pos hie]
    simp only [appl]
    rw [appl_in hs h2 hie'.2 (ho.2.2.2.2.down (by omega)) fun f hf => hi f (by simp [hf])]
    simp
theorem okay_app_l {xs : List α} : ∀ {e1 e2 : List (Edit α)} {lo : Nat}, Okay xs lo (e1 ++ e2) → Okay xs lo e1
  | [], _, _, _ => trivial
  | _ :: _, _, _, h => ⟨h.1, h.2.1, h.2.2.1, h.2.2.2.1, okay_app_l h.2.2.2.2⟩
theorem okay_sub {xs : List α} {es fs : List (Edit α)} (hs : fs.Sublist es) : ∀ {lo : Nat}, Okay xs lo es → Okay xs lo fs := by
  induction hs with
  | slnil => intro lo h; exact trivial
  | cons a hs ih => intro lo h; exact ih (h.2.2.2.2.down (by have := h.1; omega))
  | cons_cons a hs ih => intro lo h; exact ⟨h.1, h.2.1, h.2.2.1, h.2.2.2.1, ih h.2.2.2.2⟩
theorem okay_from {xs : List α} : ∀ {es : List (Edit α)} {lo m : Nat}, Okay xs lo es → (∀ e ∈ es, m ≤ e.pos) → Okay xs m es
  | [], _, _, _, _ => trivial
  | e :: es, lo, m, h, hm => ⟨hm e (by simp), h.2⟩
def Cov (S : List Span) (es : List (Edit α)) : Prop := ∀ e ∈ es, ∃ s ∈ S, inS s e = true
theorem Sep.tail {s : Span} {S : List Span} (h : Sep (s :: S)) : Sep S := ⟨fun t ht => h.le t (by simp [ht]), (List.pairwise_cons.mp h.lt).2⟩
theorem cov_split {s : Span} {S : List Span} (hS : Sep (s :: S)) : ∀ {es : List (Edit α)} {xs : List α} {lo : Nat}, Okay xs lo es → Cov (s :: S) es → ∃ e1 e2, es = e1 ++ e2 ∧ (∀ e ∈ e1, inS s e = true) ∧ (∀ e ∈ e2, s.2 < e.pos) ∧ Cov S e2
  | [], _, _, _, _ => ⟨[], [], rfl, by simp, by simp, fun e he => by simp at he⟩
  | e :: es, xs, lo, ho, hc => by
    by_cases h : inS s e = true
    · obtain ⟨e1, e2, rfl, h1, h2, h3⟩ := cov_split hS ho.2.2.2.2 fun f hf => hc f (by simp [hf])
      exact ⟨e :: e1, e2, rfl, fun f hf => by
        rcases List.mem_cons.mp hf with rfl | hf
        · exact h
        · exact h1 f hf, h2, h3⟩
    · have key : ∀ f ∈ e :: es, s.2 < f.pos := by
        obtain ⟨t, ht, hi⟩ := hc e (by simp)
        rcases List.mem_cons.mp ht with rfl | ht
        · exact absurd hi h
        · have h1 := (List.pairwise_cons.mp hS.lt).1 t ht
          have h2 := (of_decide_eq_true hi).1
          intro f hf
          rcases List.mem_cons.mp hf with rfl | hf
          · omega
          · have := (Okay.lo ho.2.2.2.2 f hf).1
            omega
      refine ⟨[], e :: es, rfl, by simp, key, fun f hf => ?_⟩
      obtain ⟨t, ht, hi⟩ := hc f hf
      rcases List.mem_cons.mp ht with rfl | ht
      · have := key f hf
        have := (of_decide_eq_true hi).2
        omega
      · exact ⟨t, ht, hi⟩
theorem segs_eq {xs : List α} : ∀ {S : List Span} {pre es : List (Edit α)} {d : Nat}, Sep S → (∀ s ∈ S, d ≤ s.1 ∧ s.2 ≤ xs.length) → d ≤ xs.length → Okay xs d es → Cov S es → (∀ e ∈ pre, ∀ s ∈ S, inS s e = false) → segs xs (pre ++ es) d S = appl xs d es
  | [], pre, es, d, _, _, _, _, hc, _ => by
    cases es with
    | nil => rfl
    | cons e es =>
      obtain ⟨s, hs, _⟩ := hc e (by simp)
      simp at hs
  | s :: S, pre, es, d, hS, hb, hd, ho, hc, hp => by
    obtain ⟨e1, e2, rfl, h1, h2, h3⟩ := cov_split hS ho hc
    have hb1 := hb s (by simp)
    have hle := hS.le s (by simp)
    have o1 : Okay xs s.1 (e1 ++ e2) := okay_from ho fun e he => by
      rcases List.mem_append.mp he with he | he
      · exact (of_decide_eq_true (h1 e he)).1
      · have := h2 e he
        omega
    have o2 : Okay xs s.2 e2 := okay_from (okay_sub (List.sublist_append_right e1 e2) ho) fun e he => Nat.le_of_lt (h2 e he)
    have out2 : ∀ e ∈ e2, inS s e = false := fun e he => by
      have := h2 e he
      unfold inS
      rw [decide_eq_false_iff_not]
      omega
    have hlt := (List.pairwise_cons.mp hS.lt).1
    have ih := segs_eq (S := S) (pre := pre ++ e1) (es := e2) (d := s.2) hS.tail (fun t ht => ⟨Nat.le_of_lt (hlt t ht), (hb t (by simp [ht])).2⟩) hb1.2 o2 h3 (fun e he t ht => by
      rcases List.mem_append.mp he with he | he
      · exact hp e he t (by simp [ht])
      · have a := (of_decide_eq_true (h1 e he)).2
        have b := hlt t ht
        unfold inS
        rw [decide_eq_false_iff_not]
        omega)
    rw [List.append_assoc] at ih
    simp only [segs]
    rw [ih, appl_split hb1.1 (by omega) o1, appl_in hb1.2 o2 hle (okay_app_l o1) h1, List.append_assoc]
    unfold side
    rw [sideGo_skip fun e he => hp e he s (by simp), sideGo_tail out2]
/-! ### the edits are as few as may be -/
def remS : List (Edit α) → Nat
  | [] => 0
  | e :: es => e.rem.length + remS es
def putS : List (Edit α) → Nat
  | [] => 0
  | e :: es => e.put.length + putS es
def kept (xs : List α) : Nat → List (Edit α) → List α
  | d, [] => xs.drop d
  | d, e :: es => mid xs d e.pos ++ kept xs (e.pos + e.rem.length) es
theorem kept_base {xs : List α} : ∀ {es : List (Edit α)} {d : Nat}, Okay xs d es → (kept xs d es).Sublist (xs.drop d)
  | [], d, _ => .refl _
  | e :: es, d, h => by
    have e1 : xs.drop d = mid xs d e.pos ++ xs.drop e.pos := by rw [← mid_end, ← mid_end, mid_app h.1 (by have := h.2.1; omega)]
    rw [e1]
    simp only [kept]
    refine List.Sublist.append (.refl _) ?_
    refine (kept_base (h.2.2.2.2.down (by omega))).trans ?_
    rw [← List.drop_drop]
    exact List.drop_sublist _ _
theorem kept_appl {xs : List α} : ∀ {es : List (Edit α)} {d : Nat}, (kept xs d es).Sublist (appl xs d es)
  | [], d => .refl _
  | e :: es, d => by
    simp only [kept, appl]
    rw [List.append_assoc]
    exact List.Sublist.append (.refl _) ((kept_appl (es := es)).trans (List.sublist_append_right _ _))
theorem kept_len {xs : List α} : ∀ {es : List (Edit α)} {d : Nat}, d ≤ xs.length → Okay xs d es → (kept xs d es).length + remS es = xs.length - d
  | [], d, _, _ => by simp [kept, remS]
  | e :: es, d, hd, h => by
    have ih := kept_len (es := es) (d := e.pos + e.rem.length) h.2.1 (h.2.2.2.2.down (by omega))
    have h1 := h.1
    have h2 := h.2.1
    simp only [kept, remS, List.length_append]
    rw [mid_len (by omega)]
    omega
theorem appl_len {xs : List α} : ∀ {es : List (Edit α)} {d : Nat}, d ≤ xs.length → Okay xs d es → (appl xs d es).length + remS es = xs.length - d + putS es
  | [], d, _, _ => by simp [appl, remS, putS]
  | e :: es, d, hd, h => by
    have ih := appl_len (es := es) (d := e.pos + e.rem.length) h.2.1 (h.2.2.2.2.down (by omega))
    have h1 := h.1
    have h2 := h.2.1
    simp only [appl, remS, putS, List.length_append]
    rw [mid_len (by omega)]
    omega
theorem size_sums : ∀ es : List (Edit α), size es = remS es + putS es
  | [] => rfl
  | e :: es => by
    simp only [size, remS, putS, size_sums es]
    omega
theorem sums_filter (p : Edit α → Bool) : ∀ es : List (Edit α), remS (es.filter p) + remS (es.filter fun e => !p e) = remS es ∧ putS (es.filter p) + putS (es.filter fun e => !p e) = putS es
  | [] => ⟨rfl, rfl⟩
  | e :: es => by
    obtain ⟨h1, h2⟩ := sums_filter p es
    cases hp : p e with
    | true =>
      simp only [List.filter_cons, hp, if_true, Bool.not_true, Bool.false_eq_true, if_false, remS, putS]
      omega
    | false =>
      simp only [List.filter_cons, hp, if_true, Bool.not_false, Bool.false_eq_true, if_false, remS, putS]
      omega
theorem sums_zero {xs : List α} : ∀ {es : List (Edit α)} {lo : Nat}, Okay xs lo es → remS es = 0 → putS es = 0 → es = []
  | [], _, _, _, _ => rfl
  | e :: es, lo, h, h1, h2 => by
    have := h.2.2.2.1
    simp only [remS, putS] at h1 h2
    omega
theorem sideGo_filter {xs : List α} {s t : Span} : ∀ {es : List (Edit α)} {d : Nat}, (∀ e : Edit α, inS s e = true → inS t e = false) → sideGo xs t d (es.filter fun e => !inS s e) = sideGo xs t d es
  | [], _, _ => rfl
  | e :: es, d, h => by
    cases hi : inS s e with
    | true =>
      rw [List.filter_cons]
      simp only [hi, Bool.not_true, Bool.false_eq_true, if_false]
      rw [sideGo_filter h, sideGo, h e hi, if_neg Bool.false_ne_true]
    | false =>
      rw [List.filter_cons]
      simp only [hi, Bool.not_false, if_true]
      rw [sideGo, sideGo, sideGo_filter h, sideGo_filter h]
theorem segs_filter {xs : List α} {s : Span} {es : List (Edit α)} (he : side xs es s = mid xs s.1 s.2) : ∀ {S : List Span} {d : Nat}, (∀ t ∈ S, t = s ∨ ∀ e : Edit α, inS s e = true → inS t e = false) → segs xs (es.filter fun e => !inS s e) d S = segs xs es d S
  | [], _, _ => rfl
  | t :: S, d, h => by
    simp only [segs]
    rw [segs_filter he fun u hu => h u (by simp [hu])]
    congr 2
    unfold side
    rcases h t (by simp) with rfl | ht
    · have hh : sideGo xs t t.1 es = mid xs t.1 t.2 := he
      rw [hh]
      refine sideGo_out fun e hm => ?_
      have := (List.mem_filter.mp hm).2
      simpa using this
    · exact sideGo_filter ht
theorem sep_apart {S : List Span} (hS : Sep S) {s t : Span} (hs : s ∈ S) (ht : t ∈ S) : t = s ∨ ∀ e : Edit α, inS s e = true → inS t e = false := by
  by_cases h : t = s
  · exact .inl h
  · right
    intro e he
    have he' := of_decide_eq_true he
    have hp : s.2 < t.1 ∨ t.2 < s.1 := by
      have hlt := hS.lt
      clear he he'
      induction S with
      | nil => simp at hs
      | cons u S ih =>
        have hc := List.pairwise_cons.mp hlt
        rcases List.mem_cons.mp hs with rfl | hs' <;> rcases List.mem_cons.mp ht with rfl | ht'
        · exact absurd rfl h
        · exact .inl (hc.1 t ht')
        · exact .inr (hc.1 s hs')
        · exact ih hS.tail hs' ht' hc.2
    unfold inS
    rw [decide_eq_false_iff_not]
    omega
/-- a span in which a side has an edit is changed by it -/
theorem side_changed {xs ys : List α} {es : List (Edit α)} {S : List Span} {s : Span} (ho : Okay xs 0 es) (ha : appl xs 0 es = ys) (hm : (xs.length - remS es : Nat) = lcs xs ys) (hS : Sep S) (hb : ∀ s ∈ S, s.2 ≤ xs.length) (hc : Cov S es) (hs : s ∈ S) (hin : ∃ e ∈ es, inS s e = true) : side xs es s ≠ mid xs s.1 s.2 := fun he => by
  have hsub : (es.filter fun e => !inS s e).Sublist es := List.filter_sublist
  have o2 := okay_sub hsub ho
  have c2 : Cov S (es.filter fun e => !inS s e) := fun e hm => hc e (List.mem_filter.mp hm).1
  have a2 : appl xs 0 (es.filter fun e => !inS s e) = ys := by
    have h1 := segs_eq (pre := []) (d := 0) hS (fun t ht => ⟨Nat.zero_le _, hb t ht⟩) (Nat.zero_le _) o2 c2 (by simp)
    have h2 := segs_eq (pre := []) (d := 0) hS (fun t ht => ⟨Nat.zero_le _, hb t ht⟩) (Nat.zero_le _) ho hc (by simp)
    rw [List.nil_append] at h1 h2
    rw [← h1, segs_filter he fun t ht => sep_apart hS hs ht, h2, ha]
  have k1 := kept_len (Nat.zero_le _) o2
  have k2 := kept_len (Nat.zero_le _) ho
  have kb := kept_base o2
  have ka := kept_appl (xs := xs) (es := es.filter fun e => !inS s e) (d := 0)
  rw [a2] at ka
  rw [List.drop_zero] at kb
  have le := lcs_le _ xs ys _ (Nat.le_refl _) kb ka
  obtain ⟨s1, s2⟩ := sums_filter (fun e => inS s e) es
  have l1 := appl_len (Nat.zero_le _) o2
  have l2 := appl_len (Nat.zero_le _) ho
  rw [a2] at l1
  rw [ha] at l2
  have hz := sums_zero (okay_sub (List.filter_sublist (p := fun e => inS s e)) ho) (by omega) (by omega)
  obtain ⟨e, he1, he2⟩ := hin
  have : e ∈ es.filter fun e => inS s e := List.mem_filter.mpr ⟨he1, he2⟩
  rw [hz] at this
  simp at this
end
end MG

set_option Elab.async false
set_option linter.all false
set_option maxRecDepth 100000
set_option maxHeartbeats 4000000
namespace Law
open PySem PySem.Spec PyProof.Rows L2 T
def topS (i : Nat) : Stmt := PySem.Challenge.pw_tideland_k69_merges_turned_round.main.body.getD i (.Pass ⟨0, 0, 0, 0⟩)
def d_NEWLINE : D := (.int 10)
def d_OPENING : D := (.str "<<<<<<<")
def d_MIDDLE : D := (.str "=======")
def d_CLOSING : D := (.str ">>>>>>>")
abbrev s_common_table : Stmt := topS 6
abbrev N_common_table : List Str := ["first", "second", "table", "i", "j", "row"]
theorem sc_common_table : FnScope N_common_table ["first", "second"] (defScope s_common_table) := ⟨rfl, rfl, rfl, by decide +kernel, rfl, by decide +kernel, by decide +kernel⟩
def m_common_table_b2 : Rho → Out := (sIf (toB (bin dEq (bin dIx (getV 0) (getV 3)) (bin dIx (getV 1) (getV 4)))) (sSetII 2 (getV 3) (getV 4) (bin dAdd (bin dIx (bin dIx (getV 2) (bin dAdd (getV 3) (conD (.int 1)))) (bin dAdd (getV 4) (conD (.int 1)))) (conD (.int 1)))) (sSetII 2 (getV 3) (getV 4) (callV dMax2 (consA (bin dIx (bin dIx (getV 2) (bin dAdd (getV 3) (conD (.int 1)))) (getV 4)) (consA (bin dIx (bin dIx (getV 2) (getV 3)) (bin dAdd (getV 4) (conD (.int 1)))) noA)))))
def m_common_table_b1 : Rho → Out := (sFor (callV dRngD (consA (bin dSub (callV dLen (consA (getV 1) noA)) (conD (.int 1))) (consA (negV (conD (.int 1))) (consA (negV (conD (.int 1))) noA)))) (bNm 4) m_common_table_b2)
def m_common_table : Rho → Out := (sSeq (sSetNN 2 (compNV (callV dRng1 (consA (bin dAdd (callV dLen (consA (getV 0) noA)) (conD (.int 1))) noA)) (bNm 5) (bin dRep (lstD (lstV (consA (conD (.int 0)) noA))) (bin dAdd (callV dLen (consA (getV 1) noA)) (conD (.int 1)))) [5])) (sSeq (sFor (callV dRngD (consA (bin dSub (callV dLen (consA (getV 0) noA)) (conD (.int 1))) (consA (negV (conD (.int 1))) (consA (negV (conD (.int 1))) noA)))) (bNm 3) m_common_table_b1) (sRet (getV 2))))
def f_common_table : List D → Res D := runF 2 6 m_common_table
abbrev s_common_pairs : Stmt := topS 7
abbrev N_common_pairs : List Str := ["first", "second", "table", "pairs", "i", "j"]
theorem sc_common_pairs : FnScope N_common_pairs ["first", "second"] (defScope s_common_pairs) := ⟨rfl, rfl, rfl, by decide +kernel, rfl, by decide +kernel, by decide +kernel⟩
def m_common_pairs_b1 : Rho → Out := (sIf (toB (bin dEq (bin dIx (getV 0) (getV 4)) (bin dIx (getV 1) (getV 5)))) (sSeq (sApp 3 (tupV (consA (getV 4) (consA (getV 5) noA)))) (sSeq (sSet 4 (bin dAdd (getV 4) (conD (.int 1)))) (sSet 5 (bin dAdd (getV 5) (conD (.int 1)))))) (sIf (toB (bin dGe (bin dIx (bin dIx (getV 2) (bin dAdd (getV 4) (conD (.int 1)))) (getV 5)) (bin dIx (bin dIx (getV 2) (getV 4)) (bin dAdd (getV 5) (conD (.int 1)))))) (sSet 4 (bin dAdd (getV 4) (conD (.int 1)))) (sSet 5 (bin dAdd (getV 5) (conD (.int 1))))))
def m_common_pairs_c1 : Rho → Res Bool := (andB (toB (bin dLt (getV 4) (callV dLen (consA (getV 0) noA)))) (toB (bin dLt (getV 5) (callV dLen (consA (getV 1) noA)))))
def m_common_pairs : Rho → Out := (sSeq (sSet 2 (callV f_common_table (consA (getV 0) (consA (getV 1) noA)))) (sSeq (sSetN 3 (lstV noA)) (sSeq (sSet 4 (conD (.int 0))) (sSeq (sSet 5 (conD (.int 0))) (sSeq (whileM m_common_pairs_c1 m_common_pairs_b1 1000000) (sRet (getV 3)))))))
def f_common_pairs : List D → Res D := runF 2 6 m_common_pairs
abbrev s_edits_between : Stmt := topS 9
abbrev N_edits_between : List Str := ["first", "second", "edits", "i", "j", "before", "after"]
theorem sc_edits_between : FnScope N_edits_between ["first", "second"] (defScope s_edits_between) := ⟨rfl, rfl, rfl, by decide +kernel, rfl, by decide +kernel, by decide +kernel⟩
def m_edits_between_b1 : Rho → Out := (sSeq (sIf (orB (toB (bin dGt (getV 5) (getV 3))) (toB (bin dGt (getV 6) (getV 4)))) (sApp 2 (tupV (consA (getV 3) (consA (callV dTuple (consA (slV dSl (getV 0) (toPart (getV 3)) (toPart (getV 5))) noA)) (consA (callV dTuple (consA (slV dSl (getV 1) (toPart (getV 4)) (toPart (getV 6))) noA)) noA))))) sSkip) (sSeq (sSet 3 (bin dAdd (getV 5) (conD (.int 1)))) (sSet 4 (bin dAdd (getV 6) (conD (.int 1))))))
def m_edits_between : Rho → Out := (sSeq (sSetN 2 (lstV noA)) (sSeq (sSet 3 (conD (.int 0))) (sSeq (sSet 4 (conD (.int 0))) (sSeq (sFor (itemsV (bin dAdd (callV f_common_pairs (consA (getV 0) (consA (getV 1) noA))) (lstD (lstV (consA (tupV (consA (callV dLen (consA (getV 0) noA)) (consA (callV dLen (consA (getV 1) noA)) noA))) noA))))) (bTp 2 (bCons (bNm 5) (bCons (bNm 6) bNil))) m_edits_between_b1) (sRet (getV 2))))))
def f_edits_between : List D → Res D := runF 2 7 m_edits_between
abbrev s_codes_of : Stmt := topS 12
abbrev N_codes_of : List Str := ["text", "sign"]
theorem sc_codes_of : FnScope N_codes_of ["text"] (defScope s_codes_of) := ⟨rfl, rfl, rfl, by decide +kernel, rfl, by decide +kernel, by decide +kernel⟩
def m_codes_of : Rho → Out := (sRet (lstD (compV (itemsV (getV 0)) (bNm 1) yesB (callV dOrd (consA (getV 1) noA)) [1])))
def f_codes_of : List D → Res D := runF 1 2 m_codes_of
abbrev s_touching_spans : Stmt := topS 17
abbrev N_touching_spans : List Str := ["first", "second", "spans", "found", "start", "end", "at", "removed", "put"]
theorem sc_touching_spans : FnScope N_touching_spans ["first", "second"] (defScope s_touching_spans) := ⟨rfl, rfl, rfl, by decide +kernel, rfl, by decide +kernel, by decide +kernel⟩
def m_touching_spans_b1 : Rho → Out := (sIf (andB (toB (bin dGt (callV dLen (consA (getV 3) noA)) (conD (.int 0)))) (toB (bin dLe (getV 4) (bin dIx (bin dIx (getV 3) (negV (conD (.int 1)))) (conD (.int 1)))))) (sSetI 3 (negV (conD (.int 1))) (tupV (consA (bin dIx (bin dIx (getV 3) (negV (conD (.int 1)))) (conD (.int 0))) (consA (callV dMax2 (consA (bin dIx (bin dIx (getV 3) (negV (conD (.int 1)))) (conD (.int 1))) (consA (getV 5) noA))) noA)))) (sApp 3 (tupV (consA (getV 4) (consA (getV 5) noA)))))
def m_touching_spans : Rho → Out := (sSeq (sSet 2 (lstD (compV (itemsV (bin dAdd (lstD (callV dList (consA (getV 0) noA))) (lstD (callV dList (consA (getV 1) noA))))) (bTp 3 (bCons (bNm 6) (bCons (bNm 7) (bCons (bNm 8) bNil)))) yesB (tupV (consA (getV 6) (consA (bin dAdd (getV 6) (callV dLen (consA (getV 7) noA))) noA))) [6, 7, 8]))) (sSeq (sSetN 3 (lstV noA)) (sSeq (sFor (itemsV (lstD (callV dSortedP (consA (getV 2) noA)))) (bTp 2 (bCons (bNm 4) (bCons (bNm 5) bNil))) m_touching_spans_b1) (sRet (getV 3)))))
def f_touching_spans : List D → Res D := runF 2 9 m_touching_spans
abbrev s_side_of : Stmt := topS 18
abbrev N_side_of : List Str := ["base", "edits", "span", "found", "done", "at", "removed", "put"]
theorem sc_side_of : FnScope N_side_of ["base", "edits", "span"] (defScope s_side_of) := ⟨rfl, rfl, rfl, by decide +kernel, rfl, by decide +kernel, by decide +kernel⟩
def m_side_of_b1 : Rho → Out := (sIf (andB (toB (bin dLe (bin dIx (getV 2) (conD (.int 0))) (getV 5))) (toB (bin dLe (bin dAdd (getV 5) (callV dLen (consA (getV 6) noA))) (bin dIx (getV 2) (conD (.int 1)))))) (sSeq (sSet 3 (bin dAdd (bin dAdd (getV 3) (lstD (callV dList (consA (slV dSl (getV 0) (toPart (getV 4)) (toPart (getV 5))) noA)))) (lstD (callV dList (consA (getV 7) noA))))) (sSet 4 (bin dAdd (getV 5) (callV dLen (consA (getV 6) noA))))) sSkip)
def m_side_of : Rho → Out := (sSeq (sSet 3 (lstD (lstV noA))) (sSeq (sSet 4 (bin dIx (getV 2) (conD (.int 0)))) (sSeq (sFor (itemsV (getV 1)) (bTp 3 (bCons (bNm 5) (bCons (bNm 6) (bCons (bNm 7) bNil)))) m_side_of_b1) (sRet (callV dTuple (consA (bin dAdd (getV 3) (lstD (callV dList (consA (slV dSl (getV 0) (toPart (getV 4)) (toPart (bin dIx (getV 2) (conD (.int 1))))) noA)))) noA))))))
def f_side_of : List D → Res D := runF 3 8 m_side_of
abbrev s_region_word : Stmt := topS 19
abbrev N_region_word : List Str := ["old", "left", "right"]
theorem sc_region_word : FnScope N_region_word ["old", "left", "right"] (defScope s_region_word) := ⟨rfl, rfl, rfl, by decide +kernel, rfl, by decide +kernel, by decide +kernel⟩
def m_region_word : Rho → Out := (sSeq (sIf (toB (bin dEq (getV 1) (getV 2))) (sRet (conD (.str "both"))) sSkip) (sSeq (sIf (toB (bin dEq (getV 1) (getV 0))) (sRet (conD (.str "right"))) sSkip) (sSeq (sIf (toB (bin dEq (getV 2) (getV 0))) (sRet (conD (.str "left"))) sSkip) (sRet (conD (.str "conflict"))))))
def f_region_word : List D → Res D := runF 3 3 m_region_word
abbrev s_merge_lines : Stmt := topS 20
abbrev N_merge_lines : List Str := ["base", "left", "right", "first", "second", "regions", "done", "span", "old", "mine", "theirs", "kept"]
theorem sc_merge_lines : FnScope N_merge_lines ["base", "left", "right"] (defScope s_merge_lines) := ⟨rfl, rfl, rfl, by decide +kernel, rfl, by decide +kernel, by decide +kernel⟩
def m_merge_lines_b1 : Rho → Out := (sSeq (sIf (toB (bin dLt (getV 6) (bin dIx (getV 7) (conD (.int 0))))) (sSeq (sSet 11 (callV dTuple (consA (slV dSl (getV 0) (toPart (getV 6)) (toPart (bin dIx (getV 7) (conD (.int 0))))) noA))) (sApp 5 (tupV (consA (conD (.str "same")) (consA (getV 11) (consA (getV 11) (consA (getV 11) noA))))))) sSkip) (sSeq (sSet 8 (callV dTuple (consA (slV dSl (getV 0) (toPart (bin dIx (getV 7) (conD (.int 0)))) (toPart (bin dIx (getV 7) (conD (.int 1))))) noA))) (sSeq (sSet 9 (callV f_side_of (consA (getV 0) (consA (getV 3) (consA (getV 7) noA))))) (sSeq (sSet 10 (callV f_side_of (consA (getV 0) (consA (getV 4) (consA (getV 7) noA))))) (sSeq (sApp 5 (tupV (consA (callV f_region_word (consA (getV 8) (consA (getV 9) (consA (getV 10) noA)))) (consA (getV 8) (consA (getV 9) (consA (getV 10) noA)))))) (sSet 6 (bin dIx (getV 7) (conD (.int 1)))))))))
def m_merge_lines : Rho → Out := (sSeq (sSet 3 (callV f_edits_between (consA (getV 0) (consA (getV 1) noA)))) (sSeq (sSet 4 (callV f_edits_between (consA (getV 0) (consA (getV 2) noA)))) (sSeq (sSetN 5 (lstV noA)) (sSeq (sSet 6 (conD (.int 0))) (sSeq (sFor (itemsV (callV f_touching_spans (consA (getV 3) (consA (getV 4) noA)))) (bNm 7) m_merge_lines_b1) (sSeq (sIf (toB (bin dLt (getV 6) (callV dLen (consA (getV 0) noA)))) (sSeq (sSet 11 (callV dTuple (consA (slV dSl (getV 0) (toPart (getV 6)) noPart) noA))) (sApp 5 (tupV (consA (conD (.str "same")) (consA (getV 11) (consA (getV 11) (consA (getV 11) noA))))))) sSkip) (sRet (getV 5))))))))
def f_merge_lines : List D → Res D := runF 3 12 m_merge_lines
abbrev s_has_conflict : Stmt := topS 21
abbrev N_has_conflict : List Str := ["regions", "region"]
theorem sc_has_conflict : FnScope N_has_conflict ["regions"] (defScope s_has_conflict) := ⟨rfl, rfl, rfl, by decide +kernel, rfl, by decide +kernel, by decide +kernel⟩
def m_has_conflict : Rho → Out := (sRet (bin dIn (conD (.str "conflict")) (lstD (compV (itemsV (getV 0)) (bNm 1) yesB (bin dIx (getV 1) (conD (.int 0))) [1]))))
def f_has_conflict : List D → Res D := runF 1 2 m_has_conflict
abbrev s_merged_lines : Stmt := topS 22
abbrev N_merged_lines : List Str := ["regions", "found", "word", "old", "left", "right"]
theorem sc_merged_lines : FnScope N_merged_lines ["regions"] (defScope s_merged_lines) := ⟨rfl, rfl, rfl, by decide +kernel, rfl, by decide +kernel, by decide +kernel⟩
def m_merged_lines_b1 : Rho → Out := (sIf (toB (bin dEq (getV 2) (conD (.str "right")))) (sSet 1 (bin dAdd (getV 1) (lstD (callV dList (consA (getV 5) noA))))) (sSet 1 (bin dAdd (getV 1) (lstD (callV dList (consA (getV 4) noA))))))
def m_merged_lines : Rho → Out := (sSeq (sIf (truV (callV f_has_conflict (consA (getV 0) noA))) (sRaise "LinesConflict") sSkip) (sSeq (sSet 1 (lstD (lstV noA))) (sSeq (sFor (itemsV (getV 0)) (bTp 4 (bCons (bNm 2) (bCons (bNm 3) (bCons (bNm 4) (bCons (bNm 5) bNil))))) m_merged_lines_b1) (sRet (getV 1)))))
def f_merged_lines : List D → Res D := runF 1 6 m_merged_lines
abbrev s_ended : Stmt := topS 23
abbrev N_ended : List Str := ["lines", "found"]
theorem sc_ended : FnScope N_ended ["lines"] (defScope s_ended) := ⟨rfl, rfl, rfl, by decide +kernel, rfl, by decide +kernel, by decide +kernel⟩
def m_ended : Rho → Out := (sSeq (sSetN 1 (callV dList (consA (getV 0) noA))) (sSeq (sIf (andB (toB (bin dGt (callV dLen (consA (getV 1) noA)) (conD (.int 0)))) (toB (bin dNe (bin dIx (bin dIx (getV 1) (negV (conD (.int 1)))) (negV (conD (.int 1)))) (conD d_NEWLINE)))) (sSetI 1 (negV (conD (.int 1))) (bin dAdd (bin dIx (getV 1) (negV (conD (.int 1)))) (tupV (consA (conD d_NEWLINE) noA)))) sSkip) (sRet (getV 1))))
def f_ended : List D → Res D := runF 1 2 m_ended
abbrev s_marked_lines : Stmt := topS 24
abbrev N_marked_lines : List Str := ["regions", "found", "word", "old", "left", "right"]
theorem sc_marked_lines : FnScope N_marked_lines ["regions"] (defScope s_marked_lines) := ⟨rfl, rfl, rfl, by decide +kernel, rfl, by decide +kernel, by decide +kernel⟩
def m_marked_lines_b1 : Rho → Out := (sIf (toB (bin dEq (getV 2) (conD (.str "right")))) (sSet 1 (bin dAdd (getV 1) (lstD (callV dList (consA (getV 5) noA))))) (sIf (toB (bin dNe (getV 2) (conD (.str "conflict")))) (sSet 1 (bin dAdd (getV 1) (lstD (callV dList (consA (getV 4) noA))))) (sSeq (sSet 1 (bin dAdd (bin dAdd (callV f_ended (consA (getV 1) noA)) (lstD (lstV (consA (callV dTuple (consA (bin dAdd (callV f_codes_of (consA (conD d_OPENING) noA)) (lstD (lstV (consA (conD d_NEWLINE) noA)))) noA)) noA)))) (callV f_ended (consA (getV 4) noA)))) (sSeq (sSet 1 (bin dAdd (bin dAdd (getV 1) (lstD (lstV (consA (callV dTuple (consA (bin dAdd (callV f_codes_of (consA (conD d_MIDDLE) noA)) (lstD (lstV (consA (conD d_NEWLINE) noA)))) noA)) noA)))) (callV f_ended (consA (getV 5) noA)))) (sSet 1 (bin dAdd (getV 1) (lstD (lstV (consA (callV dTuple (consA (bin dAdd (callV f_codes_of (consA (conD d_CLOSING) noA)) (lstD (lstV (consA (conD d_NEWLINE) noA)))) noA)) noA)))))))))
def m_marked_lines : Rho → Out := (sSeq (sSet 1 (lstD (lstV noA))) (sSeq (sFor (itemsV (getV 0)) (bTp 4 (bCons (bNm 2) (bCons (bNm 3) (bCons (bNm 4) (bCons (bNm 5) bNil))))) m_marked_lines_b1) (sRet (getV 1))))
def f_marked_lines : List D → Res D := runF 1 6 m_marked_lines
abbrev s__law_draws : Stmt := topS 26
abbrev N__law_draws : List Str := ["script", "count", "draws", "k", "cell"]
theorem sc__law_draws : FnScope N__law_draws ["script", "count"] (defScope s__law_draws) := ⟨rfl, rfl, rfl, by decide +kernel, rfl, by decide +kernel, by decide +kernel⟩
def m__law_draws_b1 : Rho → Out := (sSeq (sSet 4 (conD (.int 0))) (sSeq (sIf (toB (bin dGt (callV dLen (consA (getV 0) noA)) (conD (.int 0)))) (sSet 4 (callV dInt (consA (bin dIx (getV 0) (bin dMod (getV 3) (callV dLen (consA (getV 0) noA)))) noA))) sSkip) (sSeq (sIf (toB (bin dLt (getV 4) (conD (.int 0)))) (sSet 4 (bin dSub (conD (.int 1)) (bin dMul (conD (.int 2)) (getV 4)))) sSkip) (sSeq (sIf (orB (toB (bin dLt (getV 4) (conD (.int 1000000000)))) (toB (bin dGe (getV 3) (callV dLen (consA (getV 0) noA))))) (sSeq (sSet 4 (bin dMod (callV dInt (consA (bin dAdd (bin dMul (getV 4) (conD (.int 6364136223846793005))) (bin dMul (conD (.int 1442695040888963407)) (bin dAdd (getV 3) (conD (.int 1))))) noA)) (conD (.int 9223372036854775783)))) (sSet 4 (bin dMod (callV dInt (consA (bin dAdd (bin dAdd (bin dMul (getV 4) (conD (.int 2862933555777941757))) (conD (.int 3037000493))) (getV 3)) noA)) (conD (.int 18446744073709551557))))) sSkip) (sApp 2 (getV 4))))))
def m__law_draws : Rho → Out := (sSeq (sSetN 2 (lstV noA)) (sSeq (sFor (callV dRng1 (consA (getV 1) noA)) (bNm 3) m__law_draws_b1) (sRet (getV 2))))
def f__law_draws : List D → Res D := runF 2 5 m__law_draws
abbrev s__law_line : Stmt := topS 27
abbrev N__law_line : List Str := ["cell", "kind"]
theorem sc__law_line : FnScope N__law_line ["cell"] (defScope s__law_line) := ⟨rfl, rfl, rfl, by decide +kernel, rfl, by decide +kernel, by decide +kernel⟩
def m__law_line : Rho → Out := (sSeq (sSet 1 (bin dMod (callV dInt (consA (getV 0) noA)) (conD (.int 8)))) (sSeq (sIf (toB (bin dLt (getV 1) (conD (.int 5)))) (sRet (tupV (consA (bin dAdd (conD (.int 97)) (getV 1)) (consA (conD (.int 10)) noA)))) sSkip) (sSeq (sIf (toB (bin dEq (getV 1) (conD (.int 5)))) (sRet (tupV (consA (conD (.int 10)) noA))) sSkip) (sSeq (sIf (toB (bin dEq (getV 1) (conD (.int 6)))) (sRet (tupV (consA (bin dMod (callV dInt (consA (bin dDiv (getV 0) (conD (.int 8))) noA)) (conD (.int 10))) (consA (bin dAdd (conD (.int 200)) (bin dMod (callV dInt (consA (bin dDiv (getV 0) (conD (.int 80))) noA)) (conD (.int 56)))) (consA (conD (.int 10)) noA))))) sSkip) (sRet (tupV (consA (conD (.int 97)) (consA (conD (.int 37)) (consA (conD (.int 92)) (consA (conD (.int 10)) noA))))))))))
def f__law_line : List D → Res D := runF 1 2 m__law_line
abbrev s__law_lines : Stmt := topS 28
abbrev N__law_lines : List Str := ["draw", "other", "k"]
theorem sc__law_lines : FnScope N__law_lines ["draw", "other"] (defScope s__law_lines) := ⟨rfl, rfl, rfl, by decide +kernel, rfl, by decide +kernel, by decide +kernel⟩
def m__law_lines : Rho → Out := (sRet (lstD (compV (callV dRng1 (consA (bin dMod (callV dInt (consA (getV 0) noA)) (conD (.int 10))) noA)) (bNm 2) yesB (callV f__law_line (consA (bin dAdd (bin dDiv (getV 1) (bin dAdd (bin dMul (conD (.int 3)) (getV 2)) (conD (.int 1)))) (bin dMul (getV 2) (getV 0))) noA)) [2])))
def f__law_lines : List D → Res D := runF 2 3 m__law_lines
abbrev s__law_changed : Stmt := topS 29
abbrev N__law_changed : List Str := ["lines", "draw", "found", "k", "what"]
theorem sc__law_changed : FnScope N__law_changed ["lines", "draw"] (defScope s__law_changed) := ⟨rfl, rfl, rfl, by decide +kernel, rfl, by decide +kernel, by decide +kernel⟩
def m__law_changed_b1 : Rho → Out := (sSeq (sSet 4 (bin dMod (callV dInt (consA (bin dDiv (getV 1) (bin dAdd (bin dMul (conD (.int 5)) (getV 3)) (conD (.int 3)))) noA)) (conD (.int 6)))) (sSeq (sIf (toB (bin dEq (getV 4) (conD (.int 1)))) (sApp 2 (callV f__law_line (consA (bin dDiv (getV 1) (bin dAdd (getV 3) (conD (.int 2)))) noA))) sSkip) (sSeq (sIf (toB (bin dGt (getV 4) (conD (.int 1)))) (sApp 2 (bin dIx (getV 0) (getV 3))) sSkip) (sIf (toB (bin dEq (getV 4) (conD (.int 2)))) (sApp 2 (callV f__law_line (consA (bin dDiv (getV 1) (bin dAdd (getV 3) (conD (.int 5)))) noA))) sSkip))))
def m__law_changed : Rho → Out := (sSeq (sSetN 2 (lstV noA)) (sSeq (sFor (callV dRng1 (consA (callV dLen (consA (getV 0) noA)) noA)) (bNm 3) m__law_changed_b1) (sSeq (sIf (toB (bin dEq (bin dMod (callV dInt (consA (bin dDiv (getV 1) (conD (.int 7))) noA)) (conD (.int 5))) (conD (.int 0)))) (sApp 2 (tupV (consA (conD (.int 97)) (consA (conD (.int 98)) noA)))) sSkip) (sRet (getV 2)))))
def f__law_changed : List D → Res D := runF 2 5 m__law_changed
abbrev s__law_turned : Stmt := topS 30
abbrev N__law_turned : List Str := ["regions", "words", "found", "word", "old", "left", "right"]
theorem sc__law_turned : FnScope N__law_turned ["regions"] (defScope s__law_turned) := ⟨rfl, rfl, rfl, by decide +kernel, rfl, by decide +kernel, by decide +kernel⟩
def m__law_turned_b1 : Rho → Out := (sApp 2 (tupV (consA (bin dGetK (getV 1) (getV 3)) (consA (getV 4) (consA (getV 6) (consA (getV 5) noA))))))
def m__law_turned : Rho → Out := (sSeq (sSet 1 (conD (.dct (pairsD [(.inr "same", .inr "same"), (.inr "both", .inr "both"), (.inr "left", .inr "right"), (.inr "right", .inr "left"), (.inr "conflict", .inr "conflict")])))) (sSeq (sSetN 2 (lstV noA)) (sSeq (sFor (itemsV (getV 0)) (bTp 4 (bCons (bNm 3) (bCons (bNm 4) (bCons (bNm 5) (bCons (bNm 6) bNil))))) m__law_turned_b1) (sRet (getV 2)))))
def f__law_turned : List D → Res D := runF 1 7 m__law_turned
abbrev s_law : Stmt := topS 31
abbrev N_law : List Str := ["script", "draws", "base", "left", "right", "regions"]
theorem sc_law : FnScope N_law ["script"] (defScope s_law) := ⟨rfl, rfl, rfl, by decide +kernel, rfl, by decide +kernel, by decide +kernel⟩
def m_law : Rho → Out := (sSeq (sSet 1 (callV f__law_draws (consA (getV 0) (consA (conD (.int 4)) noA)))) (sSeq (sSet 2 (callV f__law_lines (consA (bin dIx (getV 1) (conD (.int 0))) (consA (bin dIx (getV 1) (conD (.int 1))) noA)))) (sSeq (sSet 3 (callV f__law_changed (consA (getV 2) (consA (bin dIx (getV 1) (conD (.int 2))) noA)))) (sSeq (sSet 4 (callV f__law_changed (consA (getV 2) (consA (bin dIx (getV 1) (conD (.int 3))) noA)))) (sSeq (sSet 5 (callV f_merge_lines (consA (getV 2) (consA (getV 3) (consA (getV 4) noA))))) (sSeq (sIf (toB (bin dNe (callV f_merge_lines (consA (getV 2) (consA (getV 4) (consA (getV 3) noA)))) (callV f__law_turned (consA (getV 5) noA)))) (sRet (conD (.bl false))) sSkip) (sSeq (sIf (notB (truV (callV f_has_conflict (consA (getV 5) noA)))) (sSeq (sIf (toB (bin dNe (callV f_marked_lines (consA (getV 5) noA)) (callV f_merged_lines (consA (getV 5) noA)))) (sRet (conD (.bl false))) sSkip) (sIf (toB (bin dNe (callV f_merged_lines (consA (callV f_merge_lines (consA (getV 2) (consA (getV 4) (consA (getV 3) noA)))) noA)) (callV f_merged_lines (consA (getV 5) noA)))) (sRet (conD (.bl false))) sSkip)) sSkip) (sSeq (sIf (orB (toB (bin dNe (callV f_merged_lines (consA (callV f_merge_lines (consA (getV 2) (consA (getV 3) (consA (getV 2) noA)))) noA)) (getV 3))) (toB (bin dNe (callV f_merged_lines (consA (callV f_merge_lines (consA (getV 2) (consA (getV 2) (consA (getV 4) noA)))) noA)) (getV 4)))) (sRet (conD (.bl false))) sSkip) (sRet (bin dEq (callV f_merged_lines (consA (callV f_merge_lines (consA (getV 2) (consA (getV 3) (consA (getV 3) noA)))) noA)) (getV 3)))))))))))
def f_law : List D → Res D := runF 1 6 m_law
/-! the facts of the text -/
structure Txt (K : PySem.W.Frag) (mg : Str → Option Value) where
  a_common_table : Addr
  fd_common_table : FuncData
  F_common_table : Fun K "common_table" "common_table" s_common_table a_common_table fd_common_table
  g_common_table : mg "common_table" = some (.ref a_common_table)
  b_common_table : Binds K fd_common_table ["first", "second"] []
  a_common_pairs : Addr
  fd_common_pairs : FuncData
  F_common_pairs : Fun K "common_pairs" "common_pairs" s_common_pairs a_common_pairs fd_common_pairs
  g_common_pairs : mg "common_pairs" = some (.ref a_common_pairs)
  b_common_pairs : Binds K fd_common_pairs ["first", "second"] []
  a_edits_between : Addr
  fd_edits_between : FuncData
  F_edits_between : Fun K "edits_between" "edits_between" s_edits_between a_edits_between fd_edits_between
  g_edits_between : mg "edits_between" = some (.ref a_edits_between)
  b_edits_between : Binds K fd_edits_between ["first", "second"] []
  a_codes_of : Addr
  fd_codes_of : FuncData
  F_codes_of : Fun K "codes_of" "codes_of" s_codes_of a_codes_of fd_codes_of
  g_codes_of : mg "codes_of" = some (.ref a_codes_of)
  b_codes_of : Binds K fd_codes_of ["text"] []
  a_touching_spans : Addr
  fd_touching_spans : FuncData
  F_touching_spans : Fun K "touching_spans" "touching_spans" s_touching_spans a_touching_spans fd_touching_spans
  g_touching_spans : mg "touching_spans" = some (.ref a_touching_spans)
  b_touching_spans : Binds K fd_touching_spans ["first", "second"] []
  a_side_of : Addr
  fd_side_of : FuncData
  F_side_of : Fun K "side_of" "side_of" s_side_of a_side_of fd_side_of
  g_side_of : mg "side_of" = some (.ref a_side_of)
  b_side_of : Binds K fd_side_of ["base", "edits", "span"] []
  a_region_word : Addr
  fd_region_word : FuncData
  F_region_word : Fun K "region_word" "region_word" s_region_word a_region_word fd_region_word
  g_region_word : mg "region_word" = some (.ref a_region_word)
  b_region_word : Binds K fd_region_word ["old", "left", "right"] []
  a_merge_lines : Addr
  fd_merge_lines : FuncData
  F_merge_lines : Fun K "merge_lines" "merge_lines" s_merge_lines a_merge_lines fd_merge_lines
  g_merge_lines : mg "merge_lines" = some (.ref a_merge_lines)
  b_merge_lines : Binds K fd_merge_lines ["base", "left", "right"] []
  a_has_conflict : Addr
  fd_has_conflict : FuncData
  F_has_conflict : Fun K "has_conflict" "has_conflict" s_has_conflict a_has_conflict fd_has_conflict
  g_has_conflict : mg "has_conflict" = some (.ref a_has_conflict)
  b_has_conflict : Binds K fd_has_conflict ["regions"] []
  a_merged_lines : Addr
  fd_merged_lines : FuncData
  F_merged_lines : Fun K "merged_lines" "merged_lines" s_merged_lines a_merged_lines fd_merged_lines
  g_merged_lines : mg "merged_lines" = some (.ref a_merged_lines)
  b_merged_lines : Binds K fd_merged_lines ["regions"] []
  a_ended : Addr
  fd_ended : FuncData
  F_ended : Fun K "ended" "ended" s_ended a_ended fd_ended
  g_ended : mg "ended" = some (.ref a_ended)
  b_ended : Binds K fd_ended ["lines"] []
  a_marked_lines : Addr
  fd_marked_lines : FuncData
  F_marked_lines : Fun K "marked_lines" "marked_lines" s_marked_lines a_marked_lines fd_marked_lines
  g_marked_lines : mg "marked_lines" = some (.ref a_marked_lines)
  b_marked_lines : Binds K fd_marked_lines ["regions"] []
  a__law_draws : Addr
  fd__law_draws : FuncData
  F__law_draws : Fun K "_law_draws" "_law_draws" s__law_draws a__law_draws fd__law_draws
  g__law_draws : mg "_law_draws" = some (.ref a__law_draws)
  b__law_draws : Binds K fd__law_draws ["script", "count"] []
  a__law_line : Addr
  fd__law_line : FuncData
  F__law_line : Fun K "_law_line" "_law_line" s__law_line a__law_line fd__law_line
  g__law_line : mg "_law_line" = some (.ref a__law_line)
  b__law_line : Binds K fd__law_line ["cell"] []
  a__law_lines : Addr
  fd__law_lines : FuncData
  F__law_lines : Fun K "_law_lines" "_law_lines" s__law_lines a__law_lines fd__law_lines
  g__law_lines : mg "_law_lines" = some (.ref a__law_lines)
  b__law_lines : Binds K fd__law_lines ["draw", "other"] []
  a__law_changed : Addr
  fd__law_changed : FuncData
  F__law_changed : Fun K "_law_changed" "_law_changed" s__law_changed a__law_changed fd__law_changed
  g__law_changed : mg "_law_changed" = some (.ref a__law_changed)
  b__law_changed : Binds K fd__law_changed ["lines", "draw"] []
  a__law_turned : Addr
  fd__law_turned : FuncData
  F__law_turned : Fun K "_law_turned" "_law_turned" s__law_turned a__law_turned fd__law_turned
  g__law_turned : mg "_law_turned" = some (.ref a__law_turned)
  b__law_turned : Binds K fd__law_turned ["regions"] []
  a_law : Addr
  fd_law : FuncData
  F_law : Fun K "law" "law" s_law a_law fd_law
  g_law : mg "law" = some (.ref a_law)
  b_law : Binds K fd_law ["script"] []
  c_NEWLINE : ∃ u, mg "NEWLINE" = some u ∧ ∃ v, RelV v u ∧ ∀ B, Rp K B v d_NEWLINE
  c_OPENING : ∃ u, mg "OPENING" = some u ∧ ∃ v, RelV v u ∧ ∀ B, Rp K B v d_OPENING
  c_MIDDLE : ∃ u, mg "MIDDLE" = some u ∧ ∃ v, RelV v u ∧ ∀ B, Rp K B v d_MIDDLE
  c_CLOSING : ∃ u, mg "CLOSING" = some u ∧ ∃ v, RelV v u ∧ ∀ B, Rp K B v d_CLOSING
  A_LinesConflict : Addr
  x_LinesConflict : XCls K mg "LinesConflict" A_LinesConflict
  y_LinesConflict : XNew K A_LinesConflict "ValueError" "ValueError.__new__" "ValueError.__init__" [.type "ValueError", .type "Exception", .type "BaseException", .type "object"]
  n_int : mg "int" = none
  n_len : mg "len" = none
  n_list : mg "list" = none
  n_max : mg "max" = none
  n_ord : mg "ord" = none
  n_range : mg "range" = none
  n_sorted : mg "sorted" = none
  n_tuple : mg "tuple" = none
section
variable {K : PySem.W.Frag} {mg : Str → Option Value}
theorem Txt.e_NEWLINE (T : Txt K mg) {X : Cx} {W : WX} {G : List Mode} {pos : Pos} (hg : Gl X "NEWLINE") (hK : X.K = K := by rfl) (hm : X.mg = mg := by rfl) : EJ X W G (.Name "NEWLINE" pos) (conD d_NEWLINE) := by
  subst hK hm
  obtain ⟨u, h1, v, h2, h3⟩ := T.c_NEWLINE
  exact ej_glob hg h1 h2 h3
theorem Txt.e_OPENING (T : Txt K mg) {X : Cx} {W : WX} {G : List Mode} {pos : Pos} (hg : Gl X "OPENING") (hK : X.K = K := by rfl) (hm : X.mg = mg := by rfl) : EJ X W G (.Name "OPENING" pos) (conD d_OPENING) := by
  subst hK hm
  obtain ⟨u, h1, v, h2, h3⟩ := T.c_OPENING
  exact ej_glob hg h1 h2 h3
theorem Txt.e_MIDDLE (T : Txt K mg) {X : Cx} {W : WX} {G : List Mode} {pos : Pos} (hg : Gl X "MIDDLE") (hK : X.K = K := by rfl) (hm : X.mg = mg := by rfl) : EJ X W G (.Name "MIDDLE" pos) (conD d_MIDDLE) := by
  subst hK hm
  obtain ⟨u, h1, v, h2, h3⟩ := T.c_MIDDLE
  exact ej_glob hg h1 h2 h3
theorem Txt.e_CLOSING (T : Txt K mg) {X : Cx} {W : WX} {G : List Mode} {pos : Pos} (hg : Gl X "CLOSING") (hK : X.K = K := by rfl) (hm : X.mg = mg := by rfl) : EJ X W G (.Name "CLOSING" pos) (conD d_CLOSING) := by
  subst hK hm
  obtain ⟨u, h1, v, h2, h3⟩ := T.c_CLOSING
  exact ej_glob hg h1 h2 h3
theorem ok_common_table (T : Txt K mg) {P : Program} {w : World} {base : Heap} : FnOk P w K mg base (L2.CX P w) 1 T.a_common_table T.fd_common_table ["first", "second"] (spT K mg (Mode.fz) 2 f_common_table) := by
  refine fn_ok (md := Mode.fz) (G := [Mode.fz, Mode.fz, Mode.fz, Mode.fz, Mode.fz, Mode.fz]) T.F_common_table sc_common_table 2 6 rfl rfl rfl (fun ρ => .inl rfl) fun cdv A outer s H E hr => ⟨[], ?_⟩
  have tk : Takes (cxOf (L2.CX P w) P w K mg base N_common_table "common_table" (defScope s_common_table) T.a_common_table cdv A outer s H E) (WE1 E) := takes_of rfl rfl rfl rfl
  exact (ssj_cons (sj_lcNN (i := 2) (lcjN (own0 := [("row", 5)]) rfl sc_common_table.nd rfl rfl (sw_true rfl rfl rfl (by decide +kernel)) (IJ.b (ij_range1 (by rfl) T.n_range (aj_cons (ej_bin bin_add calm_add (EJ.bj (ej_B fn_len (by rfl) T.n_len PySem.boot_len (baj_cons (EJ.bj (ej_var 0 (pv 0))) baj_nil))) (EJ.bj ej_int)) aj_nil))) (blkOk_by (N := N_common_table) (sc := defScope s_common_table) (by decide +kernel)) (fun _ _ _ _ _ => (gj_nm (pg_name (i := 5) sc_common_table.nd rfl (by first | exact .inl rfl | exact .inr rfl)))) (by decide) (by decide) (fun _ _ _ _ _ => (nj_bin bin_rep calm_rep (EJ.bj (NJ.ej (nj_lst (aj_cons ej_int aj_nil)))) (EJ.bj (ej_bin bin_add calm_add (EJ.bj (ej_B fn_len (by rfl) T.n_len PySem.boot_len (baj_cons (EJ.bj (ej_var 1 (pv 1))) baj_nil))) (EJ.bj ej_int))))))) (ssj_cons (sj_for (passes_of rfl) rfl (ij_rangeD (by rfl) T.n_range (aj_cons (ej_bin bin_sub calm_sub (EJ.bj (ej_B fn_len (by rfl) T.n_len PySem.boot_len (baj_cons (EJ.bj (ej_var 0 (pv 0))) baj_nil))) (EJ.bj ej_int)) (aj_cons (ej_neg (EJ.bj ej_int)) (aj_cons (ej_neg (EJ.bj ej_int)) aj_nil)))) (gj_nm (pg_name (i := 3) sc_common_table.nd rfl (by first | exact .inl rfl | exact .inr rfl))) (by decide) (ssj_one (sj_for (passes_of rfl) rfl (ij_rangeD (by rfl) T.n_range (aj_cons (ej_bin bin_sub calm_sub (EJ.bj (ej_B fn_len (by rfl) T.n_len PySem.boot_len (baj_cons (EJ.bj (ej_var 1 (pv 1))) baj_nil))) (EJ.bj ej_int)) (aj_cons (ej_neg (EJ.bj ej_int)) (aj_cons (ej_neg (EJ.bj ej_int)) aj_nil)))) (gj_nm (pg_name (i := 4) sc_common_table.nd rfl (by first | exact .inl rfl | exact .inr rfl))) (by decide) (ssj_one (sj_if (tj_cmp (cmp_eq hr.units) calm_eq (nomark _) (EJ.bj (ej_ix (EJ.bj (ej_var 0 (pv 0))) (EJ.bj (ej_var 3 (pv 3))))) (EJ.bj (ej_ix (EJ.bj (ej_var 1 (pv 1))) (EJ.bj (ej_var 4 (pv 4)))))) (ssj_one (sj_setII (i := 2) (pv 2) rfl (ej_bin bin_add calm_add (EJ.bj (ej_ix (bj_row (i := 2) (pv 2) (EJ.bj (ej_bin bin_add calm_add (EJ.bj (ej_var 3 (pv 3))) (EJ.bj ej_int)))) (EJ.bj (ej_bin bin_add calm_add (EJ.bj (ej_var 4 (pv 4))) (EJ.bj ej_int))))) (EJ.bj ej_int)) (EJ.bj (ej_var 3 (pv 3))) (EJ.bj (ej_var 4 (pv 4))) (fun a b => pg_sub a b set_list))) (ssj_one (sj_setII (i := 2) (pv 2) rfl (ej_B (fn_max2 rfl) (by rfl) T.n_max boot_max (baj_cons (EJ.bj (ej_ix (bj_row (i := 2) (pv 2) (EJ.bj (ej_bin bin_add calm_add (EJ.bj (ej_var 3 (pv 3))) (EJ.bj ej_int)))) (EJ.bj (ej_var 4 (pv 4))))) (baj_cons (EJ.bj (ej_ix (bj_row (i := 2) (pv 2) (EJ.bj (ej_var 3 (pv 3)))) (EJ.bj (ej_bin bin_add calm_add (EJ.bj (ej_var 4 (pv 4))) (EJ.bj ej_int))))) baj_nil))) (EJ.bj (ej_var 3 (pv 3))) (EJ.bj (ej_var 4 (pv 4))) (fun a b => pg_sub a b set_list)))))))) (ssj_to (G2 := [Mode.fz, Mode.fz, Mode.fz, Mode.fz, Mode.fz, Mode.fz]) (ssj_one (sj_ret (ej_var 2 (pv 2)))) (by rfl))))
theorem ok_common_pairs (T : Txt K mg) {P : Program} {w : World} {base : Heap} : FnOk P w K mg base (L2.CX P w) 2 T.a_common_pairs T.fd_common_pairs ["first", "second"] (spT K mg (Mode.fz) 2 f_common_pairs) := by
  refine fn_ok (md := Mode.fz) (G := [Mode.fz, Mode.fz, Mode.fz, Mode.fz, Mode.fz, Mode.fz]) T.F_common_pairs sc_common_pairs 2 6 rfl rfl rfl (fun ρ => .inl rfl) fun cdv A outer s H E hr => ⟨[], ?_⟩
  have tk : Takes (cxOf (L2.CX P w) P w K mg base N_common_pairs "common_pairs" (defScope s_common_pairs) T.a_common_pairs cdv A outer s H E) (WE1 E) := takes_of rfl rfl rfl rfl
  exact (ssj_cons (sj_set (i := 2) sc_common_pairs.nd rfl (by first | exact .inl rfl | exact .inr rfl) (ej_call runF_len (ok_common_table T) (hr.mono (by decide)) (by rfl) T.g_common_table T.F_common_table.kp T.b_common_table tk (aj_cons (ej_var 0 (pv 0)) (aj_cons (ej_var 1 (pv 1)) aj_nil)))) (ssj_cons (sj_setN (i := 3) sc_common_pairs.nd rfl (by first | exact .inl rfl | exact .inr rfl) (nj_lst aj_nil)) (ssj_cons (sj_set (i := 4) sc_common_pairs.nd rfl (by first | exact .inl rfl | exact .inr rfl) ej_int) (ssj_cons (sj_set (i := 5) sc_common_pairs.nd rfl (by first | exact .inl rfl | exact .inr rfl) ej_int) (ssj_cons (sj_while 1000000 (passes_of rfl) (WJ.tj (wj_and (tj_cmp cmp_lt calm_lt (nomark _) (EJ.bj (ej_var 4 (pv 4))) (EJ.bj (ej_B fn_len (by rfl) T.n_len PySem.boot_len (baj_cons (EJ.bj (ej_var 0 (pv 0))) baj_nil)))) (wj_and1 (tj_cmp cmp_lt calm_lt (nomark _) (EJ.bj (ej_var 5 (pv 5))) (EJ.bj (ej_B fn_len (by rfl) T.n_len PySem.boot_len (baj_cons (EJ.bj (ej_var 1 (pv 1))) baj_nil))))))) (ssj_one (sj_if (tj_cmp (cmp_eq hr.units) calm_eq (nomark _) (EJ.bj (ej_ix (EJ.bj (ej_var 0 (pv 0))) (EJ.bj (ej_var 4 (pv 4))))) (EJ.bj (ej_ix (EJ.bj (ej_var 1 (pv 1))) (EJ.bj (ej_var 5 (pv 5)))))) (ssj_cons (sj_app (i := 3) (pv 3) rfl (ej_tup (aj_cons (ej_var 4 (pv 4)) (aj_cons (ej_var 5 (pv 5)) aj_nil)))) (ssj_cons (sj_set (i := 4) sc_common_pairs.nd rfl (by first | exact .inl rfl | exact .inr rfl) (ej_bin bin_add calm_add (EJ.bj (ej_var 4 (pv 4))) (EJ.bj ej_int))) (ssj_one (sj_set (i := 5) sc_common_pairs.nd rfl (by first | exact .inl rfl | exact .inr rfl) (ej_bin bin_add calm_add (EJ.bj (ej_var 5 (pv 5))) (EJ.bj ej_int)))))) (ssj_one (sj_if (tj_cmp cmp_ge calm_ge (nomark _) (EJ.bj (ej_ix (EJ.bj (ej_ix (EJ.bj (ej_var 2 (pv 2))) (EJ.bj (ej_bin bin_add calm_add (EJ.bj (ej_var 4 (pv 4))) (EJ.bj ej_int))))) (EJ.bj (ej_var 5 (pv 5))))) (EJ.bj (ej_ix (EJ.bj (ej_ix (EJ.bj (ej_var 2 (pv 2))) (EJ.bj (ej_var 4 (pv 4))))) (EJ.bj (ej_bin bin_add calm_add (EJ.bj (ej_var 5 (pv 5))) (EJ.bj ej_int)))))) (ssj_one (sj_set (i := 4) sc_common_pairs.nd rfl (by first | exact .inl rfl | exact .inr rfl) (ej_bin bin_add calm_add (EJ.bj (ej_var 4 (pv 4))) (EJ.bj ej_int)))) (ssj_one (sj_set (i := 5) sc_common_pairs.nd rfl (by first | exact .inl rfl | exact .inr rfl) (ej_bin bin_add calm_add (EJ.bj (ej_var 5 (pv 5))) (EJ.bj ej_int))))))))) (ssj_to (G2 := [Mode.fz, Mode.fz, Mode.fz, Mode.fz, Mode.fz, Mode.fz]) (ssj_one (sj_ret (ej_var 3 (pv 3)))) (by rfl)))))))
theorem ok_edits_between (T : Txt K mg) {P : Program} {w : World} {base : Heap} : FnOk P w K mg base (L2.CX P w) 3 T.a_edits_between T.fd_edits_between ["first", "second"] (spT K mg (Mode.fz) 2 f_edits_between) := by
  refine fn_ok (md := Mode.fz) (G := [Mode.fz, Mode.fz, Mode.fz, Mode.fz, Mode.fz, Mode.fz, Mode.fz]) T.F_edits_between sc_edits_between 2 7 rfl rfl rfl (fun ρ => .inl rfl) fun cdv A outer s H E hr => ⟨[], ?_⟩
  have tk : Takes (cxOf (L2.CX P w) P w K mg base N_edits_between "edits_between" (defScope s_edits_between) T.a_edits_between cdv A outer s H E) (WE1 E) := takes_of rfl rfl rfl rfl
  exact (ssj_cons (sj_setN (i := 2) sc_edits_between.nd rfl (by first | exact .inl rfl | exact .inr rfl) (nj_lst aj_nil)) (ssj_cons (sj_set (i := 3) sc_edits_between.nd rfl (by first | exact .inl rfl | exact .inr rfl) ej_int) (ssj_cons (sj_set (i := 4) sc_edits_between.nd rfl (by first | exact .inl rfl | exact .inr rfl) ej_int) (ssj_cons (sj_for (passes_of rfl) rfl (ij_seq (ej_bin bin_add calm_add (EJ.bj (ej_call runF_len (ok_common_pairs T) (hr.mono (by decide)) (by rfl) T.g_common_pairs T.F_common_pairs.kp T.b_common_pairs tk (aj_cons (ej_var 0 (pv 0)) (aj_cons (ej_var 1 (pv 1)) aj_nil)))) (EJ.bj (NJ.ej (nj_lst (aj_cons (ej_tup (aj_cons (ej_B fn_len (by rfl) T.n_len PySem.boot_len (baj_cons (EJ.bj (ej_var 0 (pv 0))) baj_nil)) (aj_cons (ej_B fn_len (by rfl) T.n_len PySem.boot_len (baj_cons (EJ.bj (ej_var 1 (pv 1))) baj_nil)) aj_nil))) aj_nil)))))) (gj_tp rfl (gaj_cons (gj_nm (pg_name (i := 5) sc_edits_between.nd rfl (by first | exact .inl rfl | exact .inr rfl))) (gaj_cons (gj_nm (pg_name (i := 6) sc_edits_between.nd rfl (by first | exact .inl rfl | exact .inr rfl))) gaj_nil))) (by decide) (ssj_cons (sj_if (WJ.tj (wj_or (tj_cmp cmp_gt calm_gt (nomark _) (EJ.bj (ej_var 5 (pv 5))) (EJ.bj (ej_var 3 (pv 3)))) (wj_or1 (tj_cmp cmp_gt calm_gt (nomark _) (EJ.bj (ej_var 6 (pv 6))) (EJ.bj (ej_var 4 (pv 4))))))) (ssj_one (sj_app (i := 2) (pv 2) rfl (ej_tup (aj_cons (ej_var 3 (pv 3)) (aj_cons (ej_Ty fn_tuple (by rfl) T.n_tuple PyProof.Rows.boot_tuple (baj_cons (EJ.bj (ej_sl (EJ.bj (ej_var 0 (pv 0))) (oj_some (EJ.bj (ej_var 3 (pv 3)))) (oj_some (EJ.bj (ej_var 5 (pv 5)))))) baj_nil)) (aj_cons (ej_Ty fn_tuple (by rfl) T.n_tuple PyProof.Rows.boot_tuple (baj_cons (EJ.bj (ej_sl (EJ.bj (ej_var 1 (pv 1))) (oj_some (EJ.bj (ej_var 4 (pv 4)))) (oj_some (EJ.bj (ej_var 6 (pv 6)))))) baj_nil)) aj_nil)))))) ssj_nil) (ssj_cons (sj_set (i := 3) sc_edits_between.nd rfl (by first | exact .inl rfl | exact .inr rfl) (ej_bin bin_add calm_add (EJ.bj (ej_var 5 (pv 5))) (EJ.bj ej_int))) (ssj_one (sj_set (i := 4) sc_edits_between.nd rfl (by first | exact .inl rfl | exact .inr rfl) (ej_bin bin_add calm_add (EJ.bj (ej_var 6 (pv 6))) (EJ.bj ej_int))))))) (ssj_to (G2 := [Mode.fz, Mode.fz, Mode.fz, Mode.fz, Mode.fz, Mode.fz, Mode.fz]) (ssj_one (sj_ret (ej_var 2 (pv 2)))) (by rfl))))))
theorem ok_codes_of (T : Txt K mg) {P : Program} {w : World} {base : Heap} : FnOk P w K mg base (L2.CX P w) 1 T.a_codes_of T.fd_codes_of ["text"] (spT K mg (Mode.fz) 1 f_codes_of) := by
  refine fn_ok (md := Mode.fz) (G := [Mode.fz, Mode.fz]) T.F_codes_of sc_codes_of 1 2 rfl rfl rfl (fun ρ => .inl rfl) fun cdv A outer s H E hr => ⟨[], ?_⟩
  have tk : Takes (cxOf (L2.CX P w) P w K mg base N_codes_of "codes_of" (defScope s_codes_of) T.a_codes_of cdv A outer s H E) (WE1 E) := takes_of rfl rfl rfl rfl
  exact (ssj_one (sj_ret (NJ.ej (nj_lc (own0 := [("sign", 1)]) rfl sc_codes_of.nd (IJ.b (ij_seq (ej_var 0 (pv 0)))) (blkOk_by (N := N_codes_of) (sc := defScope s_codes_of) (by decide +kernel)) (fun _ _ _ _ _ => (gj_nm (pg_name (i := 1) sc_codes_of.nd rfl (by first | exact .inl rfl | exact .inr rfl)))) (by decide) (by decide) (fun _ _ _ _ _ => (ej_B fn_ord (by rfl) T.n_ord boot_ord (baj_cons (EJ.bj (ej_var 1 (pv 1))) baj_nil)))))))
theorem ok_touching_spans (T : Txt K mg) {P : Program} {w : World} {base : Heap} : FnOk P w K mg base (L2.CX P w) 1 T.a_touching_spans T.fd_touching_spans ["first", "second"] (spT K mg (Mode.fz) 2 f_touching_spans) := by
  refine fn_ok (md := Mode.fz) (G := [Mode.fz, Mode.fz, Mode.fz, Mode.fz, Mode.fz, Mode.fz, Mode.fz, Mode.fz, Mode.fz]) T.F_touching_spans sc_touching_spans 2 9 rfl rfl rfl (fun ρ => .inl rfl) fun cdv A outer s H E hr => ⟨[], ?_⟩
  have tk : Takes (cxOf (L2.CX P w) P w K mg base N_touching_spans "touching_spans" (defScope s_touching_spans) T.a_touching_spans cdv A outer s H E) (WE1 E) := takes_of rfl rfl rfl rfl
  exact (ssj_cons (sj_lc (i := 2) (lcj (own0 := [("at", 6), ("removed", 7), ("put", 8)]) rfl sc_touching_spans.nd rfl rfl (sw_true rfl rfl rfl (by decide +kernel)) (IJ.b (ij_seq (ej_bin bin_add calm_add (EJ.bj (NJ.ej (nj_Ty fn_list (by rfl) T.n_list PyProof.Rows.boot_list (baj_cons (EJ.bj (ej_var 0 (pv 0))) baj_nil)))) (EJ.bj (NJ.ej (nj_Ty fn_list (by rfl) T.n_list PyProof.Rows.boot_list (baj_cons (EJ.bj (ej_var 1 (pv 1))) baj_nil))))))) (blkOk_by (N := N_touching_spans) (sc := defScope s_touching_spans) (by decide +kernel)) (fun _ _ _ _ _ => (gj_tp rfl (gaj_cons (gj_nm (pg_name (i := 6) sc_touching_spans.nd rfl (by first | exact .inl rfl | exact .inr rfl))) (gaj_cons (gj_nm (pg_name (i := 7) sc_touching_spans.nd rfl (by first | exact .inl rfl | exact .inr rfl))) (gaj_cons (gj_nm (pg_name (i := 8) sc_touching_spans.nd rfl (by first | exact .inl rfl | exact .inr rfl))) gaj_nil))))) (by decide) (by decide) (fun _ _ _ _ _ => (ej_tup (aj_cons (ej_var 6 (pv 6)) (aj_cons (ej_bin bin_add calm_add (EJ.bj (ej_var 6 (pv 6))) (EJ.bj (ej_B fn_len (by rfl) T.n_len PySem.boot_len (baj_cons (EJ.bj (ej_var 7 (pv 7))) baj_nil)))) aj_nil)))))) (ssj_cons (sj_setN (i := 3) sc_touching_spans.nd rfl (by first | exact .inl rfl | exact .inr rfl) (nj_lst aj_nil)) (ssj_cons (sj_for (passes_of rfl) rfl (ij_seq (NJ.ej (nj_B fn_sortedP (by rfl) T.n_sorted PyProof.Rows.boot_sorted (baj_cons (EJ.bj (ej_var 2 (pv 2))) baj_nil)))) (gj_tp rfl (gaj_cons (gj_nm (pg_name (i := 4) sc_touching_spans.nd rfl (by first | exact .inl rfl | exact .inr rfl))) (gaj_cons (gj_nm (pg_name (i := 5) sc_touching_spans.nd rfl (by first | exact .inl rfl | exact .inr rfl))) gaj_nil))) (by decide) (ssj_one (sj_if (WJ.tj (wj_and (tj_cmp cmp_gt calm_gt (nomark _) (EJ.bj (ej_B fn_len (by rfl) T.n_len PySem.boot_len (baj_cons (bj_var 3 (pv 3)) baj_nil))) (EJ.bj ej_int)) (wj_and1 (tj_cmp cmp_le calm_le (nomark _) (EJ.bj (ej_var 4 (pv 4))) (EJ.bj (ej_ix (EJ.bj (ej_ix (bj_var 3 (pv 3)) (EJ.bj (ej_neg (EJ.bj ej_int))))) (EJ.bj ej_int))))))) (ssj_one (sj_setI (i := 3) (pv 3) rfl (ej_tup (aj_cons (ej_ix (EJ.bj (ej_ix (bj_var 3 (pv 3)) (EJ.bj (ej_neg (EJ.bj ej_int))))) (EJ.bj ej_int)) (aj_cons (ej_B (fn_max2 rfl) (by rfl) T.n_max boot_max (baj_cons (EJ.bj (ej_ix (EJ.bj (ej_ix (bj_var 3 (pv 3)) (EJ.bj (ej_neg (EJ.bj ej_int))))) (EJ.bj ej_int))) (baj_cons (EJ.bj (ej_var 5 (pv 5))) baj_nil))) aj_nil))) (EJ.bj (ej_neg (EJ.bj ej_int))) (fun a b => pg_sub a b set_list))) (ssj_one (sj_app (i := 3) (pv 3) rfl (ej_tup (aj_cons (ej_var 4 (pv 4)) (aj_cons (ej_var 5 (pv 5)) aj_nil)))))))) (ssj_to (G2 := [Mode.fz, Mode.fz, Mode.fz, Mode.fz, Mode.fz, Mode.fz, Mode.fz, Mode.fz, Mode.fz]) (ssj_one (sj_ret (ej_var 3 (pv 3)))) (by rfl)))))
theorem ok_side_of (T : Txt K mg) {P : Program} {w : World} {base : Heap} : FnOk P w K mg base (L2.CX P w) 1 T.a_side_of T.fd_side_of ["base", "edits", "span"] (spT K mg (Mode.fz) 3 f_side_of) := by
  refine fn_ok (md := Mode.fz) (G := [Mode.fz, Mode.fz, Mode.fz, Mode.fz, Mode.fz, Mode.fz, Mode.fz, Mode.fz]) T.F_side_of sc_side_of 3 8 rfl rfl rfl (fun ρ => .inl rfl) fun cdv A outer s H E hr => ⟨[], ?_⟩
  have tk : Takes (cxOf (L2.CX P w) P w K mg base N_side_of "side_of" (defScope s_side_of) T.a_side_of cdv A outer s H E) (WE1 E) := takes_of rfl rfl rfl rfl
  exact (ssj_cons (sj_set (i := 3) sc_side_of.nd rfl (by first | exact .inl rfl | exact .inr rfl) (NJ.ej (nj_lst aj_nil))) (ssj_cons (sj_set (i := 4) sc_side_of.nd rfl (by first | exact .inl rfl | exact .inr rfl) (ej_ix (EJ.bj (ej_var 2 (pv 2))) (EJ.bj ej_int))) (ssj_cons (sj_for (passes_of rfl) rfl (ij_seq (ej_var 1 (pv 1))) (gj_tp rfl (gaj_cons (gj_nm (pg_name (i := 5) sc_side_of.nd rfl (by first | exact .inl rfl | exact .inr rfl))) (gaj_cons (gj_nm (pg_name (i := 6) sc_side_of.nd rfl (by first | exact .inl rfl | exact .inr rfl))) (gaj_cons (gj_nm (pg_name (i := 7) sc_side_of.nd rfl (by first | exact .inl rfl | exact .inr rfl))) gaj_nil)))) (by decide) (ssj_one (sj_if (WJ.tj (wj_and (tj_cmp cmp_le calm_le (nomark _) (EJ.bj (ej_ix (EJ.bj (ej_var 2 (pv 2))) (EJ.bj ej_int))) (EJ.bj (ej_var 5 (pv 5)))) (wj_and1 (tj_cmp cmp_le calm_le (nomark _) (EJ.bj (ej_bin bin_add calm_add (EJ.bj (ej_var 5 (pv 5))) (EJ.bj (ej_B fn_len (by rfl) T.n_len PySem.boot_len (baj_cons (EJ.bj (ej_var 6 (pv 6))) baj_nil))))) (EJ.bj (ej_ix (EJ.bj (ej_var 2 (pv 2))) (EJ.bj ej_int))))))) (ssj_cons (sj_set (i := 3) sc_side_of.nd rfl (by first | exact .inl rfl | exact .inr rfl) (ej_bin bin_add calm_add (EJ.bj (ej_bin bin_add calm_add (EJ.bj (ej_var 3 (pv 3))) (EJ.bj (NJ.ej (nj_Ty fn_list (by rfl) T.n_list PyProof.Rows.boot_list (baj_cons (EJ.bj (ej_sl (EJ.bj (ej_var 0 (pv 0))) (oj_some (EJ.bj (ej_var 4 (pv 4)))) (oj_some (EJ.bj (ej_var 5 (pv 5)))))) baj_nil)))))) (EJ.bj (NJ.ej (nj_Ty fn_list (by rfl) T.n_list PyProof.Rows.boot_list (baj_cons (EJ.bj (ej_var 7 (pv 7))) baj_nil)))))) (ssj_one (sj_set (i := 4) sc_side_of.nd rfl (by first | exact .inl rfl | exact .inr rfl) (ej_bin bin_add calm_add (EJ.bj (ej_var 5 (pv 5))) (EJ.bj (ej_B fn_len (by rfl) T.n_len PySem.boot_len (baj_cons (EJ.bj (ej_var 6 (pv 6))) baj_nil))))))) ssj_nil))) (ssj_one (sj_ret (ej_Ty fn_tuple (by rfl) T.n_tuple PyProof.Rows.boot_tuple (baj_cons (EJ.bj (ej_bin bin_add calm_add (EJ.bj (ej_var 3 (pv 3))) (EJ.bj (NJ.ej (nj_Ty fn_list (by rfl) T.n_list PyProof.Rows.boot_list (baj_cons (EJ.bj (ej_sl (EJ.bj (ej_var 0 (pv 0))) (oj_some (EJ.bj (ej_var 4 (pv 4)))) (oj_some (EJ.bj (ej_ix (EJ.bj (ej_var 2 (pv 2))) (EJ.bj ej_int)))))) baj_nil)))))) baj_nil)))))))
theorem ok_region_word (T : Txt K mg) {P : Program} {w : World} {base : Heap} : FnOk P w K mg base (L2.CX P w) 1 T.a_region_word T.fd_region_word ["old", "left", "right"] (spT K mg (Mode.fz) 3 f_region_word) := by
  refine fn_ok (md := Mode.fz) (G := [Mode.fz, Mode.fz, Mode.fz]) T.F_region_word sc_region_word 3 3 rfl rfl rfl (fun ρ => .inl rfl) fun cdv A outer s H E hr => ⟨[], ?_⟩
  have tk : Takes (cxOf (L2.CX P w) P w K mg base N_region_word "region_word" (defScope s_region_word) T.a_region_word cdv A outer s H E) (WE1 E) := takes_of rfl rfl rfl rfl
  exact (ssj_cons (sj_if (tj_cmp (cmp_eq hr.units) calm_eq (nomark _) (EJ.bj (ej_var 1 (pv 1))) (EJ.bj (ej_var 2 (pv 2)))) (ssj_one (sj_ret ej_str)) ssj_nil) (ssj_cons (sj_if (tj_cmp (cmp_eq hr.units) calm_eq (nomark _) (EJ.bj (ej_var 1 (pv 1))) (EJ.bj (ej_var 0 (pv 0)))) (ssj_one (sj_ret ej_str)) ssj_nil) (ssj_cons (sj_if (tj_cmp (cmp_eq hr.units) calm_eq (nomark _) (EJ.bj (ej_var 2 (pv 2))) (EJ.bj (ej_var 0 (pv 0)))) (ssj_one (sj_ret ej_str)) ssj_nil) (ssj_one (sj_ret ej_str)))))
theorem ok_merge_lines (T : Txt K mg) {P : Program} {w : World} {base : Heap} : FnOk P w K mg base (L2.CX P w) 4 T.a_merge_lines T.fd_merge_lines ["base", "left", "right"] (spT K mg (Mode.fz) 3 f_merge_lines) := by
  refine fn_ok (md := Mode.fz) (G := [Mode.fz, Mode.fz, Mode.fz, Mode.fz, Mode.fz, Mode.fz, Mode.fz, Mode.fz, Mode.fz, Mode.fz, Mode.fz, Mode.fz]) T.F_merge_lines sc_merge_lines 3 12 rfl rfl rfl (fun ρ => .inl rfl) fun cdv A outer s H E hr => ⟨[], ?_⟩
  have tk : Takes (cxOf (L2.CX P w) P w K mg base N_merge_lines "merge_lines" (defScope s_merge_lines) T.a_merge_lines cdv A outer s H E) (WE1 E) := takes_of rfl rfl rfl rfl
  exact (ssj_cons (sj_set (i := 3) sc_merge_lines.nd rfl (by first | exact .inl rfl | exact .inr rfl) (ej_call runF_len (ok_edits_between T) (hr.mono (by decide)) (by rfl) T.g_edits_between T.F_edits_between.kp T.b_edits_between tk (aj_cons (ej_var 0 (pv 0)) (aj_cons (ej_var 1 (pv 1)) aj_nil)))) (ssj_cons (sj_set (i := 4) sc_merge_lines.nd rfl (by first | exact .inl rfl | exact .inr rfl) (ej_call runF_len (ok_edits_between T) (hr.mono (by decide)) (by rfl) T.g_edits_between T.F_edits_between.kp T.b_edits_between tk (aj_cons (ej_var 0 (pv 0)) (aj_cons (ej_var 2 (pv 2)) aj_nil)))) (ssj_cons (sj_setN (i := 5) sc_merge_lines.nd rfl (by first | exact .inl rfl | exact .inr rfl) (nj_lst aj_nil)) (ssj_cons (sj_set (i := 6) sc_merge_lines.nd rfl (by first | exact .inl rfl | exact .inr rfl) ej_int) (ssj_cons (sj_for (passes_of rfl) rfl (ij_seq (ej_call runF_len (ok_touching_spans T) (hr.mono (by decide)) (by rfl) T.g_touching_spans T.F_touching_spans.kp T.b_touching_spans tk (aj_cons (ej_var 3 (pv 3)) (aj_cons (ej_var 4 (pv 4)) aj_nil)))) (gj_nm (pg_name (i := 7) sc_merge_lines.nd rfl (by first | exact .inl rfl | exact .inr rfl))) (by decide) (ssj_cons (sj_if (tj_cmp cmp_lt calm_lt (nomark _) (EJ.bj (ej_var 6 (pv 6))) (EJ.bj (ej_ix (EJ.bj (ej_var 7 (pv 7))) (EJ.bj ej_int)))) (ssj_cons (sj_set (i := 11) sc_merge_lines.nd rfl (by first | exact .inl rfl | exact .inr rfl) (ej_Ty fn_tuple (by rfl) T.n_tuple PyProof.Rows.boot_tuple (baj_cons (EJ.bj (ej_sl (EJ.bj (ej_var 0 (pv 0))) (oj_some (EJ.bj (ej_var 6 (pv 6)))) (oj_some (EJ.bj (ej_ix (EJ.bj (ej_var 7 (pv 7))) (EJ.bj ej_int)))))) baj_nil))) (ssj_one (sj_app (i := 5) (pv 5) rfl (ej_tup (aj_cons ej_str (aj_cons (ej_var 11 (pv 11)) (aj_cons (ej_var 11 (pv 11)) (aj_cons (ej_var 11 (pv 11)) aj_nil)))))))) ssj_nil) (ssj_cons (sj_set (i := 8) sc_merge_lines.nd rfl (by first | exact .inl rfl | exact .inr rfl) (ej_Ty fn_tuple (by rfl) T.n_tuple PyProof.Rows.boot_tuple (baj_cons (EJ.bj (ej_sl (EJ.bj (ej_var 0 (pv 0))) (oj_some (EJ.bj (ej_ix (EJ.bj (ej_var 7 (pv 7))) (EJ.bj ej_int)))) (oj_some (EJ.bj (ej_ix (EJ.bj (ej_var 7 (pv 7))) (EJ.bj ej_int)))))) baj_nil))) (ssj_cons (sj_set (i := 9) sc_merge_lines.nd rfl (by first | exact .inl rfl | exact .inr rfl) (ej_call runF_len (ok_side_of T) (hr.mono (by decide)) (by rfl) T.g_side_of T.F_side_of.kp T.b_side_of tk (aj_cons (ej_var 0 (pv 0)) (aj_cons (ej_var 3 (pv 3)) (aj_cons (ej_var 7 (pv 7)) aj_nil))))) (ssj_cons (sj_set (i := 10) sc_merge_lines.nd rfl (by first | exact .inl rfl | exact .inr rfl) (ej_call runF_len (ok_side_of T) (hr.mono (by decide)) (by rfl) T.g_side_of T.F_side_of.kp T.b_side_of tk (aj_cons (ej_var 0 (pv 0)) (aj_cons (ej_var 4 (pv 4)) (aj_cons (ej_var 7 (pv 7)) aj_nil))))) (ssj_cons (sj_app (i := 5) (pv 5) rfl (ej_tup (aj_cons (ej_call runF_len (ok_region_word T) (hr.mono (by decide)) (by rfl) T.g_region_word T.F_region_word.kp T.b_region_word tk (aj_cons (ej_var 8 (pv 8)) (aj_cons (ej_var 9 (pv 9)) (aj_cons (ej_var 10 (pv 10)) aj_nil)))) (aj_cons (ej_var 8 (pv 8)) (aj_cons (ej_var 9 (pv 9)) (aj_cons (ej_var 10 (pv 10)) aj_nil)))))) (ssj_one (sj_set (i := 6) sc_merge_lines.nd rfl (by first | exact .inl rfl | exact .inr rfl) (ej_ix (EJ.bj (ej_var 7 (pv 7))) (EJ.bj ej_int)))))))))) (ssj_cons (sj_if (tj_cmp cmp_lt calm_lt (nomark _) (EJ.bj (ej_var 6 (pv 6))) (EJ.bj (ej_B fn_len (by rfl) T.n_len PySem.boot_len (baj_cons (EJ.bj (ej_var 0 (pv 0))) baj_nil)))) (ssj_cons (sj_set (i := 11) sc_merge_lines.nd rfl (by first | exact .inl rfl | exact .inr rfl) (ej_Ty fn_tuple (by rfl) T.n_tuple PyProof.Rows.boot_tuple (baj_cons (EJ.bj (ej_sl (EJ.bj (ej_var 0 (pv 0))) (oj_some (EJ.bj (ej_var 6 (pv 6)))) oj_none)) baj_nil))) (ssj_one (sj_app (i := 5) (pv 5) rfl (ej_tup (aj_cons ej_str (aj_cons (ej_var 11 (pv 11)) (aj_cons (ej_var 11 (pv 11)) (aj_cons (ej_var 11 (pv 11)) aj_nil)))))))) ssj_nil) (ssj_to (G2 := [Mode.fz, Mode.fz, Mode.fz, Mode.fz, Mode.fz, Mode.fz, Mode.fz, Mode.fz, Mode.fz, Mode.fz, Mode.fz, Mode.fz]) (ssj_one (sj_ret (ej_var 5 (pv 5)))) (by rfl))))))))
theorem ok_has_conflict (T : Txt K mg) {P : Program} {w : World} {base : Heap} : FnOk P w K mg base (L2.CX P w) 1 T.a_has_conflict T.fd_has_conflict ["regions"] (spT K mg (Mode.fz) 1 f_has_conflict) := by
  refine fn_ok (md := Mode.fz) (G := [Mode.fz, Mode.fz]) T.F_has_conflict sc_has_conflict 1 2 rfl rfl rfl (fun ρ => .inl rfl) fun cdv A outer s H E hr => ⟨[], ?_⟩
  have tk : Takes (cxOf (L2.CX P w) P w K mg base N_has_conflict "has_conflict" (defScope s_has_conflict) T.a_has_conflict cdv A outer s H E) (WE1 E) := takes_of rfl rfl rfl rfl
  exact (ssj_one (sj_ret (ej_cmp (cmp_in hr.units) calm_in (by rfl) (EJ.bj ej_str) (EJ.bj (NJ.ej (nj_lc (own0 := [("region", 1)]) rfl sc_has_conflict.nd (IJ.b (ij_seq (ej_var 0 (pv 0)))) (blkOk_by (N := N_has_conflict) (sc := defScope s_has_conflict) (by decide +kernel)) (fun _ _ _ _ _ => (gj_nm (pg_name (i := 1) sc_has_conflict.nd rfl (by first | exact .inl rfl | exact .inr rfl)))) (by decide) (by decide) (fun _ _ _ _ _ => (ej_ix (EJ.bj (ej_var 1 (pv 1))) (EJ.bj ej_int)))))))))
theorem ok_merged_lines (T : Txt K mg) {P : Program} {w : World} {base : Heap} : FnOk P w K mg base (L2.CX P w) 2 T.a_merged_lines T.fd_merged_lines ["regions"] (spT K mg (Mode.fz) 1 f_merged_lines) := by
  refine fn_ok (md := Mode.fz) (G := [Mode.fz, Mode.fz, Mode.fz, Mode.fz, Mode.fz, Mode.fz]) T.F_merged_lines sc_merged_lines 1 6 rfl rfl rfl (fun ρ => .inl rfl) fun cdv A outer s H E hr => ⟨[], ?_⟩
  have tk : Takes (cxOf (L2.CX P w) P w K mg base N_merged_lines "merged_lines" (defScope s_merged_lines) T.a_merged_lines cdv A outer s H E) (WE1 E) := takes_of rfl rfl rfl rfl
  exact (ssj_cons (sj_if (tj_tru (EJ.bj (ej_call runF_len (ok_has_conflict T) (hr.mono (by decide)) (by rfl) T.g_has_conflict T.F_has_conflict.kp T.b_has_conflict tk (aj_cons (ej_var 0 (pv 0)) aj_nil)))) (ssj_one (sj_raise0 rfl tk T.y_LinesConflict T.x_LinesConflict (by rfl))) ssj_nil) (ssj_cons (sj_set (i := 1) sc_merged_lines.nd rfl (by first | exact .inl rfl | exact .inr rfl) (NJ.ej (nj_lst aj_nil))) (ssj_cons (sj_for (passes_of rfl) rfl (ij_seq (ej_var 0 (pv 0))) (gj_tp rfl (gaj_cons (gj_nm (pg_name (i := 2) sc_merged_lines.nd rfl (by first | exact .inl rfl | exact .inr rfl))) (gaj_cons (gj_nm (pg_name (i := 3) sc_merged_lines.nd rfl (by first | exact .inl rfl | exact .inr rfl))) (gaj_cons (gj_nm (pg_name (i := 4) sc_merged_lines.nd rfl (by first | exact .inl rfl | exact .inr rfl))) (gaj_cons (gj_nm (pg_name (i := 5) sc_merged_lines.nd rfl (by first | exact .inl rfl | exact .inr rfl))) gaj_nil))))) (by decide) (ssj_one (sj_if (tj_cmp (cmp_eq hr.units) calm_eq (nomark _) (EJ.bj (ej_var 2 (pv 2))) (EJ.bj ej_str)) (ssj_one (sj_set (i := 1) sc_merged_lines.nd rfl (by first | exact .inl rfl | exact .inr rfl) (ej_bin bin_add calm_add (EJ.bj (ej_var 1 (pv 1))) (EJ.bj (NJ.ej (nj_Ty fn_list (by rfl) T.n_list PyProof.Rows.boot_list (baj_cons (EJ.bj (ej_var 5 (pv 5))) baj_nil))))))) (ssj_one (sj_set (i := 1) sc_merged_lines.nd rfl (by first | exact .inl rfl | exact .inr rfl) (ej_bin bin_add calm_add (EJ.bj (ej_var 1 (pv 1))) (EJ.bj (NJ.ej (nj_Ty fn_list (by rfl) T.n_list PyProof.Rows.boot_list (baj_cons (EJ.bj (ej_var 4 (pv 4))) baj_nil)))))))))) (ssj_one (sj_ret (ej_var 1 (pv 1)))))))
theorem ok_ended (T : Txt K mg) {P : Program} {w : World} {base : Heap} : FnOk P w K mg base (L2.CX P w) 1 T.a_ended T.fd_ended ["lines"] (spT K mg (Mode.fz) 1 f_ended) := by
  refine fn_ok (md := Mode.fz) (G := [Mode.fz, Mode.fz]) T.F_ended sc_ended 1 2 rfl rfl rfl (fun ρ => .inl rfl) fun cdv A outer s H E hr => ⟨[], ?_⟩
  have tk : Takes (cxOf (L2.CX P w) P w K mg base N_ended "ended" (defScope s_ended) T.a_ended cdv A outer s H E) (WE1 E) := takes_of rfl rfl rfl rfl
  exact (ssj_cons (sj_setN (i := 1) sc_ended.nd rfl (by first | exact .inl rfl | exact .inr rfl) (nj_Ty fn_list (by rfl) T.n_list PyProof.Rows.boot_list (baj_cons (EJ.bj (ej_var 0 (pv 0))) baj_nil))) (ssj_cons (sj_if (WJ.tj (wj_and (tj_cmp cmp_gt calm_gt (nomark _) (EJ.bj (ej_B fn_len (by rfl) T.n_len PySem.boot_len (baj_cons (bj_var 1 (pv 1)) baj_nil))) (EJ.bj ej_int)) (wj_and1 (tj_cmp (cmp_ne hr.units) calm_ne (nomark _) (EJ.bj (ej_ix (EJ.bj (ej_ix (bj_var 1 (pv 1)) (EJ.bj (ej_neg (EJ.bj ej_int))))) (EJ.bj (ej_neg (EJ.bj ej_int))))) (EJ.bj (T.e_NEWLINE rfl)))))) (ssj_one (sj_setI (i := 1) (pv 1) rfl (ej_bin bin_add calm_add (EJ.bj (ej_ix (bj_var 1 (pv 1)) (EJ.bj (ej_neg (EJ.bj ej_int))))) (EJ.bj (ej_tup (aj_cons (T.e_NEWLINE rfl) aj_nil)))) (EJ.bj (ej_neg (EJ.bj ej_int))) (fun a b => pg_sub a b set_list))) ssj_nil) (ssj_to (G2 := [Mode.fz, Mode.fz]) (ssj_one (sj_ret (ej_var 1 (pv 1)))) (by rfl))))
theorem ok_marked_lines (T : Txt K mg) {P : Program} {w : World} {base : Heap} : FnOk P w K mg base (L2.CX P w) 2 T.a_marked_lines T.fd_marked_lines ["regions"] (spT K mg (Mode.fz) 1 f_marked_lines) := by
  refine fn_ok (md := Mode.fz) (G := [Mode.fz, Mode.fz, Mode.fz, Mode.fz, Mode.fz, Mode.fz]) T.F_marked_lines sc_marked_lines 1 6 rfl rfl rfl (fun ρ => .inl rfl) fun cdv A outer s H E hr => ⟨[], ?_⟩
  have tk : Takes (cxOf (L2.CX P w) P w K mg base N_marked_lines "marked_lines" (defScope s_marked_lines) T.a_marked_lines cdv A outer s H E) (WE1 E) := takes_of rfl rfl rfl rfl
  exact (ssj_cons (sj_set (i := 1) sc_marked_lines.nd rfl (by first | exact .inl rfl | exact .inr rfl) (NJ.ej (nj_lst aj_nil))) (ssj_cons (sj_for (passes_of rfl) rfl (ij_seq (ej_var 0 (pv 0))) (gj_tp rfl (gaj_cons (gj_nm (pg_name (i := 2) sc_marked_lines.nd rfl (by first | exact .inl rfl | exact .inr rfl))) (gaj_cons (gj_nm (pg_name (i := 3) sc_marked_lines.nd rfl (by first | exact .inl rfl | exact .inr rfl))) (gaj_cons (gj_nm (pg_name (i := 4) sc_marked_lines.nd rfl (by first | exact .inl rfl | exact .inr rfl))) (gaj_cons (gj_nm (pg_name (i := 5) sc_marked_lines.nd rfl (by first | exact .inl rfl | exact .inr rfl))) gaj_nil))))) (by decide) (ssj_one (sj_if (tj_cmp (cmp_eq hr.units) calm_eq (nomark _) (EJ.bj (ej_var 2 (pv 2))) (EJ.bj ej_str)) (ssj_one (sj_set (i := 1) sc_marked_lines.nd rfl (by first | exact .inl rfl | exact .inr rfl) (ej_bin bin_add calm_add (EJ.bj (ej_var 1 (pv 1))) (EJ.bj (NJ.ej (nj_Ty fn_list (by rfl) T.n_list PyProof.Rows.boot_list (baj_cons (EJ.bj (ej_var 5 (pv 5))) baj_nil))))))) (ssj_one (sj_if (tj_cmp (cmp_ne hr.units) calm_ne (nomark _) (EJ.bj (ej_var 2 (pv 2))) (EJ.bj ej_str)) (ssj_one (sj_set (i := 1) sc_marked_lines.nd rfl (by first | exact .inl rfl | exact .inr rfl) (ej_bin bin_add calm_add (EJ.bj (ej_var 1 (pv 1))) (EJ.bj (NJ.ej (nj_Ty fn_list (by rfl) T.n_list PyProof.Rows.boot_list (baj_cons (EJ.bj (ej_var 4 (pv 4))) baj_nil))))))) (ssj_cons (sj_set (i := 1) sc_marked_lines.nd rfl (by first | exact .inl rfl | exact .inr rfl) (ej_bin bin_add calm_add (EJ.bj (ej_bin bin_add calm_add (EJ.bj (ej_call runF_len (ok_ended T) (hr.mono (by decide)) (by rfl) T.g_ended T.F_ended.kp T.b_ended tk (aj_cons (ej_var 1 (pv 1)) aj_nil))) (EJ.bj (NJ.ej (nj_lst (aj_cons (ej_Ty fn_tuple (by rfl) T.n_tuple PyProof.Rows.boot_tuple (baj_cons (EJ.bj (ej_bin bin_add calm_add (EJ.bj (ej_call runF_len (ok_codes_of T) (hr.mono (by decide)) (by rfl) T.g_codes_of T.F_codes_of.kp T.b_codes_of tk (aj_cons (T.e_OPENING rfl) aj_nil))) (EJ.bj (NJ.ej (nj_lst (aj_cons (T.e_NEWLINE rfl) aj_nil)))))) baj_nil)) aj_nil)))))) (EJ.bj (ej_call runF_len (ok_ended T) (hr.mono (by decide)) (by rfl) T.g_ended T.F_ended.kp T.b_ended tk (aj_cons (ej_var 4 (pv 4)) aj_nil))))) (ssj_cons (sj_set (i := 1) sc_marked_lines.nd rfl (by first | exact .inl rfl | exact .inr rfl) (ej_bin bin_add calm_add (EJ.bj (ej_bin bin_add calm_add (EJ.bj (ej_var 1 (pv 1))) (EJ.bj (NJ.ej (nj_lst (aj_cons (ej_Ty fn_tuple (by rfl) T.n_tuple PyProof.Rows.boot_tuple (baj_cons (EJ.bj (ej_bin bin_add calm_add (EJ.bj (ej_call runF_len (ok_codes_of T) (hr.mono (by decide)) (by rfl) T.g_codes_of T.F_codes_of.kp T.b_codes_of tk (aj_cons (T.e_MIDDLE rfl) aj_nil))) (EJ.bj (NJ.ej (nj_lst (aj_cons (T.e_NEWLINE rfl) aj_nil)))))) baj_nil)) aj_nil)))))) (EJ.bj (ej_call runF_len (ok_ended T) (hr.mono (by decide)) (by rfl) T.g_ended T.F_ended.kp T.b_ended tk (aj_cons (ej_var 5 (pv 5)) aj_nil))))) (ssj_one (sj_set (i := 1) sc_marked_lines.nd rfl (by first | exact .inl rfl | exact .inr rfl) (ej_bin bin_add calm_add (EJ.bj (ej_var 1 (pv 1))) (EJ.bj (NJ.ej (nj_lst (aj_cons (ej_Ty fn_tuple (by rfl) T.n_tuple PyProof.Rows.boot_tuple (baj_cons (EJ.bj (ej_bin bin_add calm_add (EJ.bj (ej_call runF_len (ok_codes_of T) (hr.mono (by decide)) (by rfl) T.g_codes_of T.F_codes_of.kp T.b_codes_of tk (aj_cons (T.e_CLOSING rfl) aj_nil))) (EJ.bj (NJ.ej (nj_lst (aj_cons (T.e_NEWLINE rfl) aj_nil)))))) baj_nil)) aj_nil)))))))))))))) (ssj_one (sj_ret (ej_var 1 (pv 1))))))
theorem ok__law_draws (T : Txt K mg) {P : Program} {w : World} {base : Heap} : FnOk P w K mg base (L2.CX P w) 1 T.a__law_draws T.fd__law_draws ["script", "count"] (spT K mg (Mode.fz) 2 f__law_draws) := by
  refine fn_ok (md := Mode.fz) (G := [Mode.fz, Mode.fz, Mode.fz, Mode.fz, Mode.fz]) T.F__law_draws sc__law_draws 2 5 rfl rfl rfl (fun ρ => .inl rfl) fun cdv A outer s H E hr => ⟨[], ?_⟩
  have tk : Takes (cxOf (L2.CX P w) P w K mg base N__law_draws "_law_draws" (defScope s__law_draws) T.a__law_draws cdv A outer s H E) (WE1 E) := takes_of rfl rfl rfl rfl
  exact (ssj_cons (sj_setN (i := 2) sc__law_draws.nd rfl (by first | exact .inl rfl | exact .inr rfl) (nj_lst aj_nil)) (ssj_cons (sj_for (passes_of rfl) rfl (ij_range1 (by rfl) T.n_range (aj_cons (ej_var 1 (pv 1)) aj_nil)) (gj_nm (pg_name (i := 3) sc__law_draws.nd rfl (by first | exact .inl rfl | exact .inr rfl))) (by decide) (ssj_cons (sj_set (i := 4) sc__law_draws.nd rfl (by first | exact .inl rfl | exact .inr rfl) ej_int) (ssj_cons (sj_if (tj_cmp cmp_gt calm_gt (nomark _) (EJ.bj (ej_B fn_len (by rfl) T.n_len PySem.boot_len (baj_cons (EJ.bj (ej_var 0 (pv 0))) baj_nil))) (EJ.bj ej_int)) (ssj_one (sj_set (i := 4) sc__law_draws.nd rfl (by first | exact .inl rfl | exact .inr rfl) (ej_Ty fn_int (by rfl) T.n_int PyProof.Rows.boot_int (baj_cons (EJ.bj (ej_ix (EJ.bj (ej_var 0 (pv 0))) (EJ.bj (ej_bin bin_mod calm_mod (EJ.bj (ej_var 3 (pv 3))) (EJ.bj (ej_B fn_len (by rfl) T.n_len PySem.boot_len (baj_cons (EJ.bj (ej_var 0 (pv 0))) baj_nil))))))) baj_nil)))) ssj_nil) (ssj_cons (sj_if (tj_cmp cmp_lt calm_lt (nomark _) (EJ.bj (ej_var 4 (pv 4))) (EJ.bj ej_int)) (ssj_one (sj_set (i := 4) sc__law_draws.nd rfl (by first | exact .inl rfl | exact .inr rfl) (ej_bin bin_sub calm_sub (EJ.bj ej_int) (EJ.bj (ej_bin bin_mul calm_mul (EJ.bj ej_int) (EJ.bj (ej_var 4 (pv 4)))))))) ssj_nil) (ssj_cons (sj_if (WJ.tj (wj_or (tj_cmp cmp_lt calm_lt (nomark _) (EJ.bj (ej_var 4 (pv 4))) (EJ.bj ej_int)) (wj_or1 (tj_cmp cmp_ge calm_ge (nomark _) (EJ.bj (ej_var 3 (pv 3))) (EJ.bj (ej_B fn_len (by rfl) T.n_len PySem.boot_len (baj_cons (EJ.bj (ej_var 0 (pv 0))) baj_nil))))))) (ssj_cons (sj_set (i := 4) sc__law_draws.nd rfl (by first | exact .inl rfl | exact .inr rfl) (ej_bin bin_mod calm_mod (EJ.bj (ej_Ty fn_int (by rfl) T.n_int PyProof.Rows.boot_int (baj_cons (EJ.bj (ej_bin bin_add calm_add (EJ.bj (ej_bin bin_mul calm_mul (EJ.bj (ej_var 4 (pv 4))) (EJ.bj ej_int))) (EJ.bj (ej_bin bin_mul calm_mul (EJ.bj ej_int) (EJ.bj (ej_bin bin_add calm_add (EJ.bj (ej_var 3 (pv 3))) (EJ.bj ej_int))))))) baj_nil))) (EJ.bj ej_int))) (ssj_one (sj_set (i := 4) sc__law_draws.nd rfl (by first | exact .inl rfl | exact .inr rfl) (ej_bin bin_mod calm_mod (EJ.bj (ej_Ty fn_int (by rfl) T.n_int PyProof.Rows.boot_int (baj_cons (EJ.bj (ej_bin bin_add calm_add (EJ.bj (ej_bin bin_add calm_add (EJ.bj (ej_bin bin_mul calm_mul (EJ.bj (ej_var 4 (pv 4))) (EJ.bj ej_int))) (EJ.bj ej_int))) (EJ.bj (ej_var 3 (pv 3))))) baj_nil))) (EJ.bj ej_int))))) ssj_nil) (ssj_one (sj_app (i := 2) (pv 2) rfl (ej_var 4 (pv 4))))))))) (ssj_to (G2 := [Mode.fz, Mode.fz, Mode.fz, Mode.fz, Mode.fz]) (ssj_one (sj_ret (ej_var 2 (pv 2)))) (by rfl))))
theorem ok__law_line (T : Txt K mg) {P : Program} {w : World} {base : Heap} : FnOk P w K mg base (L2.CX P w) 1 T.a__law_line T.fd__law_line ["cell"] (spT K mg (Mode.fz) 1 f__law_line) := by
  refine fn_ok (md := Mode.fz) (G := [Mode.fz, Mode.fz]) T.F__law_line sc__law_line 1 2 rfl rfl rfl (fun ρ => .inl rfl) fun cdv A outer s H E hr => ⟨[], ?_⟩
  have tk : Takes (cxOf (L2.CX P w) P w K mg base N__law_line "_law_line" (defScope s__law_line) T.a__law_line cdv A outer s H E) (WE1 E) := takes_of rfl rfl rfl rfl
  exact (ssj_cons (sj_set (i := 1) sc__law_line.nd rfl (by first | exact .inl rfl | exact .inr rfl) (ej_bin bin_mod calm_mod (EJ.bj (ej_Ty fn_int (by rfl) T.n_int PyProof.Rows.boot_int (baj_cons (EJ.bj (ej_var 0 (pv 0))) baj_nil))) (EJ.bj ej_int))) (ssj_cons (sj_if (tj_cmp cmp_lt calm_lt (nomark _) (EJ.bj (ej_var 1 (pv 1))) (EJ.bj ej_int)) (ssj_one (sj_ret (ej_tup (aj_cons (ej_bin bin_add calm_add (EJ.bj ej_int) (EJ.bj (ej_var 1 (pv 1)))) (aj_cons ej_int aj_nil))))) ssj_nil) (ssj_cons (sj_if (tj_cmp (cmp_eq hr.units) calm_eq (nomark _) (EJ.bj (ej_var 1 (pv 1))) (EJ.bj ej_int)) (ssj_one (sj_ret (ej_tup (aj_cons ej_int aj_nil)))) ssj_nil) (ssj_cons (sj_if (tj_cmp (cmp_eq hr.units) calm_eq (nomark _) (EJ.bj (ej_var 1 (pv 1))) (EJ.bj ej_int)) (ssj_one (sj_ret (ej_tup (aj_cons (ej_bin bin_mod calm_mod (EJ.bj (ej_Ty fn_int (by rfl) T.n_int PyProof.Rows.boot_int (baj_cons (EJ.bj (ej_bin bin_div calm_div (EJ.bj (ej_var 0 (pv 0))) (EJ.bj ej_int))) baj_nil))) (EJ.bj ej_int)) (aj_cons (ej_bin bin_add calm_add (EJ.bj ej_int) (EJ.bj (ej_bin bin_mod calm_mod (EJ.bj (ej_Ty fn_int (by rfl) T.n_int PyProof.Rows.boot_int (baj_cons (EJ.bj (ej_bin bin_div calm_div (EJ.bj (ej_var 0 (pv 0))) (EJ.bj ej_int))) baj_nil))) (EJ.bj ej_int)))) (aj_cons ej_int aj_nil)))))) ssj_nil) (ssj_one (sj_ret (ej_tup (aj_cons ej_int (aj_cons ej_int (aj_cons ej_int (aj_cons ej_int aj_nil)))))))))))
theorem ok__law_lines (T : Txt K mg) {P : Program} {w : World} {base : Heap} : FnOk P w K mg base (L2.CX P w) 2 T.a__law_lines T.fd__law_lines ["draw", "other"] (spT K mg (Mode.fz) 2 f__law_lines) := by
  refine fn_ok (md := Mode.fz) (G := [Mode.fz, Mode.fz, Mode.fz]) T.F__law_lines sc__law_lines 2 3 rfl rfl rfl (fun ρ => .inl rfl) fun cdv A outer s H E hr => ⟨[], ?_⟩
  have tk : Takes (cxOf (L2.CX P w) P w K mg base N__law_lines "_law_lines" (defScope s__law_lines) T.a__law_lines cdv A outer s H E) (WE1 E) := takes_of rfl rfl rfl rfl
  exact (ssj_one (sj_ret (NJ.ej (nj_lc (own0 := [("k", 2)]) rfl sc__law_lines.nd (IJ.b (ij_range1 (by rfl) T.n_range (aj_cons (ej_bin bin_mod calm_mod (EJ.bj (ej_Ty fn_int (by rfl) T.n_int PyProof.Rows.boot_int (baj_cons (EJ.bj (ej_var 0 (pv 0))) baj_nil))) (EJ.bj ej_int)) aj_nil))) (blkOk_by (N := N__law_lines) (sc := defScope s__law_lines) (by decide +kernel)) (fun _ _ _ _ _ => (gj_nm (pg_name (i := 2) sc__law_lines.nd rfl (by first | exact .inl rfl | exact .inr rfl)))) (by decide) (by decide) (fun _ _ _ _ _ => (ej_call runF_len (ok__law_line T) (hr.mono (by decide)) (by rfl) T.g__law_line T.F__law_line.kp T.b__law_line takes0 (aj_cons (ej_bin bin_add calm_add (EJ.bj (ej_bin bin_div calm_div (EJ.bj (ej_var 1 (pv 1))) (EJ.bj (ej_bin bin_add calm_add (EJ.bj (ej_bin bin_mul calm_mul (EJ.bj ej_int) (EJ.bj (ej_var 2 (pv 2))))) (EJ.bj ej_int))))) (EJ.bj (ej_bin bin_mul calm_mul (EJ.bj (ej_var 2 (pv 2))) (EJ.bj (ej_var 0 (pv 0)))))) aj_nil)))))))
theorem ok__law_changed (T : Txt K mg) {P : Program} {w : World} {base : Heap} : FnOk P w K mg base (L2.CX P w) 2 T.a__law_changed T.fd__law_changed ["lines", "draw"] (spT K mg (Mode.fz) 2 f__law_changed) := by
  refine fn_ok (md := Mode.fz) (G := [Mode.fz, Mode.fz, Mode.fz, Mode.fz, Mode.fz]) T.F__law_changed sc__law_changed 2 5 rfl rfl rfl (fun ρ => .inl rfl) fun cdv A outer s H E hr => ⟨[], ?_⟩
  have tk : Takes (cxOf (L2.CX P w) P w K mg base N__law_changed "_law_changed" (defScope s__law_changed) T.a__law_changed cdv A outer s H E) (WE1 E) := takes_of rfl rfl rfl rfl
  exact (ssj_cons (sj_setN (i := 2) sc__law_changed.nd rfl (by first | exact .inl rfl | exact .inr rfl) (nj_lst aj_nil)) (ssj_cons (sj_for (passes_of rfl) rfl (ij_range1 (by rfl) T.n_range (aj_cons (ej_B fn_len (by rfl) T.n_len PySem.boot_len (baj_cons (EJ.bj (ej_var 0 (pv 0))) baj_nil)) aj_nil)) (gj_nm (pg_name (i := 3) sc__law_changed.nd rfl (by first | exact .inl rfl | exact .inr rfl))) (by decide) (ssj_cons (sj_set (i := 4) sc__law_changed.nd rfl (by first | exact .inl rfl | exact .inr rfl) (ej_bin bin_mod calm_mod (EJ.bj (ej_Ty fn_int (by rfl) T.n_int PyProof.Rows.boot_int (baj_cons (EJ.bj (ej_bin bin_div calm_div (EJ.bj (ej_var 1 (pv 1))) (EJ.bj (ej_bin bin_add calm_add (EJ.bj (ej_bin bin_mul calm_mul (EJ.bj ej_int) (EJ.bj (ej_var 3 (pv 3))))) (EJ.bj ej_int))))) baj_nil))) (EJ.bj ej_int))) (ssj_cons (sj_if (tj_cmp (cmp_eq hr.units) calm_eq (nomark _) (EJ.bj (ej_var 4 (pv 4))) (EJ.bj ej_int)) (ssj_one (sj_app (i := 2) (pv 2) rfl (ej_call runF_len (ok__law_line T) (hr.mono (by decide)) (by rfl) T.g__law_line T.F__law_line.kp T.b__law_line tk (aj_cons (ej_bin bin_div calm_div (EJ.bj (ej_var 1 (pv 1))) (EJ.bj (ej_bin bin_add calm_add (EJ.bj (ej_var 3 (pv 3))) (EJ.bj ej_int)))) aj_nil)))) ssj_nil) (ssj_cons (sj_if (tj_cmp cmp_gt calm_gt (nomark _) (EJ.bj (ej_var 4 (pv 4))) (EJ.bj ej_int)) (ssj_one (sj_app (i := 2) (pv 2) rfl (ej_ix (EJ.bj (ej_var 0 (pv 0))) (EJ.bj (ej_var 3 (pv 3)))))) ssj_nil) (ssj_one (sj_if (tj_cmp (cmp_eq hr.units) calm_eq (nomark _) (EJ.bj (ej_var 4 (pv 4))) (EJ.bj ej_int)) (ssj_one (sj_app (i := 2) (pv 2) rfl (ej_call runF_len (ok__law_line T) (hr.mono (by decide)) (by rfl) T.g__law_line T.F__law_line.kp T.b__law_line tk (aj_cons (ej_bin bin_div calm_div (EJ.bj (ej_var 1 (pv 1))) (EJ.bj (ej_bin bin_add calm_add (EJ.bj (ej_var 3 (pv 3))) (EJ.bj ej_int)))) aj_nil)))) ssj_nil)))))) (ssj_cons (sj_if (tj_cmp (cmp_eq hr.units) calm_eq (nomark _) (EJ.bj (ej_bin bin_mod calm_mod (EJ.bj (ej_Ty fn_int (by rfl) T.n_int PyProof.Rows.boot_int (baj_cons (EJ.bj (ej_bin bin_div calm_div (EJ.bj (ej_var 1 (pv 1))) (EJ.bj ej_int))) baj_nil))) (EJ.bj ej_int))) (EJ.bj ej_int)) (ssj_one (sj_app (i := 2) (pv 2) rfl (ej_tup (aj_cons ej_int (aj_cons ej_int aj_nil))))) ssj_nil) (ssj_to (G2 := [Mode.fz, Mode.fz, Mode.fz, Mode.fz, Mode.fz]) (ssj_one (sj_ret (ej_var 2 (pv 2)))) (by rfl)))))
theorem ok__law_turned (T : Txt K mg) {P : Program} {w : World} {base : Heap} : FnOk P w K mg base (L2.CX P w) 1 T.a__law_turned T.fd__law_turned ["regions"] (spT K mg (Mode.fz) 1 f__law_turned) := by
  refine fn_ok (md := Mode.fz) (G := [Mode.fz, Mode.fz, Mode.fz, Mode.fz, Mode.fz, Mode.fz, Mode.fz]) T.F__law_turned sc__law_turned 1 7 rfl rfl rfl (fun ρ => .inl rfl) fun cdv A outer s H E hr => ⟨[], ?_⟩
  have tk : Takes (cxOf (L2.CX P w) P w K mg base N__law_turned "_law_turned" (defScope s__law_turned) T.a__law_turned cdv A outer s H E) (WE1 E) := takes_of rfl rfl rfl rfl
  exact (ssj_cons (sj_set (i := 1) sc__law_turned.nd rfl (by first | exact .inl rfl | exact .inr rfl) (ej_dct (cj_cons con_s con_s (cj_cons con_s con_s (cj_cons con_s con_s (cj_cons con_s con_s (cj_cons con_s con_s cj_nil))))) (by decide +kernel) rfl rfl (by intro z; cases z) (by decide) (by decide))) (ssj_cons (sj_setN (i := 2) sc__law_turned.nd rfl (by first | exact .inl rfl | exact .inr rfl) (nj_lst aj_nil)) (ssj_cons (sj_for (passes_of rfl) rfl (ij_seq (ej_var 0 (pv 0))) (gj_tp rfl (gaj_cons (gj_nm (pg_name (i := 3) sc__law_turned.nd rfl (by first | exact .inl rfl | exact .inr rfl))) (gaj_cons (gj_nm (pg_name (i := 4) sc__law_turned.nd rfl (by first | exact .inl rfl | exact .inr rfl))) (gaj_cons (gj_nm (pg_name (i := 5) sc__law_turned.nd rfl (by first | exact .inl rfl | exact .inr rfl))) (gaj_cons (gj_nm (pg_name (i := 6) sc__law_turned.nd rfl (by first | exact .inl rfl | exact .inr rfl))) gaj_nil))))) (by decide) (ssj_one (sj_app (i := 2) (pv 2) rfl (ej_tup (aj_cons (ej_dget (hu_of hr) (ej_var 1 (pv 1)) (ej_var 3 (pv 3))) (aj_cons (ej_var 4 (pv 4)) (aj_cons (ej_var 6 (pv 6)) (aj_cons (ej_var 5 (pv 5)) aj_nil)))))))) (ssj_to (G2 := [Mode.fz, Mode.fz, Mode.fz, Mode.fz, Mode.fz, Mode.fz, Mode.fz]) (ssj_one (sj_ret (ej_var 2 (pv 2)))) (by rfl)))))
theorem ok_law (T : Txt K mg) {P : Program} {w : World} {base : Heap} : FnOk P w K mg base (L2.CX P w) 5 T.a_law T.fd_law ["script"] (spT K mg (Mode.fz) 1 f_law) := by
  refine fn_ok (md := Mode.fz) (G := [Mode.fz, Mode.fz, Mode.fz, Mode.fz, Mode.fz, Mode.fz]) T.F_law sc_law 1 6 rfl rfl rfl (fun ρ => .inl rfl) fun cdv A outer s H E hr => ⟨[], ?_⟩
  have tk : Takes (cxOf (L2.CX P w) P w K mg base N_law "law" (defScope s_law) T.a_law cdv A outer s H E) (WE1 E) := takes_of rfl rfl rfl rfl
  exact (ssj_cons (sj_set (i := 1) sc_law.nd rfl (by first | exact .inl rfl | exact .inr rfl) (ej_call runF_len (ok__law_draws T) (hr.mono (by decide)) (by rfl) T.g__law_draws T.F__law_draws.kp T.b__law_draws tk (aj_cons (ej_var 0 (pv 0)) (aj_cons ej_int aj_nil)))) (ssj_cons (sj_set (i := 2) sc_law.nd rfl (by first | exact .inl rfl | exact .inr rfl) (ej_call runF_len (ok__law_lines T) (hr.mono (by decide)) (by rfl) T.g__law_lines T.F__law_lines.kp T.b__law_lines tk (aj_cons (ej_ix (EJ.bj (ej_var 1 (pv 1))) (EJ.bj ej_int)) (aj_cons (ej_ix (EJ.bj (ej_var 1 (pv 1))) (EJ.bj ej_int)) aj_nil)))) (ssj_cons (sj_set (i := 3) sc_law.nd rfl (by first | exact .inl rfl | exact .inr rfl) (ej_call runF_len (ok__law_changed T) (hr.mono (by decide)) (by rfl) T.g__law_changed T.F__law_changed.kp T.b__law_changed tk (aj_cons (ej_var 2 (pv 2)) (aj_cons (ej_ix (EJ.bj (ej_var 1 (pv 1))) (EJ.bj ej_int)) aj_nil)))) (ssj_cons (sj_set (i := 4) sc_law.nd rfl (by first | exact .inl rfl | exact .inr rfl) (ej_call runF_len (ok__law_changed T) (hr.mono (by decide)) (by rfl) T.g__law_changed T.F__law_changed.kp T.b__law_changed tk (aj_cons (ej_var 2 (pv 2)) (aj_cons (ej_ix (EJ.bj (ej_var 1 (pv 1))) (EJ.bj ej_int)) aj_nil)))) (ssj_cons (sj_set (i := 5) sc_law.nd rfl (by first | exact .inl rfl | exact .inr rfl) (ej_call runF_len (ok_merge_lines T) (hr.mono (by decide)) (by rfl) T.g_merge_lines T.F_merge_lines.kp T.b_merge_lines tk (aj_cons (ej_var 2 (pv 2)) (aj_cons (ej_var 3 (pv 3)) (aj_cons (ej_var 4 (pv 4)) aj_nil))))) (ssj_cons (sj_if (tj_cmp (cmp_ne hr.units) calm_ne (nomark _) (EJ.bj (ej_call runF_len (ok_merge_lines T) (hr.mono (by decide)) (by rfl) T.g_merge_lines T.F_merge_lines.kp T.b_merge_lines tk (aj_cons (ej_var 2 (pv 2)) (aj_cons (ej_var 4 (pv 4)) (aj_cons (ej_var 3 (pv 3)) aj_nil))))) (EJ.bj (ej_call runF_len (ok__law_turned T) (hr.mono (by decide)) (by rfl) T.g__law_turned T.F__law_turned.kp T.b__law_turned tk (aj_cons (ej_var 5 (pv 5)) aj_nil)))) (ssj_one (sj_ret ej_bl)) ssj_nil) (ssj_cons (sj_if (tj_not (tj_tru (EJ.bj (ej_call runF_len (ok_has_conflict T) (hr.mono (by decide)) (by rfl) T.g_has_conflict T.F_has_conflict.kp T.b_has_conflict tk (aj_cons (ej_var 5 (pv 5)) aj_nil))))) (ssj_cons (sj_if (tj_cmp (cmp_ne hr.units) calm_ne (nomark _) (EJ.bj (ej_call runF_len (ok_marked_lines T) (hr.mono (by decide)) (by rfl) T.g_marked_lines T.F_marked_lines.kp T.b_marked_lines tk (aj_cons (ej_var 5 (pv 5)) aj_nil))) (EJ.bj (ej_call runF_len (ok_merged_lines T) (hr.mono (by decide)) (by rfl) T.g_merged_lines T.F_merged_lines.kp T.b_merged_lines tk (aj_cons (ej_var 5 (pv 5)) aj_nil)))) (ssj_one (sj_ret ej_bl)) ssj_nil) (ssj_one (sj_if (tj_cmp (cmp_ne hr.units) calm_ne (nomark _) (EJ.bj (ej_call runF_len (ok_merged_lines T) (hr.mono (by decide)) (by rfl) T.g_merged_lines T.F_merged_lines.kp T.b_merged_lines tk (aj_cons (ej_call runF_len (ok_merge_lines T) (hr.mono (by decide)) (by rfl) T.g_merge_lines T.F_merge_lines.kp T.b_merge_lines tk (aj_cons (ej_var 2 (pv 2)) (aj_cons (ej_var 4 (pv 4)) (aj_cons (ej_var 3 (pv 3)) aj_nil)))) aj_nil))) (EJ.bj (ej_call runF_len (ok_merged_lines T) (hr.mono (by decide)) (by rfl) T.g_merged_lines T.F_merged_lines.kp T.b_merged_lines tk (aj_cons (ej_var 5 (pv 5)) aj_nil)))) (ssj_one (sj_ret ej_bl)) ssj_nil))) ssj_nil) (ssj_cons (sj_if (WJ.tj (wj_or (tj_cmp (cmp_ne hr.units) calm_ne (nomark _) (EJ.bj (ej_call runF_len (ok_merged_lines T) (hr.mono (by decide)) (by rfl) T.g_merged_lines T.F_merged_lines.kp T.b_merged_lines tk (aj_cons (ej_call runF_len (ok_merge_lines T) (hr.mono (by decide)) (by rfl) T.g_merge_lines T.F_merge_lines.kp T.b_merge_lines tk (aj_cons (ej_var 2 (pv 2)) (aj_cons (ej_var 3 (pv 3)) (aj_cons (ej_var 2 (pv 2)) aj_nil)))) aj_nil))) (EJ.bj (ej_var 3 (pv 3)))) (wj_or1 (tj_cmp (cmp_ne hr.units) calm_ne (nomark _) (EJ.bj (ej_call runF_len (ok_merged_lines T) (hr.mono (by decide)) (by rfl) T.g_merged_lines T.F_merged_lines.kp T.b_merged_lines tk (aj_cons (ej_call runF_len (ok_merge_lines T) (hr.mono (by decide)) (by rfl) T.g_merge_lines T.F_merge_lines.kp T.b_merge_lines tk (aj_cons (ej_var 2 (pv 2)) (aj_cons (ej_var 2 (pv 2)) (aj_cons (ej_var 4 (pv 4)) aj_nil)))) aj_nil))) (EJ.bj (ej_var 4 (pv 4))))))) (ssj_one (sj_ret ej_bl)) ssj_nil) (ssj_one (sj_ret (ej_cmp (cmp_eq hr.units) calm_eq (nomark _) (EJ.bj (ej_call runF_len (ok_merged_lines T) (hr.mono (by decide)) (by rfl) T.g_merged_lines T.F_merged_lines.kp T.b_merged_lines tk (aj_cons (ej_call runF_len (ok_merge_lines T) (hr.mono (by decide)) (by rfl) T.g_merge_lines T.F_merge_lines.kp T.b_merge_lines tk (aj_cons (ej_var 2 (pv 2)) (aj_cons (ej_var 3 (pv 3)) (aj_cons (ej_var 3 (pv 3)) aj_nil)))) aj_nil))) (EJ.bj (ej_var 3 (pv 3))))))))))))))
end
theorem all_mk (goal : ∀ ns : List Int, ns.length ≤ 63 → (∀ z ∈ ns, Builtin.Int.intBits z ≤ 1048576) → f_law [.scr (ns.map D.int)] = .ok (.bl true)) {l : PySem.W.OpenLaw} {w : World} {K : PySem.W.Frag} {h : Heap} {mg : Str → Option Value} {fa : Addr} (X : K.In h) (G : h.Ns mainGlobals mg) (hfa : mg "law" = some (.ref fa)) {f0 f1 f2 f3 f4 f5 f6 f7 f8 f9 f10 f11 f12 f13 f14 f15 f16 f17 : Addr} {od0 an0 : Option Addr} {sl0 : Array (Option Value)} {oc0 kV0 dc0 pm0 cd0 ct0 : Value} {od1 an1 : Option Addr} {sl1 : Array (Option Value)} {oc1 kV1 dc1 pm1 cd1 ct1 : Value} {od2 an2 : Option Addr} {sl2 : Array (Option Value)} {oc2 kV2 dc2 pm2 cd2 ct2 : Value} {od3 an3 : Option Addr} {sl3 : Array (Option Value)} {oc3 kV3 dc3 pm3 cd3 ct3 : Value} {od4 an4 : Option Addr} {sl4 : Array (Option Value)} {oc4 kV4 dc4 pm4 cd4 ct4 : Value} {od5 an5 : Option Addr} {sl5 : Array (Option Value)} {oc5 kV5 dc5 pm5 cd5 ct5 : Value} {od6 an6 : Option Addr} {sl6 : Array (Option Value)} {oc6 kV6 dc6 pm6 cd6 ct6 : Value} {od7 an7 : Option Addr} {sl7 : Array (Option Value)} {oc7 kV7 dc7 pm7 cd7 ct7 : Value} {od8 an8 : Option Addr} {sl8 : Array (Option Value)} {oc8 kV8 dc8 pm8 cd8 ct8 : Value} {od9 an9 : Option Addr} {sl9 : Array (Option Value)} {oc9 kV9 dc9 pm9 cd9 ct9 : Value} {od10 an10 : Option Addr} {sl10 : Array (Option Value)} {oc10 kV10 dc10 pm10 cd10 ct10 : Value} {od11 an11 : Option Addr} {sl11 : Array (Option Value)} {oc11 kV11 dc11 pm11 cd11 ct11 : Value} {od12 an12 : Option Addr} {sl12 : Array (Option Value)} {oc12 kV12 dc12 pm12 cd12 ct12 : Value} {od13 an13 : Option Addr} {sl13 : Array (Option Value)} {oc13 kV13 dc13 pm13 cd13 ct13 : Value} {od14 an14 : Option Addr} {sl14 : Array (Option Value)} {oc14 kV14 dc14 pm14 cd14 ct14 : Value} {od15 an15 : Option Addr} {sl15 : Array (Option Value)} {oc15 kV15 dc15 pm15 cd15 ct15 : Value} {od16 an16 : Option Addr} {sl16 : Array (Option Value)} {oc16 kV16 dc16 pm16 cd16 ct16 : Value} {od17 an17 : Option Addr} {sl17 : Array (Option Value)} {oc17 kV17 dc17 pm17 cd17 ct17 : Value} {t0 t1 t2 t3 : Tok} {X0 : Addr}
    (a0 : PySem.W.nsIn K mainGlobals "common_table" = some (some (.ref f0))) (l0 : K.lookup f0 = some ⟨oc0, od0, .func (PySem.W.fnOf "common_table" "common_table" (defArgs s_common_table) (defBody s_common_table) (defScope s_common_table) .none kV0 dc0 pm0 an0 cd0 ct0), sl0⟩) (c0 : PySem.W.codeIn K cd0 "common_table" = true) (k0 : PySem.W.keepIn K (.ref f0) = true)
    (a1 : PySem.W.nsIn K mainGlobals "common_pairs" = some (some (.ref f1))) (l1 : K.lookup f1 = some ⟨oc1, od1, .func (PySem.W.fnOf "common_pairs" "common_pairs" (defArgs s_common_pairs) (defBody s_common_pairs) (defScope s_common_pairs) .none kV1 dc1 pm1 an1 cd1 ct1), sl1⟩) (c1 : PySem.W.codeIn K cd1 "common_pairs" = true) (k1 : PySem.W.keepIn K (.ref f1) = true)
    (a2 : PySem.W.nsIn K mainGlobals "edits_between" = some (some (.ref f2))) (l2 : K.lookup f2 = some ⟨oc2, od2, .func (PySem.W.fnOf "edits_between" "edits_between" (defArgs s_edits_between) (defBody s_edits_between) (defScope s_edits_between) .none kV2 dc2 pm2 an2 cd2 ct2), sl2⟩) (c2 : PySem.W.codeIn K cd2 "edits_between" = true) (k2 : PySem.W.keepIn K (.ref f2) = true)
    (a3 : PySem.W.nsIn K mainGlobals "codes_of" = some (some (.ref f3))) (l3 : K.lookup f3 = some ⟨oc3, od3, .func (PySem.W.fnOf "codes_of" "codes_of" (defArgs s_codes_of) (defBody s_codes_of) (defScope s_codes_of) .none kV3 dc3 pm3 an3 cd3 ct3), sl3⟩) (c3 : PySem.W.codeIn K cd3 "codes_of" = true) (k3 : PySem.W.keepIn K (.ref f3) = true)
    (a4 : PySem.W.nsIn K mainGlobals "touching_spans" = some (some (.ref f4))) (l4 : K.lookup f4 = some ⟨oc4, od4, .func (PySem.W.fnOf "touching_spans" "touching_spans" (defArgs s_touching_spans) (defBody s_touching_spans) (defScope s_touching_spans) .none kV4 dc4 pm4 an4 cd4 ct4), sl4⟩) (c4 : PySem.W.codeIn K cd4 "touching_spans" = true) (k4 : PySem.W.keepIn K (.ref f4) = true)
    (a5 : PySem.W.nsIn K mainGlobals "side_of" = some (some (.ref f5))) (l5 : K.lookup f5 = some ⟨oc5, od5, .func (PySem.W.fnOf "side_of" "side_of" (defArgs s_side_of) (defBody s_side_of) (defScope s_side_of) .none kV5 dc5 pm5 an5 cd5 ct5), sl5⟩) (c5 : PySem.W.codeIn K cd5 "side_of" = true) (k5 : PySem.W.keepIn K (.ref f5) = true)
    (a6 : PySem.W.nsIn K mainGlobals "region_word" = some (some (.ref f6))) (l6 : K.lookup f6 = some ⟨oc6, od6, .func (PySem.W.fnOf "region_word" "region_word" (defArgs s_region_word) (defBody s_region_word) (defScope s_region_word) .none kV6 dc6 pm6 an6 cd6 ct6), sl6⟩) (c6 : PySem.W.codeIn K cd6 "region_word" = true) (k6 : PySem.W.keepIn K (.ref f6) = true)
    (a7 : PySem.W.nsIn K mainGlobals "merge_lines" = some (some (.ref f7))) (l7 : K.lookup f7 = some ⟨oc7, od7, .func (PySem.W.fnOf "merge_lines" "merge_lines" (defArgs s_merge_lines) (defBody s_merge_lines) (defScope s_merge_lines) .none kV7 dc7 pm7 an7 cd7 ct7), sl7⟩) (c7 : PySem.W.codeIn K cd7 "merge_lines" = true) (k7 : PySem.W.keepIn K (.ref f7) = true)
    (a8 : PySem.W.nsIn K mainGlobals "has_conflict" = some (some (.ref f8))) (l8 : K.lookup f8 = some ⟨oc8, od8, .func (PySem.W.fnOf "has_conflict" "has_conflict" (defArgs s_has_conflict) (defBody s_has_conflict) (defScope s_has_conflict) .none kV8 dc8 pm8 an8 cd8 ct8), sl8⟩) (c8 : PySem.W.codeIn K cd8 "has_conflict" = true) (k8 : PySem.W.keepIn K (.ref f8) = true)
    (a9 : PySem.W.nsIn K mainGlobals "merged_lines" = some (some (.ref f9))) (l9 : K.lookup f9 = some ⟨oc9, od9, .func (PySem.W.fnOf "merged_lines" "merged_lines" (defArgs s_merged_lines) (defBody s_merged_lines) (defScope s_merged_lines) .none kV9 dc9 pm9 an9 cd9 ct9), sl9⟩) (c9 : PySem.W.codeIn K cd9 "merged_lines" = true) (k9 : PySem.W.keepIn K (.ref f9) = true)
    (a10 : PySem.W.nsIn K mainGlobals "ended" = some (some (.ref f10))) (l10 : K.lookup f10 = some ⟨oc10, od10, .func (PySem.W.fnOf "ended" "ended" (defArgs s_ended) (defBody s_ended) (defScope s_ended) .none kV10 dc10 pm10 an10 cd10 ct10), sl10⟩) (c10 : PySem.W.codeIn K cd10 "ended" = true) (k10 : PySem.W.keepIn K (.ref f10) = true)
    (a11 : PySem.W.nsIn K mainGlobals "marked_lines" = some (some (.ref f11))) (l11 : K.lookup f11 = some ⟨oc11, od11, .func (PySem.W.fnOf "marked_lines" "marked_lines" (defArgs s_marked_lines) (defBody s_marked_lines) (defScope s_marked_lines) .none kV11 dc11 pm11 an11 cd11 ct11), sl11⟩) (c11 : PySem.W.codeIn K cd11 "marked_lines" = true) (k11 : PySem.W.keepIn K (.ref f11) = true)
    (a12 : PySem.W.nsIn K mainGlobals "_law_draws" = some (some (.ref f12))) (l12 : K.lookup f12 = some ⟨oc12, od12, .func (PySem.W.fnOf "_law_draws" "_law_draws" (defArgs s__law_draws) (defBody s__law_draws) (defScope s__law_draws) .none kV12 dc12 pm12 an12 cd12 ct12), sl12⟩) (c12 : PySem.W.codeIn K cd12 "_law_draws" = true) (k12 : PySem.W.keepIn K (.ref f12) = true)
    (a13 : PySem.W.nsIn K mainGlobals "_law_line" = some (some (.ref f13))) (l13 : K.lookup f13 = some ⟨oc13, od13, .func (PySem.W.fnOf "_law_line" "_law_line" (defArgs s__law_line) (defBody s__law_line) (defScope s__law_line) .none kV13 dc13 pm13 an13 cd13 ct13), sl13⟩) (c13 : PySem.W.codeIn K cd13 "_law_line" = true) (k13 : PySem.W.keepIn K (.ref f13) = true)
    (a14 : PySem.W.nsIn K mainGlobals "_law_lines" = some (some (.ref f14))) (l14 : K.lookup f14 = some ⟨oc14, od14, .func (PySem.W.fnOf "_law_lines" "_law_lines" (defArgs s__law_lines) (defBody s__law_lines) (defScope s__law_lines) .none kV14 dc14 pm14 an14 cd14 ct14), sl14⟩) (c14 : PySem.W.codeIn K cd14 "_law_lines" = true) (k14 : PySem.W.keepIn K (.ref f14) = true)
    (a15 : PySem.W.nsIn K mainGlobals "_law_changed" = some (some (.ref f15))) (l15 : K.lookup f15 = some ⟨oc15, od15, .func (PySem.W.fnOf "_law_changed" "_law_changed" (defArgs s__law_changed) (defBody s__law_changed) (defScope s__law_changed) .none kV15 dc15 pm15 an15 cd15 ct15), sl15⟩) (c15 : PySem.W.codeIn K cd15 "_law_changed" = true) (k15 : PySem.W.keepIn K (.ref f15) = true)
    (a16 : PySem.W.nsIn K mainGlobals "_law_turned" = some (some (.ref f16))) (l16 : K.lookup f16 = some ⟨oc16, od16, .func (PySem.W.fnOf "_law_turned" "_law_turned" (defArgs s__law_turned) (defBody s__law_turned) (defScope s__law_turned) .none kV16 dc16 pm16 an16 cd16 ct16), sl16⟩) (c16 : PySem.W.codeIn K cd16 "_law_turned" = true) (k16 : PySem.W.keepIn K (.ref f16) = true)
    (a17 : PySem.W.nsIn K mainGlobals "law" = some (some (.ref f17))) (l17 : K.lookup f17 = some ⟨oc17, od17, .func (PySem.W.fnOf "law" "law" (defArgs s_law) (defBody s_law) (defScope s_law) .none kV17 dc17 pm17 an17 cd17 ct17), sl17⟩) (c17 : PySem.W.codeIn K cd17 "law" = true) (k17 : PySem.W.keepIn K (.ref f17) = true)
    (u0 : PySem.W.nsIn K mainGlobals "NEWLINE" = some (some (.int 10 t0)))
    (u1 : PySem.W.nsIn K mainGlobals "OPENING" = some (some (.str "<<<<<<<" t1)))
    (u2 : PySem.W.nsIn K mainGlobals "MIDDLE" = some (some (.str "=======" t2)))
    (u3 : PySem.W.nsIn K mainGlobals "CLOSING" = some (some (.str ">>>>>>>" t3)))
    (z0 : PySem.W.nsIn K mainGlobals "int" = some none)
    (z1 : PySem.W.nsIn K mainGlobals "len" = some none)
    (z2 : PySem.W.nsIn K mainGlobals "list" = some none)
    (z3 : PySem.W.nsIn K mainGlobals "max" = some none)
    (z4 : PySem.W.nsIn K mainGlobals "ord" = some none)
    (z5 : PySem.W.nsIn K mainGlobals "range" = some none)
    (z6 : PySem.W.nsIn K mainGlobals "sorted" = some none)
    (z7 : PySem.W.nsIn K mainGlobals "tuple" = some none)
    (xg0 : PySem.W.nsIn K mainGlobals "LinesConflict" = some (some (.ref X0))) (xk0 : PySem.W.keepIn K (.ref X0) = true) (xs0 : PySem.W.subIn K (.ref X0) (.type "BaseException") = some true) (xt0 : PySem.W.typeIn K (.ref X0) = some (.type "type")) (xd0 : PySem.W.hasDictIn K X0 = true)
    (xq0 : PySem.W.excIn K X0 [.type "ValueError", .type "Exception", .type "BaseException", .type "object"] "ValueError.__new__" = true) :
    ∃ fd : FuncData, (∀ (s : Shared) (v : Value), BindsTo s fd ⟨[v], []⟩ [("script", v)]) ∧ ∀ base : Heap, K.In base → base.Ns mainGlobals mg → FnOk l.prog w K mg base (L2.CX l.prog w) 5 fa fd ["script"] (spLaw K) := by
  have e : f17 = fa := Value.ref.inj (Option.some.inj ((PySem.W.mg_of X G a17).symm.trans hfa))
  rw [← e]
  have F0 := fun_mk (st := s_common_table) l0 c0 k0
  have b0 := F0.binds (ps := ["first", "second"]) fun _ _ _ _ _ _ us hl => match us, hl with | [_, _], _ => rfl
  have F1 := fun_mk (st := s_common_pairs) l1 c1 k1
  have b1 := F1.binds (ps := ["first", "second"]) fun _ _ _ _ _ _ us hl => match us, hl with | [_, _], _ => rfl
  have F2 := fun_mk (st := s_edits_between) l2 c2 k2
  have b2 := F2.binds (ps := ["first", "second"]) fun _ _ _ _ _ _ us hl => match us, hl with | [_, _], _ => rfl
  have F3 := fun_mk (st := s_codes_of) l3 c3 k3
  have b3 := F3.binds (ps := ["text"]) fun _ _ _ _ _ _ us hl => match us, hl with | [_], _ => rfl
  have F4 := fun_mk (st := s_touching_spans) l4 c4 k4
  have b4 := F4.binds (ps := ["first", "second"]) fun _ _ _ _ _ _ us hl => match us, hl with | [_, _], _ => rfl
  have F5 := fun_mk (st := s_side_of) l5 c5 k5
  have b5 := F5.binds (ps := ["base", "edits", "span"]) fun _ _ _ _ _ _ us hl => match us, hl with | [_, _, _], _ => rfl
  have F6 := fun_mk (st := s_region_word) l6 c6 k6
  have b6 := F6.binds (ps := ["old", "left", "right"]) fun _ _ _ _ _ _ us hl => match us, hl with | [_, _, _], _ => rfl
  have F7 := fun_mk (st := s_merge_lines) l7 c7 k7
  have b7 := F7.binds (ps := ["base", "left", "right"]) fun _ _ _ _ _ _ us hl => match us, hl with | [_, _, _], _ => rfl
  have F8 := fun_mk (st := s_has_conflict) l8 c8 k8
  have b8 := F8.binds (ps := ["regions"]) fun _ _ _ _ _ _ us hl => match us, hl with | [_], _ => rfl
  have F9 := fun_mk (st := s_merged_lines) l9 c9 k9
  have b9 := F9.binds (ps := ["regions"]) fun _ _ _ _ _ _ us hl => match us, hl with | [_], _ => rfl
  have F10 := fun_mk (st := s_ended) l10 c10 k10
  have b10 := F10.binds (ps := ["lines"]) fun _ _ _ _ _ _ us hl => match us, hl with | [_], _ => rfl
  have F11 := fun_mk (st := s_marked_lines) l11 c11 k11
  have b11 := F11.binds (ps := ["regions"]) fun _ _ _ _ _ _ us hl => match us, hl with | [_], _ => rfl
  have F12 := fun_mk (st := s__law_draws) l12 c12 k12
  have b12 := F12.binds (ps := ["script", "count"]) fun _ _ _ _ _ _ us hl => match us, hl with | [_, _], _ => rfl
  have F13 := fun_mk (st := s__law_line) l13 c13 k13
  have b13 := F13.binds (ps := ["cell"]) fun _ _ _ _ _ _ us hl => match us, hl with | [_], _ => rfl
  have F14 := fun_mk (st := s__law_lines) l14 c14 k14
  have b14 := F14.binds (ps := ["draw", "other"]) fun _ _ _ _ _ _ us hl => match us, hl with | [_, _], _ => rfl
  have F15 := fun_mk (st := s__law_changed) l15 c15 k15
  have b15 := F15.binds (ps := ["lines", "draw"]) fun _ _ _ _ _ _ us hl => match us, hl with | [_, _], _ => rfl
  have F16 := fun_mk (st := s__law_turned) l16 c16 k16
  have b16 := F16.binds (ps := ["regions"]) fun _ _ _ _ _ _ us hl => match us, hl with | [_], _ => rfl
  have F17 := fun_mk (st := s_law) l17 c17 k17
  have b17 := F17.binds (ps := ["script"]) fun _ _ _ _ _ _ us hl => match us, hl with | [_], _ => rfl
  have xx0 : XCls K mg "LinesConflict" X0 := ⟨PySem.W.mg_of X G xg0, xk0, xs0, xt0, xd0⟩
  let T : Txt K mg := { a_common_table := f0, fd_common_table := _, F_common_table := F0, g_common_table := PySem.W.mg_of X G a0, b_common_table := b0, a_common_pairs := f1, fd_common_pairs := _, F_common_pairs := F1, g_common_pairs := PySem.W.mg_of X G a1, b_common_pairs := b1, a_edits_between := f2, fd_edits_between := _, F_edits_between := F2, g_edits_between := PySem.W.mg_of X G a2, b_edits_between := b2, a_codes_of := f3, fd_codes_of := _, F_codes_of := F3, g_codes_of := PySem.W.mg_of X G a3, b_codes_of := b3, a_touching_spans := f4, fd_touching_spans := _, F_touching_spans := F4, g_touching_spans := PySem.W.mg_of X G a4, b_touching_spans := b4, a_side_of := f5, fd_side_of := _, F_side_of := F5, g_side_of := PySem.W.mg_of X G a5, b_side_of := b5, a_region_word := f6, fd_region_word := _, F_region_word := F6, g_region_word := PySem.W.mg_of X G a6, b_region_word := b6, a_merge_lines := f7, fd_merge_lines := _, F_merge_lines := F7, g_merge_lines := PySem.W.mg_of X G a7, b_merge_lines := b7, a_has_conflict := f8, fd_has_conflict := _, F_has_conflict := F8, g_has_conflict := PySem.W.mg_of X G a8, b_has_conflict := b8, a_merged_lines := f9, fd_merged_lines := _, F_merged_lines := F9, g_merged_lines := PySem.W.mg_of X G a9, b_merged_lines := b9, a_ended := f10, fd_ended := _, F_ended := F10, g_ended := PySem.W.mg_of X G a10, b_ended := b10, a_marked_lines := f11, fd_marked_lines := _, F_marked_lines := F11, g_marked_lines := PySem.W.mg_of X G a11, b_marked_lines := b11, a__law_draws := f12, fd__law_draws := _, F__law_draws := F12, g__law_draws := PySem.W.mg_of X G a12, b__law_draws := b12, a__law_line := f13, fd__law_line := _, F__law_line := F13, g__law_line := PySem.W.mg_of X G a13, b__law_line := b13, a__law_lines := f14, fd__law_lines := _, F__law_lines := F14, g__law_lines := PySem.W.mg_of X G a14, b__law_lines := b14, a__law_changed := f15, fd__law_changed := _, F__law_changed := F15, g__law_changed := PySem.W.mg_of X G a15, b__law_changed := b15, a__law_turned := f16, fd__law_turned := _, F__law_turned := F16, g__law_turned := PySem.W.mg_of X G a16, b__law_turned := b16, a_law := f17, fd_law := _, F_law := F17, g_law := PySem.W.mg_of X G a17, b_law := b17, c_NEWLINE := ⟨_, PySem.W.mg_of X G u0, .int _, ⟨_, rfl⟩, fun _ => .int _⟩, c_OPENING := ⟨_, PySem.W.mg_of X G u1, .str _, ⟨_, rfl⟩, fun _ => .str _⟩, c_MIDDLE := ⟨_, PySem.W.mg_of X G u2, .str _, ⟨_, rfl⟩, fun _ => .str _⟩, c_CLOSING := ⟨_, PySem.W.mg_of X G u3, .str _, ⟨_, rfl⟩, fun _ => .str _⟩, n_int := PySem.W.mg_none_of X G z0, n_len := PySem.W.mg_none_of X G z1, n_list := PySem.W.mg_none_of X G z2, n_max := PySem.W.mg_none_of X G z3, n_ord := PySem.W.mg_none_of X G z4, n_range := PySem.W.mg_none_of X G z5, n_sorted := PySem.W.mg_none_of X G z6, n_tuple := PySem.W.mg_none_of X G z7, A_LinesConflict := X0, x_LinesConflict := xx0, y_LinesConflict := ⟨PySem.F.excBase_ValueError, xq0⟩ }
  exact ⟨T.fd_law, fun s v => .of_eq rfl, fun base _ _ => (ok_law T).imp fun vs H Q E h => law_imp goal vs H Q E h⟩
end Law

set_option Elab.async false
set_option linter.all false
set_option maxRecDepth 100000
set_option maxHeartbeats 4000000
/-! common_table, common_pairs: what they compute. -/
namespace Law
open PySem L2 T LC
def encT (t : List (List Int)) : D := .lst (t.map fun r => .lst (r.map D.int))
section
variable {α : Type} [DecidableEq α] {enc : α → D} {xs ys : List α} {S1 S2 : D}
/-- the table, right where P holds -/
structure Tab (xs ys : List α) (t : List (List Int)) (P : Nat → Nat → Prop) : Prop where
  len : t.length = xs.length + 1
  rows : ∀ r, r ≤ xs.length → ∃ row, t[r]? = some row ∧ row.length = ys.length + 1 ∧ ∀ c, c ≤ ys.length → P r c → row[c]? = some (at_ xs ys r c : Int)
theorem Tab.get {t : List (List Int)} {P : Nat → Nat → Prop} (h : Tab xs ys t P) {r c : Nat} (hr : r ≤ xs.length) (hc : c ≤ ys.length) (p : P r c) {ρ : Rho} {s a b : Rho → Res D} {i j : Int} (hs : s ρ = .ok (encT t)) (ha : a ρ = .ok (.int i)) (hb : b ρ = .ok (.int j)) (hi : i = (r : Int)) (hj : j = (c : Int)) :
    T.bin dIx (T.bin dIx s a) b ρ = .ok (.int (at_ xs ys r c : Int)) := by
  obtain ⟨row, h1, h2, h3⟩ := h.rows r hr
  refine bin_ok (x := .lst (row.map D.int)) (bin_ok hs ha ?_) hb ?_
  · exact dIx_l (atI_get hi (by rw [List.getElem?_map, h1]; rfl))
  · exact dIx_l (atI_get hj (by rw [List.getElem?_map, h3 c hc p]; rfl))
theorem Tab.mono {t : List (List Int)} {P P' : Nat → Nat → Prop} (h : Tab xs ys t P) (p : ∀ r c, r ≤ xs.length → c ≤ ys.length → P' r c → P r c) : Tab xs ys t P' :=
  ⟨h.len, fun r hr => by
    obtain ⟨row, h1, h2, h3⟩ := h.rows r hr
    exact ⟨row, h1, h2, fun c hc q => h3 c hc (p r c hr hc q)⟩⟩
theorem Tab.set {t : List (List Int)} {P P' : Nat → Nat → Prop} (h : Tab xs ys t P) {r c : Nat} (hr : r ≤ xs.length) (hc : c ≤ ys.length) {v : Int} (hv : v = (at_ xs ys r c : Int)) (p : ∀ r' c', r' ≤ xs.length → c' ≤ ys.length → P' r' c' → P r' c' ∨ (r' = r ∧ c' = c)) {ρ : Rho} {i : Nat} {a b g : Rho → Res D} {x y : Int}
    (hρ : ρ[i]? = some (some (encT t))) (ha : a ρ = .ok (.int x)) (hb : b ρ = .ok (.int y)) (hx : x = (r : Int)) (hy : y = (c : Int)) (hg : g ρ = .ok (.int v)) : ∃ t', sSetII i a b g ρ = .nx (ρ.set i (some (encT t'))) ∧ Tab xs ys t' P' := by
  obtain ⟨row, h1, h2, h3⟩ := h.rows r hr
  refine ⟨t.set r (row.set c v), ?_, ?_, fun r' hr' => ?_⟩
  · have e1 : (t.map fun r => D.lst (r.map D.int))[r]? = some (D.lst (row.map D.int)) := by rw [List.getElem?_map, h1]; rfl
    unfold sSetII atL
    rw [hg, hρ]
    unfold encT
    simp only [thenS_ok]
    rw [ha]
    simp only [thenS_ok]
    rw [hx, show ixN (t.map fun r => D.lst (r.map D.int)).length (r : Int) = some r by
      unfold ixN
      simp [h.len]
      omega]
    simp only
    rw [e1]
    simp only
    rw [hb]
    simp only [thenS_ok]
    rw [hy, show ixN (row.map D.int).length (c : Int) = some c by
      unfold ixN
      simp [h2]
      omega]
    simp only
    rw [List.map_set, List.map_set]
  · simp [h.len]
  · by_cases e : r = r'
    · subst e
      refine ⟨row.set c v, List.getElem?_set_self (by rw [h.len]; omega), by simp [h2], fun c' hc' q => ?_⟩
      by_cases e : c = c'
      · subst e
        rw [List.getElem?_set_self (by omega), hv]
      · rw [List.getElem?_set_ne e]
        rcases p r c' hr' hc' q with q | q
        · exact h3 c' hc' q
        · exact absurd q.2.symm e
    · obtain ⟨row', k1, k2, k3⟩ := h.rows r' hr'
      refine ⟨row', by rw [List.getElem?_set_ne e]; exact k1, k2, fun c' hc' q => ?_⟩
      rcases p r' c' hr' hc' q with q | q
      · exact k3 c' hc' q
      · exact absurd q.1.symm e
theorem lcNM_const {b : Bnd} {f : Rho → Res (List D)} {ρ : Rho} {row : List D} : ∀ (its : List D), (∀ x ∈ its, ∃ ρ1, b x ρ = some ρ1 ∧ f ρ1 = .ok row) → lcNM b f ρ its = .ok (List.replicate its.length row)
  | [], _ => rfl
  | x :: its, h => by
    obtain ⟨ρ1, h1, h2⟩ := h x List.mem_cons_self
    have ih := lcNM_const its fun y hy => h y (List.mem_cons_of_mem _ hy)
    simp only [lcNM, h1, h2, Res.calm_ok, Res.bind_ok, ih]
    rfl
theorem common_table_eq (hs1 : Sq enc S1 xs) (hs2 : Sq enc S2 ys) (he : ∀ a b, dEq (enc a) (enc b) = .ok (.bl (decide (a = b)))) (hl1 : xs.length ≤ 900000) (hl2 : ys.length ≤ 900000) : ∃ t, f_common_table [S1, S2] = .ok (encT t) ∧ Tab xs ys t fun _ _ => True := by
  suffices h : ∃ t, m_common_table (startR 6 [S1, S2]) = .rt (encT t) ∧ Tab xs ys t fun _ _ => True by
    obtain ⟨t, h1, h2⟩ := h
    exact ⟨t, runF_rt rfl h1, h2⟩
  have c1 : compNV (callV dRng1 (consA (T.bin dAdd (callV dLen (consA (getV 0) noA)) (conD (.int 1))) noA)) (bNm 5) (T.bin dRep (lstD (lstV (consA (conD (.int 0)) noA))) (T.bin dAdd (callV dLen (consA (getV 1) noA)) (conD (.int 1)))) [5] (startR 6 [S1, S2]) = .ok (List.replicate (xs.length + 1) (List.replicate (ys.length + 1) (D.int 0))) := by
    unfold compNV
    rw [call1_ok (add_ok (len_ok hs1 rfl) rfl) (rng1_of (n := xs.length + 1) (by omega) (by omega)), Res.bind_ok, if_pos (sz1 (by simp; omega))]
    refine (lcNM_const (b := bNm 5) (row := List.replicate (ys.length + 1) (D.int 0)) _ fun x _ => ⟨_, rfl, ?_⟩).trans ?_
    · exact bin_ok (x := .lst [.int 0]) (lstD_ok (by simp [sz1])) (add_ok (len_ok hs2 rfl) rfl) (rep_of (n := ys.length + 1) (by omega) (by omega))
    · simp
  have t0 : Tab xs ys (List.replicate (xs.length + 1) (List.replicate (ys.length + 1) 0)) fun r c => r = xs.length ∨ c = ys.length := by
    refine ⟨by simp, fun r hr => ⟨_, by rw [List.getElem?_replicate, if_pos (by omega)], by simp, fun c hc q => ?_⟩⟩
    rw [List.getElem?_replicate, if_pos (by omega)]
    rcases q with q | q
    · rw [at_end1 (by omega)]
      rfl
    · rw [at_end2 (by omega)]
      rfl
  have e0 : (.lst (lsts (List.replicate (xs.length + 1) (List.replicate (ys.length + 1) (D.int 0)))) : D) = encT (List.replicate (xs.length + 1) (List.replicate (ys.length + 1) 0)) := by
    unfold encT
    simp
  -- inner loop
  have inner : ∀ (i : Nat) (t : List (List Int)) (a b : Option D), i < xs.length → Tab xs ys t (fun r c => i + 1 ≤ r ∨ c = ys.length) → ∃ t' b', m_common_table_b1 [some S1, some S2, some (encT t), some (.int (i : Int)), b, none] = .nx [some S1, some S2, some (encT t'), some (.int (i : Int)), b', none] ∧ Tab xs ys t' (fun r c => i ≤ r ∨ c = ys.length) := by
    intro i t a b hi ht
    have hx : xs[i]? = some xs[i] := List.getElem?_eq_getElem hi
    obtain ⟨ρ', h1, t', b', rfl, h2⟩ := for_inv (b := bNm 4) (body := m_common_table_b2) (fun k ρ => ∃ t' b', ρ = [some S1, some S2, some (encT t'), some (.int (i : Int)), b', none] ∧ Tab xs ys t' (fun r c => i + 1 ≤ r ∨ c = ys.length ∨ (r = i ∧ ys.length - k ≤ c))) ((List.range ys.length).map fun k => D.int (((ys.length - 1 - k : Nat) : Int))) (fun k x ρ hk hI => by
      obtain ⟨t', b', rfl, hT⟩ := hI
      obtain ⟨k', hk1, rfl⟩ : ∃ k', k' = k ∧ D.int (((ys.length - 1 - k : Nat) : Int)) = x := by
        rw [List.getElem?_map] at hk
        obtain ⟨z, hz, e⟩ := Option.map_eq_some_iff.mp hk
        have := (List.getElem?_eq_some_iff.mp hz)
        obtain ⟨h1, h2⟩ := this
        simp at h2
        subst h2
        exact ⟨_, rfl, e⟩
      have hkl : k < ys.length := by
        have := (List.getElem?_eq_some_iff.mp hk).1
        simpa using this
      generalize hj : ys.length - 1 - k = j
      have hjl : j < ys.length := by omega
      have hy : ys[j]? = some ys[j] := List.getElem?_eq_getElem hjl
      refine ⟨_, rfl, ?_⟩
      have P : ∀ r' c', r' ≤ xs.length → c' ≤ ys.length → (i + 1 ≤ r' ∨ c' = ys.length ∨ (r' = i ∧ ys.length - (k + 1) ≤ c')) → (i + 1 ≤ r' ∨ c' = ys.length ∨ (r' = i ∧ ys.length - k ≤ c')) ∨ (r' = i ∧ c' = j) := fun r' c' _ _ q => by omega
      have cc : toB (T.bin dEq (T.bin dIx (getV 0) (getV 3)) (T.bin dIx (getV 1) (getV 4))) [some S1, some S2, some (encT t'), some (.int (i : Int)), some (.int (j : Int)), none] = .ok (decide (xs[i] = ys[j])) := toB_ok (bin_ok (ix_ok hs1 rfl rfl rfl hx) (ix_ok hs2 rfl rfl rfl hy) (he _ _))
      by_cases h : xs[i] = ys[j]
      · obtain ⟨t2, h1, h2⟩ := hT.set (r := i) (c := j) (v := ((at_ xs ys (i + 1) (j + 1) : Nat) : Int) + 1) (by omega) (by omega) (by rw [at_step hx hy, if_pos h]; rfl) P (ρ := [some S1, some S2, some (encT t'), some (.int (i : Int)), some (.int (j : Int)), none]) (i := 2) (a := getV 3) (b := getV 4) (g := T.bin dAdd (T.bin dIx (T.bin dIx (getV 2) (T.bin dAdd (getV 3) (conD (.int 1)))) (T.bin dAdd (getV 4) (conD (.int 1)))) (conD (.int 1))) rfl rfl rfl rfl rfl
          (add_ok (hT.get (r := i + 1) (c := j + 1) (by omega) (by omega) (.inl (Nat.le_refl _)) rfl (add_ok (x := (i : Int)) (y := 1) rfl rfl) (add_ok (x := (j : Int)) (y := 1) rfl rfl) (by omega) (by omega)) rfl)
        exact ⟨_, .inl (if_t (cc.trans (by rw [decide_eq_true h])) h1), t2, _, rfl, h2⟩
      · obtain ⟨t2, h1, h2⟩ := hT.set (r := i) (c := j) (v := max ((at_ xs ys (i + 1) j : Nat) : Int) ((at_ xs ys i (j + 1) : Nat) : Int)) (by omega) (by omega) (by rw [at_step hx hy, if_neg h]; omega) P (ρ := [some S1, some S2, some (encT t'), some (.int (i : Int)), some (.int (j : Int)), none]) (i := 2) (a := getV 3) (b := getV 4) (g := callV dMax2 (consA (T.bin dIx (T.bin dIx (getV 2) (T.bin dAdd (getV 3) (conD (.int 1)))) (getV 4)) (consA (T.bin dIx (T.bin dIx (getV 2) (getV 3)) (T.bin dAdd (getV 4) (conD (.int 1)))) noA))) rfl rfl rfl rfl rfl
          (max_ok (hT.get (r := i + 1) (c := j) (by omega) (by omega) (.inl (Nat.le_refl _)) rfl (add_ok (x := (i : Int)) (y := 1) rfl rfl) rfl (by omega) rfl) (hT.get (r := i) (c := j + 1) (by omega) (by omega) (.inr (by omega)) rfl rfl (add_ok (x := (j : Int)) (y := 1) rfl rfl) rfl (by omega)))
        exact ⟨_, .inl (if_f (cc.trans (by rw [decide_eq_false h])) h1), t2, _, rfl, h2⟩) (ρ := [some S1, some S2, some (encT t), some (.int (i : Int)), b, none]) ⟨t, b, rfl, ht.mono fun r c _ _ q => by omega⟩
    refine ⟨t', b', for_ok (call3_ok (sub_ok (len_ok hs2 rfl) rfl) rfl rfl (rngD_of rfl (by omega))) h1, h2.mono fun r c _ _ q => ?_⟩
    simp
    omega
  obtain ⟨ρ', h1, t', a', b', rfl, h2⟩ := for_inv (b := bNm 3) (body := m_common_table_b1) (fun k ρ => ∃ t' a' b', ρ = [some S1, some S2, some (encT t'), a', b', none] ∧ Tab xs ys t' (fun r c => xs.length - k ≤ r ∨ c = ys.length)) ((List.range xs.length).map fun k => D.int (((xs.length - 1 - k : Nat) : Int))) (fun k x ρ hk hI => by
      obtain ⟨t', a', b', rfl, hT⟩ := hI
      obtain ⟨k', hk1, rfl⟩ : ∃ k', k' = k ∧ D.int (((xs.length - 1 - k : Nat) : Int)) = x := by
        rw [List.getElem?_map] at hk
        obtain ⟨z, hz, e⟩ := Option.map_eq_some_iff.mp hk
        obtain ⟨h1, h2⟩ := List.getElem?_eq_some_iff.mp hz
        simp at h2
        subst h2
        exact ⟨_, rfl, e⟩
      have hkl : k < xs.length := by
        have := (List.getElem?_eq_some_iff.mp hk).1
        simpa using this
      obtain ⟨t2, b2, h1, h2⟩ := inner (xs.length - 1 - k) t' a' b' (by omega) (hT.mono fun r c _ _ q => by omega)
      exact ⟨_, rfl, _, .inl h1, t2, _, b2, rfl, h2.mono fun r c _ _ q => by omega⟩) (ρ := [some S1, some S2, some (encT (List.replicate (xs.length + 1) (List.replicate (ys.length + 1) 0))), none, none, none]) ⟨_, _, _, rfl, t0.mono fun r c _ _ q => by omega⟩
  refine ⟨t', ?_, h2.mono fun r c _ _ _ => .inl (by simp)⟩
  unfold m_common_table
  refine seq_nx (ρ' := [some S1, some S2, some (encT (List.replicate (xs.length + 1) (List.replicate (ys.length + 1) 0))), none, none, none]) ?_ ?_
  · show thenS (compNV _ _ _ _ (startR 6 [S1, S2])) _ _ = _
    rw [c1, thenS_ok, e0]
    rfl
  exact seq_nx (for_ok (call3_ok (sub_ok (len_ok hs1 rfl) rfl) rfl rfl (rngD_of rfl (by omega))) h1) (ret_ok rfl)

def encP (p : Nat × Nat) : D := .tup [.int p.1, .int p.2]
def pairs (xs ys : List α) : List (Nat × Nat) := walk xs ys (xs.length + ys.length) 0 0
theorem common_pairs_eq (hs1 : Sq enc S1 xs) (hs2 : Sq enc S2 ys) (he : ∀ a b, dEq (enc a) (enc b) = .ok (.bl (decide (a = b)))) (hl1 : xs.length ≤ 400000) (hl2 : ys.length ≤ 400000) : f_common_pairs [S1, S2] = .ok (.lst ((pairs xs ys).map encP)) := by
  refine runF_rt rfl ?_
  obtain ⟨t, ht, hT⟩ := common_table_eq hs1 hs2 he (by omega) (by omega)
  unfold m_common_pairs
  refine seq_nx (set_ok (call2_ok rfl rfl ht)) ?_
  refine seq_nx (ρ' := [some S1, some S2, some (encT t), some (.lst []), none, none]) rfl ?_
  refine seq_nx (ρ' := [some S1, some S2, some (encT t), some (.lst []), some (.int 0), none]) rfl ?_
  refine seq_nx (ρ' := [some S1, some S2, some (encT t), some (.lst []), some (.int 0), some (.int 0)]) rfl ?_
  obtain ⟨ρ', h1, i, j, rfl⟩ := while_inv (c := m_common_pairs_c1) (body := m_common_pairs_b1)
    (fun n ρ => ∃ (i j : Nat) (acc : List (Nat × Nat)), ρ = [some S1, some S2, some (encT t), some (.lst (acc.map encP)), some (.int (i : Int)), some (.int (j : Int))] ∧ i ≤ xs.length ∧ j ≤ ys.length ∧ n = (xs.length - i) + (ys.length - j) ∧ acc ++ walk xs ys n i j = pairs xs ys ∧ acc.length ≤ i)
    (fun ρ => ∃ (i j : Nat), ρ = [some S1, some S2, some (encT t), some (.lst ((pairs xs ys).map encP)), some (.int (i : Int)), some (.int (j : Int))]) (fun n ρ hI => by
      obtain ⟨i, j, acc, rfl, hi, hj, hn, hw, hal⟩ := hI
      have c : m_common_pairs_c1 [some S1, some S2, some (encT t), some (.lst (acc.map encP)), some (.int (i : Int)), some (.int (j : Int))] = .ok (decide (i < xs.length) && decide (j < ys.length)) := by
        refine ok_b (andB_ok (lt_ok rfl (len_ok hs1 rfl)) fun _ => lt_ok rfl (len_ok hs2 rfl)) ?_
        simp
      by_cases h1 : i < xs.length
      · by_cases h2 : j < ys.length
        · refine .inr ⟨c.trans (by simp [h1, h2]), .inl ?_⟩
          have hx : xs[i]? = some xs[i] := List.getElem?_eq_getElem h1
          have hy : ys[j]? = some ys[j] := List.getElem?_eq_getElem h2
          obtain ⟨n', rfl⟩ : ∃ n', n = n' + 1 := ⟨n - 1, by omega⟩
          rw [walk, hx, hy] at hw
          simp only at hw
          have ce : toB (T.bin dEq (T.bin dIx (getV 0) (getV 4)) (T.bin dIx (getV 1) (getV 5))) [some S1, some S2, some (encT t), some (.lst (acc.map encP)), some (.int (i : Int)), some (.int (j : Int))] = .ok (decide (xs[i] = ys[j])) := toB_ok (bin_ok (ix_ok hs1 rfl rfl rfl hx) (ix_ok hs2 rfl rfl rfl hy) (he _ _))
          by_cases h : xs[i] = ys[j]
          · rw [if_pos h] at hw
            refine ⟨[some S1, some S2, some (encT t), some (.lst ((acc ++ [(i, j)]).map encP)), some (.int ((i + 1 : Nat) : Int)), some (.int ((j + 1 : Nat) : Int))], (xs.length - (i + 1)) + (ys.length - (j + 1)), .inl (if_t (ce.trans (by rw [decide_eq_true h])) ?_), by omega, i + 1, j + 1, _, rfl, by omega, by omega, rfl, ?_, by simp; omega⟩
            · refine seq_nx (app_ok (xs := acc.map encP) (d := encP (i, j)) rfl (by simp [encP]; decide) (by simp; omega)) ?_
              refine seq_nx (set_ok (add_ok (x := (i : Int)) (y := 1) rfl rfl)) ?_
              refine (set_ok (add_ok (x := (j : Int)) (y := 1) rfl rfl)).trans ?_
              simp
            · rw [← hw, walk_more xs ys _ n' (i + 1) (j + 1) (Nat.le_refl _) (by omega)]
              simp
          · rw [if_neg h] at hw
            have cg : toB (T.bin dGe (T.bin dIx (T.bin dIx (getV 2) (T.bin dAdd (getV 4) (conD (.int 1)))) (getV 5)) (T.bin dIx (T.bin dIx (getV 2) (getV 4)) (T.bin dAdd (getV 5) (conD (.int 1))))) [some S1, some S2, some (encT t), some (.lst (acc.map encP)), some (.int (i : Int)), some (.int (j : Int))] = .ok (decide (at_ xs ys i (j + 1) ≤ at_ xs ys (i + 1) j)) := by
              refine ok_b (ge_ok (hT.get (r := i + 1) (c := j) (by omega) (by omega) trivial rfl (add_ok (x := (i : Int)) (y := 1) rfl rfl) rfl (by omega) rfl) (hT.get (r := i) (c := j + 1) (by omega) (by omega) trivial rfl rfl (add_ok (x := (j : Int)) (y := 1) rfl rfl) rfl (by omega))) ?_
              simp
            by_cases h' : at_ xs ys i (j + 1) ≤ at_ xs ys (i + 1) j
            · rw [if_pos h'] at hw
              refine ⟨[some S1, some S2, some (encT t), some (.lst (acc.map encP)), some (.int ((i + 1 : Nat) : Int)), some (.int (j : Int))], (xs.length - (i + 1)) + (ys.length - j), .inl (if_f (ce.trans (by rw [decide_eq_false h])) (if_t (cg.trans (by rw [decide_eq_true h'])) ?_)), by omega, i + 1, j, _, rfl, by omega, by omega, rfl, ?_, by omega⟩
              · exact set_ok (add_ok (x := (i : Int)) (y := 1) rfl rfl)
              · rw [← hw, walk_more xs ys _ n' (i + 1) j (Nat.le_refl _) (by omega)]
            · rw [if_neg h'] at hw
              refine ⟨[some S1, some S2, some (encT t), some (.lst (acc.map encP)), some (.int (i : Int)), some (.int ((j + 1 : Nat) : Int))], (xs.length - i) + (ys.length - (j + 1)), .inl (if_f (ce.trans (by rw [decide_eq_false h])) (if_f (cg.trans (by rw [decide_eq_false h'])) ?_)), by omega, i, j + 1, _, rfl, by omega, by omega, rfl, ?_, by omega⟩
              · exact set_ok (add_ok (x := (j : Int)) (y := 1) rfl rfl)
              · rw [← hw, walk_more xs ys _ n' i (j + 1) (Nat.le_refl _) (by omega)]
        · refine .inl ⟨c.trans (by simp [h2]), i, j, ?_⟩
          have : walk xs ys n i j = [] := by
            cases n with
            | zero => rfl
            | succ n => rw [walk, List.getElem?_eq_none (show ys.length ≤ j by omega)]; split <;> simp_all
          rw [this, List.append_nil] at hw
          rw [hw]
      · refine .inl ⟨c.trans (by simp [h1]), i, j, ?_⟩
        have : walk xs ys n i j = [] := by
          cases n with
          | zero => rfl
          | succ n => rw [walk, List.getElem?_eq_none (show xs.length ≤ i by omega)]
        rw [this, List.append_nil] at hw
        rw [hw]) 1000000 (xs.length + ys.length) _ (by omega) ⟨0, 0, [], rfl, by omega, by omega, by omega, rfl, by simp⟩
  exact while_ok h1 (ret_ok rfl)
end
end Law

set_option Elab.async false
set_option linter.all false
set_option maxRecDepth 100000
set_option maxHeartbeats 4000000
/-! check_edits, edits_between, apply_edits: what they compute. Lines are tuples of numbers. -/
namespace Law
open PySem L2 T LC EC
abbrev Ln := List Int
def encL (l : Ln) : D := .tup (l.map D.int)
def encE (e : Edit Ln) : D := .tup [.int (e.pos : Int), .tup (e.rem.map encL), .tup (e.put.map encL)]
theorem eqb_encL (a b : Ln) : (encL a).eqb (encL b) = decide (a = b) := eqbA_ints a b
theorem dat_encL {n : Nat} (a : Ln) : D.dat (n + 1) (encL a) = true := by
  unfold encL
  rw [dat_tup, datA_ints]
theorem he_ln (a b : Ln) : dEq (encL a) (encL b) = .ok (.bl (decide (a = b))) := by
  rw [dEq_d (dat_encL a) (dat_encL b), eqb_encL]
theorem dat_lns {n : Nat} (a : List Ln) : D.datA (n + 1) (a.map encL) = true := datA_map (fun l => dat_encL l) a
theorem eqbA_lns (a b : List Ln) : D.eqbA (a.map encL) (b.map encL) = decide (a = b) := eqbA_map eqb_encL a b
theorem ne_lnsT (a b : List Ln) : dNe (.tup (a.map encL)) (.tup (b.map encL)) = .ok (.bl (!decide (a = b))) := by
  rw [dNe_d (show D.dat 60 _ = true by rw [dat_tup]; exact dat_lns a) (show D.dat 60 _ = true by rw [dat_tup]; exact dat_lns b)]
  refine congrArg Res.ok (congrArg D.bl (congrArg not ?_))
  exact eqbA_lns a b
theorem ne_lnsL (a b : List Ln) : dNe (.lst (a.map encL)) (.lst (b.map encL)) = .ok (.bl (!decide (a = b))) := by
  rw [dNe_d (show D.dat 60 _ = true by rw [dat_lst]; exact dat_lns a) (show D.dat 60 _ = true by rw [dat_lst]; exact dat_lns b)]
  refine congrArg Res.ok (congrArg D.bl (congrArg not ?_))
  exact eqbA_lns a b
theorem eq_lnsL (a b : List Ln) : dEq (.lst (a.map encL)) (.lst (b.map encL)) = .ok (.bl (decide (a = b))) := by
  rw [dEq_d (show D.dat 60 _ = true by rw [dat_lst]; exact dat_lns a) (show D.dat 60 _ = true by rw [dat_lst]; exact dat_lns b)]
  refine congrArg Res.ok (congrArg D.bl ?_)
  exact eqbA_lns a b
/-- cutting, of lines -/
theorem cutM (xs : List Ln) {i b : Nat} {y z : Int} (hy : y = (i : Int)) (hz : z = (b : Int)) (hi : i ≤ xs.length) (hb : b ≤ xs.length) : dSl (.lst (xs.map encL)) (some y) (some z) = .ok (.lst ((mid xs i b).map encL)) := by
  rw [dSl_l, cut_mid _ i b y z hy hz (by simpa using hi) (by simpa using hb)]
  unfold mid
  rw [List.map_take, List.map_drop]
theorem cutF (xs : List Ln) {i : Nat} {y : Int} (hy : y = (i : Int)) (hi : i ≤ xs.length) : dSl (.lst (xs.map encL)) (some y) none = .ok (.lst ((xs.drop i).map encL)) := by
  rw [dSl_l, cut_from _ i y hy (by simpa using hi), List.map_drop]

section
variable {xs ys : List Ln}
theorem edits_body {acc : List (Edit Ln)} {i j b a : Nat} (h1 : i ≤ b) (h2 : j ≤ a) (h3 : b ≤ xs.length) (h4 : a ≤ ys.length) (hl : acc.length ≤ 900000) : m_edits_between_b1 [some (.lst (xs.map encL)), some (.lst (ys.map encL)), some (.lst (acc.map encE)), some (.int (i : Int)), some (.int (j : Int)), some (.int (b : Int)), some (.int (a : Int))]
    = .nx [some (.lst (xs.map encL)), some (.lst (ys.map encL)), some (.lst ((acc ++ one xs ys i j b a).map encE)), some (.int ((b + 1 : Nat) : Int)), some (.int ((a + 1 : Nat) : Int)), some (.int (b : Int)), some (.int (a : Int))] := by
  have c : orB (toB (T.bin dGt (getV 5) (getV 3))) (toB (T.bin dGt (getV 6) (getV 4))) [some (.lst (xs.map encL)), some (.lst (ys.map encL)), some (.lst (acc.map encE)), some (.int (i : Int)), some (.int (j : Int)), some (.int (b : Int)), some (.int (a : Int))] = .ok (decide (i < b) || decide (j < a)) := by
    refine ok_b (orB_ok (gt_ok rfl rfl) (gt_ok rfl rfl)) ?_
    simp
  have fin : ∀ A : List (Edit Ln), sSeq (sSet 3 (T.bin dAdd (getV 5) (conD (.int 1)))) (sSet 4 (T.bin dAdd (getV 6) (conD (.int 1)))) [some (.lst (xs.map encL)), some (.lst (ys.map encL)), some (.lst (A.map encE)), some (.int (i : Int)), some (.int (j : Int)), some (.int (b : Int)), some (.int (a : Int))] = .nx [some (.lst (xs.map encL)), some (.lst (ys.map encL)), some (.lst (A.map encE)), some (.int ((b + 1 : Nat) : Int)), some (.int ((a + 1 : Nat) : Int)), some (.int (b : Int)), some (.int (a : Int))] := fun A =>
    seq_nx (set_ok (add_ok (x := (b : Int)) (y := 1) rfl rfl)) (set_ok (add_ok (x := (a : Int)) (y := 1) rfl rfl))
  unfold one
  by_cases h : i < b ∨ j < a
  · rw [if_pos h]
    refine seq_nx (if_t (c.trans (by simpa using h)) (app_ok (xs := acc.map encE) (d := encE ⟨i, mid xs i b, mid ys j a⟩) rfl ?_ (by simp; omega))) ?_
    · exact tup3_ok rfl (call1_ok (cutM xs rfl rfl (by omega) (by omega)) dTuple_l) (call1_ok (cutM ys rfl rfl (by omega) (by omega)) dTuple_l)
    · have := fin (acc ++ [⟨i, mid xs i b, mid ys j a⟩])
      rw [List.map_append] at this
      rw [List.map_append]
      exact this
  · rw [if_neg h, List.append_nil]
    exact seq_nx (if_f (c.trans (by simpa using h)) rfl) (fin acc)
def edits (xs ys : List Ln) : List (Edit Ln) := ebs xs ys 0 0 (pairs xs ys)
theorem pairs_len (xs ys : List Ln) : (pairs xs ys).length = lcs xs ys := walk_len xs ys _ 0 0 (by omega)
theorem pairs_rise (xs ys : List Ln) : Rising xs ys 0 0 (pairs xs ys) := walk_rising xs ys _ 0 0
theorem edits_between_eq (hl1 : xs.length ≤ 100000) (hl2 : ys.length ≤ 100000) : f_edits_between [.lst (xs.map encL), .lst (ys.map encL)] = .ok (.lst ((edits xs ys).map encE)) := by
  refine runF_rt rfl ?_
  have hP : (pairs xs ys).length ≤ 100000 := by
    rw [pairs_len]
    have := at_le1 xs ys 0 0
    unfold at_ at this
    simp at this
    omega
  obtain ⟨ρ', hf, i, j, acc, a, b, rfl, -, h2, -⟩ := for_inv (b := bTp 2 (bCons (bNm 5) (bCons (bNm 6) bNil))) (body := m_edits_between_b1)
    (fun k ρ => ∃ (i j : Nat) (acc : List (Edit Ln)) (a b : Option D), ρ = [some (.lst (xs.map encL)), some (.lst (ys.map encL)), some (.lst (acc.map encE)), some (.int (i : Int)), some (.int (j : Int)), a, b] ∧
      (k ≤ (pairs xs ys).length → i ≤ xs.length ∧ j ≤ ys.length ∧ Rising xs ys i j ((pairs xs ys).drop k) ∧ acc ++ ebs xs ys i j ((pairs xs ys).drop k) = edits xs ys) ∧ ((pairs xs ys).length < k → acc = edits xs ys) ∧ acc.length ≤ k)
    ((pairs xs ys ++ [(xs.length, ys.length)]).map encP) (fun k x ρ hk hI => by
      obtain ⟨i, j, acc, a, b, rfl, h1, -, h3⟩ := hI
      rw [List.getElem?_map] at hk
      obtain ⟨p, hp, rfl⟩ := Option.map_eq_some_iff.mp hk
      have hkl : k < (pairs xs ys).length + 1 := by
        have := (List.getElem?_eq_some_iff.mp hp).1
        simpa using this
      obtain ⟨hi, hj, hr, he⟩ := h1 (by omega)
      by_cases hk' : k < (pairs xs ys).length
      · rw [List.getElem?_append_left hk'] at hp
        obtain ⟨_, rfl⟩ := List.getElem?_eq_some_iff.mp hp
        rw [List.drop_eq_getElem_cons hk'] at hr he
        have hlt := rising_lt hr
        obtain ⟨g1, g2, g3, g4⟩ := hr
        generalize (pairs xs ys)[k] = p at *
        refine ⟨_, rfl, _, .inl (edits_body g1 g2 (by omega) (by omega) (by omega)), _, _, _, _, _, rfl, fun _ => ⟨by omega, by omega, g4, ?_⟩, fun z => by omega, ?_⟩
        · rw [← he, List.append_assoc]
          rfl
        · have : (one xs ys i j p.1 p.2).length ≤ 1 := by unfold one; split <;> simp
          simp only [List.length_append]
          omega
      · have hke : k = (pairs xs ys).length := by omega
        rw [List.getElem?_append_right (by omega), hke] at hp
        simp at hp
        subst hp
        rw [hke, List.drop_length] at he
        refine ⟨_, rfl, _, .inl (edits_body hi hj (Nat.le_refl _) (Nat.le_refl _) (by omega)), _, _, _, _, _, rfl, fun z => by omega, fun _ => ?_, ?_⟩
        · rw [← he]
          rfl
        · have : (one xs ys i j xs.length ys.length).length ≤ 1 := by unfold one; split <;> simp
          simp only [List.length_append]
          omega) (ρ := [some (.lst (xs.map encL)), some (.lst (ys.map encL)), some (.lst []), some (.int 0), some (.int 0), none, none]) ⟨0, 0, [], _, _, rfl, fun _ => ⟨by omega, by omega, pairs_rise xs ys, rfl⟩, fun z => by omega, by simp⟩
  have hacc := h2 (by simp)
  subst hacc
  unfold m_edits_between
  refine seq_nx (ρ' := [some (.lst (xs.map encL)), some (.lst (ys.map encL)), some (.lst []), none, none, none, none]) rfl ?_
  refine seq_nx (ρ' := [some (.lst (xs.map encL)), some (.lst (ys.map encL)), some (.lst []), some (.int 0), none, none, none]) rfl ?_
  refine seq_nx (ρ' := [some (.lst (xs.map encL)), some (.lst (ys.map encL)), some (.lst []), some (.int 0), some (.int 0), none, none]) rfl ?_
  refine seq_nx (for_ok ?_ hf) (ret_ok rfl)
  rw [itemsV_ap]
  have : T.bin dAdd (callV f_common_pairs (consA (getV 0) (consA (getV 1) noA))) (lstD (lstV (consA (tupV (consA (callV dLen (consA (getV 0) noA)) (consA (callV dLen (consA (getV 1) noA)) noA))) noA))) [some (.lst (xs.map encL)), some (.lst (ys.map encL)), some (.lst []), some (.int 0), some (.int 0), none, none] = .ok (.lst ((pairs xs ys ++ [(xs.length, ys.length)]).map encP)) := by
    refine bin_ok (call2_ok rfl rfl (common_pairs_eq (sq_l xs) (sq_l ys) he_ln (by omega) (by omega))) (lstD_ok (ds := [encP (xs.length, ys.length)]) ?_) ?_
    · rw [lstV_ap, consA_ap, tupV_ap, consA_ap, len_ok (sq_l xs) rfl, consA_ap, len_ok (sq_l ys) rfl]
      simp [encP, sz1]
    · rw [dAdd_l, if_pos (sz1 (by simp; omega)), List.map_append]
      rfl
  exact (congrArg (fun r => Res.bind r dItems) this).trans rfl
end
end Law

set_option Elab.async false
set_option linter.all false
set_option maxRecDepth 100000
set_option maxHeartbeats 4000000
/-! The lines that the laws make. -/
namespace Law
open PySem L2 T LC EC
theorem draws_eq : f__law_draws = runF 2 5 mDraws := rfl
theorem and_tt {a b : Rho → Res D} {ρ : Rho} (h1 : a ρ = .ok (.bl true)) (h2 : b ρ = .ok (.bl true)) : andV a b ρ = .ok (.bl true) := by
  rw [andV_ap, h1, Res.bind_ok]
  exact h2
theorem law_line_ex (z : Int) : ∃ l : Ln, f__law_line [.int z] = .ok (encL l) := by
  by_cases h : z % 8 < 5
  · refine ⟨[97 + z % 8, 10], runF_rt rfl ?_⟩
    refine seq_nx (set_ok (mod_ok (x := z) (int_ok rfl) rfl (by decide))) ?_
    exact seq_rt (if_t (ok_b (lt_ok (x := z % 8) rfl rfl) (by simpa using h)) (ret_ok (tup2_ok (add_ok (x := 97) (y := z % 8) rfl rfl) rfl)))
  by_cases h5 : z % 8 = 5
  · refine ⟨[10], runF_rt rfl ?_⟩
    refine seq_nx (set_ok (mod_ok (x := z) (int_ok rfl) rfl (by decide))) ?_
    refine seq_no (ok_b (lt_ok (x := z % 8) rfl rfl) (by simpa using h)) ?_
    exact seq_rt (if_t (ok_b (eq_ok (x := z % 8) rfl rfl) (by simpa using h5)) (ret_ok (tup1_ok rfl)))
  by_cases h6 : z % 8 = 6
  · refine ⟨[z / 8 % 10, 200 + z / 80 % 56, 10], runF_rt rfl ?_⟩
    refine seq_nx (set_ok (mod_ok (x := z) (int_ok rfl) rfl (by decide))) ?_
    refine seq_no (ok_b (lt_ok (x := z % 8) rfl rfl) (by simpa using h)) ?_
    refine seq_no (ok_b (eq_ok (x := z % 8) rfl rfl) (by simpa using h5)) ?_
    exact seq_rt (if_t (ok_b (eq_ok (x := z % 8) rfl rfl) (by simpa using h6)) (ret_ok (tup3_ok (mod_ok (int_ok (div_ok (x := z) rfl rfl (by decide))) rfl (by decide)) (add_ok (x := 200) rfl (mod_ok (int_ok (div_ok (x := z) rfl rfl (by decide))) rfl (by decide))) rfl)))
  · refine ⟨[97, 37, 92, 10], runF_rt rfl ?_⟩
    refine seq_nx (set_ok (mod_ok (x := z) (int_ok rfl) rfl (by decide))) ?_
    refine seq_no (ok_b (lt_ok (x := z % 8) rfl rfl) (by simpa using h)) ?_
    refine seq_no (ok_b (eq_ok (x := z % 8) rfl rfl) (by simpa using h5)) ?_
    refine seq_no (ok_b (eq_ok (x := z % 8) rfl rfl) (by simpa using h6)) (ret_ok ?_)
    simp [encL, sz1]
theorem fits_nat {k : Nat} (h : k ≤ 1000000) : Fits 64 (k : Int) := fits_small (by omega) (by omega)
theorem law_lines_ex {d o : Int} (hd : 0 ≤ d ∧ Fits 1048650 d) : ∃ ls : List Ln, ls.length ≤ 9 ∧ f__law_lines [.int d, .int o] = .ok (.lst (ls.map encL)) := by
  have h0 : 0 ≤ d % 10 ∧ d % 10 < 10 := ⟨Int.emod_nonneg _ (by decide), Int.emod_lt_of_pos _ (by decide)⟩
  refine ⟨(List.range (d % 10).toNat).map fun (k : Nat) => (law_line_ex (o / (3 * (k : Int) + 1) + (k : Int) * d)).choose, by simp; omega, runF_rt rfl (ret_ok (lstD_ok ?_))⟩
  rw [compV_ap, call1_ok (mod_ok (x := d) (int_ok rfl) rfl (by decide)) (rng1_int h0.1 (by omega)), Res.bind_ok, if_pos (sz1 (by simp; omega))]
  refine lcM_map _ _ fun k hk => ⟨_, rfl, ?_⟩
  have hk := List.mem_range.mp hk
  refine call1_ok (x := .int (o / (3 * (k : Int) + 1) + (k : Int) * d)) ?_ (law_line_ex (o / (3 * (k : Int) + 1) + (k : Int) * d)).choose_spec
  refine add_ok (div_ok (x := o) (y := 3 * (k : Int) + 1) rfl (add_ok (x := 3 * (k : Int)) (bin_ok (x := .int 3) (y := .int (k : Int)) rfl rfl (dMul_ok (Fits.mul (n := 64) (m := 64) (fits_small (by decide) (by decide)) (fits_nat (by omega)) (by omega)))) rfl) ⟨by omega, ?_⟩) (bin_ok (x := .int (k : Int)) (y := .int d) rfl rfl (dMul_ok (Fits.mul (fits_nat (by omega)) hd.2 (by omega))))
  have : (3 * (k : Int) + 1).natAbs < 2 ^ 9 := by omega
  exact Nat.lt_of_le_of_lt (Nat.log2_le_self _) (by omega)
theorem law_changed_ex {ls : List Ln} (hl : ls.length ≤ 1000) {d : Int} : ∃ ms : List Ln, ms.length ≤ 2 * ls.length + 1 ∧ f__law_changed [.lst (ls.map encL), .int d] = .ok (.lst (ms.map encL)) := by
  obtain ⟨ρ', hf, ms, a, b, rfl, hm⟩ := for_inv (b := bNm 3) (body := m__law_changed_b1) (fun k ρ => ∃ (ms : List Ln) (a b : Option D), ρ = [some (.lst (ls.map encL)), some (.int d), some (.lst (ms.map encL)), a, b] ∧ ms.length ≤ 2 * k)
    ((List.range ls.length).map fun (i : Nat) => D.int i) (fun k x ρ hk hI => by
      obtain ⟨ms, a, b, rfl, hm⟩ := hI
      rw [List.getElem?_map] at hk
      obtain ⟨z, hz, rfl⟩ := Option.map_eq_some_iff.mp hk
      obtain ⟨hkl, e⟩ := List.getElem?_eq_some_iff.mp hz
      simp at hkl e
      subst e
      refine ⟨_, rfl, ?_⟩
      have lg : ∀ c : Int, c = 3 ∨ c = 2 ∨ c = 5 → ∀ m : Int, m = 5 ∨ m = 1 → 0 < m * (k : Int) + c ∧ (m * (k : Int) + c).natAbs.log2 < 9000 := fun c hc m hm => by
        have h1 : 0 < m * (k : Int) + c ∧ (m * (k : Int) + c).natAbs < 8000 := by
          rcases hm with rfl | rfl <;> rcases hc with rfl | rfl | rfl <;> omega
        exact ⟨h1.1, Nat.lt_of_le_of_lt (Nat.log2_le_self _) (by omega)⟩
      suffices h : ∃ ms' : List Ln, ms'.length ≤ 2 * (k + 1) ∧ m__law_changed_b1 [some (.lst (ls.map encL)), some (.int d), some (.lst (ms.map encL)), some (.int (k : Int)), b] = .nx [some (.lst (ls.map encL)), some (.int d), some (.lst (ms'.map encL)), some (.int (k : Int)), some (.int (d / (5 * (k : Int) + 3) % 6))] by
        obtain ⟨ms', h1, h2⟩ := h
        exact ⟨_, .inl h2, ms', _, _, rfl, h1⟩
      have app : ∀ (ns : List Ln) (l : Ln) (g : Rho → Res D) (w : Option D), g [some (.lst (ls.map encL)), some (.int d), some (.lst (ns.map encL)), some (.int (k : Int)), w] = .ok (encL l) → ns.length ≤ 5000 → sApp 2 g [some (.lst (ls.map encL)), some (.int d), some (.lst (ns.map encL)), some (.int (k : Int)), w] = .nx [some (.lst (ls.map encL)), some (.int d), some (.lst ((ns ++ [l]).map encL)), some (.int (k : Int)), w] := fun ns l g w h hn => by
        rw [app_ok rfl h (by simp; omega), List.map_append]
        rfl
      have nl : ∀ (ns : List Ln) (w : Option D) (c : Int), c = 2 ∨ c = 5 → callV f__law_line (consA (T.bin dDiv (getV 1) (T.bin dAdd (getV 3) (conD (.int c)))) noA) [some (.lst (ls.map encL)), some (.int d), some (.lst (ns.map encL)), some (.int (k : Int)), w] = .ok (encL (law_line_ex (d / ((k : Int) + c))).choose) := fun ns w c hc => by
        have := lg c (by omega) 1 (.inr rfl)
        rw [Int.one_mul] at this
        exact call1_ok (div_ok (x := d) rfl (add_ok (x := (k : Int)) (y := c) rfl rfl) this) (law_line_ex _).choose_spec
      unfold m__law_changed_b1
      have m5 : CMulX 5 (k : Int) := Fits.mul (n := 64) (m := 64) (fits_small (by decide) (by decide)) (fits_nat (by omega)) (by omega)
      have s1 : sSet 4 (T.bin dMod (callV dInt (consA (T.bin dDiv (getV 1) (T.bin dAdd (T.bin dMul (conD (.int 5)) (getV 3)) (conD (.int 3)))) noA)) (conD (.int 6))) [some (.lst (ls.map encL)), some (.int d), some (.lst (ms.map encL)), some (.int (k : Int)), b] = .nx [some (.lst (ls.map encL)), some (.int d), some (.lst (ms.map encL)), some (.int (k : Int)), some (.int (d / (5 * (k : Int) + 3) % 6))] := set_ok (mod_ok (int_ok (div_ok (x := d) (y := 5 * (k : Int) + 3) rfl (add_ok (x := 5 * (k : Int)) (y := 3) (bin_ok (x := .int 5) (y := .int (k : Int)) rfl rfl (dMul_ok m5)) rfl) (lg 3 (.inl rfl) 5 (.inl rfl)))) rfl (by decide))
      generalize d / (5 * (k : Int) + 3) % 6 = w at *
      have hx : ls[k]? = some ls[k] := List.getElem?_eq_getElem hkl
      have ce : ∀ (ns : List Ln) (c : Int), toB (T.bin dEq (getV 4) (conD (.int c))) [some (.lst (ls.map encL)), some (.int d), some (.lst (ns.map encL)), some (.int (k : Int)), some (.int w)] = .ok (decide (w = c)) := fun ns c => eq_ok rfl rfl
      have cg : ∀ (ns : List Ln), toB (T.bin dGt (getV 4) (conD (.int 1))) [some (.lst (ls.map encL)), some (.int d), some (.lst (ns.map encL)), some (.int (k : Int)), some (.int w)] = .ok (decide (1 < w)) := fun ns => gt_ok rfl rfl
      by_cases h1 : w = 1
      · refine ⟨ms ++ [(law_line_ex (d / ((k : Int) + 2))).choose], by simp; omega, ?_⟩
        refine seq_nx s1 (seq_nx (if_t ((ce _ _).trans (by rw [decide_eq_true h1])) (app _ _ _ _ (nl _ _ 2 (.inl rfl)) (by omega))) ?_)
        refine seq_no ((cg _).trans (by rw [decide_eq_false (by omega)])) ?_
        exact if_f ((ce _ _).trans (by rw [decide_eq_false (by omega)])) rfl
      · by_cases h2 : w = 2
        · refine ⟨ms ++ [ls[k]] ++ [(law_line_ex (d / ((k : Int) + 5))).choose], by simp; omega, ?_⟩
          refine seq_nx s1 (seq_no ((ce _ _).trans (by rw [decide_eq_false h1])) ?_)
          refine seq_nx (if_t ((cg _).trans (by rw [decide_eq_true (by omega)])) (app _ _ _ _ (ix_ok (sq_l ls) rfl rfl rfl hx) (by omega))) ?_
          exact if_t ((ce _ _).trans (by rw [decide_eq_true h2])) (app _ _ _ _ (nl _ _ 5 (.inr rfl)) (by simp; omega))
        · by_cases h3 : 1 < w
          · refine ⟨ms ++ [ls[k]], by simp; omega, ?_⟩
            refine seq_nx s1 (seq_no ((ce _ _).trans (by rw [decide_eq_false h1])) ?_)
            refine seq_nx (if_t ((cg _).trans (by rw [decide_eq_true h3])) (app _ _ _ _ (ix_ok (sq_l ls) rfl rfl rfl hx) (by omega))) ?_
            exact if_f ((ce _ _).trans (by rw [decide_eq_false h2])) rfl
          · refine ⟨ms, by omega, ?_⟩
            refine seq_nx s1 (seq_no ((ce _ _).trans (by rw [decide_eq_false h1])) ?_)
            refine seq_no ((cg _).trans (by rw [decide_eq_false h3])) ?_
            exact if_f ((ce _ _).trans (by rw [decide_eq_false h2])) rfl) (ρ := [some (.lst (ls.map encL)), some (.int d), some (.lst []), none, none]) ⟨[], _, _, rfl, by simp⟩
  rw [List.length_map, List.length_range] at hm
  have fst : ∀ {g : Rho → Out} {o : Out}, g [some (.lst (ls.map encL)), some (.int d), some (.lst (ms.map encL)), a, b] = o → m__law_changed = sSeq (sSetN 2 (lstV noA)) (sSeq (sFor (callV dRng1 (consA (callV dLen (consA (getV 0) noA)) noA)) (bNm 3) m__law_changed_b1) g) → m__law_changed (startR 5 [.lst (ls.map encL), .int d]) = o := fun {g o} h e => by
    rw [e]
    refine seq_nx (ρ' := [some (.lst (ls.map encL)), some (.int d), some (.lst []), none, none]) rfl ?_
    exact seq_nx (for_ok (call1_ok (len_ok (sq_l ls) rfl) (rng1_of rfl (by omega))) hf) h
  have c : toB (T.bin dEq (T.bin dMod (callV dInt (consA (T.bin dDiv (getV 1) (conD (.int 7))) noA)) (conD (.int 5))) (conD (.int 0))) [some (.lst (ls.map encL)), some (.int d), some (.lst (ms.map encL)), a, b] = .ok (decide (d / 7 % 5 = 0)) := eq_ok (mod_ok (int_ok (div_ok (x := d) rfl rfl (by decide))) rfl (by decide)) rfl
  by_cases h : d / 7 % 5 = 0
  · refine ⟨ms ++ [[97, 98]], by simp; omega, runF_rt rfl (fst ?_ rfl)⟩
    refine seq_nx (if_t (c.trans (by rw [decide_eq_true h])) (app_ok (xs := ms.map encL) (d := encL [97, 98]) rfl (tup2_ok rfl rfl) (by simp; omega))) (ret_ok ?_)
    rw [List.map_append]
    rfl
  · exact ⟨ms, by omega, runF_rt rfl (fst (seq_no (c.trans (by rw [decide_eq_false h])) (ret_ok rfl)) rfl)⟩
end Law

set_option Elab.async false
set_option linter.all false
set_option maxRecDepth 100000
set_option maxHeartbeats 4000000
/-! Merging: the mirrors. -/
namespace Law
open PySem L2 T LC EC MG
local macro_rules
  | `(tactic| array_mem_dec) => `(tactic| first
    | with_reducible assumption
    | with_reducible exact dAdd_i
    | with_reducible exact dSub_i
    | with_reducible exact dLt_i
    | with_reducible exact dLe_i
    | with_reducible exact dGt_i
    | with_reducible exact dGe_i
    | with_reducible exact dEq_i
    | with_reducible exact dNe_i
    | with_reducible exact dInt_i
    | with_reducible exact dNeg_i
    | with_reducible exact dNotB_b
    | with_reducible exact dTru_b
    | with_reducible exact dEq_b
    | with_reducible exact dNe_b
    | with_reducible exact dEq_S
    | with_reducible exact dNe_S
    | with_reducible exact dLen_l
    | with_reducible exact dLen_t
    | with_reducible exact dLen_c
    | with_reducible exact dList_l
    | with_reducible exact dList_t
    | with_reducible exact dTuple_l
    | with_reducible exact dTuple_t
    | with_reducible exact dItems_l
    | with_reducible exact dItems_t
    | with_reducible exact isi_ll
    | with_reducible exact isi_tt
    | with_reducible exact isi_ss
    | with_reducible exact isi_ii
    | with_reducible exact dIs_n
    | with_reducible exact dIsNot_n
    | with_reducible exact dIs_b
    | with_reducible exact dIsNot_b
    | (with_reducible apply dMod_ok
       first | decide | omega)
    | (with_reducible apply dDiv_ok
       first | decide | assumption | omega)
    | (with_reducible apply dMul_ok
       first | assumption | decide)
    | (with_reducible apply dAdd_S
       first | omega | (simp; done) | (simp; omega) | (simp only [List.length_append, List.length_map, List.length_cons, List.length_nil, List.length_singleton] at *; omega))
    | (with_reducible apply dLen_S
       first | omega | (simp; done) | (simp; omega) | (simp only [List.length_append, List.length_map, List.length_cons, List.length_nil, List.length_singleton] at *; omega))
    | (with_reducible apply dAdd_L
       first | omega | (simp; done) | (simp; omega) | (simp only [List.length_append, List.length_map, List.length_cons, List.length_nil, List.length_singleton] at *; omega))
    | with_reducible exact dIx_last
    | (with_reducible apply dIx_t
       exact rfl)
    | (with_reducible apply dIx_l
       rfl))
local macro_rules
  | `(tactic| array_get_dec) => `(tactic| first
    | with_reducible exact conD_ap
    | (with_reducible show getV _ _ = _
       exact rfl)
    | with_reducible exact noA_ap
    | with_reducible exact noPart_ap
    | with_reducible exact yesB_ap
    | with_reducible assumption
    | (with_reducible apply bin_ok
       · array_get_dec
       · array_get_dec
       · array_mem_dec)
    | (with_reducible apply u_call
       · array_get_dec
       · array_mem_dec)
    | (with_reducible apply u_consA
       · array_get_dec
       · array_get_dec)
    | (with_reducible apply toB_ok
       array_get_dec)
    | (with_reducible apply u_and
       · array_get_dec
       · array_get_dec)
    | (with_reducible apply orB_ok
       · array_get_dec
       · array_get_dec)
    | (with_reducible apply notB_ok
       array_get_dec)
    | (with_reducible apply u_tru
       · array_get_dec
       · array_mem_dec)
    | (with_reducible apply u_chain
       · array_get_dec
       · array_get_dec
       · array_mem_dec
       · array_get_dec
       · array_mem_dec)
    | (with_reducible apply u_tup
       · array_get_dec
       · simp)
    | (with_reducible apply u_lst
       · array_get_dec
       · simp)
    | (with_reducible apply lstD_ok
       array_get_dec)
    | (with_reducible apply u_items
       · array_get_dec
       · array_mem_dec)
    | (with_reducible apply u_andV
       · array_get_dec
       · array_get_dec)
    | (with_reducible apply u_orV
       · array_get_dec
       · array_get_dec)
    | (with_reducible apply u_neg
       · array_get_dec
       · array_mem_dec)
    | (with_reducible apply u_notV
       · array_get_dec
       · array_mem_dec)
    | (with_reducible apply u_sl
       · array_get_dec
       · array_get_dec
       · array_get_dec
       · array_mem_dec)
    | (with_reducible apply u_part
       array_get_dec)
    | (with_reducible apply u_meth
       · array_get_dec
       · exact rfl
       · array_get_dec
       · array_mem_dec)
    | (with_reducible apply u_own
       array_get_dec))
local macro_rules
  | `(tactic| sizeOf_list_dec) => `(tactic| first
    | (with_reducible apply set_eq
       · array_get_dec
       · exact rfl)
    | (with_reducible apply ret_eq
       · array_get_dec
       · exact rfl)
    | (with_reducible apply setN_eq
       · array_get_dec
       · exact rfl)
    | (with_reducible apply skip_eq
       exact rfl)
    | (with_reducible apply app_eq
       · exact rfl
       · array_get_dec
       · first | omega | (simp; done) | (simp; omega) | (simp only [List.length_append, List.length_map, List.length_cons, List.length_nil, List.length_singleton] at *; omega)
       · exact rfl)
    | with_reducible assumption
    | (with_reducible apply seq_nx
       · sizeOf_list_dec))
local macro_rules
  | `(tactic| get_elem_tactic_trivial) => `(tactic| (with_reducible apply ok_d
                                                     · array_get_dec
                                                     · exact rfl))
def encS (s : Span) : D := .tup [.int (s.1 : Int), .int (s.2 : Int)]
def toI (s : Span) : Int × Int := ((s.1 : Int), (s.2 : Int))
def ofI (p : Int × Int) : Span := (p.1.toNat, p.2.toNat)
theorem ofI_toI (s : Span) : ofI (toI s) = s := rfl
def sortS (qs : List Span) : List Span := (sortP (qs.map toI)).map ofI
theorem sortS_toI (qs : List Span) : (sortS qs).map toI = sortP (qs.map toI) := by
  unfold sortS
  rw [List.map_map]
  refine (List.map_congr_left fun p hp => ?_).trans (List.map_id _)
  obtain ⟨s, _, rfl⟩ := List.mem_map.mp ((sortP_perm (qs.map toI)).mem_iff.mp hp)
  rfl
theorem sortS_perm (qs : List Span) : (sortS qs).Perm qs := by
  have := (sortP_perm (qs.map toI)).map ofI
  rw [List.map_map] at this
  exact this.trans (by rw [show qs.map (ofI ∘ toI) = qs from (List.map_congr_left fun s _ => ofI_toI s).trans (List.map_id _)])
theorem sortS_sorted (qs : List Span) : (sortS qs).Pairwise fun p q => p.1 ≤ q.1 := by
  have h := sortP_sorted (qs.map toI)
  rw [← sortS_toI, List.pairwise_map] at h
  refine h.imp fun {a b} h => ?_
  unfold leP toI at h
  simp only at h
  omega
theorem sortS_congr {qs rs : List Span} (h : qs.Perm rs) : sortS qs = sortS rs := by
  unfold sortS
  rw [sorted_uniq (sortP_sorted _) (sortP_sorted _) ((sortP_perm _).trans ((h.map toI).trans (sortP_perm _).symm))]
def spanOf (e : Edit Ln) : Span := (e.pos, e.pos + e.rem.length)
def spansOf (a b : List (Edit Ln)) : List Span := tsp (sortS ((a ++ b).map spanOf))
theorem touching_body {x0 x1 x2 x6 x7 x8 : Option D} {found : List Span} {s : Span} (hl : found.length ≤ 900000) :
    m_touching_spans_b1 [x0, x1, x2, some (.lst (found.map encS)), some (.int (s.1 : Int)), some (.int (s.2 : Int)), x6, x7, x8] = .nx [x0, x1, x2, some (.lst ((stepS found s).map encS)), some (.int (s.1 : Int)), some (.int (s.2 : Int)), x6, x7, x8] := by
  unfold m_touching_spans_b1
  rcases List.eq_nil_or_concat found with rfl | ⟨F, l, rfl⟩
  · refine if_f (andB_f (ok_b (gt_ok (len_ok (sq_l ([] : List Span)) rfl) rfl) (by simp))) ?_
    sizeOf_list_dec
  · rw [List.concat_eq_append] at *
    have e1 : dIx (encS l) (.int 1) = .ok (.int (l.2 : Int)) := dIx_t rfl
    have e0 : dIx (encS l) (.int 0) = .ok (.int (l.1 : Int)) := dIx_t rfl
    have e2 : dMax2 [.int (l.2 : Int), .int (s.2 : Int)] = .ok (.int ((max l.2 s.2 : Nat) : Int)) := by
      rw [dMax2_i]
      refine congrArg Res.ok (congrArg D.int ?_)
      split <;> omega
    have es : stepS (F ++ [l]) s = if s.1 ≤ l.2 then F ++ [(l.1, max l.2 s.2)] else F ++ [l] ++ [s] := by
      unfold stepS
      simp
    rw [es]
    by_cases h : s.1 ≤ l.2
    · rw [if_pos h]
      refine if_k (by array_get_dec) (by simp; omega) ?_
      exact setI_last (l := l) (m := (l.1, max l.2 s.2)) (by get_elem_tactic_trivial) rfl (by array_get_dec)
    · rw [if_neg h]
      refine if_n (by array_get_dec) (by simp; omega) ?_
      rw [show (F ++ [l] ++ [s]).map encS = (F ++ [l]).map encS ++ [encS s] by simp]
      sizeOf_list_dec
theorem touching_spans_eq {a b : List (Edit Ln)} (hl : a.length + b.length ≤ 100000) : f_touching_spans [.lst (a.map encE), .lst (b.map encE)] = .ok (.lst ((spansOf a b).map encS)) := by
  refine runF_rt rfl ?_
  have h1 : lstD (compV (itemsV (T.bin dAdd (lstD (callV dList (consA (getV 0) noA))) (lstD (callV dList (consA (getV 1) noA))))) (bTp 3 (bCons (bNm 6) (bCons (bNm 7) (bCons (bNm 8) bNil)))) yesB (tupV (consA (getV 6) (consA (T.bin dAdd (getV 6) (callV dLen (consA (getV 7) noA))) noA))) [6, 7, 8]) (startR 9 [.lst (a.map encE), .lst (b.map encE)]) = .ok (.lst (((a ++ b).map spanOf).map encS)) := by
    refine lstD_ok ?_
    have hi : itemsV (T.bin dAdd (lstD (callV dList (consA (getV 0) noA))) (lstD (callV dList (consA (getV 1) noA)))) (startR 9 [.lst (a.map encE), .lst (b.map encE)]) = .ok ((a ++ b).map encE) := by array_get_dec
    rw [compV_ap, hi, Res.bind_ok, if_pos (sz1 (by simp; omega))]
    refine lcM_map _ _ fun e _ => ⟨_, rfl, ?_⟩
    refine (tup2_ok (x := .int (e.pos : Int)) (y := .int ((e.pos + e.rem.length : Nat) : Int)) rfl (add_ok (x := (e.pos : Int)) rfl (len_ok (sq_t e.rem) rfl))).trans rfl
  have hlen : (sortS ((a ++ b).map spanOf)).length = a.length + b.length := by
    rw [(sortS_perm _).length_eq]
    simp
  obtain ⟨ρ', hf, x4, x5, rfl⟩ := for_inv (b := bTp 2 (bCons (bNm 4) (bCons (bNm 5) bNil))) (body := m_touching_spans_b1)
    (fun k ρ => ∃ (x4 x5 : Option D), ρ = [some (.lst (a.map encE)), some (.lst (b.map encE)), some (.lst (((a ++ b).map spanOf).map encS)), some (.lst ((((sortS ((a ++ b).map spanOf)).take k).foldl stepS []).map encS)), x4, x5, none, none, none]) ((sortS ((a ++ b).map spanOf)).map encS) (fun k x ρ hk hI => by
      obtain ⟨x4, x5, rfl⟩ := hI
      rw [List.getElem?_map] at hk
      obtain ⟨s, hs, rfl⟩ := Option.map_eq_some_iff.mp hk
      refine ⟨_, rfl, _, .inl (touching_body ?_), some (.int (s.1 : Int)), some (.int (s.2 : Int)), ?_⟩
      · have key : ∀ (qs found : List Span), (qs.foldl stepS found).length ≤ found.length + qs.length := fun qs => by
          induction qs with
          | nil => intro found; simp
          | cons q qs ih =>
            intro found
            have h2 : (stepS found q).length ≤ found.length + 1 := by
              unfold stepS
              split
              · split
                · simp only [List.length_append, List.length_dropLast, List.length_singleton]
                  omega
                · simp
              · simp
            have := ih (stepS found q)
            simp only [List.foldl_cons, List.length_cons]
            omega
        have := key ((sortS ((a ++ b).map spanOf)).take k) []
        rw [List.length_take] at this
        simp only [List.length_nil] at this
        omega
      · rw [List.take_add_one, hs, List.foldl_append]
        rfl) (ρ := [some (.lst (a.map encE)), some (.lst (b.map encE)), some (.lst (((a ++ b).map spanOf).map encS)), some (.lst []), none, none, none, none, none]) ⟨none, none, rfl⟩
  rw [List.length_map, List.take_length] at hf
  unfold m_touching_spans
  refine seq_nx (set_ok h1) ?_
  sizeOf_list_dec
  refine seq_nx (for_ok ?_ hf) (ret_ok rfl)
  rw [itemsV_ap, lstD_ap, callV_ap, consA_ap]
  show ((dSortedP [.lst (((a ++ b).map spanOf).map encS)]).bind fun ds => Res.ok (D.lst ds)).bind dItems = _
  have e : ((a ++ b).map spanOf).map encS = (((a ++ b).map spanOf).map toI).map dPair := by
    simp only [List.map_map]
    rfl
  have e2 : dSortedP [.lst (((a ++ b).map spanOf).map encS)] = .ok ((sortS ((a ++ b).map spanOf)).map encS) := by
    rw [e]
    unfold dSortedP
    simp only [pairs_map]
    rw [← sortS_toI, List.map_map]
    rfl
  rw [e2, Res.bind_ok, Res.bind_ok, dItems_l]
/-! ### a side -/
theorem cutMs (xs : List Ln) {i b : Nat} (hi : i ≤ xs.length) (hb : b ≤ xs.length) : dSl (.lst (xs.map encL)) (some (i : Int)) (some (b : Int)) = .ok (.lst ((mid xs i b).map encL)) := cutM xs rfl rfl hi hb
theorem side_of_eq {xs : List Ln} {es : List (Edit Ln)} {s : Span} (ho : Okay xs 0 es) (h1 : s.1 ≤ xs.length) (h2 : s.2 ≤ xs.length) (hl : (side xs es s).length ≤ 100000) : f_side_of [.lst (xs.map encL), .lst (es.map encE), encS s] = .ok (.tup ((side xs es s).map encL)) := by
  have e0 : dIx (encS s) (.int 0) = .ok (.int (s.1 : Int)) := dIx_t rfl
  have e1 : dIx (encS s) (.int 1) = .ok (.int (s.2 : Int)) := dIx_t rfl
  refine runF_rt rfl ?_
  obtain ⟨ρ', hf, F, d, x5, x6, x7, rfl, hd, hF⟩ := for_inv (b := bTp 3 (bCons (bNm 5) (bCons (bNm 6) (bCons (bNm 7) bNil)))) (body := m_side_of_b1)
    (fun k ρ => ∃ (F : List Ln) (d : Nat) (x5 x6 x7 : Option D), ρ = [some (.lst (xs.map encL)), some (.lst (es.map encE)), some (encS s), some (.lst (F.map encL)), some (.int (d : Int)), x5, x6, x7] ∧ d ≤ xs.length ∧ F ++ sideGo xs s d (es.drop k) = side xs es s) (es.map encE) (fun k x ρ hk hI => by
      obtain ⟨F, d, x5, x6, x7, rfl, hd, hF⟩ := hI
      rw [List.getElem?_map] at hk
      obtain ⟨e, he, rfl⟩ := Option.map_eq_some_iff.mp hk
      have hm := List.mem_of_getElem? he
      obtain ⟨hkl, rfl⟩ := List.getElem?_eq_some_iff.mp he
      have hb := (MG.Okay.lo ho _ hm).2.1
      rw [List.drop_eq_getElem_cons hkl] at hF
      generalize es[k] = e at *
      rw [sideGo] at hF
      by_cases hi : s.1 ≤ e.pos ∧ e.pos + e.rem.length ≤ s.2
      · have hi' : inS s e = true := decide_eq_true hi
        rw [if_pos hi'] at hF
        have hz : F.length + ((mid xs d e.pos).length + e.put.length) ≤ 100000 := by
          rw [← hF] at hl
          simp only [List.length_append] at hl
          omega
        refine ⟨_, rfl, _, .inl ?_, F ++ mid xs d e.pos ++ e.put, e.pos + e.rem.length, some (.int (e.pos : Int)), some (.tup (e.rem.map encL)), some (.tup (e.put.map encL)), rfl, hb, by rw [← hF]; simp⟩
        unfold m_side_of_b1
        refine if_k (by array_get_dec) (by simp; omega) ?_
        have c1 := cutMs xs (i := d) (b := e.pos) hd (by omega)
        have le : (((e.pos + e.rem.length : Nat)) : Int) = (e.pos : Int) + ((e.rem.map encL).length : Int) := by simp
        rw [le]
        sizeOf_list_dec
        sizeOf_list_dec
      · have hi' : inS s e = false := by unfold inS; rw [decide_eq_false_iff_not]; exact hi
        rw [if_neg (by rw [hi']; exact Bool.false_ne_true)] at hF
        refine ⟨_, rfl, _, .inl ?_, F, d, some (.int (e.pos : Int)), some (.tup (e.rem.map encL)), some (.tup (e.put.map encL)), rfl, hd, hF⟩
        unfold m_side_of_b1
        refine if_n (by array_get_dec) (by simp; omega) ?_
        sizeOf_list_dec) (ρ := [some (.lst (xs.map encL)), some (.lst (es.map encE)), some (encS s), some (.lst []), some (.int (s.1 : Int)), none, none, none]) ⟨[], s.1, none, none, none, rfl, h1, rfl⟩
  rw [List.length_map, List.drop_length] at hF
  rw [sideGo] at hF
  have hz : F.length + (mid xs d s.2).length ≤ 100000 := by
    rw [← hF] at hl
    simpa using hl
  have c1 := cutMs xs (i := d) (b := s.2) hd h2
  unfold m_side_of
  sizeOf_list_dec
  sizeOf_list_dec
  refine seq_nx (for_ok (by array_get_dec) hf) ?_
  rw [← hF]
  sizeOf_list_dec
end Law

set_option Elab.async false
set_option linter.all false
set_option maxRecDepth 100000
set_option maxHeartbeats 4000000
/-! Merging: the regions. -/
namespace Law
open PySem L2 T LC EC MG
local macro_rules
  | `(tactic| array_mem_dec) => `(tactic| first
    | with_reducible assumption
    | with_reducible exact dAdd_i
    | with_reducible exact dSub_i
    | with_reducible exact dLt_i
    | with_reducible exact dLe_i
    | with_reducible exact dGt_i
    | with_reducible exact dGe_i
    | with_reducible exact dEq_i
    | with_reducible exact dNe_i
    | with_reducible exact dInt_i
    | with_reducible exact dNeg_i
    | with_reducible exact dNotB_b
    | with_reducible exact dTru_b
    | with_reducible exact dEq_b
    | with_reducible exact dNe_b
    | with_reducible exact dEq_S
    | with_reducible exact dNe_S
    | with_reducible exact dLen_l
    | with_reducible exact dLen_t
    | with_reducible exact dLen_c
    | with_reducible exact dList_l
    | with_reducible exact dList_t
    | with_reducible exact dTuple_l
    | with_reducible exact dTuple_t
    | with_reducible exact dItems_l
    | with_reducible exact dItems_t
    | with_reducible exact isi_ll
    | with_reducible exact isi_tt
    | with_reducible exact isi_ss
    | with_reducible exact isi_ii
    | with_reducible exact dIs_n
    | with_reducible exact dIsNot_n
    | with_reducible exact dIs_b
    | with_reducible exact dIsNot_b
    | (with_reducible apply dMod_ok
       first | decide | omega)
    | (with_reducible apply dDiv_ok
       first | decide | assumption | omega)
    | (with_reducible apply dMul_ok
       first | assumption | decide)
    | (with_reducible apply dAdd_S
       first | omega | (simp; done) | (simp; omega) | (simp only [List.length_append, List.length_map, List.length_cons, List.length_nil, List.length_singleton] at *; omega))
    | (with_reducible apply dLen_S
       first | omega | (simp; done) | (simp; omega) | (simp only [List.length_append, List.length_map, List.length_cons, List.length_nil, List.length_singleton] at *; omega))
    | (with_reducible apply dAdd_L
       first | omega | (simp; done) | (simp; omega) | (simp only [List.length_append, List.length_map, List.length_cons, List.length_nil, List.length_singleton] at *; omega))
    | with_reducible exact dIx_last
    | (with_reducible apply dIx_t
       exact rfl)
    | (with_reducible apply dIx_l
       rfl))
local macro_rules
  | `(tactic| array_get_dec) => `(tactic| first
    | with_reducible exact conD_ap
    | (with_reducible show getV _ _ = _
       exact rfl)
    | with_reducible exact noA_ap
    | with_reducible exact noPart_ap
    | with_reducible exact yesB_ap
    | with_reducible assumption
    | (with_reducible apply bin_ok
       · array_get_dec
       · array_get_dec
       · array_mem_dec)
    | (with_reducible apply u_call
       · array_get_dec
       · array_mem_dec)
    | (with_reducible apply u_consA
       · array_get_dec
       · array_get_dec)
    | (with_reducible apply toB_ok
       array_get_dec)
    | (with_reducible apply u_and
       · array_get_dec
       · array_get_dec)
    | (with_reducible apply orB_ok
       · array_get_dec
       · array_get_dec)
    | (with_reducible apply notB_ok
       array_get_dec)
    | (with_reducible apply u_tru
       · array_get_dec
       · array_mem_dec)
    | (with_reducible apply u_chain
       · array_get_dec
       · array_get_dec
       · array_mem_dec
       · array_get_dec
       · array_mem_dec)
    | (with_reducible apply u_tup
       · array_get_dec
       · simp)
    | (with_reducible apply u_lst
       · array_get_dec
       · simp)
    | (with_reducible apply lstD_ok
       array_get_dec)
    | (with_reducible apply u_items
       · array_get_dec
       · array_mem_dec)
    | (with_reducible apply u_andV
       · array_get_dec
       · array_get_dec)
    | (with_reducible apply u_orV
       · array_get_dec
       · array_get_dec)
    | (with_reducible apply u_neg
       · array_get_dec
       · array_mem_dec)
    | (with_reducible apply u_notV
       · array_get_dec
       · array_mem_dec)
    | (with_reducible apply u_sl
       · array_get_dec
       · array_get_dec
       · array_get_dec
       · array_mem_dec)
    | (with_reducible apply u_part
       array_get_dec)
    | (with_reducible apply u_meth
       · array_get_dec
       · exact rfl
       · array_get_dec
       · array_mem_dec)
    | (with_reducible apply u_own
       array_get_dec))
local macro_rules
  | `(tactic| sizeOf_list_dec) => `(tactic| first
    | (with_reducible apply set_eq
       · array_get_dec
       · exact rfl)
    | (with_reducible apply ret_eq
       · array_get_dec
       · exact rfl)
    | (with_reducible apply setN_eq
       · array_get_dec
       · exact rfl)
    | (with_reducible apply skip_eq
       exact rfl)
    | (with_reducible apply app_eq
       · exact rfl
       · array_get_dec
       · first | omega | (simp; done) | (simp; omega) | (simp only [List.length_append, List.length_map, List.length_cons, List.length_nil, List.length_singleton] at *; omega)
       · exact rfl)
    | with_reducible assumption
    | (with_reducible apply seq_nx
       · sizeOf_list_dec))
local macro_rules
  | `(tactic| get_elem_tactic_trivial) => `(tactic| (with_reducible apply ok_d
                                                     · array_get_dec
                                                     · exact rfl))
inductive Wd where
  | same | both | right | left | conflict
  deriving DecidableEq
structure Reg where
  w : Wd
  old : List Ln
  left : List Ln
  right : List Ln
def regWord (old l r : List Ln) : Wd := if l = r then .both else if l = old then .right else if r = old then .left else .conflict
def dueWord (old l r : List Ln) : Wd := if l = r then (if l = old then .same else .both) else if l = old then .right else if r = old then .left else .conflict
abbrev sameR (l : List Ln) : Reg := ⟨.same, l, l, l⟩
abbrev spanR (xs : List Ln) (a b : List (Edit Ln)) (s : Span) : Reg := ⟨regWord (mid xs s.1 s.2) (side xs a s) (side xs b s), mid xs s.1 s.2, side xs a s, side xs b s⟩
def regs (xs : List Ln) (a b : List (Edit Ln)) : Nat → List Span → List Reg
  | d, [] => if d < xs.length then [sameR (xs.drop d)] else []
  | d, s :: S => (if d < s.1 then [sameR (mid xs d s.1)] else []) ++ (spanR xs a b s :: regs xs a b s.2 S)
/-- the spans, from d on -/
structure Fit (N d : Nat) (S : List Span) : Prop where
  sep : Sep S
  bd : ∀ s ∈ S, d ≤ s.1 ∧ s.2 ≤ N
  d : d ≤ N
theorem Fit.tail {N d : Nat} {s : Span} {S : List Span} (h : Fit N d (s :: S)) : Fit N s.2 S ∧ d ≤ s.1 ∧ s.1 ≤ s.2 ∧ s.2 ≤ N ∧ ∀ t ∈ S, s.2 < t.1 :=
  ⟨⟨h.sep.tail, fun t ht => ⟨Nat.le_of_lt ((List.pairwise_cons.mp h.sep.lt).1 t ht), (h.bd t (by simp [ht])).2⟩, (h.bd s (by simp)).2⟩, (h.bd s (by simp)).1, h.sep.le s (by simp), (h.bd s (by simp)).2, fun t ht => (List.pairwise_cons.mp h.sep.lt).1 t ht⟩
theorem regs_part (f : Reg → List Ln) (g : Span → List Ln) {xs : List Ln} {a b : List (Edit Ln)} (hs : ∀ l : List Ln, f ⟨.same, l, l, l⟩ = l) (hg : ∀ (s : Span) (w : Wd), f ⟨w, mid xs s.1 s.2, side xs a s, side xs b s⟩ = g s) :
    ∀ {S : List Span} {d : Nat}, Fit xs.length d S → ((regs xs a b d S).map f).flatten = (S.foldr (fun s r d => mid xs d s.1 ++ g s ++ r s.2) fun d => xs.drop d) d
  | [], d, h => by
    unfold regs
    split
    · simp [hs]
    · have := h.d
      simp
      omega
  | s :: S, d, h => by
    obtain ⟨ht, h1, h2, h3, h4⟩ := h.tail
    have ih := regs_part f g hs hg ht
    unfold regs
    rw [List.map_append, List.flatten_append, List.map_cons, List.flatten_cons, hg, ih, List.foldr_cons]
    split
    · simp [hs]
    · rw [show d = s.1 by omega, mid_self]
      simp
theorem fold_segs {xs : List Ln} {es : List (Edit Ln)} : ∀ {S : List Span} {d : Nat}, (S.foldr (fun s r d => mid xs d s.1 ++ side xs es s ++ r s.2) fun d => xs.drop d) d = segs xs es d S
  | [], d => rfl
  | s :: S, d => by
    rw [List.foldr_cons, fold_segs]
    rfl
theorem fold_base {xs : List Ln} : ∀ {S : List Span} {d : Nat}, Fit xs.length d S → (S.foldr (fun s r d => mid xs d s.1 ++ mid xs s.1 s.2 ++ r s.2) fun d => xs.drop d) d = xs.drop d
  | [], d, _ => rfl
  | s :: S, d, h => by
    obtain ⟨ht, h1, h2, h3, h4⟩ := h.tail
    rw [List.foldr_cons, fold_base ht, ← mid_end, ← mid_end, mid_app h1 h2, mid_app (by omega) h3]
theorem regs_due {xs : List Ln} {a b : List (Edit Ln)} : ∀ {S : List Span} {d : Nat}, (∀ s ∈ S, ¬ (side xs a s = mid xs s.1 s.2 ∧ side xs b s = mid xs s.1 s.2)) → ∀ r ∈ regs xs a b d S, r.w = dueWord r.old r.left r.right
  | [], d, _, r, hr => by
    unfold regs at hr
    split at hr
    · rw [List.mem_singleton.mp hr]
      simp [dueWord]
    · simp at hr
  | s :: S, d, h, r, hr => by
    unfold regs at hr
    rcases List.mem_append.mp hr with hr | hr
    · split at hr
      · rw [List.mem_singleton.mp hr]
        simp [dueWord]
      · simp at hr
    · rcases List.mem_cons.mp hr with rfl | hr
      · have := h s (by simp)
        show regWord (mid xs s.1 s.2) (side xs a s) (side xs b s) = dueWord (mid xs s.1 s.2) (side xs a s) (side xs b s)
        unfold regWord dueWord
        split
        · rename_i e
          rw [if_neg]
          intro e2
          exact this ⟨e2, by rw [← e, e2]⟩
        · rfl
      · exact regs_due (fun t ht => h t (by simp [ht])) r hr
/-- one that is the same beside one that is not -/
def altR : Option Bool → List Reg → Prop
  | _, [] => True
  | p, r :: R => p ≠ some (decide (r.w = .same)) ∧ (r.w = .same → r.old ≠ []) ∧ altR (some (decide (r.w = .same))) R
theorem regWord_ne (o l r : List Ln) : regWord o l r ≠ .same := by
  unfold regWord
  repeat' split
  all_goals (intro z; cases z)
theorem mid_ne {xs : List Ln} {i j : Nat} (h : i < j) (h2 : j ≤ xs.length) : mid xs i j ≠ [] := fun z => by
  have := mid_len (i := i) h2
  rw [z] at this
  simp at this
  omega
theorem regs_alt {xs : List Ln} {a b : List (Edit Ln)} : ∀ {S : List Span} {d : Nat} {p : Option Bool}, Fit xs.length d S → (p = none ∨ (p = some false ∧ ∀ s ∈ S, d < s.1)) → altR p (regs xs a b d S)
  | [], d, p, hf, h => by
    unfold regs
    split
    · refine ⟨?_, fun _ z => ?_, trivial⟩
      · rcases h with rfl | ⟨rfl, _⟩ <;> simp
      · have := congrArg List.length z
        simp at this
        omega
    · trivial
  | s :: S, d, p, hf, h => by
    obtain ⟨ht, h1, h2, h3, h4⟩ := hf.tail
    have ih := regs_alt (a := a) (b := b) (p := some false) ht (.inr ⟨rfl, h4⟩)
    have hw : decide (regWord (mid xs s.1 s.2) (side xs a s) (side xs b s) = Wd.same) = false := by simpa using regWord_ne _ _ _
    unfold regs
    split
    · rename_i hlt
      refine ⟨?_, fun _ => mid_ne hlt (by omega), ?_⟩
      · rcases h with rfl | ⟨rfl, _⟩ <;> simp
      · refine ⟨?_, fun z => absurd z (regWord_ne _ _ _), ?_⟩
        · simp only
          rw [hw]
          simp
        · simp only
          rw [hw]
          exact ih
    · rename_i hlt
      have hp : p = none := by
        rcases h with h | ⟨_, h⟩
        · exact h
        · exact absurd (h s (by simp)) hlt
      subst hp
      refine ⟨by simp, fun z => absurd z (regWord_ne _ _ _), ?_⟩
      simp only
      rw [hw]
      exact ih
/-! ### the mirrors -/
def encW : Wd → Str
  | .same => "same"
  | .both => "both"
  | .right => "right"
  | .left => "left"
  | .conflict => "conflict"
theorem encW_inj (a b : Wd) : (encW a = encW b) ↔ a = b := by
  constructor
  · intro h
    cases a <;> cases b <;> first | rfl | exact absurd h (by decide +kernel)
  · intro h
    rw [h]
theorem eq_W (a b : Wd) : dEq (.str (encW a)) (.str (encW b)) = .ok (.bl (decide (a = b))) := by
  rw [dEq_s]
  refine congrArg Res.ok (congrArg D.bl ?_)
  rw [Bool.eq_iff_iff]
  simp [encW_inj]
theorem ne_W (a b : Wd) : dNe (.str (encW a)) (.str (encW b)) = .ok (.bl (!decide (a = b))) := by
  rw [dNe_s]
  refine congrArg Res.ok (congrArg D.bl (congrArg not ?_))
  rw [Bool.eq_iff_iff]
  simp [encW_inj]
abbrev encLs (ls : List Ln) : D := .tup (ls.map encL)
def encR (r : Reg) : D := .tup [.str (encW r.w), encLs r.old, encLs r.left, encLs r.right]
theorem eq_lnsT (a b : List Ln) : dEq (encLs a) (encLs b) = .ok (.bl (decide (a = b))) := by
  rw [dEq_d (show D.dat 60 _ = true by rw [dat_tup]; exact dat_lns a) (show D.dat 60 _ = true by rw [dat_tup]; exact dat_lns b)]
  refine congrArg Res.ok (congrArg D.bl ?_)
  exact eqbA_lns a b
theorem region_word_eq (o l r : List Ln) : f_region_word [encLs o, encLs l, encLs r] = .ok (.str (encW (regWord o l r))) := by
  have e1 := eq_lnsT l r
  have e2 := eq_lnsT l o
  have e3 := eq_lnsT r o
  refine runF_rt rfl ?_
  unfold m_region_word regWord
  by_cases h1 : l = r
  · rw [if_pos h1]
    exact seq_gt (by array_get_dec) (by simp [h1]) rfl
  · rw [if_neg h1]
    refine seq_g (by array_get_dec) (by simp [h1]) ?_
    by_cases h2 : l = o
    · rw [if_pos h2]
      exact seq_gt (by array_get_dec) (by simp [h2]) rfl
    · rw [if_neg h2]
      refine seq_g (by array_get_dec) (by simp [h2]) ?_
      by_cases h3 : r = o
      · rw [if_pos h3]
        exact seq_gt (by array_get_dec) (by simp [h3]) rfl
      · rw [if_neg h3]
        exact seq_g (by array_get_dec) (by simp [h3]) rfl
theorem cutFs (xs : List Ln) {i : Nat} (hi : i ≤ xs.length) : dSl (.lst (xs.map encL)) (some (i : Int)) none = .ok (.lst ((xs.drop i).map encL)) := cutF xs rfl hi
theorem regs_len {xs : List Ln} {a b : List (Edit Ln)} : ∀ (S : List Span) (d : Nat), (regs xs a b d S).length ≤ 2 * S.length + 1
  | [], d => by
    unfold regs
    split <;> simp
  | s :: S, d => by
    have := regs_len (xs := xs) (a := a) (b := b) S s.2
    unfold regs
    simp only [List.length_append, List.length_cons]
    split
    · simp
      omega
    · simp
      omega
/-- what the edits and the spans are to one another -/
structure Sides (xs : List Ln) (a : List (Edit Ln)) (S : List Span) : Prop where
  ok : Okay xs 0 a
  len : ∀ s ∈ S, (side xs a s).length ≤ 100000
theorem merge_loop {xs : List Ln} {x1 x2 : Option D} {a b : List (Edit Ln)} {S : List Span} (hf : Fit xs.length 0 S) (ha : Sides xs a S) (hb : Sides xs b S) (hS : S.length ≤ 100000) :
    ∃ (d : Nat) (acc : List Reg) (x7 x8 x9 x10 x11 : Option D), forM (bNm 7) m_merge_lines_b1 (S.map encS) [some (.lst (xs.map encL)), x1, x2, some (.lst (a.map encE)), some (.lst (b.map encE)), some (.lst []), some (.int 0), none, none, none, none, none] =
      .nx [some (.lst (xs.map encL)), x1, x2, some (.lst (a.map encE)), some (.lst (b.map encE)), some (.lst (acc.map encR)), some (.int (d : Int)), x7, x8, x9, x10, x11] ∧ acc ++ regs xs a b d [] = regs xs a b 0 S ∧ d ≤ xs.length ∧ acc.length ≤ 300000 := by
  obtain ⟨ρ', hf, d, acc, x7, x8, x9, x10, x11, rfl, h1, h2⟩ := for_inv (b := bNm 7) (body := m_merge_lines_b1)
    (fun k ρ => ∃ (d : Nat) (acc : List Reg) (x7 x8 x9 x10 x11 : Option D), ρ = [some (.lst (xs.map encL)), x1, x2, some (.lst (a.map encE)), some (.lst (b.map encE)), some (.lst (acc.map encR)), some (.int (d : Int)), x7, x8, x9, x10, x11] ∧ acc ++ regs xs a b d (S.drop k) = regs xs a b 0 S ∧ Fit xs.length d (S.drop k)) (S.map encS) (fun k x ρ hk hI => by
      obtain ⟨d, acc, x7, x8, x9, x10, x11, rfl, h1, h2⟩ := hI
      rw [List.getElem?_map] at hk
      obtain ⟨s, hs, rfl⟩ := Option.map_eq_some_iff.mp hk
      have hm := List.mem_of_getElem? hs
      obtain ⟨hkl, rfl⟩ := List.getElem?_eq_some_iff.mp hs
      rw [List.drop_eq_getElem_cons hkl] at h1 h2
      have hlen := regs_len (xs := xs) (a := a) (b := b) S 0
      rw [← h1] at hlen
      simp only [List.length_append] at hlen
      generalize S[k] = s at *
      obtain ⟨ht, g1, g2, g3, g4⟩ := h2.tail
      generalize regs xs a b 0 S = R0 at *
      unfold regs at h1
      have e0 : dIx (encS s) (.int 0) = .ok (.int (s.1 : Int)) := dIx_t rfl
      have e1 : dIx (encS s) (.int 1) = .ok (.int (s.2 : Int)) := dIx_t rfl
      have c1 := cutMs xs (i := d) (b := s.1) (by omega) (by omega)
      have c2 := cutMs xs (i := s.1) (b := s.2) (by omega) (by omega)
      have f1 := side_of_eq ha.ok (s := s) (by omega) (by omega) (ha.len s hm)
      have f2 := side_of_eq hb.ok (s := s) (by omega) (by omega) (hb.len s hm)
      have f3 := region_word_eq (mid xs s.1 s.2) (side xs a s) (side xs b s)
      have tailStep : ∀ (A : List Reg) (y8 y9 y10 y11 : Option D), A.length ≤ 300000 → (sSeq (sSet 8 (callV dTuple (consA (slV dSl (getV 0) (toPart (T.bin dIx (getV 7) (conD (.int 0)))) (toPart (T.bin dIx (getV 7) (conD (.int 1))))) noA))) (sSeq (sSet 9 (callV f_side_of (consA (getV 0) (consA (getV 3) (consA (getV 7) noA))))) (sSeq (sSet 10 (callV f_side_of (consA (getV 0) (consA (getV 4) (consA (getV 7) noA))))) (sSeq (sApp 5 (tupV (consA (callV f_region_word (consA (getV 8) (consA (getV 9) (consA (getV 10) noA)))) (consA (getV 8) (consA (getV 9) (consA (getV 10) noA)))))) (sSet 6 (T.bin dIx (getV 7) (conD (.int 1))))))))
          [some (.lst (xs.map encL)), x1, x2, some (.lst (a.map encE)), some (.lst (b.map encE)), some (.lst (A.map encR)), some (.int (d : Int)), some (encS s), y8, y9, y10, y11] = .nx [some (.lst (xs.map encL)), x1, x2, some (.lst (a.map encE)), some (.lst (b.map encE)), some (.lst ((A ++ [spanR xs a b s]).map encR)), some (.int (s.2 : Int)), some (encS s), some (encLs (mid xs s.1 s.2)), some (encLs (side xs a s)), some (encLs (side xs b s)), y11] := fun A y8 y9 y10 y11 hA => by
        rw [List.map_append]
        sizeOf_list_dec
        sizeOf_list_dec
        sizeOf_list_dec
        sizeOf_list_dec
        sizeOf_list_dec
      refine ⟨_, rfl, ?_⟩
      by_cases hlt : d < s.1
      · rw [if_pos hlt] at h1
        refine ⟨_, .inl ?_, s.2, acc ++ [sameR (mid xs d s.1)] ++ [spanR xs a b s], some (encS s), some (encLs (mid xs s.1 s.2)), some (encLs (side xs a s)), some (encLs (side xs b s)), some (encLs (mid xs d s.1)), rfl, by rw [← h1]; simp, ht⟩
        unfold m_merge_lines_b1
        refine seq_nx (if_k (by array_get_dec) (by simp; omega) (o := .nx [some (.lst (xs.map encL)), x1, x2, some (.lst (a.map encE)), some (.lst (b.map encE)), some (.lst ((acc ++ [sameR (mid xs d s.1)]).map encR)), some (.int (d : Int)), some (encS s), x8, x9, x10, some (encLs (mid xs d s.1))]) ?_) (tailStep _ _ _ _ _ (by simp; omega))
        rw [List.map_append]
        sizeOf_list_dec
        sizeOf_list_dec
      · rw [if_neg hlt, List.nil_append] at h1
        refine ⟨_, .inl ?_, s.2, acc ++ [spanR xs a b s], some (encS s), some (encLs (mid xs s.1 s.2)), some (encLs (side xs a s)), some (encLs (side xs b s)), x11, rfl, by rw [← h1]; simp, ht⟩
        unfold m_merge_lines_b1
        exact seq_g (by array_get_dec) (by simp; omega) (tailStep _ _ _ _ _ (by omega))) (ρ := [some (.lst (xs.map encL)), x1, x2, some (.lst (a.map encE)), some (.lst (b.map encE)), some (.lst []), some (.int 0), none, none, none, none, none]) ⟨0, [], _, _, _, _, _, rfl, by simp, hf⟩
  rw [List.length_map, List.drop_length] at h1 h2
  have hlen := regs_len (xs := xs) (a := a) (b := b) S 0
  rw [← h1] at hlen
  simp only [List.length_append] at hlen
  exact ⟨d, acc, x7, x8, x9, x10, x11, hf, h1, h2.d, by omega⟩
/-- the regions of two sides -/
def merged (xs ys zs : List Ln) : List Reg := regs xs (edits xs ys) (edits xs zs) 0 (spansOf (edits xs ys) (edits xs zs))
theorem edits_ok (xs ys : List Ln) : Okay xs 0 (edits xs ys) := ebs_okay xs ys _ 0 0 (pairs_rise xs ys) (by omega) (by omega)
theorem edits_appl (xs ys : List Ln) : appl xs 0 (edits xs ys) = ys := by
  have := ebs_appl xs ys _ 0 0 0 (pairs_rise xs ys) (by omega) (by omega) (Nat.le_refl _)
  rw [mid_self] at this
  exact this
theorem edits_min (xs ys : List Ln) : xs.length - remS (edits xs ys) = lcs xs ys := by
  have h1 := ebs_size xs ys _ 0 0 (pairs_rise xs ys) (by omega) (by omega)
  rw [pairs_len] at h1
  have h2 : size (edits xs ys) + 2 * lcs xs ys = xs.length + ys.length := h1
  rw [size_sums] at h2
  have h3 := kept_len (Nat.zero_le _) (edits_ok xs ys)
  have h4 := appl_len (Nat.zero_le _) (edits_ok xs ys)
  rw [edits_appl] at h4
  omega
theorem okay_len {xs : List Ln} : ∀ {es : List (Edit Ln)} {lo : Nat}, Okay xs lo es → es.length ≤ xs.length + 1 - lo
  | [], _, _ => by simp
  | e :: es, lo, h => by
    have := okay_len h.2.2.2.2
    have h1 := h.1
    have h2 := h.2.1
    simp only [List.length_cons]
    omega
theorem spans_inv {xs : List Ln} {a b : List (Edit Ln)} (ha : Okay xs 0 a) (hb : Okay xs 0 b) : InvS (sortS ((a ++ b).map spanOf)) (spansOf a b) ∧ (spansOf a b).length ≤ a.length + b.length := by
  constructor
  · refine tsp_inv (fun q hq => ?_) (sortS_sorted _)
    obtain ⟨e, _, rfl⟩ := List.mem_map.mp ((sortS_perm _).mem_iff.mp hq)
    exact Nat.le_add_right _ _
  · have key : ∀ (qs found : List Span), (qs.foldl stepS found).length ≤ found.length + qs.length := fun qs => by
      induction qs with
      | nil => intro found; simp
      | cons q qs ih =>
        intro found
        have h2 : (stepS found q).length ≤ found.length + 1 := by
          unfold stepS
          split
          · split
            · simp only [List.length_append, List.length_dropLast, List.length_singleton]
              omega
            · simp
          · simp
        have := ih (stepS found q)
        simp only [List.foldl_cons, List.length_cons]
        omega
    have := key (sortS ((a ++ b).map spanOf)) []
    rw [(sortS_perm _).length_eq] at this
    simpa [spansOf, tsp] using this
theorem spans_fit {xs : List Ln} {a b : List (Edit Ln)} (ha : Okay xs 0 a) (hb : Okay xs 0 b) : Fit xs.length 0 (spansOf a b) := by
  obtain ⟨hi, _⟩ := spans_inv ha hb
  refine ⟨hi.sep, fun s hs => ⟨Nat.zero_le _, ?_⟩, Nat.zero_le _⟩
  obtain ⟨q, hq, e⟩ := hi.bnd s hs
  obtain ⟨e', he', rfl⟩ := List.mem_map.mp ((sortS_perm _).mem_iff.mp hq)
  rw [e]
  rcases List.mem_append.mp he' with h | h
  · exact (MG.Okay.lo ha e' h).2.1
  · exact (MG.Okay.lo hb e' h).2.1
theorem spans_cov {xs : List Ln} {a b : List (Edit Ln)} (ha : Okay xs 0 a) (hb : Okay xs 0 b) : Cov (spansOf a b) a ∧ Cov (spansOf a b) b := by
  obtain ⟨hi, _⟩ := spans_inv ha hb
  have key : ∀ e ∈ a ++ b, ∃ s ∈ spansOf a b, inS s e = true := fun e he => by
    obtain ⟨s, hs, h1, h2⟩ := hi.cov (spanOf e) ((sortS_perm _).mem_iff.mpr (List.mem_map.mpr ⟨e, he, rfl⟩))
    exact ⟨s, hs, decide_eq_true ⟨h1, h2⟩⟩
  exact ⟨fun e he => key e (by simp [he]), fun e he => key e (by simp [he])⟩
/-- each span has an edit of a side -/
theorem spans_from {xs : List Ln} {a b : List (Edit Ln)} (ha : Okay xs 0 a) (hb : Okay xs 0 b) {s : Span} (hs : s ∈ spansOf a b) : (∃ e ∈ a, inS s e = true) ∨ ∃ e ∈ b, inS s e = true := by
  obtain ⟨hi, _⟩ := spans_inv ha hb
  obtain ⟨q, hq, h1, h2⟩ := hi.frm s hs
  obtain ⟨e, he, rfl⟩ := List.mem_map.mp ((sortS_perm _).mem_iff.mp hq)
  have : inS s e = true := decide_eq_true ⟨by rw [h1]; exact Nat.le_refl _, h2⟩
  rcases List.mem_append.mp he with h | h
  · exact .inl ⟨e, h, this⟩
  · exact .inr ⟨e, h, this⟩
theorem segs_side {xs : List Ln} {es : List (Edit Ln)} : ∀ {S : List Span} {d : Nat}, ∀ s ∈ S, (side xs es s).length ≤ (segs xs es d S).length
  | s :: S, d, t, ht => by
    simp only [segs, List.length_append]
    rcases List.mem_cons.mp ht with rfl | ht
    · omega
    · have := segs_side (xs := xs) (es := es) (d := s.2) t ht
      omega
theorem segs_edits (xs ys : List Ln) {S : List Span} (hf : Fit xs.length 0 S) (hc : Cov S (edits xs ys)) : segs xs (edits xs ys) 0 S = ys := by
  have := segs_eq (pre := []) hf.sep hf.bd (Nat.zero_le _) (edits_ok xs ys) hc (by simp)
  rw [List.nil_append] at this
  rw [this, edits_appl]
theorem sides_ok (xs ys : List Ln) {S : List Span} (hf : Fit xs.length 0 S) (hc : Cov S (edits xs ys)) (hl : ys.length ≤ 100000) : Sides xs (edits xs ys) S :=
  ⟨edits_ok xs ys, fun s hs => by
    have := segs_side (xs := xs) (es := edits xs ys) (d := 0) s hs
    rw [segs_edits xs ys hf hc] at this
    omega⟩
theorem merge_lines_eq {xs ys zs : List Ln} (h1 : xs.length ≤ 10000) (h2 : ys.length ≤ 10000) (h3 : zs.length ≤ 10000) : f_merge_lines [.lst (xs.map encL), .lst (ys.map encL), .lst (zs.map encL)] = .ok (.lst ((merged xs ys zs).map encR)) := by
  have oa := edits_ok xs ys
  have ob := edits_ok xs zs
  have la := okay_len oa
  have lb := okay_len ob
  have hf := spans_fit oa ob
  have hc := spans_cov oa ob
  have hn := (spans_inv oa ob).2
  obtain ⟨d, acc, x7, x8, x9, x10, x11, hw, hr, hd, hal⟩ := merge_loop (x1 := some (.lst (ys.map encL))) (x2 := some (.lst (zs.map encL))) hf (sides_ok xs ys hf hc.1 (by omega)) (sides_ok xs zs hf hc.2 (by omega)) (by omega)
  have e1 := edits_between_eq (xs := xs) (ys := ys) (by omega) (by omega)
  have e2 := edits_between_eq (xs := xs) (ys := zs) (by omega) (by omega)
  have e3 := touching_spans_eq (a := edits xs ys) (b := edits xs zs) (by omega)
  refine runF_rt rfl ?_
  unfold m_merge_lines
  sizeOf_list_dec
  sizeOf_list_dec
  sizeOf_list_dec
  sizeOf_list_dec
  refine seq_nx (for_ok (by array_get_dec) hw) ?_
  unfold merged
  rw [← hr]
  unfold regs
  have c1 := cutFs xs hd
  by_cases hlt : d < xs.length
  · rw [if_pos hlt]
    refine seq_nx (if_k (by array_get_dec) (by simp; omega) (o := .nx [some (.lst (xs.map encL)), some (.lst (ys.map encL)), some (.lst (zs.map encL)), some (.lst ((edits xs ys).map encE)), some (.lst ((edits xs zs).map encE)), some (.lst ((acc ++ [sameR (xs.drop d)]).map encR)), some (.int (d : Int)), x7, x8, x9, x10, some (encLs (xs.drop d))]) ?_) (ret_ok rfl)
    rw [List.map_append]
    sizeOf_list_dec
    sizeOf_list_dec
  · rw [if_neg hlt, List.append_nil]
    refine seq_g (by array_get_dec) (by simp; omega) (ret_ok rfl)
theorem has_conflict_eq (R : List Reg) (hl : R.length ≤ 500000) : f_has_conflict [.lst (R.map encR)] = .ok (.bl (R.any fun r => decide (r.w = .conflict))) := by
  refine runF_rt rfl (ret_ok ?_)
  have h1 : lstD (compV (itemsV (getV 0)) (bNm 1) yesB (T.bin dIx (getV 1) (conD (.int 0))) [1]) (startR 2 [.lst (R.map encR)]) = .ok (.lst ((R.map (·.w)).map fun w => .str (encW w))) := by
    refine lstD_ok ?_
    rw [compV_ap, show itemsV (getV 0) (startR 2 [.lst (R.map encR)]) = .ok (R.map encR) from rfl, Res.bind_ok, if_pos (sz1 (by simp; omega))]
    refine lcM_map _ _ fun r _ => ⟨_, rfl, ?_⟩
    exact bin_ok rfl rfl (dIx_t rfl)
  refine bin_ok (x := .str (encW .conflict)) rfl h1 ?_
  rw [dIn_l', if_pos ⟨dat_str, datA_map (fun _ => dat_str) _⟩]
  refine congrArg Res.ok (congrArg D.bl ?_)
  rw [List.map_map, List.any_map]
  congr 1
  funext r
  show (D.str (encW r.w)).eqb (.str (encW .conflict)) = _
  rw [eqb_str, Bool.eq_iff_iff]
  simp [encW_inj]
def pick (r : Reg) : List Ln := if r.w = .right then r.right else r.left
theorem merged_lines_ok (R : List Reg) (hl : R.length ≤ 500000) (hc : R.any (fun r => decide (r.w = .conflict)) = false) (hb : ((R.map pick).flatten).length ≤ 500000) : f_merged_lines [.lst (R.map encR)] = .ok (.lst (((R.map pick).flatten).map encL)) := by
  have h1 := has_conflict_eq R hl
  rw [hc] at h1
  refine runF_rt rfl ?_
  obtain ⟨ρ', hf, x2, x3, x4, x5, rfl⟩ := for_inv (b := bTp 4 (bCons (bNm 2) (bCons (bNm 3) (bCons (bNm 4) (bCons (bNm 5) bNil))))) (body := m_merged_lines_b1)
    (fun k ρ => ∃ (x2 x3 x4 x5 : Option D), ρ = [some (.lst (R.map encR)), some (.lst ((((R.take k).map pick).flatten).map encL)), x2, x3, x4, x5]) (R.map encR) (fun k x ρ hk hI => by
      obtain ⟨x2, x3, x4, x5, rfl⟩ := hI
      rw [List.getElem?_map] at hk
      obtain ⟨r, hr, rfl⟩ := Option.map_eq_some_iff.mp hk
      have hw := eq_W r.w .right
      have e : (((R.take (k + 1)).map pick).flatten) = ((R.take k).map pick).flatten ++ pick r := by
        rw [List.take_add_one, hr]
        simp
      have hle : (((R.take k).map pick).flatten ++ pick r).length ≤ 500000 := by
        rw [← e]
        refine Nat.le_trans ?_ hb
        have hb2 : (((R.take (k + 1)).map pick).flatten).length + (((R.drop (k + 1)).map pick).flatten).length = ((R.map pick).flatten).length := by rw [← List.length_append, ← List.flatten_append, ← List.map_append, List.take_append_drop]
        omega
      simp only [List.length_append] at hle
      refine ⟨_, rfl, _, .inl ?_, some (.str (encW r.w)), some (encLs r.old), some (encLs r.left), some (encLs r.right), rfl⟩
      rw [e]
      unfold m_merged_lines_b1
      by_cases h : r.w = .right
      · have hp : pick r = r.right := by unfold pick; rw [if_pos h]
        rw [hp] at hle ⊢
        refine if_k (toB_ok (bin_ok rfl rfl hw)) (by simp [h]) ?_
        sizeOf_list_dec
      · have hp : pick r = r.left := by unfold pick; rw [if_neg h]
        rw [hp] at hle ⊢
        refine if_n (toB_ok (bin_ok rfl rfl hw)) (by simp [h]) ?_
        sizeOf_list_dec) (ρ := [some (.lst (R.map encR)), some (.lst []), none, none, none, none]) ⟨none, none, none, none, rfl⟩
  rw [List.length_map, List.take_length] at hf
  unfold m_merged_lines
  refine seq_g (by array_get_dec) rfl ?_
  sizeOf_list_dec
  exact seq_nx (for_ok (by array_get_dec) hf) (ret_ok rfl)
theorem merged_lines_ex (R : List Reg) (hl : R.length ≤ 500000) (hc : R.any (fun r => decide (r.w = .conflict)) = true) : f_merged_lines [.lst (R.map encR)] = .ex ⟨"LinesConflict", []⟩ := by
  have h1 := has_conflict_eq R hl
  rw [hc] at h1
  refine runF_ex (ρ := startR 6 [.lst (R.map encR)]) rfl ?_
  unfold m_merged_lines
  exact seq_gx (by array_get_dec) rfl rfl
end Law

set_option Elab.async false
set_option linter.all false
set_option maxRecDepth 100000
set_option maxHeartbeats 4000000
/-! Merging: what holds of the regions. -/
namespace Law
open PySem L2 T LC EC MG
local macro_rules
  | `(tactic| array_mem_dec) => `(tactic| first
    | with_reducible assumption
    | with_reducible exact dAdd_i
    | with_reducible exact dSub_i
    | with_reducible exact dLt_i
    | with_reducible exact dLe_i
    | with_reducible exact dGt_i
    | with_reducible exact dGe_i
    | with_reducible exact dEq_i
    | with_reducible exact dNe_i
    | with_reducible exact dInt_i
    | with_reducible exact dNeg_i
    | with_reducible exact dNotB_b
    | with_reducible exact dTru_b
    | with_reducible exact dEq_b
    | with_reducible exact dNe_b
    | with_reducible exact dEq_S
    | with_reducible exact dNe_S
    | with_reducible exact dLen_l
    | with_reducible exact dLen_t
    | with_reducible exact dLen_c
    | with_reducible exact dList_l
    | with_reducible exact dList_t
    | with_reducible exact dTuple_l
    | with_reducible exact dTuple_t
    | with_reducible exact dItems_l
    | with_reducible exact dItems_t
    | with_reducible exact isi_ll
    | with_reducible exact isi_tt
    | with_reducible exact isi_ss
    | with_reducible exact isi_ii
    | with_reducible exact dIs_n
    | with_reducible exact dIsNot_n
    | with_reducible exact dIs_b
    | with_reducible exact dIsNot_b
    | (with_reducible apply dMod_ok
       first | decide | omega)
    | (with_reducible apply dDiv_ok
       first | decide | assumption | omega)
    | (with_reducible apply dMul_ok
       first | assumption | decide)
    | (with_reducible apply dAdd_S
       first | omega | (simp; done) | (simp; omega) | (simp only [List.length_append, List.length_map, List.length_cons, List.length_nil, List.length_singleton] at *; omega))
    | (with_reducible apply dLen_S
       first | omega | (simp; done) | (simp; omega) | (simp only [List.length_append, List.length_map, List.length_cons, List.length_nil, List.length_singleton] at *; omega))
    | (with_reducible apply dAdd_L
       first | omega | (simp; done) | (simp; omega) | (simp only [List.length_append, List.length_map, List.length_cons, List.length_nil, List.length_singleton] at *; omega))
    | with_reducible exact dIx_last
    | (with_reducible apply dIx_t
       exact rfl)
    | (with_reducible apply dIx_l
       rfl))
local macro_rules
  | `(tactic| array_get_dec) => `(tactic| first
    | with_reducible exact conD_ap
    | (with_reducible show getV _ _ = _
       exact rfl)
    | with_reducible exact noA_ap
    | with_reducible exact noPart_ap
    | with_reducible exact yesB_ap
    | with_reducible assumption
    | (with_reducible apply bin_ok
       · array_get_dec
       · array_get_dec
       · array_mem_dec)
    | (with_reducible apply u_call
       · array_get_dec
       · array_mem_dec)
    | (with_reducible apply u_consA
       · array_get_dec
       · array_get_dec)
    | (with_reducible apply toB_ok
       array_get_dec)
    | (with_reducible apply u_and
       · array_get_dec
       · array_get_dec)
    | (with_reducible apply orB_ok
       · array_get_dec
       · array_get_dec)
    | (with_reducible apply notB_ok
       array_get_dec)
    | (with_reducible apply u_tru
       · array_get_dec
       · array_mem_dec)
    | (with_reducible apply u_chain
       · array_get_dec
       · array_get_dec
       · array_mem_dec
       · array_get_dec
       · array_mem_dec)
    | (with_reducible apply u_tup
       · array_get_dec
       · simp)
    | (with_reducible apply u_lst
       · array_get_dec
       · simp)
    | (with_reducible apply lstD_ok
       array_get_dec)
    | (with_reducible apply u_items
       · array_get_dec
       · array_mem_dec)
    | (with_reducible apply u_andV
       · array_get_dec
       · array_get_dec)
    | (with_reducible apply u_orV
       · array_get_dec
       · array_get_dec)
    | (with_reducible apply u_neg
       · array_get_dec
       · array_mem_dec)
    | (with_reducible apply u_notV
       · array_get_dec
       · array_mem_dec)
    | (with_reducible apply u_sl
       · array_get_dec
       · array_get_dec
       · array_get_dec
       · array_mem_dec)
    | (with_reducible apply u_part
       array_get_dec)
    | (with_reducible apply u_meth
       · array_get_dec
       · exact rfl
       · array_get_dec
       · array_mem_dec)
    | (with_reducible apply u_own
       array_get_dec))
local macro_rules
  | `(tactic| sizeOf_list_dec) => `(tactic| first
    | (with_reducible apply set_eq
       · array_get_dec
       · exact rfl)
    | (with_reducible apply ret_eq
       · array_get_dec
       · exact rfl)
    | (with_reducible apply setN_eq
       · array_get_dec
       · exact rfl)
    | (with_reducible apply skip_eq
       exact rfl)
    | (with_reducible apply app_eq
       · exact rfl
       · array_get_dec
       · first | omega | (simp; done) | (simp; omega) | (simp only [List.length_append, List.length_map, List.length_cons, List.length_nil, List.length_singleton] at *; omega)
       · exact rfl)
    | with_reducible assumption
    | (with_reducible apply seq_nx
       · sizeOf_list_dec))
local macro_rules
  | `(tactic| get_elem_tactic_trivial) => `(tactic| (with_reducible apply ok_d
                                                     · array_get_dec
                                                     · exact rfl))
theorem pick_le (R : List Reg) : ((R.map pick).flatten).length ≤ ((R.map (·.left)).flatten).length + ((R.map (·.right)).flatten).length := by
  induction R with
  | nil => simp
  | cons r R ih =>
    simp only [List.map_cons, List.flatten_cons, List.length_append]
    have : (pick r).length ≤ r.left.length + r.right.length := by
      unfold pick
      split <;> omega
    omega
theorem merged_parts (xs ys zs : List Ln) : (((merged xs ys zs).map (·.old)).flatten = xs) ∧ (((merged xs ys zs).map (·.left)).flatten = ys) ∧ (((merged xs ys zs).map (·.right)).flatten = zs) := by
  have oa := edits_ok xs ys
  have ob := edits_ok xs zs
  have hf := spans_fit oa ob
  have hc := spans_cov oa ob
  unfold merged
  refine ⟨?_, ?_, ?_⟩
  · rw [regs_part (·.old) (fun s => mid xs s.1 s.2) (fun _ => rfl) (fun _ _ => rfl) hf, fold_base hf, List.drop_zero]
  · rw [regs_part (·.left) (fun s => side xs (edits xs ys) s) (fun _ => rfl) (fun _ _ => rfl) hf, fold_segs, segs_edits xs ys hf hc.1]
  · rw [regs_part (·.right) (fun s => side xs (edits xs zs) s) (fun _ => rfl) (fun _ _ => rfl) hf, fold_segs, segs_edits xs zs hf hc.2]
theorem merged_due (xs ys zs : List Ln) : ∀ r ∈ merged xs ys zs, r.w = dueWord r.old r.left r.right := by
  have oa := edits_ok xs ys
  have ob := edits_ok xs zs
  have hf := spans_fit oa ob
  have hc := spans_cov oa ob
  refine regs_due fun s hs hn => ?_
  rcases spans_from oa ob hs with h | h
  · exact side_changed oa (edits_appl xs ys) (edits_min xs ys) hf.sep (fun t ht => (hf.bd t ht).2) hc.1 hs h hn.1
  · exact side_changed ob (edits_appl xs zs) (edits_min xs zs) hf.sep (fun t ht => (hf.bd t ht).2) hc.2 hs h hn.2
theorem merged_len (xs ys zs : List Ln) : (merged xs ys zs).length ≤ 4 * xs.length + 10 := by
  have h1 := regs_len (xs := xs) (a := edits xs ys) (b := edits xs zs) (spansOf (edits xs ys) (edits xs zs)) 0
  have h2 := (spans_inv (edits_ok xs ys) (edits_ok xs zs)).2
  have h3 := okay_len (edits_ok xs ys)
  have h4 := okay_len (edits_ok xs zs)
  unfold merged
  omega
theorem part_step (f : Reg → List Ln) {R : List Reg} {k : Nat} {r : Reg} (h : R[k]? = some r) : (((R.take (k + 1)).map f).flatten) = ((R.take k).map f).flatten ++ f r := by
  rw [List.take_add_one, h]
  simp
theorem part_le (f : Reg → List Ln) (R : List Reg) (k : Nat) : (((R.take k).map f).flatten).length ≤ ((R.map f).flatten).length := by
  have hb2 : (((R.take k).map f).flatten).length + (((R.drop k).map f).flatten).length = ((R.map f).flatten).length := by rw [← List.length_append, ← List.flatten_append, ← List.map_append, List.take_append_drop]
  omega
theorem regs_mem {xs : List Ln} {a b : List (Edit Ln)} : ∀ {S : List Span} {d : Nat} {r : Reg}, r ∈ regs xs a b d S → (∃ l, r = sameR l) ∨ ∃ s ∈ S, r = spanR xs a b s
  | [], d, r, h => by
    unfold regs at h
    split at h
    · exact .inl ⟨_, List.mem_singleton.mp h⟩
    · simp at h
  | s :: S, d, r, h => by
    unfold regs at h
    rcases List.mem_append.mp h with h | h
    · split at h
      · exact .inl ⟨_, List.mem_singleton.mp h⟩
      · simp at h
    · rcases List.mem_cons.mp h with h | h
      · exact .inr ⟨s, by simp, h⟩
      · rcases regs_mem h with h | ⟨t, ht, h⟩
        · exact .inl h
        · exact .inr ⟨t, by simp [ht], h⟩
theorem dat_encR {n : Nat} (r : Reg) : D.dat (n + 3) (encR r) = true := by
  unfold encR
  rw [dat_tup, datA_cons, datA_cons, datA_cons, datA_cons, dat_str, dat_tup, dat_tup, dat_tup, dat_lns, dat_lns, dat_lns, datA_nil]
  rfl
theorem dat_regs (R : List Reg) : D.dat 60 (.lst (R.map encR)) = true := by
  rw [dat_lst]
  exact datA_map (fun r => dat_encR r) R
theorem map_flatten_congr {f g : Reg → List Ln} {R : List Reg} (h : ∀ r ∈ R, f r = g r) : (R.map f).flatten = (R.map g).flatten := by rw [List.map_congr_left h]
end Law

set_option Elab.async false
set_option linter.all false
set_option maxRecDepth 100000
set_option maxHeartbeats 4000000
/-! Law k69: the law. -/
namespace Law
open PySem L2 T LC EC MG
local macro_rules
  | `(tactic| array_mem_dec) => `(tactic| first
    | with_reducible assumption
    | with_reducible exact dAdd_i
    | with_reducible exact dSub_i
    | with_reducible exact dLt_i
    | with_reducible exact dLe_i
    | with_reducible exact dGt_i
    | with_reducible exact dGe_i
    | with_reducible exact dEq_i
    | with_reducible exact dNe_i
    | with_reducible exact dInt_i
    | with_reducible exact dNeg_i
    | with_reducible exact dNotB_b
    | with_reducible exact dTru_b
    | with_reducible exact dEq_b
    | with_reducible exact dNe_b
    | with_reducible exact dEq_S
    | with_reducible exact dNe_S
    | with_reducible exact dLen_l
    | with_reducible exact dLen_t
    | with_reducible exact dLen_c
    | with_reducible exact dList_l
    | with_reducible exact dList_t
    | with_reducible exact dTuple_l
    | with_reducible exact dTuple_t
    | with_reducible exact dItems_l
    | with_reducible exact dItems_t
    | with_reducible exact isi_ll
    | with_reducible exact isi_tt
    | with_reducible exact isi_ss
    | with_reducible exact isi_ii
    | with_reducible exact dIs_n
    | with_reducible exact dIsNot_n
    | with_reducible exact dIs_b
    | with_reducible exact dIsNot_b
    | (with_reducible apply dMod_ok
       first | decide | omega)
    | (with_reducible apply dDiv_ok
       first | decide | assumption | omega)
    | (with_reducible apply dMul_ok
       first | assumption | decide)
    | (with_reducible apply dAdd_S
       first | omega | (simp; done) | (simp; omega) | (simp only [List.length_append, List.length_map, List.length_cons, List.length_nil, List.length_singleton] at *; omega))
    | (with_reducible apply dLen_S
       first | omega | (simp; done) | (simp; omega) | (simp only [List.length_append, List.length_map, List.length_cons, List.length_nil, List.length_singleton] at *; omega))
    | (with_reducible apply dAdd_L
       first | omega | (simp; done) | (simp; omega) | (simp only [List.length_append, List.length_map, List.length_cons, List.length_nil, List.length_singleton] at *; omega))
    | with_reducible exact dIx_last
    | (with_reducible apply dIx_t
       exact rfl)
    | (with_reducible apply dIx_l
       rfl))
local macro_rules
  | `(tactic| array_get_dec) => `(tactic| first
    | with_reducible exact conD_ap
    | (with_reducible show getV _ _ = _
       exact rfl)
    | with_reducible exact noA_ap
    | with_reducible exact noPart_ap
    | with_reducible exact yesB_ap
    | with_reducible assumption
    | (with_reducible apply bin_ok
       · array_get_dec
       · array_get_dec
       · array_mem_dec)
    | (with_reducible apply u_call
       · array_get_dec
       · array_mem_dec)
    | (with_reducible apply u_consA
       · array_get_dec
       · array_get_dec)
    | (with_reducible apply toB_ok
       array_get_dec)
    | (with_reducible apply u_and
       · array_get_dec
       · array_get_dec)
    | (with_reducible apply orB_ok
       · array_get_dec
       · array_get_dec)
    | (with_reducible apply notB_ok
       array_get_dec)
    | (with_reducible apply u_tru
       · array_get_dec
       · array_mem_dec)
    | (with_reducible apply u_chain
       · array_get_dec
       · array_get_dec
       · array_mem_dec
       · array_get_dec
       · array_mem_dec)
    | (with_reducible apply u_tup
       · array_get_dec
       · simp)
    | (with_reducible apply u_lst
       · array_get_dec
       · simp)
    | (with_reducible apply lstD_ok
       array_get_dec)
    | (with_reducible apply u_items
       · array_get_dec
       · array_mem_dec)
    | (with_reducible apply u_andV
       · array_get_dec
       · array_get_dec)
    | (with_reducible apply u_orV
       · array_get_dec
       · array_get_dec)
    | (with_reducible apply u_neg
       · array_get_dec
       · array_mem_dec)
    | (with_reducible apply u_notV
       · array_get_dec
       · array_mem_dec)
    | (with_reducible apply u_sl
       · array_get_dec
       · array_get_dec
       · array_get_dec
       · array_mem_dec)
    | (with_reducible apply u_part
       array_get_dec)
    | (with_reducible apply u_meth
       · array_get_dec
       · exact rfl
       · array_get_dec
       · array_mem_dec)
    | (with_reducible apply u_own
       array_get_dec))
local macro_rules
  | `(tactic| sizeOf_list_dec) => `(tactic| first
    | (with_reducible apply set_eq
       · array_get_dec
       · exact rfl)
    | (with_reducible apply ret_eq
       · array_get_dec
       · exact rfl)
    | (with_reducible apply setN_eq
       · array_get_dec
       · exact rfl)
    | (with_reducible apply skip_eq
       exact rfl)
    | (with_reducible apply app_eq
       · exact rfl
       · array_get_dec
       · first | omega | (simp; done) | (simp; omega) | (simp only [List.length_append, List.length_map, List.length_cons, List.length_nil, List.length_singleton] at *; omega)
       · exact rfl)
    | with_reducible assumption
    | (with_reducible apply seq_nx
       · sizeOf_list_dec))
local macro_rules
  | `(tactic| get_elem_tactic_trivial) => `(tactic| (with_reducible apply ok_d
                                                     · array_get_dec
                                                     · exact rfl))
def turnW : Wd → Wd
  | .same => .same
  | .both => .both
  | .right => .left
  | .left => .right
  | .conflict => .conflict
def turnR (r : Reg) : Reg := ⟨turnW r.w, r.old, r.right, r.left⟩
theorem regWord_turn (o l r : List Ln) : regWord o r l = turnW (regWord o l r) := by
  unfold regWord
  by_cases h1 : l = r
  · rw [if_pos h1, if_pos h1.symm]
    rfl
  · rw [if_neg h1, if_neg (fun z => h1 z.symm)]
    by_cases h2 : l = o
    · have h3 : ¬ r = o := fun z => h1 (h2.trans z.symm)
      rw [if_pos h2, if_neg h3, if_pos h2]
      rfl
    · rw [if_neg h2]
      by_cases h3 : r = o
      · rw [if_pos h3, if_neg h2, if_pos h3]
        rfl
      · rw [if_neg h3, if_neg h2, if_neg h3]
        rfl
theorem regs_turn {xs : List Ln} {a b : List (Edit Ln)} : ∀ (S : List Span) (d : Nat), regs xs b a d S = (regs xs a b d S).map turnR
  | [], d => by
    unfold regs
    split
    · rfl
    · rfl
  | s :: S, d => by
    unfold regs
    rw [List.map_append, List.map_cons, regs_turn S s.2]
    congr 1
    · split <;> rfl
    · congr 1
      show (⟨_, _, _, _⟩ : Reg) = ⟨_, _, _, _⟩
      rw [regWord_turn]
theorem merged_turn (xs ys zs : List Ln) : merged xs zs ys = (merged xs ys zs).map turnR := by
  unfold merged
  have : spansOf (edits xs zs) (edits xs ys) = spansOf (edits xs ys) (edits xs zs) := by
    unfold spansOf
    rw [sortS_congr ((List.perm_append_comm).map spanOf)]
  rw [this, regs_turn]
theorem turned_eq (R : List Reg) (hl : R.length ≤ 500000) : f__law_turned [.lst (R.map encR)] = .ok (.lst ((R.map turnR).map encR)) := by
  refine runF_rt rfl ?_
  obtain ⟨ρ', hf, x3, x4, x5, x6, rfl⟩ := for_inv (b := bTp 4 (bCons (bNm 3) (bCons (bNm 4) (bCons (bNm 5) (bCons (bNm 6) bNil))))) (body := m__law_turned_b1)
    (fun k ρ => ∃ x3 x4 x5 x6, ρ = [some (.lst (R.map encR)), some (.dct (pairsD [(.inr "same", .inr "same"), (.inr "both", .inr "both"), (.inr "left", .inr "right"), (.inr "right", .inr "left"), (.inr "conflict", .inr "conflict")])), some (.lst (((R.take k).map turnR).map encR)), x3, x4, x5, x6]) (R.map encR) (fun k x ρ hk hI => by
      obtain ⟨x3, x4, x5, x6, rfl⟩ := hI
      rw [List.getElem?_map] at hk
      obtain ⟨r, hr, rfl⟩ := Option.map_eq_some_iff.mp hk
      have hkl := (List.getElem?_eq_some_iff.mp hr).1
      have hd : dGetK (.dct (pairsD [(.inr "same", .inr "same"), (.inr "both", .inr "both"), (.inr "left", .inr "right"), (.inr "right", .inr "left"), (.inr "conflict", .inr "conflict")])) (.str (encW r.w)) = .ok (.str (encW (turnW r.w))) := by
        cases r.w <;> rfl
      refine ⟨_, rfl, _, .inl ?_, some (.str (encW r.w)), some (encLs r.old), some (encLs r.left), some (encLs r.right), rfl⟩
      have e : (((R.take (k + 1)).map turnR).map encR) = (((R.take k).map turnR).map encR) ++ [encR (turnR r)] := by
        rw [List.take_add_one, hr]
        simp
      rw [e]
      have hz : (((R.take k).map turnR).map encR).length < 1000000 := by
        simp
        omega
      unfold m__law_turned_b1
      sizeOf_list_dec) (ρ := [some (.lst (R.map encR)), some (.dct (pairsD [(.inr "same", .inr "same"), (.inr "both", .inr "both"), (.inr "left", .inr "right"), (.inr "right", .inr "left"), (.inr "conflict", .inr "conflict")])), some (.lst []), none, none, none, none]) ⟨none, none, none, none, rfl⟩
  rw [List.length_map, List.take_length] at hf
  unfold m__law_turned
  sizeOf_list_dec
  sizeOf_list_dec
  exact seq_nx (for_ok (by array_get_dec) hf) (ret_ok rfl)
theorem marked_lines_ok (R : List Reg) (hl : R.length ≤ 500000) (hc : R.any (fun r => decide (r.w = .conflict)) = false) (hb : ((R.map pick).flatten).length ≤ 500000) : f_marked_lines [.lst (R.map encR)] = .ok (.lst (((R.map pick).flatten).map encL)) := by
  refine runF_rt rfl ?_
  obtain ⟨ρ', hf, x2, x3, x4, x5, rfl⟩ := for_inv (b := bTp 4 (bCons (bNm 2) (bCons (bNm 3) (bCons (bNm 4) (bCons (bNm 5) bNil))))) (body := m_marked_lines_b1)
    (fun k ρ => ∃ (x2 x3 x4 x5 : Option D), ρ = [some (.lst (R.map encR)), some (.lst ((((R.take k).map pick).flatten).map encL)), x2, x3, x4, x5]) (R.map encR) (fun k x ρ hk hI => by
      obtain ⟨x2, x3, x4, x5, rfl⟩ := hI
      rw [List.getElem?_map] at hk
      obtain ⟨r, hr, rfl⟩ := Option.map_eq_some_iff.mp hk
      have hw := eq_W r.w .right
      have hw2 := ne_W r.w .conflict
      have hnc : ¬ r.w = .conflict := by
        have := List.any_eq_false.mp hc r (List.mem_of_getElem? hr)
        simpa using this
      have hle := part_le pick R (k + 1)
      rw [part_step pick hr] at hle ⊢
      rw [List.length_append] at hle
      refine ⟨_, rfl, _, .inl ?_, some (.str (encW r.w)), some (encLs r.old), some (encLs r.left), some (encLs r.right), rfl⟩
      unfold m_marked_lines_b1
      by_cases h : r.w = .right
      · have hp : pick r = r.right := by unfold pick; rw [if_pos h]
        rw [hp] at hle ⊢
        refine if_k (toB_ok (bin_ok rfl rfl hw)) (by simp [h]) ?_
        sizeOf_list_dec
      · have hp : pick r = r.left := by unfold pick; rw [if_neg h]
        rw [hp] at hle ⊢
        refine if_n (toB_ok (bin_ok rfl rfl hw)) (by simp [h]) ?_
        refine if_k (toB_ok (bin_ok rfl rfl hw2)) (by simp [hnc]) ?_
        sizeOf_list_dec) (ρ := [some (.lst (R.map encR)), some (.lst []), none, none, none, none]) ⟨none, none, none, none, rfl⟩
  rw [List.length_map, List.take_length] at hf
  unfold m_marked_lines
  sizeOf_list_dec
  exact seq_nx (for_ok (by array_get_dec) hf) (ret_ok rfl)
theorem edits_self (xs : List Ln) : edits xs xs = [] := by
  refine okay_size (edits_ok xs xs) ?_
  have h1 := edits_min xs xs
  have h2 := lcs_le _ xs xs xs (Nat.le_refl _) (.refl _) (.refl _)
  have h3 := kept_len (Nat.zero_le _) (edits_ok xs xs)
  have h4 := appl_len (Nat.zero_le _) (edits_ok xs xs)
  rw [edits_appl] at h4
  rw [size_sums]
  omega
/-- the same lines on a side, or on both: what is picked -/
theorem one_side {xs ys zs : List Ln} (h : zs = xs ∨ ys = xs ∨ ys = zs) : (merged xs ys zs).any (fun r => decide (r.w = .conflict)) = false ∧ (((merged xs ys zs).map pick).flatten = if ys = xs then zs else ys) := by
  have hd := merged_due xs ys zs
  obtain ⟨-, q2, q3⟩ := merged_parts xs ys zs
  have key : ∀ r ∈ merged xs ys zs, (zs = xs → r.right = r.old) ∧ (ys = xs → r.left = r.old) ∧ (ys = zs → r.left = r.right) := fun r hr => by
    unfold merged at hr
    rcases regs_mem hr with ⟨l, rfl⟩ | ⟨s, _, rfl⟩
    · exact ⟨fun _ => rfl, fun _ => rfl, fun _ => rfl⟩
    · refine ⟨fun e => ?_, fun e => ?_, fun e => ?_⟩
      · show side xs (edits xs zs) s = mid xs s.1 s.2
        rw [e, edits_self]
        rfl
      · show side xs (edits xs ys) s = mid xs s.1 s.2
        rw [e, edits_self]
        rfl
      · show side xs (edits xs ys) s = side xs (edits xs zs) s
        rw [e]
  constructor
  · refine List.any_eq_false.mpr fun r hr => ?_
    have k := key r hr
    have e := hd r hr
    simp only [decide_eq_true_eq]
    intro hc
    rw [hc] at e
    unfold dueWord at e
    split at e
    · split at e <;> cases e
    · split at e
      · cases e
      · split at e
        · cases e
        · rcases h with h | h | h
          · exact absurd (k.1 h) (by assumption)
          · exact absurd (k.2.1 h) (by assumption)
          · exact absurd (k.2.2 h) (by assumption)
  · by_cases hy : ys = xs
    · rw [if_pos hy]
      refine Eq.trans (map_flatten_congr fun r hr => ?_) q3
      have k := key r hr
      have e := hd r hr
      unfold pick
      split
      · rfl
      · rename_i hw
        have kl := k.2.1 hy
        unfold dueWord at e
        split at e
        · assumption
        · first
            | exact absurd e hw
            | (rw [if_pos kl] at e; exact absurd e hw)
    · rw [if_neg hy]
      refine Eq.trans (map_flatten_congr fun r hr => ?_) q2
      have k := key r hr
      have e := hd r hr
      unfold pick
      split
      · rename_i hw
        rw [hw] at e
        rcases h with h | h | h
        · have kr := k.1 h
          unfold dueWord at e
          split at e
          · split at e <;> cases e
          · split at e
            · rename_i hl
              rw [kr, hl]
            · first
                | cases e
                | (rw [if_pos kr] at e; cases e)
        · exact absurd h hy
        · exact (k.2.2 h).symm
      · rfl

theorem law_true (ns : List Int) (hl : ns.length ≤ 63) (hb : ∀ z ∈ ns, Builtin.Int.intBits z ≤ 1048576) : f_law [.scr (ns.map D.int)] = .ok (.bl true) := by
  refine runF_rt rfl ?_
  unfold m_law
  obtain ⟨ds, h6, hds, hrun⟩ := draws_ok hl hb 4 (by omega)
  rw [← draws_eq] at hrun
  have df : ∀ j, j < 4 → 0 ≤ ds.getD j 0 ∧ Fits 1048650 (ds.getD j 0) := fun j hj => hds _ (T.getD_mem (by omega))
  have dx : ∀ j : Nat, j < 4 → dIx (.lst (ds.map D.int)) (.int (j : Int)) = .ok (.int (ds.getD j 0)) := fun j hj => (sq_l (enc := D.int) ds).ix j _ (by
    rw [List.getD_eq_getElem?_getD, List.getElem?_eq_getElem (by omega)]
    rfl)
  have d0 : dIx (.lst (ds.map D.int)) (.int 0) = .ok (.int (ds.getD 0 0)) := dx 0 (by omega)
  have d1 : dIx (.lst (ds.map D.int)) (.int 1) = .ok (.int (ds.getD 1 0)) := dx 1 (by omega)
  have d2 : dIx (.lst (ds.map D.int)) (.int 2) = .ok (.int (ds.getD 2 0)) := dx 2 (by omega)
  have d3 : dIx (.lst (ds.map D.int)) (.int 3) = .ok (.int (ds.getD 3 0)) := dx 3 (by omega)
  obtain ⟨xs, hx, hxs⟩ := law_lines_ex (o := ds.getD 1 0) (df 0 (by omega))
  obtain ⟨ys, hy, hys⟩ := law_changed_ex (ls := xs) (by omega) (d := ds.getD 2 0)
  obtain ⟨zs, hz, hzs⟩ := law_changed_ex (ls := xs) (by omega) (d := ds.getD 3 0)
  refine seq_nx (set_ok (d := .lst (ds.map D.int)) (call2_ok rfl rfl hrun)) ?_
  sizeOf_list_dec
  sizeOf_list_dec
  sizeOf_list_dec
  have hm := merge_lines_eq (xs := xs) (ys := ys) (zs := zs) (by omega) (by omega) (by omega)
  have hm2 := merge_lines_eq (xs := xs) (ys := zs) (zs := ys) (by omega) (by omega) (by omega)
  have hm3 := merge_lines_eq (xs := xs) (ys := ys) (zs := xs) (by omega) (by omega) (by omega)
  have hm4 := merge_lines_eq (xs := xs) (ys := xs) (zs := zs) (by omega) (by omega) (by omega)
  have hm5 := merge_lines_eq (xs := xs) (ys := ys) (zs := ys) (by omega) (by omega) (by omega)
  have fin : ∀ (a b c : List Ln), a.length ≤ 9 → b.length ≤ 100 → c.length ≤ 100 → (c = a ∨ b = a ∨ b = c) → f_merged_lines [.lst ((merged a b c).map encR)] = .ok (.lst ((if b = a then c else b).map encL)) := fun a b c h1 h2 h3 h => by
    obtain ⟨q1, q2⟩ := one_side h
    have h4 := merged_len a b c
    have hpk := pick_le (merged a b c)
    obtain ⟨-, p2, p3⟩ := merged_parts a b c
    rw [p2, p3] at hpk
    have := merged_lines_ok (merged a b c) (by omega) q1 (by omega)
    rw [q2] at this
    exact this
  have f3 := fin xs ys xs (by omega) (by omega) (by omega) (.inl rfl)
  have f4 := fin xs xs zs (by omega) (by omega) (by omega) (.inr (.inl rfl))
  have f5 := fin xs ys ys (by omega) (by omega) (by omega) (.inr (.inr rfl))
  have e3 : (if ys = xs then xs else ys) = ys := by
    split
    · rename_i h
      exact h.symm
    · rfl
  have e5 : (if ys = xs then ys else ys) = ys := by split <;> rfl
  rw [e3] at f3
  rw [if_pos rfl] at f4
  rw [e5] at f5
  clear fin
  have ht := merged_turn xs ys zs
  have hRl := merged_len xs ys zs
  have hdue := merged_due xs ys zs
  obtain ⟨-, q2, q3⟩ := merged_parts xs ys zs
  rw [ht] at hm2
  generalize merged xs ys zs = R at *
  have hpk := pick_le R
  rw [q2, q3] at hpk
  have hte := turned_eq R (by omega)
  have hhc := has_conflict_eq R (by omega)
  have n1 : dNe (.lst ((R.map turnR).map encR)) (.lst ((R.map turnR).map encR)) = .ok (.bl false) := dNe_self (dat_regs _)
  have nl : ∀ l : List Ln, dNe (.lst (l.map encL)) (.lst (l.map encL)) = .ok (.bl false) := fun l => (ne_lnsL l l).trans (by simp)
  have n3 := nl ys
  have n4 := nl zs
  have n5 : dEq (.lst (ys.map encL)) (.lst (ys.map encL)) = .ok (.bl true) := (eq_lnsL ys ys).trans (by simp)
  sizeOf_list_dec
  refine seq_g (by array_get_dec) (by rfl) ?_
  have rest : ∀ {ρ : Rho}, ρ = [some (.scr (ns.map D.int)), some (.lst (ds.map D.int)), some (.lst (xs.map encL)), some (.lst (ys.map encL)), some (.lst (zs.map encL)), some (.lst (R.map encR))] → (sSeq (sIf (orB (toB (T.bin dNe (callV f_merged_lines (consA (callV f_merge_lines (consA (getV 2) (consA (getV 3) (consA (getV 2) noA)))) noA)) (getV 3))) (toB (T.bin dNe (callV f_merged_lines (consA (callV f_merge_lines (consA (getV 2) (consA (getV 2) (consA (getV 4) noA)))) noA)) (getV 4)))) (sRet (conD (.bl false))) sSkip) (sRet (T.bin dEq (callV f_merged_lines (consA (callV f_merge_lines (consA (getV 2) (consA (getV 3) (consA (getV 3) noA)))) noA)) (getV 3)))) ρ = .rt (.bl true) := fun {ρ} e => by
    subst e
    refine seq_g (by array_get_dec) (by rfl) ?_
    sizeOf_list_dec
  cases hc : R.any (fun r => decide (r.w = Wd.conflict)) with
  | true =>
    rw [hc] at hhc
    exact seq_g (by array_get_dec) (by rfl) (rest rfl)
  | false =>
    rw [hc] at hhc
    have f1 := merged_lines_ok R (by omega) hc (by omega)
    have f2 := marked_lines_ok R (by omega) hc (by omega)
    have hc2 : (R.map turnR).any (fun r => decide (r.w = Wd.conflict)) = false := by
      refine List.any_eq_false.mpr fun r hr => ?_
      obtain ⟨r', hr', rfl⟩ := List.mem_map.mp hr
      have := List.any_eq_false.mp hc r' hr'
      unfold turnR turnW
      simp only [decide_eq_true_eq] at this ⊢
      cases hw : r'.w <;> simp_all
    have hpt : (((R.map turnR).map pick).flatten) = (R.map pick).flatten := by
      rw [List.map_map]
      refine map_flatten_congr fun r hr => ?_
      have hd := hdue r hr
      have hnc := List.any_eq_false.mp hc r hr
      simp only [decide_eq_true_eq] at hnc
      show pick (turnR r) = pick r
      unfold pick turnR
      have hsame : r.w = .same ∨ r.w = .both → r.left = r.right := fun h => by
        unfold dueWord at hd
        split at hd
        · assumption
        · split at hd
          · rw [hd] at h
            rcases h with h | h <;> cases h
          · split at hd
            · rw [hd] at h
              rcases h with h | h <;> cases h
            · rw [hd] at h
              rcases h with h | h <;> cases h
      cases hw : r.w with
      | same => simp [turnW, hsame (.inl hw)]
      | both => simp [turnW, hsame (.inr hw)]
      | right => simp [turnW]
      | left => simp [turnW]
      | conflict => exact absurd hw hnc
    have f6 := merged_lines_ok (R.map turnR) (by rw [List.length_map]; omega) hc2 (by rw [hpt]; omega)
    rw [hpt] at f6
    have n6 := nl ((R.map pick).flatten)
    refine seq_nx (if_k (by array_get_dec) (by rfl) (seq_g (by array_get_dec) (by rfl) (if_n (by array_get_dec) (by rfl) rfl))) (rest rfl)
theorem goal : ∀ ns : List Int, ns.length ≤ 63 → (∀ z ∈ ns, Builtin.Int.intBits z ≤ 1048576) → f_law [.scr (ns.map D.int)] = .ok (.bl true) := law_true
end Law

open PySem PySem.W PyProof.Rows
set_option maxRecDepth 100000 in
set_option maxHeartbeats 0 in
theorem PySem.Challenge.cw_tideland_k69_merges_turned_round_holds : PySem.Challenge.rw_tideland_k69_merges_turned_round.Holds := by
  w_on; o_law; k_head; (case hw => w_witness2)
  k_fill
  refine L2.walk_ofB (l := PySem.Challenge.rw_tideland_k69_merges_turned_round) (n := 63) (k := 5) (x := "script") (CX := fun w => L2.CX (PySem.Challenge.rw_tideland_k69_merges_turned_round).prog w) (sp := fun w => T.spLaw _) rfl (by decide) rfl ⟨rfl, by decide, by decide⟩ (fun w h Y => PySem.W.kIn_of Y) ?F (fun _ _ a ns hl hb _ hS => ⟨a, ns, rfl, hS, hl, hb, fun _ => rfl⟩) (fun _ _ _ _ _ h => T.cx_false h)
  case F =>
    intro w mg fa h KX G hmg
    refine' Law.all_mk Law.goal KX G hmg ?a0 ?l0 ?c0 ?k0 ?a1 ?l1 ?c1 ?k1 ?a2 ?l2 ?c2 ?k2 ?a3 ?l3 ?c3 ?k3 ?a4 ?l4 ?c4 ?k4 ?a5 ?l5 ?c5 ?k5 ?a6 ?l6 ?c6 ?k6 ?a7 ?l7 ?c7 ?k7 ?a8 ?l8 ?c8 ?k8 ?a9 ?l9 ?c9 ?k9 ?a10 ?l10 ?c10 ?k10 ?a11 ?l11 ?c11 ?k11 ?a12 ?l12 ?c12 ?k12 ?a13 ?l13 ?c13 ?k13 ?a14 ?l14 ?c14 ?k14 ?a15 ?l15 ?c15 ?k15 ?a16 ?l16 ?c16 ?k16 ?a17 ?l17 ?c17 ?k17 ?u0 ?u1 ?u2 ?u3 ?z0 ?z1 ?z2 ?z3 ?z4 ?z5 ?z6 ?z7 ?xg0 ?xk0 ?xs0 ?xt0 ?xd0 ?xq0
    (case a0 => k_is); (case l0 => k_is); (case c0 => k_is); (case k0 => k_is); (case a1 => k_is); (case l1 => k_is); (case c1 => k_is); (case k1 => k_is); (case a2 => k_is); (case l2 => k_is); (case c2 => k_is); (case k2 => k_is); (case a3 => k_is); (case l3 => k_is); (case c3 => k_is); (case k3 => k_is); (case a4 => k_is); (case l4 => k_is); (case c4 => k_is); (case k4 => k_is); (case a5 => k_is); (case l5 => k_is); (case c5 => k_is); (case k5 => k_is); (case a6 => k_is); (case l6 => k_is); (case c6 => k_is); (case k6 => k_is); (case a7 => k_is); (case l7 => k_is); (case c7 => k_is); (case k7 => k_is); (case a8 => k_is); (case l8 => k_is); (case c8 => k_is); (case k8 => k_is); (case a9 => k_is); (case l9 => k_is); (case c9 => k_is); (case k9 => k_is); (case a10 => k_is); (case l10 => k_is); (case c10 => k_is); (case k10 => k_is); (case a11 => k_is); (case l11 => k_is); (case c11 => k_is); (case k11 => k_is); (case a12 => k_is); (case l12 => k_is); (case c12 => k_is); (case k12 => k_is); (case a13 => k_is); (case l13 => k_is); (case c13 => k_is); (case k13 => k_is); (case a14 => k_is); (case l14 => k_is); (case c14 => k_is); (case k14 => k_is); (case a15 => k_is); (case l15 => k_is); (case c15 => k_is); (case k15 => k_is); (case a16 => k_is); (case l16 => k_is); (case c16 => k_is); (case k16 => k_is); (case a17 => k_is); (case l17 => k_is); (case c17 => k_is); (case k17 => k_is); (case u0 => k_is); (case u1 => k_is); (case u2 => k_is); (case u3 => k_is); (case z0 => k_is); (case z1 => k_is); (case z2 => k_is); (case z3 => k_is); (case z4 => k_is); (case z5 => k_is); (case z6 => k_is); (case z7 => k_is); (case xg0 => k_is); (case xk0 => k_is); (case xs0 => k_is); (case xt0 => k_is); (case xd0 => k_is); (case xq0 => k_exc)
