import PyProof.Rows.All
import Wide.All
import OpenK.AllK
import Wide.FinOn
import HandS.ForMost
import HandS.ForExc
import HandS.WideBits
import HandS.Wide
import HandS.TupAny
import HandS.TupLe
import HandS.IsInst
import HandS.StrMore
import HandS.Replace
import KE.DataEq
import HandS.Rev
import HandS.Zip
import HandS.NoneIn
import HandS.EndBits
import HandS.Codes
import HandS.ExcOwn
import HandS.Small
import HandS.TryMany
import HandS.ExcIs
import HandS.SortRule
import HandS.SortInts
import HandS.FStr
import HandS.Style
import HandS.ExcField
import HandS.Dict
import HandS.TupMul
import HandS.More
import HandS.WordsExc
import PyProof.StrBlock2
import HandS.HeadHook3
import PySem.Challenge.RW_tideland_k00_new_chips_and_plans_of_chip

set_option Elab.async false
set_option linter.all false
set_option maxRecDepth 100000
set_option maxHeartbeats 4000000
/-! T-layer, part A: values as trees, ground and ownership, expressions. -/
namespace T
open PySem PySem.Spec PyProof.Rows L2

/-- what an attribute of a store's instance holds: a value, a list of its own, a dict of its own -/
inductive FM where
  | any | lst | dct
  deriving DecidableEq
/-- the classes of the text by number: where each stands, its attributes in order -/
class Mg where
  cls : Nat → Addr
  lay : Nat → List Str
  fm : Nat → Nat → FM
/-- a value as a tree; exc: any reference; ins: an instance of the class c -/
inductive D where
  | non | bl (b : Bool) | int (i : Int) | str (s : Str) | lst (xs : List D) | tup (xs : List D) | scr (xs : List D) | dct (kvs : List (D × D)) | ty (n : String) | exc (fs : List (Str × D)) | ins (c : Nat) (fs : List D)
def keyD : Key → D
  | .inl n => .int n
  | .inr x => .str x
/-- lists, dicts, instances -/
def D.ctn : D → Bool
  | .lst _ | .dct _ | .ins _ _ => true
  | _ => false

structure Exn where
  cls : Str
  fs : List (Str × D)

inductive Res (α : Type) where
  | ok (a : α) | ex (e : Exn) | no
def Res.bind {α β : Type} : Res α → (α → Res β) → Res β
  | .ok a, f => f a
  | .ex e, _ => .ex e
  | .no, _ => .no
theorem mk_eq0 {α : Sort u} {a b : α} (h : a = b) : a = b := h
@[simp] theorem Res.bind_ok {α β : Type} (a : α) (f : α → Res β) : (Res.ok a).bind f = f a := mk_eq0 rfl
@[simp] theorem Res.bind_ex {α β : Type} (e : Exn) (f : α → Res β) : (Res.ex e : Res α).bind f = .ex e := mk_eq0 rfl
@[simp] theorem Res.bind_no {α β : Type} (f : α → Res β) : (Res.no : Res α).bind f = .no := mk_eq0 rfl
/-- a wish of a result -/
def Res.has {α : Type} (r : Res α) (P : α → Prop) (E : Exn → Prop) : Prop :=
  match r with
  | .ok a => P a
  | .ex e => E e
  | .no => False
theorem Res.has_bind {α β : Type} {r : Res α} {f : α → Res β} {P : β → Prop} {E : Exn → Prop} (h : (r.bind f).has P E) : r.has (fun a => (f a).has P E) E := by
  cases r with
  | ok a => exact h
  | ex e => exact h
  | no => exact h
theorem Res.has_mono {α : Type} {r : Res α} {P P' : α → Prop} {E E' : Exn → Prop} (h : r.has P E) (p : ∀ a, P a → P' a) (q : ∀ e, E e → E' e) : r.has P' E' := by
  cases r with
  | ok a => exact p a h
  | ex e => exact q e h
  | no => exact h

abbrev Lab := List Nat
abbrev Own := Addr → Option Lab
abbrev Rho := List (Option D)

/-! ### a value stands for a tree, in the base B (what is never changed) -/
variable [Mg]
mutual
inductive Rp (K : PySem.W.Frag) (B : Hp) : V → D → Prop
  | non : Rp K B .non .non
  | bl (b : Bool) : Rp K B (.bl b) (.bl b)
  | int (i : Int) : Rp K B (.int i) (.int i)
  | str (x : Str) : Rp K B (.str x) (.str x)
  | ty (n : String) : Rp K B (.ty n) (.ty n)
  | lst {a : Addr} {xs : List V} {ds : List D} : B a = some (.lst xs) → RpA K B xs ds → Rp K B (.ref a) (.lst ds)
  | scr {a : Addr} {xs : List V} {ds : List D} : SqL K B a xs → RpA K B xs ds → Rp K B (.ref a) (.scr ds)
  | tup {a : Addr} {xs : List V} {ds : List D} : SqT K B a xs → RpA K B xs ds → Rp K B (.ref a) (.tup ds)
  | dct {a : Addr} {kvs : List (Key × V)} {ds : List (D × D)} : B a = some (.dK kvs) → RpP K B kvs ds → Rp K B (.ref a) (.dct ds)
  | dctT {a : Addr} {kvs : List (List Key × V)} {ds : List (D × D)} : B a = some (.dT kvs) → RpT K B kvs ds → Rp K B (.ref a) (.dct ds)
  | ins {a dx : Addr} {c : Nat} {vs : List (Str × V)} {fs : List D} : B a = some (.ins (Mg.cls c) dx vs) → vs.map (·.1) <+: Mg.lay c → RpA K B (vs.map (·.2)) fs → Rp K B (.ref a) (.ins c fs)
  /-- any reference, nothing known -/
  | exc (a : Addr) (fs : List (Str × D)) : Rp K B (.ref a) (.exc fs)
inductive RpA (K : PySem.W.Frag) (B : Hp) : List V → List D → Prop
  | nil : RpA K B [] []
  | cons {v : V} {vs : List V} {d : D} {ds : List D} : Rp K B v d → RpA K B vs ds → RpA K B (v :: vs) (d :: ds)
inductive RpP (K : PySem.W.Frag) (B : Hp) : List (Key × V) → List (D × D) → Prop
  | nil : RpP K B [] []
  | consI {n : Int} {v : V} {d : D} {kvs : List (Key × V)} {ds : List (D × D)} : Rp K B v d → RpP K B kvs ds → RpP K B ((Sum.inl n, v) :: kvs) ((.int n, d) :: ds)
  | consS {x : Str} {v : V} {d : D} {kvs : List (Key × V)} {ds : List (D × D)} : Rp K B v d → RpP K B kvs ds → RpP K B ((Sum.inr x, v) :: kvs) ((.str x, d) :: ds)
inductive RpT (K : PySem.W.Frag) (B : Hp) : List (List Key × V) → List (D × D) → Prop
  | nil : RpT K B [] []
  | cons {ks : List Key} {v : V} {d : D} {kvs : List (List Key × V)} {ds : List (D × D)} : Rp K B v d → RpT K B kvs ds → RpT K B ((ks, v) :: kvs) ((.tup (ks.map keyD), d) :: ds)
end
/-- what a dict holds -/
def RpD (K : PySem.W.Frag) (B : Hp) (o : HO) (ds : List (D × D)) : Prop := (∃ kvs, o = .dK kvs ∧ RpP K B kvs ds) ∨ ∃ kvs, o = .dT kvs ∧ RpT K B kvs ds
abbrev Ext (B B' : Hp) : Prop := Same B B'
section
variable {K : PySem.W.Frag} {B B' : Hp}
omit [Mg] in
theorem Ext.seqT {a : Addr} {xs : List V} (e : Ext B B') (h : SqT K B a xs) : SqT K B' a xs := by
  rcases h with (h | ⟨o, h⟩) | h
  · exact .inl (.inl (e _ _ h))
  · exact .inl (.inr ⟨o, e _ _ h⟩)
  · exact .inr h
mutual
theorem Rp.mono (e : Ext B B') : ∀ {v : V} {d : D}, Rp K B v d → Rp K B' v d
  | _, _, .non => .non
  | _, _, .bl b => .bl b
  | _, _, .int i => .int i
  | _, _, .str x => .str x
  | _, _, .ty n => .ty n
  | _, _, .lst h r => .lst (e _ _ h) (RpA.mono e r)
  | _, _, .scr h r => .scr (Same.seq e h) (RpA.mono e r)
  | _, _, .tup h r => .tup (Ext.seqT e h) (RpA.mono e r)
  | _, _, .dct h r => .dct (e _ _ h) (RpP.mono e r)
  | _, _, .dctT h r => .dctT (e _ _ h) (RpT.mono e r)
  | _, _, .ins h hk r => .ins (e _ _ h) hk (RpA.mono e r)
  | _, _, .exc a fs => .exc a fs
theorem RpA.mono (e : Ext B B') : ∀ {vs : List V} {ds : List D}, RpA K B vs ds → RpA K B' vs ds
  | _, _, .nil => .nil
  | _, _, .cons h r => .cons (Rp.mono e h) (RpA.mono e r)
theorem RpP.mono (e : Ext B B') : ∀ {vs : List (Key × V)} {ds : List (D × D)}, RpP K B vs ds → RpP K B' vs ds
  | _, _, .nil => .nil
  | _, _, .consI h r => .consI (Rp.mono e h) (RpP.mono e r)
  | _, _, .consS h r => .consS (Rp.mono e h) (RpP.mono e r)
theorem RpT.mono (e : Ext B B') : ∀ {vs : List (List Key × V)} {ds : List (D × D)}, RpT K B vs ds → RpT K B' vs ds
  | _, _, .nil => .nil
  | _, _, .cons h r => .cons (Rp.mono e h) (RpT.mono e r)
end
theorem RpD.mono (e : Ext B B') {o : HO} {ds : List (D × D)} (h : RpD K B o ds) : RpD K B' o ds := by
  rcases h with ⟨kvs, h1, h2⟩ | ⟨kvs, h1, h2⟩
  · exact .inl ⟨kvs, h1, h2.mono e⟩
  · exact .inr ⟨kvs, h1, h2.mono e⟩
theorem Rp.dctI {v : V} {ds : List (D × D)} (h : Rp K B v (.dct ds)) : ∃ a o, v = .ref a ∧ B a = some o ∧ RpD K B o ds := by
  cases h with
  | dct h r => exact ⟨_, _, rfl, h, .inl ⟨_, rfl, r⟩⟩
  | dctT h r => exact ⟨_, _, rfl, h, .inr ⟨_, rfl, r⟩⟩
theorem Rp.ofD {a : Addr} {o : HO} {ds : List (D × D)} (h : B a = some o) (r : RpD K B o ds) : Rp K B (.ref a) (.dct ds) := by
  rcases r with ⟨kvs, rfl, h2⟩ | ⟨kvs, rfl, h2⟩
  · exact .dct h h2
  · exact .dctT h h2
theorem RpA.len : ∀ {vs : List V} {ds : List D}, RpA K B vs ds → vs.length = ds.length
  | _, _, .nil => rfl
  | _, _, .cons _ r => congrArg (· + 1) (RpA.len r)
theorem RpA.app : ∀ {vs ws : List V} {ds es : List D}, RpA K B vs ds → RpA K B ws es → RpA K B (vs ++ ws) (ds ++ es)
  | _, _, _, _, .nil, s => s
  | _, _, _, _, .cons h r, s => .cons h (RpA.app r s)
theorem RpA.get : ∀ {vs : List V} {ds : List D} {i : Nat} {d : D}, RpA K B vs ds → ds[i]? = some d → ∃ v, vs[i]? = some v ∧ Rp K B v d
  | _, _, _, _, .nil, e => by simp at e
  | _, _, 0, _, .cons h _, e => by simp at e; subst e; exact ⟨_, rfl, h⟩
  | _, _, i + 1, _, .cons _ r, e => by
    obtain ⟨v, h1, h2⟩ := RpA.get (i := i) r (by simpa using e)
    exact ⟨v, by simpa using h1, h2⟩
theorem RpA.get' : ∀ {vs : List V} {ds : List D} {i : Nat} {v : V}, RpA K B vs ds → vs[i]? = some v → ∃ d, ds[i]? = some d ∧ Rp K B v d
  | _, _, _, _, .nil, e => by simp at e
  | _, _, 0, _, .cons h _, e => by simp at e; subst e; exact ⟨_, rfl, h⟩
  | _, _, i + 1, _, .cons _ r, e => by
    obtain ⟨v, h1, h2⟩ := RpA.get' (i := i) r (by simpa using e)
    exact ⟨v, by simpa using h1, h2⟩
theorem RpA.of_get : ∀ {vs : List V} {ds : List D}, vs.length = ds.length → (∀ (i : Nat) (v : V) (d : D), vs[i]? = some v → ds[i]? = some d → Rp K B v d) → RpA K B vs ds
  | [], [], _, _ => .nil
  | [], _ :: _, h, _ => by simp at h
  | _ :: _, [], h, _ => by simp at h
  | v :: vs, d :: ds, h, g => .cons (g 0 v d rfl rfl) (RpA.of_get (by simpa using h) fun i v d h1 h2 => g (i + 1) v d (by simpa using h1) (by simpa using h2))
theorem RpA.take : ∀ {vs : List V} {ds : List D} (n : Nat), RpA K B vs ds → RpA K B (vs.take n) (ds.take n)
  | _, _, 0, _ => by simp; exact .nil
  | _, _, _ + 1, .nil => .nil
  | _, _, n + 1, .cons h r => by simpa using .cons h (RpA.take n r)
theorem RpA.drop : ∀ {vs : List V} {ds : List D} (n : Nat), RpA K B vs ds → RpA K B (vs.drop n) (ds.drop n)
  | _, _, 0, r => by simpa using r
  | _, _, _ + 1, .nil => .nil
  | _, _, n + 1, .cons _ r => by simpa using RpA.drop n r
theorem RpA.set : ∀ {vs : List V} {ds : List D} (i : Nat) {v : V} {d : D}, RpA K B vs ds → Rp K B v d → RpA K B (vs.set i v) (ds.set i d)
  | _, _, _, _, _, .nil, _ => .nil
  | _, _, 0, _, _, .cons _ r, h => .cons h r
  | _, _, i + 1, _, _, .cons h0 r, h => .cons h0 (RpA.set i r h)
theorem RpA.rev {vs : List V} {ds : List D} (r : RpA K B vs ds) : RpA K B vs.reverse ds.reverse := by
  have hl := r.len
  refine RpA.of_get (by simpa using hl) fun i v d h1 h2 => ?_
  have li : i < vs.reverse.length := (List.getElem?_eq_some_iff.mp h1).1
  have li' : i < vs.length := by simpa using li
  rw [List.getElem?_reverse li'] at h1
  rw [List.getElem?_reverse (by omega)] at h2
  obtain ⟨d', e1, e2⟩ := RpA.get' r h1
  rw [hl, h2] at e1
  cases e1
  exact e2
theorem RpA.repl {v : V} {d : D} (h : Rp K B v d) : ∀ n : Nat, RpA K B (List.replicate n v) (List.replicate n d)
  | 0 => .nil
  | n + 1 => .cons h (RpA.repl h n)
end

/-! ### the ground: what is owned (own), what others own (F), the base -/
structure Ground (F : Hp) (own : Own) (B H : Hp) : Prop where
  base : ∀ a o, B a = some o → H a = some o ∧ own a = none
  frame : ∀ a o, F a = some o → H a = some o ∧ own a = none ∧ B a = none
  live : ∀ a, own a ≠ none → H a ≠ none
/-- a step: what is owned stays, what others own stays, the base grows -/
structure Step (own : Own) (F B H B' H' : Hp) : Prop where
  ext : Ext B B'
  base : ∀ a o, B' a = some o → H' a = some o
  ownd : ∀ a, own a ≠ none → H' a = H a ∧ B' a = none
  frame : ∀ a o, F a = some o → H' a = some o ∧ B' a = none
section
variable {F B H B' H' B2 H2 : Hp} {own : Own}
omit [Mg] in
theorem Ground.bnone (g : Ground F own B H) {a : Addr} (h : own a ≠ none) : B a = none := by
  cases e : B a with
  | none => rfl
  | some o => exact absurd (g.base a o e).2 h
omit [Mg] in
theorem Step.refl (g : Ground F own B H) : Step own F B H B H :=
  ⟨Same.refl B, fun a o e => (g.base a o e).1, fun a h => ⟨rfl, g.bnone h⟩, fun a o e => ⟨(g.frame a o e).1, (g.frame a o e).2.2⟩⟩
omit [Mg] in
theorem Step.trans (s : Step own F B H B' H') (t : Step own F B' H' B2 H2) : Step own F B H B2 H2 :=
  ⟨s.ext.trans t.ext, t.base, fun a h => ⟨(t.ownd a h).1.trans (s.ownd a h).1, (t.ownd a h).2⟩, t.frame⟩
omit [Mg] in
theorem Ground.step (g : Ground F own B H) (s : Step own F B H B' H') : Ground F own B' H' where
  base := fun a o e => ⟨s.base a o e, by
    cases h : own a with
    | none => rfl
    | some l =>
      have := (s.ownd a (by rw [h]; exact fun z => nomatch z)).2
      rw [this] at e; cases e⟩
  frame := fun a o e => ⟨(s.frame a o e).1, (g.frame a o e).2.1, (s.frame a o e).2⟩
  live := fun a h => by rw [(s.ownd a h).1]; exact g.live a h
omit [Mg] in
/-- a new thing, laid into the base -/
theorem Step.new (g : Ground F own B H) {p : Addr} (o : HO) (h : H p = none) : Step own F B H (upd B p o) (upd H p o) where
  ext := fun a u e => by
    have ne : a ≠ p := fun z => by
      subst z
      rw [(g.base a u e).1] at h
      cases h
    rw [upd_ne ne]
    exact e
  base := fun a u e => by
    by_cases ha : a = p
    · subst ha
      rw [upd_same] at e ⊢
      exact e
    · rw [upd_ne ha] at e ⊢
      exact (g.base a u e).1
  ownd := fun a ho => by
    have ne : a ≠ p := fun z => g.live a ho (z ▸ h)
    rw [upd_ne ne, upd_ne ne]
    exact ⟨rfl, g.bnone ho⟩
  frame := fun a u e => by
    have ne : a ≠ p := fun z => by
      subst z
      rw [(g.frame a u e).1] at h
      cases h
    rw [upd_ne ne, upd_ne ne]
    exact ⟨(g.frame a u e).1, (g.frame a u e).2.2⟩
omit [Mg] in
/-- a new thing that nobody knows yet -/
theorem Step.garbage (g : Ground F own B H) {p : Addr} (o : HO) (h : H p = none) : Step own F B H B (upd H p o) where
  ext := Same.refl B
  base := fun a u e => by
    have ne : a ≠ p := fun z => by
      subst z
      rw [(g.base a u e).1] at h
      cases h
    rw [upd_ne ne]
    exact (g.base a u e).1
  ownd := fun a ho => by
    have ne : a ≠ p := fun z => g.live a ho (z ▸ h)
    rw [upd_ne ne]
    exact ⟨rfl, g.bnone ho⟩
  frame := fun a u e => by
    have ne : a ≠ p := fun z => by
      subst z
      rw [(g.frame a u e).1] at h
      cases h
    rw [upd_ne ne]
    exact ⟨(g.frame a u e).1, (g.frame a u e).2.2⟩
omit [Mg] in
theorem Ground.bfresh (g : Ground F own B H) {p : Addr} (h : H p = none) : B p = none := by
  cases e : B p with
  | none => rfl
  | some o =>
    rw [(g.base p o e).1] at h
    cases h
omit [Mg] in
theorem Ground.ffresh (g : Ground F own B H) {p : Addr} (h : H p = none) : F p = none := by
  cases e : F p with
  | none => rfl
  | some o =>
    rw [(g.frame p o e).1] at h
    cases h
omit [Mg] in
theorem Ground.ofresh (g : Ground F own B H) {p : Addr} (h : H p = none) : own p = none := by
  cases e : own p with
  | none => rfl
  | some o => exact absurd h (g.live p (by rw [e]; exact fun z => nomatch z))
end

/-! ### modes -/
/-- frozen; an owned list; an exception that is held; an owned dict of frozen things; an owned instance, its attributes (fnil, fcons); a thing that stands at a -/
inductive Mode where
  | fz | own (m : Mode) | raw (a : Addr) (d : Option Addr) | dic | ins (c : Nat) (r : Mode) | fnil | fcons (m r : Mode) | at (a : Addr) (m : Mode) | any | sto
  deriving DecidableEq
/-! ### the store: things that are known by number -/
/-- the head of the store's labels -/
abbrev SH : Nat := 1000000
def refD (n : Nat) : D := .exc [(Str.empty, .int n)]
def D.nref : D → Bool
  | .exc _ => false
  | _ => true
def stoD (os : List D) : D := .exc (os.map fun o => (Str.empty, o))
/-- any value: a frozen one, or one of the store's things -/
def AnyR (K : PySem.W.Frag) (B : Hp) (own : Own) (v : V) (d : D) : Prop := (d.nref = true ∧ Rp K B v d) ∨ ∃ (n : Nat) (a : Addr), d = refD n ∧ v = .ref a ∧ own a = some [SH, n]
def AnyA (K : PySem.W.Frag) (B : Hp) (own : Own) (vs : List V) (ds : List D) : Prop := vs.length = ds.length ∧ ∀ (k : Nat) (v : V) (d : D), vs[k]? = some v → ds[k]? = some d → AnyR K B own v d
def AnyD (K : PySem.W.Frag) (B : Hp) (own : Own) (o : HO) (kvs : List (D × D)) : Prop :=
  (∃ ps : List (Key × V), o = .dK ps ∧ ps.length = kvs.length ∧ ∀ (k : Nat) (p : Key × V) (q : D × D), ps[k]? = some p → kvs[k]? = some q → q.1 = keyD p.1 ∧ AnyR K B own p.2 q.2) ∨
    ∃ ps : List (List Key × V), o = .dT ps ∧ ps.length = kvs.length ∧ ∀ (k : Nat) (p : List Key × V) (q : D × D), ps[k]? = some p → kvs[k]? = some q → q.1 = .tup (p.1.map keyD) ∧ AnyR K B own p.2 q.2
/-- what stands in an attribute -/
def ConR (K : PySem.W.Frag) (B H : Hp) (own : Own) (lab : Lab) (v : V) (d : D) : FM → Prop
  | .any => AnyR K B own v d
  | .lst => ∃ (l : Addr) (vs : List V) (ds : List D), v = .ref l ∧ d = .lst ds ∧ own l = some lab ∧ H l = some (.lst vs) ∧ AnyA K B own vs ds
  | .dct => ∃ (l : Addr) (o : HO) (kvs : List (D × D)), v = .ref l ∧ d = .dct kvs ∧ own l = some lab ∧ H l = some o ∧ AnyD K B own o kvs
/-- the store's thing of number n at a -/
def RootR (K : PySem.W.Frag) (B H : Hp) (own : Own) (n : Nat) (a : Addr) : D → Prop
  | .ins c ds => ∃ (dx : Addr) (vs : List (Str × V)), H a = some (.ins (Mg.cls c) dx vs) ∧ vs.map (·.1) <+: Mg.lay c ∧ vs.length = ds.length ∧ ∀ (k : Nat) (v : V) (d : D), (vs.map (·.2))[k]? = some v → ds[k]? = some d → ConR K B H own [SH, n, k] v d (Mg.fm c k)
  | .lst ds => ∃ vs : List V, H a = some (.lst vs) ∧ AnyA K B own vs ds
  | .dct kvs => ∃ o : HO, H a = some o ∧ AnyD K B own o kvs
  | _ => False
structure StoR (K : PySem.W.Frag) (B H : Hp) (own : Own) (os : List D) : Prop where
  at_ : ∀ (n : Nat) (o : D), os[n]? = some o → ∃ a, own a = some [SH, n] ∧ RootR K B H own n a o
  inj : ∀ (a a' : Addr) (n : Nat) (r : Lab), own a = some (SH :: n :: r) → own a' = some (SH :: n :: r) → a = a'
  bnd : ∀ (a : Addr) (n : Nat) (r : Lab), own a = some (SH :: n :: r) → n < os.length
/-- the store's things stay -/
structure StK (H : Hp) (own : Own) (H' : Hp) (own' : Own) : Prop where
  lab : ∀ (l : Addr) (n : Nat) (r : Lab), own l = some (SH :: n :: r) ↔ own' l = some (SH :: n :: r)
  hp : ∀ (l : Addr) (n : Nat) (r : Lab), own l = some (SH :: n :: r) → H' l = H l
omit [Mg] in
theorem StK.refl {H : Hp} {own : Own} : StK H own H own := ⟨fun _ _ _ => .rfl, fun _ _ _ _ => rfl⟩
omit [Mg] in
theorem StK.trans {H H' H2 : Hp} {own own' own2 : Own} (s : StK H own H' own') (t : StK H' own' H2 own2) : StK H own H2 own2 :=
  ⟨fun l n r => (s.lab l n r).trans (t.lab l n r), fun l n r h => (t.hp l n r ((s.lab l n r).mp h)).trans (s.hp l n r h)⟩
section
variable {K : PySem.W.Frag} {B B' H H' : Hp} {own own' : Own}
theorem AnyR.keep {v : V} {d : D} (e : Ext B B') (s : ∀ l n r, own l = some (SH :: n :: r) → own' l = some (SH :: n :: r)) (h : AnyR K B own v d) : AnyR K B' own' v d := by
  rcases h with ⟨h1, h2⟩ | ⟨n, a, h1, h2, h3⟩
  · exact .inl ⟨h1, h2.mono e⟩
  · exact .inr ⟨n, a, h1, h2, s _ _ _ h3⟩
theorem AnyA.keep {vs : List V} {ds : List D} (e : Ext B B') (s : ∀ l n r, own l = some (SH :: n :: r) → own' l = some (SH :: n :: r)) (h : AnyA K B own vs ds) : AnyA K B' own' vs ds :=
  ⟨h.1, fun k v d h1 h2 => (h.2 k v d h1 h2).keep e s⟩
theorem AnyD.keep {o : HO} {kvs : List (D × D)} (e : Ext B B') (s : ∀ l n r, own l = some (SH :: n :: r) → own' l = some (SH :: n :: r)) (h : AnyD K B own o kvs) : AnyD K B' own' o kvs := by
  rcases h with ⟨ps, h1, h2, h3⟩ | ⟨ps, h1, h2, h3⟩
  · exact .inl ⟨ps, h1, h2, fun k p q a b => ⟨(h3 k p q a b).1, (h3 k p q a b).2.keep e s⟩⟩
  · exact .inr ⟨ps, h1, h2, fun k p q a b => ⟨(h3 k p q a b).1, (h3 k p q a b).2.keep e s⟩⟩
theorem ConR.keep {n k : Nat} {v : V} {d : D} {m : FM} (e : Ext B B') (s : StK H own H' own') (h : ConR K B H own [SH, n, k] v d m) : ConR K B' H' own' [SH, n, k] v d m := by
  have s1 := fun l n r => (s.lab l n r).mp
  cases m with
  | any => exact AnyR.keep e s1 h
  | lst =>
    obtain ⟨l, vs, ds, h1, h2, h3, h4, h5⟩ := h
    exact ⟨l, vs, ds, h1, h2, s1 _ _ _ h3, (s.hp _ _ _ h3).trans h4, h5.keep e s1⟩
  | dct =>
    obtain ⟨l, vs, ds, h1, h2, h3, h4, h5⟩ := h
    exact ⟨l, vs, ds, h1, h2, s1 _ _ _ h3, (s.hp _ _ _ h3).trans h4, h5.keep e s1⟩
theorem RootR.keep {n : Nat} {a : Addr} (ha : own a = some [SH, n]) (e : Ext B B') (s : StK H own H' own') : ∀ {o : D}, RootR K B H own n a o → RootR K B' H' own' n a o := by
  have s1 := fun l n r => (s.lab l n r).mp
  have hH := s.hp _ _ _ ha
  intro o h
  cases o with
  | ins c ds =>
    obtain ⟨dx, vs, h1, h2, h3, h4⟩ := h
    exact ⟨dx, vs, hH.trans h1, h2, h3, fun k v d a b => (h4 k v d a b).keep e s⟩
  | lst ds =>
    obtain ⟨vs, h1, h2⟩ := h
    exact ⟨vs, hH.trans h1, h2.keep e s1⟩
  | dct ds =>
    obtain ⟨vs, h1, h2⟩ := h
    exact ⟨vs, hH.trans h1, h2.keep e s1⟩
  | _ => exact h.elim
theorem StoR.keep {os : List D} (e : Ext B B') (s : StK H own H' own') (h : StoR K B H own os) : StoR K B' H' own' os where
  at_ := fun n o h1 => by
    obtain ⟨a, h2, h3⟩ := h.at_ n o h1
    exact ⟨a, (s.lab _ _ _).mp h2, h3.keep h2 e s⟩
  inj := fun a a' n r h1 h2 => h.inj a a' n r ((s.lab _ _ _).mpr h1) ((s.lab _ _ _).mpr h2)
  bnd := fun a n r h1 => h.bnd a n r ((s.lab _ _ _).mpr h1)
end
/-- the fields of an exception, its dict at d -/
def ExcFs (K : PySem.W.Frag) (B : Hp) (dx : Option Addr) (fs : List (Str × D)) : Prop :=
  (fs = [] ∧ dx = none) ∨ ∃ (d : Addr) (vs : List (Str × V)), fs ≠ [] ∧ dx = some d ∧ B d = some (.xd vs) ∧ vs.map (·.1) = fs.map (·.1) ∧ RpA K B (vs.map (·.2)) (fs.map (·.2))
theorem ExcFs.mono {K : PySem.W.Frag} {B B' : Hp} {dx : Option Addr} {fs : List (Str × D)} (e : Ext B B') (h : ExcFs K B dx fs) : ExcFs K B' dx fs := by
  rcases h with h | ⟨d, vs, h0, h1, h2, h3, h4⟩
  · exact .inl h
  · exact .inr ⟨d, vs, h0, h1, e _ _ h2, h3, h4.mono e⟩
mutual
def VRep (K : PySem.W.Frag) (B H : Hp) (own : Own) : Mode → Lab → V → D → Prop
  | .fz, _, v, d => Rp K B v d
  | .raw a dx, _, v, d => v = .ref a ∧ ∃ fs, d = .exc fs ∧ ExcFs K B dx fs
  | .own m, lab, v, d => ∃ (l : Addr) (vs : List V) (ds : List D), v = .ref l ∧ d = .lst ds ∧ own l = some lab ∧ H l = some (.lst vs) ∧ vs.length = ds.length ∧
      ∀ (k : Nat) (v' : V) (d' : D), vs[k]? = some v' → ds[k]? = some d' → VRep K B H own m (lab ++ [k]) v' d'
  | .dic, lab, v, d => ∃ (l : Addr) (o : HO) (ds : List (D × D)), v = .ref l ∧ d = .dct ds ∧ own l = some lab ∧ H l = some o ∧ RpD K B o ds
  | .ins c r, lab, v, d => ∃ (l dx : Addr) (vs : List (Str × V)) (ds : List D), v = .ref l ∧ d = .ins c ds ∧ own l = some lab ∧ H l = some (.ins (Mg.cls c) dx vs) ∧ vs.map (·.1) <+: Mg.lay c ∧ VFs K B H own r lab 0 (vs.map (·.2)) ds
  | .at a m, lab, v, d => v = .ref a ∧ VRep K B H own m lab v d
  | .any, _, v, d => AnyR K B own v d
  | .sto, _, v, d => v = .ref 0 ∧ ∃ os, d = stoD os ∧ StoR K B H own os
  | .fnil, _, _, _ => False
  | .fcons _ _, _, _, _ => False
/-- the attributes, from the k-th on -/
def VFs (K : PySem.W.Frag) (B H : Hp) (own : Own) : Mode → Lab → Nat → List V → List D → Prop
  | .fnil, _, _, vs, ds => vs = [] ∧ ds = []
  | .fcons m r, lab, k, vs, ds => ∃ (v : V) (d : D) (vs' : List V) (ds' : List D), vs = v :: vs' ∧ ds = d :: ds' ∧ VRep K B H own m (lab ++ [k]) v d ∧ VFs K B H own r lab (k + 1) vs' ds'
  | .fz, _, _, _, _ => False
  | .own _, _, _, _, _ => False
  | .raw _ _, _, _, _, _ => False
  | .dic, _, _, _, _ => False
  | .ins _ _, _, _, _, _ => False
  | .at _ _, _, _, _, _ => False
  | .any, _, _, _, _ => False
  | .sto, _, _, _, _ => False
end
/-- from one ground to another: the same things, perhaps under other labels -/
structure Carry (K : PySem.W.Frag) (B H : Hp) (own : Own) (lab : Lab) (B' H' : Hp) (own' : Own) (lab' : Lab) : Prop where
  ext : Ext B B'
  at_ : ∀ (l : Addr) (r : Lab), own l = some (lab ++ r) → own' l = some (lab' ++ r) ∧ H' l = H l
  st : StK H own H' own'
omit [Mg] in
theorem Carry.deep {K : PySem.W.Frag} {B H B' H' : Hp} {own own' : Own} {lab lab' : Lab} (c : Carry K B H own lab B' H' own' lab') (k : Nat) : Carry K B H own (lab ++ [k]) B' H' own' (lab' ++ [k]) :=
  ⟨c.ext, fun l r h => by
    have := c.at_ l (k :: r) (by simpa using h)
    simpa using this, c.st⟩
omit [Mg] in
theorem Carry.self {K : PySem.W.Frag} {B H B' H' : Hp} {own own' : Own} {lab lab' : Lab} (c : Carry K B H own lab B' H' own' lab') {l : Addr} (h : own l = some lab) : own' l = some lab' ∧ H' l = H l := by
  have := c.at_ l [] (by simpa using h)
  simpa using this
mutual
theorem VRep.carry {K : PySem.W.Frag} {B H B' H' : Hp} {own own' : Own} : ∀ {m : Mode} {lab lab' : Lab} {v : V} {d : D}, Carry K B H own lab B' H' own' lab' → VRep K B H own m lab v d → VRep K B' H' own' m lab' v d
  | .fz, _, _, _, _, c, h => Rp.mono c.ext h
  | .raw a dx, _, _, _, _, c, ⟨h1, fs, h2, h3⟩ => ⟨h1, fs, h2, h3.mono c.ext⟩
  | .own m, lab, lab', _, _, c, ⟨l, vs, ds, hv, hd, ho, hl, hn, h⟩ =>
    ⟨l, vs, ds, hv, hd, (c.self ho).1, (c.self ho).2.trans hl, hn, fun k v' d' h1 h2 => VRep.carry (c.deep k) (h k v' d' h1 h2)⟩
  | .dic, _, _, _, _, c, ⟨l, o, ds, hv, hd, ho, hl, r⟩ => ⟨l, o, ds, hv, hd, (c.self ho).1, (c.self ho).2.trans hl, r.mono c.ext⟩
  | .ins cn r, _, _, _, _, c, ⟨l, dx, vs, ds, hv, hd, ho, hl, hk, h⟩ => ⟨l, dx, vs, ds, hv, hd, (c.self ho).1, (c.self ho).2.trans hl, hk, VFs.carry c h⟩
  | .at a m, _, _, _, _, c, ⟨h1, h2⟩ => ⟨h1, VRep.carry c h2⟩
  | .any, _, _, _, _, c, h => AnyR.keep c.ext (fun l n r => (c.st.lab l n r).mp) h
  | .sto, _, _, _, _, c, ⟨h1, os, h2, h3⟩ => ⟨h1, os, h2, h3.keep c.ext c.st⟩
  | .fnil, _, _, _, _, _, h => h.elim
  | .fcons _ _, _, _, _, _, _, h => h.elim
theorem VFs.carry {K : PySem.W.Frag} {B H B' H' : Hp} {own own' : Own} : ∀ {r : Mode} {lab lab' : Lab} {k : Nat} {vs : List V} {ds : List D}, Carry K B H own lab B' H' own' lab' → VFs K B H own r lab k vs ds → VFs K B' H' own' r lab' k vs ds
  | .fnil, _, _, _, _, _, _, h => h
  | .fcons m r, _, _, k, _, _, c, ⟨v, d, vs', ds', h1, h2, h3, h4⟩ => ⟨v, d, vs', ds', h1, h2, VRep.carry (c.deep k) h3, VFs.carry c h4⟩
  | .fz, _, _, _, _, _, _, h => h.elim
  | .own _, _, _, _, _, _, _, h => h.elim
  | .raw _ _, _, _, _, _, _, _, h => h.elim
  | .dic, _, _, _, _, _, _, h => h.elim
  | .ins _ _, _, _, _, _, _, _, h => h.elim
  | .at _ _, _, _, _, _, _, _, h => h.elim
  | .any, _, _, _, _, _, _, h => h.elim
  | .sto, _, _, _, _, _, _, h => h.elim
end
omit [Mg] in
theorem Step.stk {F B H B' H' : Hp} {own : Own} (s : Step own F B H B' H') : StK H own H' own := ⟨fun _ _ _ => .rfl, fun l n r h => (s.ownd l (by rw [h]; exact fun z => nomatch z)).1⟩
omit [Mg] in
theorem Carry.step {K : PySem.W.Frag} {F B H B' H' : Hp} {own : Own} (s : Step own F B H B' H') {lab : Lab} : Carry K B H own lab B' H' own lab :=
  ⟨s.ext, fun l r h => ⟨h, (s.ownd l (by rw [h]; exact fun z => nomatch z)).1⟩, s.stk⟩
theorem VRep.step {K : PySem.W.Frag} {F B H B' H' : Hp} {own : Own} (s : Step own F B H B' H') {m : Mode} {lab : Lab} {v : V} {d : D} (h : VRep K B H own m lab v d) : VRep K B' H' own m lab v d := VRep.carry (.step s) h

/-- the slots: ρ the trees by slot, Γ the modes; slot i owns under the label i + 1 -/
structure Good (K : PySem.W.Frag) (F : Hp) (G : List Mode) (ρ : Rho) (own : Own) (B : Hp) (σ : L2.St) (H : Hp) : Prop where
  gr : Ground F own B H
  len : σ.length = ρ.length ∧ ρ.length < 1000000
  slots : ∀ (i : Nat) (d : D), ρ[i]? = some (some d) → ∃ v, σ[i]? = some (some v) ∧ VRep K B H own (G.getD i .fz) [i + 1] v d
section
variable {K : PySem.W.Frag} {F B H B' H' : Hp} {own : Own} {G : List Mode} {ρ : Rho} {σ : L2.St}
theorem Good.step (g : Good K F G ρ own B σ H) (s : Step own F B H B' H') : Good K F G ρ own B' σ H' :=
  ⟨g.gr.step s, g.len, fun i d e => let ⟨v, h1, h2⟩ := g.slots i d e; ⟨v, h1, VRep.step s h2⟩⟩
end

/-! ### an exception that stands for Exn -/
structure ExR (K : PySem.W.Frag) (mg : Str → Option Value) (B H : Hp) (e : Exn) (c : Value) (dx : Option Addr) : Prop where
  cls : mg e.cls = some c
  fs : ExcFs K B dx e.fs

/-! ### expressions: to a frozen value -/
/-- what is wished of an exception, at the slots σ -/
def WOk (K : PySem.W.Frag) (mg : Str → Option Value) (W : WX) (own : Own) (F B H : Hp) (σ : L2.St) (e : Exn) : Prop :=
  ∀ (c : Value) (dx : Option Addr) (B' H' : Hp), Step own F B H B' H' → ExR K mg B' H' e c dx → W c dx σ H'
def Ev (X : Cx) (W : WX) (G : List Mode) (t : TE) (g : Rho → Res D) : Prop :=
  ∀ (F : Hp) (ρ : Rho) (own : Own) (B : Hp) (σ : L2.St) (H : Hp) (Q : VK), Good X.K F G ρ own B σ H →
    (g ρ).has (fun d => ∀ (v : V) (B' H' : Hp), Step own F B H B' H' → Rp X.K B' v d → Q v H') (WOk X.K X.mg W own F B H σ) → t σ H Q
/-- to a new list that nobody else knows -/
def EvN (X : Cx) (W : WX) (G : List Mode) (t : TE) (g : Rho → Res (List D)) : Prop :=
  ∀ (F : Hp) (ρ : Rho) (own : Own) (B : Hp) (σ : L2.St) (H : Hp) (Q : VK), Good X.K F G ρ own B σ H →
    (g ρ).has (fun ds => ∀ (p : Addr) (vs : List V) (B' H' : Hp), Step own F B H B' H' → B' p = none → F p = none → own p = none → H' p = some (.lst vs) → RpA X.K B' vs ds → Q (.ref p) H') (WOk X.K X.mg W own F B H σ) → t σ H Q
def EvT (X : Cx) (W : WX) (G : List Mode) (t : TT) (g : Rho → Res Bool) : Prop :=
  ∀ (F : Hp) (ρ : Rho) (own : Own) (B : Hp) (σ : L2.St) (H : Hp) (Q : Bool → Hp → Prop), Good X.K F G ρ own B σ H →
    (g ρ).has (fun b => ∀ (B' H' : Hp), Step own F B H B' H' → Q b H') (WOk X.K X.mg W own F B H σ) → t σ H Q
def EvA (X : Cx) (W : WX) (G : List Mode) (t : TA) (g : Rho → Res (List D)) : Prop :=
  ∀ (F : Hp) (ρ : Rho) (own : Own) (B : Hp) (σ : L2.St) (H : Hp) (Q : List V → Hp → Prop), Good X.K F G ρ own B σ H →
    (g ρ).has (fun ds => ∀ (vs : List V) (B' H' : Hp), Step own F B H B' H' → RpA X.K B' vs ds → Q vs H') (WOk X.K X.mg W own F B H σ) → t σ H Q
theorem WOk.step {K : PySem.W.Frag} {mg : Str → Option Value} {W : WX} {own : Own} {F B H B' H' : Hp} {σ : L2.St} {e : Exn} (w : WOk K mg W own F B H σ e) (s : Step own F B H B' H') : WOk K mg W own F B' H' σ e :=
  fun c dx B2 H2 t x => w c dx B2 H2 (s.trans t) x

omit [Mg] in
/-- the frozen list of a new one -/
theorem frz_new {own : Own} {F B H B' H' : Hp} {p : Addr} {o : HO} (s : Step own F B H B' H') (hb : B' p = none) (hf : F p = none) (ho : own p = none) (hp : H' p = some o) : Step own F B H (upd B' p o) H' where
  ext := fun a u e => by
    have e' := s.ext a u e
    have ne : a ≠ p := fun z => by
      subst z
      rw [hb] at e'
      cases e'
    rw [upd_ne ne]
    exact e'
  base := fun a u e => by
    by_cases ha : a = p
    · subst ha
      rw [upd_same] at e
      cases e
      exact hp
    · rw [upd_ne ha] at e
      exact s.base a u e
  ownd := fun a h => by
    have ne : a ≠ p := fun z => h (z ▸ ho)
    rw [upd_ne ne]
    exact s.ownd a h
  frame := fun a u e => by
    have ne : a ≠ p := fun z => by
      subst z
      rw [hf] at e
      cases e
    rw [upd_ne ne]
    exact s.frame a u e
omit [Mg] in
theorem ext_upd {B : Hp} {p : Addr} {o : HO} (h : B p = none) : Ext B (upd B p o) := fun a u e => by
  have ne : a ≠ p := fun z => by
    subst z
    rw [h] at e
    cases e
  rw [upd_ne ne]
  exact e
def lstD (g : Rho → Res (List D)) : Rho → Res D := fun ρ => (g ρ).bind fun ds => .ok (.lst ds)
theorem EvN.ev {X : Cx} {W : WX} {G : List Mode} {t : TE} {g : Rho → Res (List D)} (h : EvN X W G t g) : Ev X W G t (lstD g) := fun F ρ own B σ H Q gd q => by
  refine h F ρ own B σ H Q gd (Res.has_mono (Res.has_bind q) (fun ds q p vs B' H' s hb hf ho hp r => ?_) fun _ x => x)
  exact q (.ref p) (upd B' p (.lst vs)) H' (frz_new s hb hf ho hp) (.lst upd_same (r.mono (ext_upd hb)))

/-! ### borrowed: frozen, or an owned list of frozen things -/
def Sn (K : PySem.W.Frag) (own : Own) (B H : Hp) (v : V) (d : D) : Prop :=
  Rp K B v d ∨ (∃ (l : Addr) (vs : List V) (ds : List D), v = .ref l ∧ d = .lst ds ∧ own l ≠ none ∧ H l = some (.lst vs) ∧ RpA K B vs ds) ∨
    ∃ (l : Addr) (o : HO) (ds : List (D × D)), v = .ref l ∧ d = .dct ds ∧ own l ≠ none ∧ H l = some o ∧ RpD K B o ds
theorem Sn.step {K : PySem.W.Frag} {own : Own} {F B H B' H' : Hp} {v : V} {d : D} (h : Sn K own B H v d) (s : Step own F B H B' H') : Sn K own B' H' v d := by
  rcases h with h | ⟨l, vs, ds, e1, e2, h1, h2, h3⟩ | ⟨l, o, ds, e1, e2, h1, h2, h3⟩
  · exact .inl (h.mono s.ext)
  · exact .inr (.inl ⟨l, vs, ds, e1, e2, h1, (s.ownd l h1).1.trans h2, h3.mono s.ext⟩)
  · exact .inr (.inr ⟨l, o, ds, e1, e2, h1, (s.ownd l h1).1.trans h2, h3.mono s.ext⟩)
inductive SnA (K : PySem.W.Frag) (own : Own) (B H : Hp) : List V → List D → Prop
  | nil : SnA K own B H [] []
  | cons {v : V} {vs : List V} {d : D} {ds : List D} : Sn K own B H v d → SnA K own B H vs ds → SnA K own B H (v :: vs) (d :: ds)
theorem SnA.step {K : PySem.W.Frag} {own : Own} {F B H B' H' : Hp} (s : Step own F B H B' H') : ∀ {vs : List V} {ds : List D}, SnA K own B H vs ds → SnA K own B' H' vs ds
  | _, _, .nil => .nil
  | _, _, .cons h r => .cons (h.step s) (SnA.step s r)
omit [Mg] in
theorem Ground.same {F : Hp} {own : Own} {B H : Hp} (g : Ground F own B H) : Same B H := fun a o e => (g.base a o e).1
/-- to be read in the heap -/
theorem Sn.rd {K : PySem.W.Frag} {F : Hp} {own : Own} {B H : Hp} {v : V} {d : D} (h : Sn K own B H v d) (g : Ground F own B H) : Rp K H v d := by
  rcases h with h | ⟨l, vs, ds, e1, e2, h1, h2, h3⟩ | ⟨l, o, ds, e1, e2, h1, h2, h3⟩
  · exact h.mono g.same
  · subst e1 e2
    exact .lst h2 (h3.mono g.same)
  · subst e1 e2
    exact .ofD h2 (h3.mono g.same)
/-- a list's view -/
theorem Sn.lst {K : PySem.W.Frag} {F : Hp} {own : Own} {B H : Hp} {v : V} {ds : List D} (h : Sn K own B H v (.lst ds)) (g : Ground F own B H) : ∃ (l : Addr) (vs : List V), v = .ref l ∧ H l = some (.lst vs) ∧ RpA K B vs ds := by
  rcases h with h | ⟨l, vs, ds, e1, e2, h1, h2, h3⟩ | ⟨l, o, ds, e1, e2, h1, h2, h3⟩
  · cases h with
    | lst h r => exact ⟨_, _, rfl, (g.base _ _ h).1, r⟩
  · cases e2
    exact ⟨l, vs, e1, h2, h3⟩
  · cases e2
/-- a dict's view -/
theorem Sn.dct {K : PySem.W.Frag} {F : Hp} {own : Own} {B H : Hp} {v : V} {ds : List (D × D)} (h : Sn K own B H v (.dct ds)) (g : Ground F own B H) : ∃ (l : Addr) (o : HO), v = .ref l ∧ H l = some o ∧ RpD K B o ds := by
  rcases h with h | ⟨l, vs, ds, e1, e2, h1, h2, h3⟩ | ⟨l, o, ds, e1, e2, h1, h2, h3⟩
  · obtain ⟨a, o, h1, h2, h3⟩ := h.dctI
    exact ⟨a, o, h1, (g.base _ _ h2).1, h3⟩
  · cases e2
  · cases e2
    exact ⟨l, o, e1, h2, h3⟩
theorem Sn.frz {K : PySem.W.Frag} {own : Own} {B H : Hp} {v : V} {d : D} (h : Sn K own B H v d) (n : d.ctn = false) : Rp K B v d := by
  rcases h with h | ⟨l, vs, ds, e1, e2, h1, h2, h3⟩ | ⟨l, o, ds, e1, e2, h1, h2, h3⟩
  · exact h
  · subst e2
    cases n
  · subst e2
    cases n
def EvB (X : Cx) (W : WX) (G : List Mode) (t : TE) (g : Rho → Res D) : Prop :=
  ∀ (F : Hp) (ρ : Rho) (own : Own) (B : Hp) (σ : L2.St) (H : Hp) (Q : VK), Good X.K F G ρ own B σ H →
    (g ρ).has (fun d => ∀ (v : V) (B' H' : Hp), Step own F B H B' H' → Sn X.K own B' H' v d → Q v H') (WOk X.K X.mg W own F B H σ) → t σ H Q
def EvBA (X : Cx) (W : WX) (G : List Mode) (t : TA) (g : Rho → Res (List D)) : Prop :=
  ∀ (F : Hp) (ρ : Rho) (own : Own) (B : Hp) (σ : L2.St) (H : Hp) (Q : List V → Hp → Prop), Good X.K F G ρ own B σ H →
    (g ρ).has (fun ds => ∀ (vs : List V) (B' H' : Hp), Step own F B H B' H' → SnA X.K own B' H' vs ds → Q vs H') (WOk X.K X.mg W own F B H σ) → t σ H Q
theorem Ev.b {X : Cx} {W : WX} {G : List Mode} {t : TE} {g : Rho → Res D} (h : Ev X W G t g) : EvB X W G t g := fun F ρ own B σ H Q gd q =>
  h F ρ own B σ H Q gd (Res.has_mono q (fun d q v B' H' s r => q v B' H' s (.inl r)) fun _ x => x)

/-! ### judgements -/
def EJ (X : Cx) (W : WX) (G : List Mode) (e : Expr) (g : Rho → Res D) : Prop := ∃ t, PE X e t ∧ Ev X W G t g
def NJ (X : Cx) (W : WX) (G : List Mode) (e : Expr) (g : Rho → Res (List D)) : Prop := ∃ t, PE X e t ∧ EvN X W G t g
def TJ (X : Cx) (W : WX) (G : List Mode) (e : Expr) (g : Rho → Res Bool) : Prop := ∃ t, PT X e t ∧ EvT X W G t g
def WJ (X : Cx) (W : WX) (G : List Mode) (e : Expr) (g : Rho → Res Bool) : Prop := ∃ t, PW X e t ∧ EvT X W G t g
def BJ (X : Cx) (W : WX) (G : List Mode) (e : Expr) (g : Rho → Res D) : Prop := ∃ t, PE X e t ∧ EvB X W G t g
def BAJ (X : Cx) (W : WX) (G : List Mode) (es : List Expr) (g : Rho → Res (List D)) : Prop := ∃ t, PA X es t ∧ EvBA X W G t g
def AJ (X : Cx) (W : WX) (G : List Mode) (es : List Expr) (g : Rho → Res (List D)) : Prop := ∃ t, PA X es t ∧ EvA X W G t g

section
variable {X : Cx} {W : WX} {G : List Mode} {e a b : Expr} {pos : Pos}
theorem EJ.bj {g : Rho → Res D} (h : EJ X W G e g) : BJ X W G e g := let ⟨t, p, v⟩ := h; ⟨t, p, v.b⟩
theorem NJ.ej {g : Rho → Res (List D)} (h : NJ X W G e g) : EJ X W G e (lstD g) := let ⟨t, p, v⟩ := h; ⟨t, p, v.ev⟩

def getV (i : Nat) : Rho → Res D := fun ρ => match ρ[i]? with
  | some (some d) => .ok d
  | _ => .no
def conD (d : D) : Rho → Res D := fun _ => .ok d
theorem ev_var {i : Nat} (hm : G.getD i .fz = .fz) : Ev X W G (tVar i) (getV i) := fun F ρ own B σ H Q gd q => by
  unfold getV at q
  cases e : ρ[i]? with
  | none =>
    rw [e] at q
    exact q.elim
  | some o =>
    cases o with
    | none =>
      rw [e] at q
      exact q.elim
    | some d =>
      rw [e] at q
      obtain ⟨v, h1, h2⟩ := gd.slots i d e
      rw [hm] at h2
      exact ⟨v, h1, q v B H (.refl gd.gr) h2⟩
theorem ej_var {x : Str} (i : Nat) (h : PE X (.Name x pos) (tVar i)) (hm : G.getD i .fz = .fz := by rfl) : EJ X W G (.Name x pos) (getV i) := ⟨_, h, ev_var hm⟩
theorem ev_c {v : V} {d : D} (h : ∀ K B, Rp K B v d) : Ev X W G (tC v) (conD d) := fun F ρ own B σ H Q gd q => q v B H (.refl gd.gr) (h _ _)
theorem ej_int {i : Int} {j pos} : EJ X W G (.Constant (.int i) j pos) (conD (.int i)) := ⟨_, pe_int, ev_c fun _ _ => .int i⟩
theorem ej_bl {i : Bool} {j pos} : EJ X W G (.Constant (.bool i) j pos) (conD (.bl i)) := ⟨_, pe_bl, ev_c fun _ _ => .bl i⟩
theorem ej_non {j pos} : EJ X W G (.Constant .none j pos) (conD .non) := ⟨_, pe_non, ev_c fun _ _ => .non⟩
theorem ej_str {x : Str} {j pos} : EJ X W G (.Constant (.str x) j pos) (conD (.str x)) := ⟨_, pe_str, ev_c fun _ _ => .str x⟩


/-- an owned list of frozen things, borrowed -/
theorem ev_varB {i : Nat} (hm : G.getD i .fz = .own .fz) : EvB X W G (tVar i) (getV i) := fun F ρ own B σ H Q gd q => by
  unfold getV at q
  cases e : ρ[i]? with
  | none =>
    rw [e] at q
    exact q.elim
  | some o =>
    cases o with
    | none =>
      rw [e] at q
      exact q.elim
    | some d =>
      rw [e] at q
      obtain ⟨v, h1, h2⟩ := gd.slots i d e
      rw [hm] at h2
      obtain ⟨l, vs, ds, e1, e2, h3, h4, hn, h5⟩ := h2
      exact ⟨v, h1, q v B H (.refl gd.gr) (.inr (.inl ⟨l, vs, ds, e1, e2, by rw [h3]; exact (fun z => nomatch z), h4, RpA.of_get hn h5⟩))⟩
theorem bj_var {x : Str} (i : Nat) (h : PE X (.Name x pos) (tVar i)) (hm : G.getD i .fz = .own .fz := by rfl) : BJ X W G (.Name x pos) (getV i) := ⟨_, h, ev_varB hm⟩

/-! ### two-place operations -/
def OpD (X : Cx) (r : R2) (f : D → D → Res D) : Prop :=
  ∀ (F : Hp) (own : Own) (B H : Hp) (x y : V) (dx dy : D) (Q : VK), Ground F own B H → Sn X.K own B H x dx → Sn X.K own B H y dy →
    (f dx dy).has (fun d => ∀ (v : V) (B' H' : Hp), Step own F B H B' H' → Rp X.K B' v d → Q v H') (fun _ => False) → r x y H Q
def OpN (X : Cx) (r : R2) (f : D → D → Res (List D)) : Prop :=
  ∀ (F : Hp) (own : Own) (B H : Hp) (x y : V) (dx dy : D) (Q : VK), Ground F own B H → Sn X.K own B H x dx → Sn X.K own B H y dy →
    (f dx dy).has (fun ds => ∀ (p : Addr) (vs : List V) (B' H' : Hp), Step own F B H B' H' → B' p = none → F p = none → own p = none → H' p = some (.lst vs) → RpA X.K B' vs ds → Q (.ref p) H') (fun _ => False) → r x y H Q
def bin {α : Type} (f : D → D → Res α) (a b : Rho → Res D) : Rho → Res α := fun ρ => (a ρ).bind fun x => (b ρ).bind fun y => f x y
omit [Mg] in
/-- what holds of every result -/
theorem Res.has_calm {α : Type} {r : Res α} {P P' : α → Prop} {E E' : Exn → Prop} (n : ∀ e, r ≠ .ex e) (h : r.has P E) (p : ∀ a, P a → P' a) : r.has P' E' := by
  cases r with
  | ok a => exact p a h
  | ex e => exact absurd rfl (n e)
  | no => exact h
/-- an operation raises nothing -/
def Calm {α : Type} (f : D → D → Res α) : Prop := ∀ x y e, f x y ≠ .ex e
theorem ev_op {r : R2} {f : D → D → Res D} {ta tb : TE} {ga gb : Rho → Res D} (ho : OpD X r f) (hf : Calm f) (ha : EvB X W G ta ga) (hb : EvB X W G tb gb) : Ev X W G (tOp r ta tb) (bin f ga gb) := fun F ρ own B σ H Q gd q => by
  refine ha F ρ own B σ H _ gd (Res.has_mono (Res.has_bind q) (fun dx q v B1 H1 s1 r1 => ?_) fun _ x => x)
  refine hb F ρ own B1 σ H1 _ (gd.step s1) (Res.has_mono (Res.has_bind q) (fun dy q w B2 H2 s2 r2 => ?_) fun _ x => x.step s1)
  exact ho F own B2 H2 v w dx dy Q ((gd.gr.step s1).step s2) (r1.step s2) r2 (Res.has_calm (hf dx dy) q fun d q v' B' H' s3 r3 => q v' B' H' ((s1.trans s2).trans s3) r3)
theorem ev_opN {r : R2} {f : D → D → Res (List D)} {ta tb : TE} {ga gb : Rho → Res D} (ho : OpN X r f) (hf : Calm f) (ha : EvB X W G ta ga) (hb : EvB X W G tb gb) : EvN X W G (tOp r ta tb) (bin f ga gb) := fun F ρ own B σ H Q gd q => by
  refine ha F ρ own B σ H _ gd (Res.has_mono (Res.has_bind q) (fun dx q v B1 H1 s1 r1 => ?_) fun _ x => x)
  refine hb F ρ own B1 σ H1 _ (gd.step s1) (Res.has_mono (Res.has_bind q) (fun dy q w B2 H2 s2 r2 => ?_) fun _ x => x.step s1)
  exact ho F own B2 H2 v w dx dy Q ((gd.gr.step s1).step s2) (r1.step s2) r2 (Res.has_calm (hf dx dy) q fun d q p vs B' H' s3 h1 h2 h3 h4 r3 => q p vs B' H' ((s1.trans s2).trans s3) h1 h2 h3 h4 r3)
theorem ej_bin {op : Operator} {f : D → D → Res D} {ga gb : Rho → Res D} (ho : ∃ r, OpR X (binaryOp op) r ∧ OpD X r f) (hf : Calm f) (ha : BJ X W G a ga) (hb : BJ X W G b gb) : EJ X W G (.BinOp a op b pos) (bin f ga gb) := by
  obtain ⟨r, h1, h2⟩ := ho
  obtain ⟨ta, pa, va⟩ := ha
  obtain ⟨tb, pb, vb⟩ := hb
  exact ⟨_, pe_op h1 pa pb, ev_op h2 hf va vb⟩
theorem nj_bin {op : Operator} {f : D → D → Res (List D)} {ga gb : Rho → Res D} (ho : ∃ r, OpR X (binaryOp op) r ∧ OpN X r f) (hf : Calm f) (ha : BJ X W G a ga) (hb : BJ X W G b gb) : NJ X W G (.BinOp a op b pos) (bin f ga gb) := by
  obtain ⟨r, h1, h2⟩ := ho
  obtain ⟨ta, pa, va⟩ := ha
  obtain ⟨tb, pb, vb⟩ := hb
  exact ⟨_, pe_op h1 pa pb, ev_opN h2 hf va vb⟩
theorem ej_cmp {op : CmpOp} {f : D → D → Res D} {ga gb : Rho → Res D} (ho : ∃ r, OpR X (compareOp op) r ∧ OpD X r f) (hf : Calm f) (hm : behindInMarks op b = false) (ha : BJ X W G a ga) (hb : BJ X W G b gb) : EJ X W G (.Compare a [op] [b] pos) (bin f ga gb) := by
  obtain ⟨r, h1, h2⟩ := ho
  obtain ⟨ta, pa, va⟩ := ha
  obtain ⟨tb, pb, vb⟩ := hb
  exact ⟨_, pe_cmpR h1 pa pb hm, ev_op h2 hf va vb⟩
omit [Mg] in
/-- either of two rules -/
theorem pe_or2 {e : Expr} {t t' : TE} (h : PE X e t) (h' : PE X e t') : PE X e (fun σ H Q => t σ H Q ∨ t' σ H Q) := ⟨fun pins s σ H Q I q => by
  rcases q with q | q
  · exact h.run pins s σ H Q I q
  · exact h'.run pins s σ H Q I q⟩
end
end T

set_option Elab.async false
set_option linter.all false
set_option maxRecDepth 100000
set_option maxHeartbeats 4000000
/-! T-layer, part B: operators, comparisons, subscripts. -/
namespace T
open PySem PySem.Spec PyProof.Rows L2
variable [Mg]
section
variable {K : PySem.W.Frag} {F B H B' H' : Hp} {own : Own} {x y v : V}
theorem Sn.int {i : Int} (h : Sn K own B H x (.int i)) : x = .int i := by
  cases h.frz rfl
  rfl
theorem Sn.str {i : Str} (h : Sn K own B H x (.str i)) : x = .str i := by
  cases h.frz rfl
  rfl
theorem Sn.bl {i : Bool} (h : Sn K own B H x (.bl i)) : x = .bl i := by
  cases h.frz rfl
  rfl
theorem Sn.non (h : Sn K own B H x .non) : x = .non := by
  cases h.frz rfl
  rfl
theorem Sn.ty {n : String} (h : Sn K own B H x (.ty n)) : x = .ty n := by
  cases h.frz rfl
  rfl
theorem Rp.tupI {ds : List D} (h : Rp K B x (.tup ds)) : ∃ a vs, x = .ref a ∧ SqT K B a vs ∧ RpA K B vs ds := by
  cases h with
  | tup h r => exact ⟨_, _, rfl, h, r⟩
theorem Sn.tup {ds : List D} (h : Sn K own B H x (.tup ds)) : ∃ a vs, x = .ref a ∧ SqT K B a vs ∧ RpA K B vs ds := (h.frz rfl).tupI
theorem Rp.scrI {ds : List D} (h : Rp K B x (.scr ds)) : ∃ a vs, x = .ref a ∧ SqL K B a vs ∧ RpA K B vs ds := by
  cases h with
  | scr h r => exact ⟨_, _, rfl, h, r⟩
theorem Sn.scr {ds : List D} (h : Sn K own B H x (.scr ds)) : ∃ a vs, x = .ref a ∧ SqL K B a vs ∧ RpA K B vs ds := (h.frz rfl).scrI
/-- a new tuple, a new list -/
theorem new_tup {Q : VK} {vs : List V} {ds : List D} (g : Ground F own B H) (r : RpA K B vs ds) (q : ∀ (v : V) (B' H' : Hp), Step own F B H B' H' → Rp K B' v (.tup ds) → Q v H') (p : Addr) (hp : H p = none) : Q (.ref p) (upd H p (.tup vs)) :=
  q (.ref p) (upd B p (.tup vs)) (upd H p (.tup vs)) (.new g _ hp) (.tup (.inl (.inl upd_same)) (r.mono (ext_upd (g.bfresh hp))))
theorem new_lst {Q : VK} {vs : List V} {ds : List D} (g : Ground F own B H) (r : RpA K B vs ds) (q : ∀ (v : V) (B' H' : Hp), Step own F B H B' H' → Rp K B' v (.lst ds) → Q v H') (p : Addr) (hp : H p = none) : Q (.ref p) (upd H p (.lst vs)) :=
  q (.ref p) (upd B p (.lst vs)) (upd H p (.lst vs)) (.new g _ hp) (.lst upd_same (r.mono (ext_upd (g.bfresh hp))))
theorem new_lstN {Q : VK} {vs : List V} {ds : List D} (g : Ground F own B H) (r : RpA K B vs ds)
    (q : ∀ (p : Addr) (vs : List V) (B' H' : Hp), Step own F B H B' H' → B' p = none → F p = none → own p = none → H' p = some (.lst vs) → RpA K B' vs ds → Q (.ref p) H') (p : Addr) (hp : H p = none) : Q (.ref p) (upd H p (.lst vs)) :=
  q p vs B (upd H p (.lst vs)) (.garbage g _ hp) (g.bfresh hp) (g.ffresh hp) (g.ofresh hp) upd_same r
end

/-! ### arithmetic -/
def dAdd : D → D → Res D
  | .int i, .int j => .ok (.int (i + j))
  | .str i, .str j => if i.length + j.length ≤ sizeLine then .ok (.str (i ++ j)) else .no
  | .tup xs, .tup ys => if xs.length + ys.length ≤ sizeLine then .ok (.tup (xs ++ ys)) else .no
  | .lst xs, .lst ys => if xs.length + ys.length ≤ sizeLine then .ok (.lst (xs ++ ys)) else .no
  | _, _ => .no
/-- list + list, as a new list -/
def dCat : D → D → Res (List D)
  | .lst xs, .lst ys => if xs.length + ys.length ≤ sizeLine then .ok (xs ++ ys) else .no
  | _, _ => .no
def dSub : D → D → Res D
  | .int i, .int j => .ok (.int (i - j))
  | _, _ => .no
instance {i j : Int} : Decidable (CMulX i j) := inferInstanceAs (Decidable (_ ≤ _))
def dMul : D → D → Res D
  | .int i, .int j => if CMulX i j then .ok (.int (i * j)) else .no
  | _, _ => .no
/-- list * int, a new list -/
def dRep : D → D → Res (List D)
  | .lst xs, .int k => if -(2 ^ 63) ≤ k ∧ k < 2 ^ 63 ∧ xs.length * k.toNat ≤ sizeLine then .ok (List.replicate k.toNat xs).flatten else .no
  | _, _ => .no
def dDiv : D → D → Res D
  | .int i, .int j => if 0 < j ∧ j.natAbs.log2 < 9000 then .ok (.int (i / j)) else .no
  | _, _ => .no
def dMod : D → D → Res D
  | .int i, .int j => if 0 < j then .ok (.int (i % j)) else .no
  | _, _ => .no
def dAnd : D → D → Res D
  | .int i, .int j => .ok (.int (Builtin.bitAnd i j))
  | _, _ => .no

theorem RpA.flatR {K : PySem.W.Frag} {B : Hp} {vs : List V} {ds : List D} (r : RpA K B vs ds) : ∀ n : Nat, RpA K B (List.replicate n vs).flatten (List.replicate n ds).flatten
  | 0 => .nil
  | n + 1 => by
    rw [List.replicate_succ, List.replicate_succ, List.flatten_cons, List.flatten_cons]
    exact r.app (RpA.flatR r n)

section
variable {X : Cx}
omit [Mg] in
theorem calm_add : Calm dAdd := fun x y e h => by
  unfold dAdd at h
  split at h <;> (try split at h) <;> cases h
omit [Mg] in
theorem calm_cat : Calm dCat := fun x y e h => by
  unfold dCat at h
  split at h <;> (try split at h) <;> cases h
omit [Mg] in
theorem calm_sub : Calm dSub := fun x y e h => by
  unfold dSub at h
  split at h <;> (try split at h) <;> cases h
omit [Mg] in
theorem calm_mul : Calm dMul := fun x y e h => by
  unfold dMul at h
  split at h <;> (try split at h) <;> cases h
omit [Mg] in
theorem calm_rep : Calm dRep := fun x y e h => by
  unfold dRep at h
  split at h <;> (try split at h) <;> cases h
omit [Mg] in
theorem calm_div : Calm dDiv := fun x y e h => by
  unfold dDiv at h
  split at h <;> (try split at h) <;> cases h
omit [Mg] in
theorem calm_mod : Calm dMod := fun x y e h => by
  unfold dMod at h
  split at h <;> (try split at h) <;> cases h
omit [Mg] in
theorem calm_and : Calm dAnd := fun x y e h => by
  unfold dAnd at h
  split at h <;> (try split at h) <;> cases h

theorem bin_add : ∃ r, OpR X (binaryOp .Add) r ∧ OpD X r dAdd := by
  refine ⟨_, op_add.or (op_add_str.or (op_catA.or op_cat)), fun F own B H x y dx dy Q g hx hy q => ?_⟩
  unfold dAdd at q
  split at q
  · cases hx.int
    cases hy.int
    exact .inl ⟨_, _, rfl, rfl, q _ _ _ (.refl g) (.int _)⟩
  · cases hx.str
    cases hy.str
    split at q
    · rename_i hz
      exact .inr (.inl ⟨_, _, rfl, rfl, hz, q _ _ _ (.refl g) (.str _)⟩)
    · exact q.elim
  · rename_i xs ys
    obtain ⟨a, vs, rfl, ha, ra⟩ := hx.tup
    obtain ⟨b, ws, rfl, hb, rb⟩ := hy.tup
    split at q
    · rename_i hz
      refine .inr (.inr (.inl ⟨a, b, vs, ws, rfl, rfl, Ext.seqT g.same ha, Ext.seqT g.same hb, by rw [ra.len, rb.len]; exact hz, fun e => ?_, fun _ e => ?_, fun _ _ p hp => new_tup g (ra.app rb) q p hp⟩))
      · subst e
        cases ra
        exact q _ _ _ (.refl g) (.tup hb rb)
      · subst e
        cases rb
        rw [List.append_nil] at q
        exact q _ _ _ (.refl g) (.tup ha ra)
    · exact q.elim
  · rename_i xs ys
    obtain ⟨a, vs, rfl, ha, ra⟩ := hx.lst g
    obtain ⟨b, ws, rfl, hb, rb⟩ := hy.lst g
    split at q
    · rename_i hz
      exact .inr (.inr (.inr ⟨a, b, vs, ws, rfl, rfl, ha, hb, by rw [ra.len, rb.len]; exact hz, fun p hp => new_lst g (ra.app rb) q p hp⟩))
    · exact q.elim
  · exact q.elim
theorem bin_cat : ∃ r, OpR X (binaryOp .Add) r ∧ OpN X r dCat := by
  refine ⟨_, op_cat, fun F own B H x y dx dy Q g hx hy q => ?_⟩
  unfold dCat at q
  split at q
  · obtain ⟨a, vs, rfl, ha, ra⟩ := hx.lst g
    obtain ⟨b, ws, rfl, hb, rb⟩ := hy.lst g
    split at q
    · rename_i hz
      exact ⟨a, b, vs, ws, rfl, rfl, ha, hb, by rw [ra.len, rb.len]; exact hz, fun p hp => new_lstN g (ra.app rb) q p hp⟩
    · exact q.elim
  · exact q.elim
theorem bin_sub : ∃ r, OpR X (binaryOp .Sub) r ∧ OpD X r dSub := by
  refine ⟨_, op_sub, fun F own B H x y dx dy Q g hx hy q => ?_⟩
  unfold dSub at q
  split at q
  · cases hx.int
    cases hy.int
    exact ⟨_, _, rfl, rfl, q _ _ _ (.refl g) (.int _)⟩
  · exact q.elim
theorem bin_mul : ∃ r, OpR X (binaryOp .Mult) r ∧ OpD X r dMul := by
  refine ⟨_, op_mulX, fun F own B H x y dx dy Q g hx hy q => ?_⟩
  unfold dMul at q
  split at q
  · cases hx.int
    cases hy.int
    split at q
    · rename_i hz
      exact ⟨_, _, rfl, rfl, hz, q _ _ _ (.refl g) (.int _)⟩
    · exact q.elim
  · exact q.elim
theorem bin_rep : ∃ r, OpR X (binaryOp .Mult) r ∧ OpN X r dRep := by
  refine ⟨_, op_rep, fun F own B H x y dx dy Q g hx hy q => ?_⟩
  unfold dRep at q
  split at q
  · obtain ⟨a, vs, rfl, ha, ra⟩ := hx.lst g
    cases hy.int
    split at q
    · rename_i hz
      exact ⟨a, _, vs, rfl, rfl, ha, hz.1, hz.2.1, by rw [ra.len]; exact hz.2.2, fun p hp => new_lstN g (ra.flatR _) q p hp⟩
    · exact q.elim
  · exact q.elim
theorem bin_div : ∃ r, OpR X (binaryOp .FloorDiv) r ∧ OpD X r dDiv := by
  refine ⟨_, op_fdivW, fun F own B H x y dx dy Q g hx hy q => ?_⟩
  unfold dDiv at q
  split at q
  · cases hx.int
    cases hy.int
    split at q
    · rename_i hz
      exact ⟨_, _, rfl, rfl, hz, q _ _ _ (.refl g) (.int _)⟩
    · exact q.elim
  · exact q.elim
theorem bin_mod : ∃ r, OpR X (binaryOp .Mod) r ∧ OpD X r dMod := by
  refine ⟨_, op_mod, fun F own B H x y dx dy Q g hx hy q => ?_⟩
  unfold dMod at q
  split at q
  · cases hx.int
    cases hy.int
    split at q
    · rename_i hz
      exact ⟨_, _, rfl, rfl, hz, q _ _ _ (.refl g) (.int _)⟩
    · exact q.elim
  · exact q.elim
theorem bin_and : ∃ r, OpR X (binaryOp .BitAnd) r ∧ OpD X r dAnd := by
  refine ⟨_, op_and, fun F own B H x y dx dy Q g hx hy q => ?_⟩
  unfold dAnd at q
  split at q
  · cases hx.int
    cases hy.int
    exact ⟨_, _, rfl, rfl, q _ _ _ (.refl g) (.int _)⟩
  · exact q.elim
end

/-! ### comparisons -/
mutual
def D.py : D → Option PyData
  | .non => some .none
  | .bl b => some (.bool b)
  | .int i => some (.int i)
  | .str s => some (.str s)
  | .lst xs => (D.pyA xs).map .list
  | .tup xs => (D.pyA xs).map .tuple
  | .scr xs => (D.pyA xs).map .list
  | .dct _ => none
  | .ty _ => none
  | .exc _ => none
  | .ins _ _ => none
def D.pyA : List D → Option (List PyData)
  | [] => some []
  | x :: xs => (D.py x).bind fun d => (D.pyA xs).map fun ds => d :: ds
end
mutual
/-- == of data -/
def D.eqb : D → D → Bool
  | .non, .non => true
  | .bl a, .bl b => a == b
  | .bl a, .int j => (if a then 1 else 0) == j
  | .int i, .bl b => i == (if b then 1 else 0)
  | .int i, .int j => i == j
  | .str x, .str y => x == y
  | .lst xs, .lst ys => D.eqbA xs ys
  | .lst xs, .scr ys => D.eqbA xs ys
  | .scr xs, .lst ys => D.eqbA xs ys
  | .scr xs, .scr ys => D.eqbA xs ys
  | .tup xs, .tup ys => D.eqbA xs ys
  | _, _ => false
def D.eqbA : List D → List D → Bool
  | [], [] => true
  | x :: xs, y :: ys => D.eqb x y && D.eqbA xs ys
  | _, _ => false
end
mutual
/-- data of at most n levels -/
def D.dat : Nat → D → Bool
  | _, .non => true
  | _, .bl _ => true
  | _, .int _ => true
  | _, .str _ => true
  | n + 1, .lst xs => D.datA n xs
  | n + 1, .scr xs => D.datA n xs
  | n + 1, .tup xs => D.datA n xs
  | _, _ => false
def D.datA : Nat → List D → Bool
  | _, [] => true
  | n, x :: xs => D.dat n x && D.datA n xs
end
omit [Mg] in
mutual
theorem D.dat_py : ∀ (d : D) (n : Nat), D.dat n d = true → ∃ p, d.py = some p ∧ p.plain = true ∧ p.depth ≤ n
  | .non, _, _ => ⟨_, rfl, rfl, Nat.zero_le _⟩
  | .bl b, _, _ => ⟨_, rfl, rfl, Nat.zero_le _⟩
  | .int b, _, _ => ⟨_, rfl, rfl, Nat.zero_le _⟩
  | .str b, _, _ => ⟨_, rfl, rfl, Nat.zero_le _⟩
  | .lst xs, n, h => by
    cases n with
    | zero => simp [D.dat] at h
    | succ n =>
      obtain ⟨p, h1, h2, h3⟩ := D.datA_py xs n (by simpa [D.dat] using h)
      exact ⟨.list p, by simp [D.py, h1], by simpa [PyData.plain] using h2, by simpa [PyData.depth] using h3⟩
  | .scr xs, n, h => by
    cases n with
    | zero => simp [D.dat] at h
    | succ n =>
      obtain ⟨p, h1, h2, h3⟩ := D.datA_py xs n (by simpa [D.dat] using h)
      exact ⟨.list p, by simp [D.py, h1], by simpa [PyData.plain] using h2, by simpa [PyData.depth] using h3⟩
  | .tup xs, n, h => by
    cases n with
    | zero => simp [D.dat] at h
    | succ n =>
      obtain ⟨p, h1, h2, h3⟩ := D.datA_py xs n (by simpa [D.dat] using h)
      exact ⟨.tuple p, by simp [D.py, h1], by simpa [PyData.plain] using h2, by simpa [PyData.depth] using h3⟩
  | .dct _, n, h => by
    cases n <;> simp [D.dat] at h
  | .exc _, n, h => by
    cases n <;> simp [D.dat] at h
  | .ins _ _, n, h => by
    cases n <;> simp [D.dat] at h
  | .ty _, n, h => by
    cases n <;> simp [D.dat] at h
theorem D.datA_py : ∀ (ds : List D) (n : Nat), D.datA n ds = true → ∃ ps, D.pyA ds = some ps ∧ PyData.plainAll ps = true ∧ PyData.depthAll ps ≤ n
  | [], _, _ => ⟨[], rfl, rfl, Nat.zero_le _⟩
  | d :: ds, n, h => by
    have h' : D.dat n d = true ∧ D.datA n ds = true := by simpa [D.datA] using h
    obtain ⟨p, h1, h2, h3⟩ := D.dat_py d n h'.1
    obtain ⟨ps, k1, k2, k3⟩ := D.datA_py ds n h'.2
    exact ⟨p :: ps, by simp [D.pyA, h1, k1], by simp [PyData.plainAll, h2, k2], by simp [PyData.depthAll]; omega⟩
end
omit [Mg] in
mutual
theorem D.eqb_py : ∀ (d e : D) (p q : PyData), d.py = some p → e.py = some q → PyData.eqv p q = d.eqb e
  | .non, e, p, q, hp, hq => by
    cases hp
    cases e <;> simp [D.py] at hq <;> (try subst hq) <;> (try (obtain ⟨_, _, rfl⟩ := hq)) <;> rfl
  | .bl b, e, p, q, hp, hq => by
    cases hp
    cases e <;> simp [D.py] at hq <;> (try subst hq) <;> (try (obtain ⟨_, _, rfl⟩ := hq)) <;> rfl
  | .int b, e, p, q, hp, hq => by
    cases hp
    cases e <;> simp [D.py] at hq <;> (try subst hq) <;> (try (obtain ⟨_, _, rfl⟩ := hq)) <;> rfl
  | .str b, e, p, q, hp, hq => by
    cases hp
    cases e <;> simp [D.py] at hq <;> (try subst hq) <;> (try (obtain ⟨_, _, rfl⟩ := hq)) <;> rfl
  | .lst xs, e, p, q, hp, hq => by
    simp [D.py] at hp
    obtain ⟨ps, hp, rfl⟩ := hp
    cases e <;> simp [D.py] at hq <;> (try subst hq) <;> (try (obtain ⟨qs, hq, rfl⟩ := hq)) <;> first
      | rfl
      | exact D.eqbA_py xs _ ps qs hp hq
  | .scr xs, e, p, q, hp, hq => by
    simp [D.py] at hp
    obtain ⟨ps, hp, rfl⟩ := hp
    cases e <;> simp [D.py] at hq <;> (try subst hq) <;> (try (obtain ⟨qs, hq, rfl⟩ := hq)) <;> first
      | rfl
      | exact D.eqbA_py xs _ ps qs hp hq
  | .tup xs, e, p, q, hp, hq => by
    simp [D.py] at hp
    obtain ⟨ps, hp, rfl⟩ := hp
    cases e <;> simp [D.py] at hq <;> (try subst hq) <;> (try (obtain ⟨qs, hq, rfl⟩ := hq)) <;> first
      | rfl
      | exact D.eqbA_py xs _ ps qs hp hq
  | .dct _, e, p, q, hp, hq => by simp [D.py] at hp
  | .ty _, e, p, q, hp, hq => by simp [D.py] at hp
  | .exc _, e, p, q, hp, hq => by simp [D.py] at hp
  | .ins _ _, e, p, q, hp, hq => by simp [D.py] at hp
theorem D.eqbA_py : ∀ (ds es : List D) (ps qs : List PyData), D.pyA ds = some ps → D.pyA es = some qs → PyData.eqvAll ps qs = D.eqbA ds es
  | [], [], ps, qs, hp, hq => by
    cases hp
    cases hq
    rfl
  | [], e :: es, ps, qs, hp, hq => by
    cases hp
    simp [D.pyA, Option.bind_eq_some_iff] at hq
    obtain ⟨_, _, _, _, rfl⟩ := hq
    rfl
  | d :: ds, [], ps, qs, hp, hq => by
    cases hq
    simp [D.pyA, Option.bind_eq_some_iff] at hp
    obtain ⟨_, _, _, _, rfl⟩ := hp
    rfl
  | d :: ds, e :: es, ps, qs, hp, hq => by
    simp [D.pyA, Option.bind_eq_some_iff] at hp hq
    obtain ⟨p, h1, ps', h2, rfl⟩ := hp
    obtain ⟨q, k1, qs', k2, rfl⟩ := hq
    show (PyData.eqv p q && PyData.eqvAll ps' qs') = (D.eqb d e && D.eqbA ds es)
    rw [D.eqb_py d e p q h1 k1, D.eqbA_py ds es ps' qs' h2 k2]
end
section
variable {X : Cx} {pins : List (Addr × Obj)} {σ : L2.St} {H : Hp} {s : Shared}
mutual
theorem Rp.reads (I : Inv X pins σ H s) : ∀ (d : D) (v : V) (u : Value) (p : PyData), Rp X.K H v d → RelV v u → d.py = some p → ∃ as, Reads s.heap u p as
  | .non, _, _, _, h, r, e => by
    cases h
    cases r
    cases e
    exact ⟨_, Reads.none⟩
  | .bl b, _, _, _, h, r, e => by
    cases h
    cases r
    cases e
    exact ⟨_, Reads.bool b⟩
  | .int i, _, _, _, h, r, e => by
    cases h
    obtain ⟨t, rfl⟩ := r
    cases e
    exact ⟨_, Reads.int i t⟩
  | .str x, _, _, _, h, r, e => by
    cases h
    obtain ⟨t, rfl⟩ := r
    cases e
    exact ⟨_, Reads.str x t⟩
  | .lst ds, _, _, _, h, r, e => by
    simp [D.py] at e
    obtain ⟨ps, e, rfl⟩ := e
    cases h with
    | lst hs ha =>
      cases r
      obtain ⟨its, rv, ⟨o, n, ho, hc, _, hd⟩, _⟩ := I.list (xs := _) (.inl (.inl hs))
      obtain ⟨as, hr⟩ := RpA.reads I ds _ its ps ha rv e
      exact ⟨_, Reads.list ho hc hd hr⟩
  | .scr ds, _, _, _, h, r, e => by
    simp [D.py] at e
    obtain ⟨ps, e, rfl⟩ := e
    cases h with
    | scr hs ha =>
      cases r
      obtain ⟨its, rv, ⟨o, n, ho, hc, _, hd⟩, _⟩ := I.list hs
      obtain ⟨as, hr⟩ := RpA.reads I ds _ its ps ha rv e
      exact ⟨_, Reads.list ho hc hd hr⟩
  | .tup ds, _, _, _, h, r, e => by
    simp [D.py] at e
    obtain ⟨ps, e, rfl⟩ := e
    cases h with
    | tup hs ha =>
      cases r
      obtain ⟨its, rv, ⟨o, ho, hc, n, hd⟩, _⟩ := I.tuple hs
      obtain ⟨as, hr⟩ := RpA.reads I ds _ its ps ha rv e
      exact ⟨_, Reads.tuple ho hc hd hr⟩
  | .dct _, _, _, _, _, _, e => by simp [D.py] at e
  | .exc _, _, _, _, _, _, e => by simp [D.py] at e
  | .ins _ _, _, _, _, _, _, e => by simp [D.py] at e
  | .ty _, _, _, _, _, _, e => by simp [D.py] at e
theorem RpA.reads (I : Inv X pins σ H s) : ∀ (ds : List D) (vs : List V) (us : List Value) (ps : List PyData), RpA X.K H vs ds → Vals vs us → D.pyA ds = some ps → ∃ as, ReadsAll s.heap us ps as
  | [], _, _, _, h, r, e => by
    cases h
    cases r
    cases e
    exact ⟨_, ReadsAll.nil⟩
  | d :: ds, _, _, _, h, r, e => by
    simp [D.pyA, Option.bind_eq_some_iff] at e
    obtain ⟨p, h1, ps', h2, rfl⟩ := e
    cases h with
    | cons g1 g2 =>
      cases r with
      | cons r1 r2 =>
        obtain ⟨as, q1⟩ := Rp.reads I d _ _ p g1 r1 h1
        obtain ⟨bs, q2⟩ := RpA.reads I ds _ _ ps' g2 r2 h2
        exact ⟨_, ReadsAll.cons q1 q2⟩
end
end
def dEq (x y : D) : Res D := if D.dat 60 x = true ∧ D.dat 60 y = true then .ok (.bl (x.eqb y)) else .no
def dNe (x y : D) : Res D := if D.dat 60 x = true ∧ D.dat 60 y = true then .ok (.bl (!x.eqb y)) else .no
/-- x in c -/
def dIn : D → D → Res D
  | x, .lst ys => if D.dat 60 x = true ∧ D.datA 60 ys = true then .ok (.bl (ys.any fun y => y.eqb x)) else .no
  | x, .tup ys => if D.dat 60 x = true ∧ D.datA 60 ys = true then .ok (.bl (ys.any fun y => y.eqb x)) else .no
  | .str i, .str j => .ok (.bl (!(Builtin.Str.occurrences j i 0 j.length 1).isEmpty))
  | _, _ => .no
def dNotB (d : D) : Res D := match d with
  | .bl b => .ok (.bl (!b))
  | _ => .no
def dNotIn (x c : D) : Res D := (dIn x c).bind dNotB
def dLt : D → D → Res D
  | .int i, .int j => .ok (.bl (decide (i < j)))
  | .str i, .str j => .ok (.bl (decide (i.cps.toList < j.cps.toList)))
  | _, _ => .no
def dLe : D → D → Res D
  | .int i, .int j => .ok (.bl (decide (i ≤ j)))
  | .str i, .str j => .ok (.bl (!decide (j.cps.toList < i.cps.toList)))
  | _, _ => .no
def dGt : D → D → Res D
  | .int i, .int j => .ok (.bl (decide (j < i)))
  | .str i, .str j => .ok (.bl (decide (j.cps.toList < i.cps.toList)))
  | _, _ => .no
def dGe : D → D → Res D
  | .int i, .int j => .ok (.bl (decide (j ≤ i)))
  | .str i, .str j => .ok (.bl (!decide (i.cps.toList < j.cps.toList)))
  | _, _ => .no
/-- is None, True, False -/
def D.isNon : D → Bool
  | .non => true
  | _ => false
def dIs : D → D → Res D
  | x, .non => .ok (.bl x.isNon)
  | .bl a, .bl b => .ok (.bl (a == b))
  | _, _ => .no
def dIsNot (x c : D) : Res D := (dIs x c).bind dNotB

section
variable {X : Cx}
omit [Mg] in
theorem calm_eq : Calm dEq := fun x y e h => by
  unfold dEq at h
  split at h <;> cases h
omit [Mg] in
theorem calm_ne : Calm dNe := fun x y e h => by
  unfold dNe at h
  split at h <;> cases h
omit [Mg] in
theorem calm_in : Calm dIn := fun x y e h => by
  unfold dIn at h
  split at h <;> (try split at h) <;> cases h
omit [Mg] in
theorem calm_notB {r : Res D} (n : ∀ e, r ≠ .ex e) : ∀ e, r.bind dNotB ≠ .ex e := fun e h => by
  cases r with
  | ok a =>
    unfold dNotB at h
    simp only [Res.bind_ok] at h
    split at h <;> cases h
  | ex e' => exact n e' rfl
  | no => cases h
omit [Mg] in
theorem calm_notIn : Calm dNotIn := fun x y => calm_notB (calm_in x y)
omit [Mg] in
theorem calm_lt : Calm dLt := fun x y e h => by
  unfold dLt at h
  split at h <;> cases h
omit [Mg] in
theorem calm_le : Calm dLe := fun x y e h => by
  unfold dLe at h
  split at h <;> cases h
omit [Mg] in
theorem calm_gt : Calm dGt := fun x y e h => by
  unfold dGt at h
  split at h <;> cases h
omit [Mg] in
theorem calm_ge : Calm dGe := fun x y e h => by
  unfold dGe at h
  split at h <;> cases h
omit [Mg] in
theorem calm_is : Calm dIs := fun x y e h => by
  unfold dIs at h
  split at h <;> cases h
omit [Mg] in
theorem calm_isNot : Calm dIsNot := fun x y => calm_notB (calm_is x y)

def rEqT (X : Cx) (neg : Bool) : R2 := fun x y H Q => ∃ dx dy, Rp X.K H x dx ∧ Rp X.K H y dy ∧ D.dat 60 dx = true ∧ D.dat 60 dy = true ∧ Q (.bl (if neg then !dx.eqb dy else dx.eqb dy)) H
theorem op_eqT (hu : X.A.units + 64 < cLine) : OpR X (compareOp .Eq) (rEqT X false) := by
  intro pins s σ H x y v u Q I rx ry h
  obtain ⟨d, e, hd, he, sd, se, q⟩ := h
  obtain ⟨p, p1, p2, p3⟩ := D.dat_py d 60 sd
  obtain ⟨p', p1', p2', p3'⟩ := D.dat_py e 60 se
  obtain ⟨as, r1⟩ := Rp.reads I d x v p hd rx p1
  obtain ⟨bs, r2⟩ := Rp.reads I e y u p' he ry p1'
  refine SeqAt.eq_plain r1 r2 p2 p2' ?_ ⟨.bl _, H, I, by rw [D.eqb_py d e p p' p1 p1']; rfl, q⟩
  have : min p.depth p'.depth ≤ p.depth := Nat.min_le_left _ _
  omega
theorem op_neT (hu : X.A.units + 64 < cLine) : OpR X (compareOp .NotEq) (rEqT X true) := by
  intro pins s σ H x y v u Q I rx ry h
  obtain ⟨d, e, hd, he, sd, se, q⟩ := h
  obtain ⟨p, p1, p2, p3⟩ := D.dat_py d 60 sd
  obtain ⟨p', p1', p2', p3'⟩ := D.dat_py e 60 se
  obtain ⟨as, r1⟩ := Rp.reads I d x v p hd rx p1
  obtain ⟨bs, r2⟩ := Rp.reads I e y u p' he ry p1'
  refine SeqAt.ne_plain r1 r2 p2 p2' ?_ ⟨.bl _, H, I, by rw [D.eqb_py d e p p' p1 p1']; rfl, q⟩
  have : min p.depth p'.depth ≤ p.depth := Nat.min_le_left _ _
  omega
theorem cmp_eq (hu : X.A.units + 64 < cLine) : ∃ r, OpR X (compareOp .Eq) r ∧ OpD X r dEq := by
  refine ⟨_, op_eqT hu, fun F own B H x y dx dy Q g hx hy q => ?_⟩
  unfold dEq at q
  split at q
  · rename_i hz
    exact ⟨dx, dy, hx.rd g, hy.rd g, hz.1, hz.2, q _ _ _ (.refl g) (.bl _)⟩
  · exact q.elim
theorem cmp_ne (hu : X.A.units + 64 < cLine) : ∃ r, OpR X (compareOp .NotEq) r ∧ OpD X r dNe := by
  refine ⟨_, op_neT hu, fun F own B H x y dx dy Q g hx hy q => ?_⟩
  unfold dNe at q
  split at q
  · rename_i hz
    exact ⟨dx, dy, hx.rd g, hy.rd g, hz.1, hz.2, q _ _ _ (.refl g) (.bl _)⟩
  · exact q.elim
omit [Mg] in
theorem D.any_py {d : D} {p : PyData} (e : d.py = some p) : ∀ (ds : List D) (ps : List PyData), D.pyA ds = some ps → ps.any (fun y => PyData.eqv y p) = ds.any (fun y => y.eqb d)
  | [], ps, h => by
    cases h
    rfl
  | x :: xs, ps, h => by
    simp [D.pyA, Option.bind_eq_some_iff] at h
    obtain ⟨q, h1, qs, h2, rfl⟩ := h
    simp only [List.any_cons]
    rw [D.eqb_py x d q p h1 e, D.any_py e xs qs h2]
def rInT (X : Cx) (neg : Bool) : R2 := fun x y H Q => ∃ dx ds a vs, Rp X.K H x dx ∧ y = .ref a ∧ ((H a = some (.lst vs)) ∨ SqT X.K H a vs) ∧ RpA X.K H vs ds ∧ D.dat 60 dx = true ∧ D.datA 60 ds = true ∧
  Q (.bl (if neg then !(ds.any fun y => y.eqb dx) else ds.any fun y => y.eqb dx)) H
theorem op_inT (hu : X.A.units + 64 < cLine) : OpR X (compareOp .In) (rInT X false) := by
  intro pins s σ H x y v u Q I rx ry h
  obtain ⟨d, ds, a, vs, hd, rfl, ha, hr, sd, se, q⟩ := h
  obtain ⟨p, p1, p2, p3⟩ := D.dat_py d 60 sd
  obtain ⟨ps, p1', p2', p3'⟩ := D.datA_py ds 60 se
  obtain ⟨as, r1⟩ := Rp.reads I d x v p hd rx p1
  have hm : min (PyData.depthAll ps) p.depth ≤ p.depth := Nat.min_le_right _ _
  rcases ha with ha | ha
  · obtain ⟨bs, r2⟩ := Rp.reads I (.lst ds) (.ref a) u (.list ps) (.lst ha hr) ry (by simp [D.py, p1'])
    refine SeqAt.in_list_data r2 r1 p2' p2 (by omega) ⟨.bl _, H, I, by rw [D.any_py p1 ds ps p1']; rfl, q⟩
  · obtain ⟨bs, r2⟩ := Rp.reads I (.tup ds) (.ref a) u (.tuple ps) (.tup ha hr) ry (by simp [D.py, p1'])
    refine SeqAt.in_tuple_data r2 r1 p2' p2 (by omega) ⟨.bl _, H, I, by rw [D.any_py p1 ds ps p1']; rfl, q⟩
theorem op_notInT (hu : X.A.units + 64 < cLine) : OpR X (compareOp .NotIn) (rInT X true) := by
  intro pins s σ H x y v u Q I rx ry h
  obtain ⟨d, ds, a, vs, hd, rfl, ha, hr, sd, se, q⟩ := h
  obtain ⟨p, p1, p2, p3⟩ := D.dat_py d 60 sd
  obtain ⟨ps, p1', p2', p3'⟩ := D.datA_py ds 60 se
  obtain ⟨as, r1⟩ := Rp.reads I d x v p hd rx p1
  have hm : min (PyData.depthAll ps) p.depth ≤ p.depth := Nat.min_le_right _ _
  rcases ha with ha | ha
  · obtain ⟨bs, r2⟩ := Rp.reads I (.lst ds) (.ref a) u (.list ps) (.lst ha hr) ry (by simp [D.py, p1'])
    refine SeqAt.notIn_list_data r2 r1 p2' p2 (by omega) ⟨.bl _, H, I, by rw [D.any_py p1 ds ps p1']; rfl, q⟩
  · obtain ⟨bs, r2⟩ := Rp.reads I (.tup ds) (.ref a) u (.tuple ps) (.tup ha hr) ry (by simp [D.py, p1'])
    refine SeqAt.notIn_tuple_data r2 r1 p2' p2 (by omega) ⟨.bl _, H, I, by rw [D.any_py p1 ds ps p1']; rfl, q⟩
theorem cmp_in (hu : X.A.units + 64 < cLine) : ∃ r, OpR X (compareOp .In) r ∧ OpD X r dIn := by
  refine ⟨_, (op_inT hu).or op_in_str, fun F own B H x y dx dy Q g hx hy q => ?_⟩
  unfold dIn at q
  split at q
  · obtain ⟨a, vs, rfl, ha, ra⟩ := hy.lst g
    split at q
    · rename_i hz
      exact .inl ⟨_, _, a, vs, hx.rd g, rfl, .inl ha, ra.mono g.same, hz.1, hz.2, q _ _ _ (.refl g) (.bl _)⟩
    · exact q.elim
  · obtain ⟨a, vs, rfl, ha, ra⟩ := hy.tup
    split at q
    · rename_i hz
      exact .inl ⟨_, _, a, vs, hx.rd g, rfl, .inr (Ext.seqT g.same ha), ra.mono g.same, hz.1, hz.2, q _ _ _ (.refl g) (.bl _)⟩
    · exact q.elim
  · cases hx.str
    cases hy.str
    exact .inr ⟨_, _, rfl, rfl, q _ _ _ (.refl g) (.bl _)⟩
  · exact q.elim
theorem cmp_notIn (hu : X.A.units + 64 < cLine) : ∃ r, OpR X (compareOp .NotIn) r ∧ OpD X r dNotIn := by
  refine ⟨_, (op_notInT hu).or op_notin_str, fun F own B H x y dx dy Q g hx hy q => ?_⟩
  unfold dNotIn dIn at q
  split at q
  · obtain ⟨a, vs, rfl, ha, ra⟩ := hy.lst g
    split at q
    · rename_i hz
      exact .inl ⟨_, _, a, vs, hx.rd g, rfl, .inl ha, ra.mono g.same, hz.1, hz.2, q _ _ _ (.refl g) (.bl _)⟩
    · exact q.elim
  · obtain ⟨a, vs, rfl, ha, ra⟩ := hy.tup
    split at q
    · rename_i hz
      exact .inl ⟨_, _, a, vs, hx.rd g, rfl, .inr (Ext.seqT g.same ha), ra.mono g.same, hz.1, hz.2, q _ _ _ (.refl g) (.bl _)⟩
    · exact q.elim
  · cases hx.str
    cases hy.str
    exact .inr ⟨_, _, rfl, rfl, q _ _ _ (.refl g) (.bl _)⟩
  · exact q.elim
theorem cmp_lt : ∃ r, OpR X (compareOp .Lt) r ∧ OpD X r dLt := by
  refine ⟨_, op_lt.or op_lt_str, fun F own B H x y dx dy Q g hx hy q => ?_⟩
  unfold dLt at q
  split at q
  · cases hx.int
    cases hy.int
    exact .inl ⟨_, _, rfl, rfl, q _ _ _ (.refl g) (.bl _)⟩
  · cases hx.str
    cases hy.str
    exact .inr ⟨_, _, rfl, rfl, q _ _ _ (.refl g) (.bl _)⟩
  · exact q.elim
theorem cmp_le : ∃ r, OpR X (compareOp .LtE) r ∧ OpD X r dLe := by
  refine ⟨_, op_le.or op_le_str, fun F own B H x y dx dy Q g hx hy q => ?_⟩
  unfold dLe at q
  split at q
  · cases hx.int
    cases hy.int
    exact .inl ⟨_, _, rfl, rfl, q _ _ _ (.refl g) (.bl _)⟩
  · cases hx.str
    cases hy.str
    exact .inr ⟨_, _, rfl, rfl, q _ _ _ (.refl g) (.bl _)⟩
  · exact q.elim
theorem cmp_gt : ∃ r, OpR X (compareOp .Gt) r ∧ OpD X r dGt := by
  refine ⟨_, op_gt.or op_gt_str, fun F own B H x y dx dy Q g hx hy q => ?_⟩
  unfold dGt at q
  split at q
  · cases hx.int
    cases hy.int
    exact .inl ⟨_, _, rfl, rfl, q _ _ _ (.refl g) (.bl _)⟩
  · cases hx.str
    cases hy.str
    exact .inr ⟨_, _, rfl, rfl, q _ _ _ (.refl g) (.bl _)⟩
  · exact q.elim
theorem cmp_ge : ∃ r, OpR X (compareOp .GtE) r ∧ OpD X r dGe := by
  refine ⟨_, op_ge.or op_ge_str, fun F own B H x y dx dy Q g hx hy q => ?_⟩
  unfold dGe at q
  split at q
  · cases hx.int
    cases hy.int
    exact .inl ⟨_, _, rfl, rfl, q _ _ _ (.refl g) (.bl _)⟩
  · cases hx.str
    cases hy.str
    exact .inr ⟨_, _, rfl, rfl, q _ _ _ (.refl g) (.bl _)⟩
  · exact q.elim
theorem Sn.isNon {K : PySem.W.Frag} {F B H : Hp} {own : Own} {x : V} {d : D} (h : Sn K own B H x d) (g : Ground F own B H) : decide (x = .non) = d.isNon := by
  have r := h.rd g
  cases r <;> rfl
theorem cmp_is : ∃ r, OpR X (compareOp .Is) r ∧ OpD X r dIs := by
  refine ⟨_, op_isN.or op_is_bl, fun F own B H x y dx dy Q g hx hy q => ?_⟩
  unfold dIs at q
  split at q
  · cases hy.non
    refine .inl ⟨rfl, ?_⟩
    rw [hx.isNon g]
    exact q _ _ _ (.refl g) (.bl _)
  · cases hx.bl
    cases hy.bl
    refine .inr ⟨_, _, rfl, rfl, ?_⟩
    rw [Bool.beq_eq_decide_eq] at q
    exact q _ _ _ (.refl g) (.bl _)
  · exact q.elim
theorem cmp_isNot : ∃ r, OpR X (compareOp .IsNot) r ∧ OpD X r dIsNot := by
  refine ⟨_, op_notN.or op_isnot_bl, fun F own B H x y dx dy Q g hx hy q => ?_⟩
  unfold dIsNot dIs at q
  split at q
  · cases hy.non
    refine .inl ⟨rfl, ?_⟩
    rw [hx.isNon g]
    exact q _ _ _ (.refl g) (.bl _)
  · cases hx.bl
    cases hy.bl
    refine .inr ⟨_, _, rfl, rfl, ?_⟩
    rw [Bool.beq_eq_decide_eq] at q
    exact q _ _ _ (.refl g) (.bl _)
  · exact q.elim
end
end T

set_option Elab.async false
set_option linter.all false
set_option maxRecDepth 100000
set_option maxHeartbeats 4000000
/-! T-layer, part C: tests, subscripts, displays, calls of built-ins, what a loop walks, comprehensions. -/
namespace T
open PySem PySem.Spec PyProof.Rows L2
variable [Mg]

section
variable {X : Cx} {W : WX} {G : List Mode} {e a b c : Expr} {pos : Pos}
/-! ### truth -/
def toB (g : Rho → Res D) : Rho → Res Bool := fun ρ => (g ρ).bind fun d => match d with
  | .bl b => .ok b
  | _ => .no
/-- any value's truth -/
def dTru : D → Res Bool
  | .non => .ok false
  | .bl b => .ok b
  | .int i => .ok (i != 0)
  | .str y => if y.length ≤ sizeLine then .ok (y.length != 0) else .no
  | .lst xs => .ok (!xs.isEmpty)
  | .tup xs => .ok (!xs.isEmpty)
  | .scr xs => .ok (!xs.isEmpty)
  | _ => .no
theorem ev_toB {t : TE} {g : Rho → Res D} (h : EvB X W G t g) : EvT X W G (tB t) (toB g) := fun F ρ own B σ H Q gd q => by
  refine h F ρ own B σ H _ gd (Res.has_mono (Res.has_bind q) (fun d q v B' H' s r => ?_) fun _ x => x)
  cases d with
  | bl b =>
    cases r.bl
    exact ⟨b, rfl, q B' H' s⟩
  | _ => exact q.elim
/-- a test of a True or a False (not and, or, not) -/
theorem tj_val {g : Rho → Res D} (h : BJ X W G e g) (he : ∀ whole, isTrue e X.env whole = (do let v ← whole; standAt e.pos; holding [v] (truthy v)) := by intro _; rfl) : TJ X W G e (toB g) :=
  let ⟨_, p, v⟩ := h; ⟨_, pt_val p he, ev_toB v⟩
theorem RpA.emp {K : PySem.W.Frag} {B : Hp} {vs : List V} {ds : List D} (r : RpA K B vs ds) : vs.isEmpty = ds.isEmpty := by
  cases r <;> rfl
theorem ev_tru {t : TE} {g : Rho → Res D} (h : EvB X W G t g) : EvT X W G (fun σ H Q => t σ H fun x H' => ∃ k, TruV X.K x H' k ∧ Q k H') (fun ρ => (g ρ).bind dTru) := fun F ρ own B σ H Q gd q => by
  refine h F ρ own B σ H _ gd (Res.has_mono (Res.has_bind q) (fun d q v B' H' s r => ?_) fun _ x => x)
  have g' := gd.gr.step s
  cases d with
  | non =>
    cases r.non
    exact ⟨_, rfl, q B' H' s⟩
  | bl b =>
    cases r.bl
    exact ⟨_, rfl, q B' H' s⟩
  | int b =>
    cases r.int
    exact ⟨_, rfl, q B' H' s⟩
  | str y =>
    cases r.str
    simp only [dTru] at q
    split at q
    · rename_i hz
      refine ⟨_, ⟨hz, rfl⟩, ?_⟩
      have e : ((y.length : Int) != 0) = (y.length != 0) := by
        rw [Bool.eq_iff_iff]
        simp
      rw [e]
      exact q B' H' s
    · exact q.elim
  | lst xs =>
    obtain ⟨l, vs, rfl, hl, rv⟩ := r.lst g'
    refine ⟨_, .inl ⟨vs, .inl (.inl hl), rfl⟩, ?_⟩
    rw [rv.emp]
    exact q B' H' s
  | tup xs =>
    obtain ⟨l, vs, rfl, hl, rv⟩ := r.tup
    refine ⟨_, .inr (.inl ⟨vs, Ext.seqT g'.same hl, rfl⟩), ?_⟩
    rw [rv.emp]
    exact q B' H' s
  | scr xs =>
    obtain ⟨l, vs, rfl, hl, rv⟩ := r.scr
    refine ⟨_, .inl ⟨vs, Same.seq g'.same hl, rfl⟩, ?_⟩
    rw [rv.emp]
    exact q B' H' s
  | dct _ => exact q.elim
  | ins _ _ => exact q.elim
  | ty _ => exact q.elim
  | exc _ => exact q.elim
theorem tj_tru {g : Rho → Res D} (h : BJ X W G e g) (he : ∀ whole, isTrue e X.env whole = (do let v ← whole; standAt e.pos; holding [v] (truthy v)) := by intro _; rfl) : TJ X W G e (fun ρ => (g ρ).bind dTru) :=
  let ⟨_, p, v⟩ := h; ⟨_, pt_truth p he, ev_tru v⟩
def andB (g h : Rho → Res Bool) : Rho → Res Bool := fun ρ => (g ρ).bind fun b => if b = true then h ρ else .ok false
def orB (g h : Rho → Res Bool) : Rho → Res Bool := fun ρ => (g ρ).bind fun b => if b = true then .ok true else h ρ
def notB (g : Rho → Res Bool) : Rho → Res Bool := fun ρ => (g ρ).bind fun b => .ok (!b)
theorem ev_and {t u : TT} {g h : Rho → Res Bool} (ht : EvT X W G t g) (hu : EvT X W G u h) : EvT X W G (tAnd t u) (andB g h) := fun F ρ own B σ H Q gd q => by
  refine ht F ρ own B σ H _ gd (Res.has_mono (Res.has_bind q) (fun b q B' H' s => ?_) fun _ x => x)
  cases b with
  | true => exact hu F ρ own B' σ H' Q (gd.step s) (Res.has_mono q (fun b q B2 H2 s2 => q B2 H2 (s.trans s2)) fun _ x => x.step s)
  | false => exact q B' H' s
theorem ev_or {t u : TT} {g h : Rho → Res Bool} (ht : EvT X W G t g) (hu : EvT X W G u h) : EvT X W G (tOr t u) (orB g h) := fun F ρ own B σ H Q gd q => by
  refine ht F ρ own B σ H _ gd (Res.has_mono (Res.has_bind q) (fun b q B' H' s => ?_) fun _ x => x)
  cases b with
  | true => exact q B' H' s
  | false => exact hu F ρ own B' σ H' Q (gd.step s) (Res.has_mono q (fun b q B2 H2 s2 => q B2 H2 (s.trans s2)) fun _ x => x.step s)
theorem ev_not {t : TT} {g : Rho → Res Bool} (ht : EvT X W G t g) : EvT X W G (tNot t) (notB g) := fun F ρ own B σ H Q gd q =>
  ht F ρ own B σ H _ gd (Res.has_mono (Res.has_bind q) (fun b q B' H' s => q B' H' s) fun _ x => x)
theorem wj_and {rest : List Expr} {g h : Rho → Res Bool} (ha : TJ X W G a g) (hb : WJ X W G (.BoolOp .And (b :: rest) pos) h) : WJ X W G (.BoolOp .And (a :: b :: rest) pos) (andB g h) :=
  let ⟨_, p, v⟩ := ha; let ⟨_, p', v'⟩ := hb; ⟨_, pw_and p p', ev_and v v'⟩
theorem wj_or {rest : List Expr} {g h : Rho → Res Bool} (ha : TJ X W G a g) (hb : WJ X W G (.BoolOp .Or (b :: rest) pos) h) : WJ X W G (.BoolOp .Or (a :: b :: rest) pos) (orB g h) :=
  let ⟨_, p, v⟩ := ha; let ⟨_, p', v'⟩ := hb; ⟨_, pw_or p p', ev_or v v'⟩
theorem wj_and1 {g : Rho → Res Bool} (ha : TJ X W G a g) : WJ X W G (.BoolOp .And [a] pos) g := let ⟨_, p, v⟩ := ha; ⟨_, pw_and1 p, v⟩
theorem wj_or1 {g : Rho → Res Bool} (ha : TJ X W G a g) : WJ X W G (.BoolOp .Or [a] pos) g := let ⟨_, p, v⟩ := ha; ⟨_, pw_or1 p, v⟩
theorem WJ.tj {g : Rho → Res Bool} (h : WJ X W G e g) : TJ X W G e g := let ⟨_, p, v⟩ := h; ⟨_, p.pt, v⟩
theorem tj_not {g : Rho → Res Bool} (ha : TJ X W G a g) : TJ X W G (.UnaryOp .Not a pos) (notB g) := let ⟨_, p, v⟩ := ha; ⟨_, pt_not p, ev_not v⟩

/-! ### and, or, not as values: of True and False -/
def andV (f g : Rho → Res D) : Rho → Res D := fun ρ => (f ρ).bind fun d => match d with
  | .bl b => if b = true then g ρ else .ok (.bl false)
  | _ => .no
def orV (f g : Rho → Res D) : Rho → Res D := fun ρ => (f ρ).bind fun d => match d with
  | .bl b => if b = true then .ok (.bl true) else g ρ
  | _ => .no
def notV (f : Rho → Res D) : Rho → Res D := fun ρ => (f ρ).bind dNotB
theorem ej_andV {rest : List Expr} {f g : Rho → Res D} (ha : BJ X W G a f) (hb : EJ X W G (.BoolOp .And (b :: rest) pos) g) : EJ X W G (.BoolOp .And (a :: b :: rest) pos) (andV f g) := by
  obtain ⟨ta, pa, va⟩ := ha
  obtain ⟨tb, pb, vb⟩ := hb
  refine ⟨_, pe_and pa pb, fun F ρ own B σ H Q gd q => ?_⟩
  refine va F ρ own B σ H _ gd (Res.has_mono (Res.has_bind q) (fun d q v B' H' s r => ?_) fun _ x => x)
  cases d with
  | bl c =>
    cases r.bl
    refine ⟨c, rfl, ?_⟩
    cases c with
    | true => exact vb F ρ own B' σ H' Q (gd.step s) (Res.has_mono q (fun b q v B2 H2 s2 => q v B2 H2 (s.trans s2)) fun _ x => x.step s)
    | false => exact q _ B' H' s (.bl _)
  | _ => exact q.elim
theorem ej_orV {rest : List Expr} {f g : Rho → Res D} (ha : BJ X W G a f) (hb : EJ X W G (.BoolOp .Or (b :: rest) pos) g) : EJ X W G (.BoolOp .Or (a :: b :: rest) pos) (orV f g) := by
  obtain ⟨ta, pa, va⟩ := ha
  obtain ⟨tb, pb, vb⟩ := hb
  refine ⟨_, pe_or pa pb, fun F ρ own B σ H Q gd q => ?_⟩
  refine va F ρ own B σ H _ gd (Res.has_mono (Res.has_bind q) (fun d q v B' H' s r => ?_) fun _ x => x)
  cases d with
  | bl c =>
    cases r.bl
    refine ⟨c, rfl, ?_⟩
    cases c with
    | false => exact vb F ρ own B' σ H' Q (gd.step s) (Res.has_mono q (fun b q v B2 H2 s2 => q v B2 H2 (s.trans s2)) fun _ x => x.step s)
    | true => exact q _ B' H' s (.bl _)
  | _ => exact q.elim
theorem ej_one {op : BoolOp} {f : Rho → Res D} (ha : EJ X W G a f) : EJ X W G (.BoolOp op [a] pos) f := let ⟨_, p, v⟩ := ha; ⟨_, pe_one p, v⟩
theorem ej_notV {f : Rho → Res D} (ha : BJ X W G a f) : EJ X W G (.UnaryOp .Not a pos) (notV f) := by
  obtain ⟨ta, pa, va⟩ := ha
  refine ⟨_, pe_not pa, fun F ρ own B σ H Q gd q => ?_⟩
  refine va F ρ own B σ H _ gd (Res.has_mono (Res.has_bind q) (fun d q v B' H' s r => ?_) fun _ x => x)
  cases d with
  | bl c =>
    cases r.bl
    exact ⟨c, rfl, q _ B' H' s (.bl _)⟩
  | _ => exact q.elim
def dNeg : D → Res D
  | .int i => .ok (.int (-i))
  | _ => .no
theorem ej_neg {f : Rho → Res D} (ha : BJ X W G a f) : EJ X W G (.UnaryOp .USub a pos) (fun ρ => (f ρ).bind dNeg) := by
  obtain ⟨ta, pa, va⟩ := ha
  refine ⟨_, pe_un un_neg pa, fun F ρ own B σ H Q gd q => ?_⟩
  refine va F ρ own B σ H _ gd (Res.has_mono (Res.has_bind q) (fun d q v B' H' s r => ?_) fun _ x => x)
  cases d with
  | int c =>
    cases r.int
    exact ⟨c, rfl, q _ B' H' s (.int _)⟩
  | _ => exact q.elim
/-- a op b op' c -/
def chainV (f g : D → D → Res D) (ga gb gc : Rho → Res D) : Rho → Res D := fun ρ => (ga ρ).bind fun x => (gb ρ).bind fun y => (f x y).bind fun z => match z with
  | .bl k => if k = true then (gc ρ).bind fun w => g y w else .ok (.bl false)
  | _ => .no
theorem ev_chain {r r' : R2} {f g : D → D → Res D} {ta tb tc : TE} {ga gb gc : Rho → Res D} (h2 : OpD X r f) (hf : Calm f) (h2' : OpD X r' g) (hg : Calm g) (va : EvB X W G ta ga) (vb : EvB X W G tb gb) (vc : EvB X W G tc gc) : Ev X W G (tChain r r' ta tb tc) (chainV f g ga gb gc) := fun F ρ own B σ H Q gd q => by
  refine va F ρ own B σ H _ gd (Res.has_mono (Res.has_bind q) (fun dx q v B1 H1 s1 r1 => ?_) fun _ x => x)
  refine vb F ρ own B1 σ H1 _ (gd.step s1) (Res.has_mono (Res.has_bind q) (fun dy q w B2 H2 s2 r2 => ?_) fun _ x => x.step s1)
  refine h2 F own B2 H2 v w dx dy _ ((gd.gr.step s1).step s2) (r1.step s2) r2 (Res.has_calm (hf dx dy) (Res.has_bind q) fun d q z B3 H3 s3 r3 => ?_)
  cases d with
  | bl k =>
    cases r3
    refine ⟨k, rfl, ?_⟩
    cases k with
    | false => exact q _ B3 H3 ((s1.trans s2).trans s3) (.bl _)
    | true =>
      show tc σ H3 _
      refine vc F ρ own B3 σ H3 _ (((gd.step s1).step s2).step s3) (Res.has_mono (Res.has_bind q) (fun dw q u B4 H4 s4 r4 => ?_) fun _ x => x.step ((s1.trans s2).trans s3))
      exact h2' F own B4 H4 w u dy dw Q ((((gd.gr.step s1).step s2).step s3).step s4) ((r2.step s3).step s4) r4 (Res.has_calm (hg dy dw) q fun d q z B5 H5 s5 r5 => q z B5 H5 ((((s1.trans s2).trans s3).trans s4).trans s5) r5)
  | _ => exact q.elim
theorem ej_chain {op op' : CmpOp} {f g : D → D → Res D} {ga gb gc : Rho → Res D} (ho : ∃ r, OpR X (compareOp op) r ∧ OpD X r f) (hf : Calm f) (ho' : ∃ r, OpR X (compareOp op') r ∧ OpD X r g) (hg : Calm g) (ha : BJ X W G a ga) (hb : BJ X W G b gb) (hc : BJ X W G c gc)
    (hm : lastMarks [op, op'] [b, c] = false := by with_unfolding_all rfl) : EJ X W G (.Compare a [op, op'] [b, c] pos) (chainV f g ga gb gc) := by
  obtain ⟨r, h1, h2⟩ := ho
  obtain ⟨r', h1', h2'⟩ := ho'
  obtain ⟨ta, pa, va⟩ := ha
  obtain ⟨tb, pb, vb⟩ := hb
  obtain ⟨tc, pc, vc⟩ := hc
  exact ⟨_, pe_chain h1 h1' pa pb pc hm, ev_chain h2 hf h2' hg va vb vc⟩
def ifV (g : Rho → Res Bool) (f f' : Rho → Res D) : Rho → Res D := fun ρ => (g ρ).bind fun b => if b = true then f ρ else f' ρ
theorem ej_if {g : Rho → Res Bool} {f f' : Rho → Res D} (hc : TJ X W G c g) (ha : EJ X W G a f) (hb : EJ X W G b f') : EJ X W G (.IfExp c a b pos) (ifV g f f') := by
  obtain ⟨ta, pa, va⟩ := ha
  obtain ⟨tb, pb, vb⟩ := hb
  obtain ⟨tc, pc, vc⟩ := hc
  refine ⟨_, pe_ifExp pc pa pb, fun F ρ own B σ H Q gd q => ?_⟩
  refine vc F ρ own B σ H _ gd (Res.has_mono (Res.has_bind q) (fun b q B' H' s => ?_) fun _ x => x)
  cases b with
  | true => exact va F ρ own B' σ H' Q (gd.step s) (Res.has_mono q (fun b q v B2 H2 s2 => q v B2 H2 (s.trans s2)) fun _ x => x.step s)
  | false => exact vb F ρ own B' σ H' Q (gd.step s) (Res.has_mono q (fun b q v B2 H2 s2 => q v B2 H2 (s.trans s2)) fun _ x => x.step s)

/-! ### subscripts -/
def dIx : D → D → Res D
  | .lst xs, .int i => match atI xs i with
    | some d => .ok d
    | none => .no
  | .tup xs, .int i => match atI xs i with
    | some d => .ok d
    | none => .no
  | .scr xs, .int i => match atI xs i with
    | some d => .ok d
    | none => .no
  | .str z, .int i => if z.length ≤ sizeLine then match atI z.cps.toList i with
    | some c => .ok (.str ⟨#[c]⟩)
    | none => .no else .no
  | _, _ => .no
omit [Mg] in
theorem calm_ix : Calm dIx := fun x y e h => by
  unfold dIx at h
  split at h <;> (try split at h) <;> (try split at h) <;> cases h
theorem RpA.at {K : PySem.W.Frag} {B : Hp} {vs : List V} {ds : List D} {i : Int} {d : D} (r : RpA K B vs ds) (h : atI ds i = some d) : ∃ v, atI vs i = some v ∧ Rp K B v d := by
  unfold atI at h ⊢
  rw [r.len]
  obtain ⟨j, h1, h2⟩ := Option.bind_eq_some_iff.mp h
  rw [h1]
  exact r.get h2
theorem op_ix : OpD X (rIx X.K) dIx := fun F own B H x y dx dy Q g hx hy q => by
  unfold dIx at q
  split at q
  · obtain ⟨l, vs, rfl, hl, rv⟩ := hx.lst g
    cases hy.int
    split at q
    · rename_i d hd
      obtain ⟨v, h1, h2⟩ := rv.at hd
      exact .inl ⟨l, vs, _, v, rfl, rfl, .inl (.inl hl), h1, q _ _ _ (.refl g) h2⟩
    · exact q.elim
  · obtain ⟨l, vs, rfl, hl, rv⟩ := hx.tup
    cases hy.int
    split at q
    · rename_i d hd
      obtain ⟨v, h1, h2⟩ := rv.at hd
      exact .inr (.inl ⟨l, vs, _, v, rfl, rfl, Ext.seqT g.same hl, h1, q _ _ _ (.refl g) h2⟩)
    · exact q.elim
  · obtain ⟨l, vs, rfl, hl, rv⟩ := hx.scr
    cases hy.int
    split at q
    · rename_i d hd
      obtain ⟨v, h1, h2⟩ := rv.at hd
      exact .inl ⟨l, vs, _, v, rfl, rfl, Same.seq g.same hl, h1, q _ _ _ (.refl g) h2⟩
    · exact q.elim
  · cases hx.str
    cases hy.int
    split at q
    · rename_i hz
      split at q
      · rename_i c hc
        exact .inr (.inr ⟨_, _, c, rfl, rfl, hz, hc, q _ _ _ (.refl g) (.str _)⟩)
      · exact q.elim
    · exact q.elim
  · exact q.elim
theorem ej_ix {ga gb : Rho → Res D} (ha : BJ X W G a ga) (hb : BJ X W G b gb) (hs : PlainIx b := by exact fun _ _ => rfl) : EJ X W G (.Subscript a b pos) (bin dIx ga gb) := by
  obtain ⟨ta, pa, va⟩ := ha
  obtain ⟨tb, pb, vb⟩ := hb
  exact ⟨_, pe_ix ix_seq pa pb hs, ev_op op_ix calm_ix va vb⟩

/-! ### slices -/
def EvO (X : Cx) (W : WX) (G : List Mode) (t : TO) (g : Rho → Res (Option Int)) : Prop :=
  ∀ (F : Hp) (ρ : Rho) (own : Own) (B : Hp) (σ : L2.St) (H : Hp) (Q : Option Int → Hp → Prop), Good X.K F G ρ own B σ H →
    (g ρ).has (fun o => ∀ (B' H' : Hp), Step own F B H B' H' → Q o H') (WOk X.K X.mg W own F B H σ) → t σ H Q
def OJ (X : Cx) (W : WX) (G : List Mode) (e : Option Expr) (g : Rho → Res (Option Int)) : Prop := ∃ t, L2.PO X e t ∧ EvO X W G t g
def noPart : Rho → Res (Option Int) := fun _ => .ok none
def toPart (g : Rho → Res D) : Rho → Res (Option Int) := fun ρ => (g ρ).bind fun d => match d with
  | .int i => .ok (some i)
  | _ => .no
theorem oj_none : OJ X W G none noPart := ⟨_, po_none, fun F ρ own B σ H Q gd q => q B H (.refl gd.gr)⟩
theorem oj_some {g : Rho → Res D} (h : BJ X W G e g) : OJ X W G (some e) (toPart g) := by
  obtain ⟨t, p, v⟩ := h
  refine ⟨_, po_some p, fun F ρ own B σ H Q gd q => ?_⟩
  refine v F ρ own B σ H _ gd (Res.has_mono (Res.has_bind q) (fun d q v B' H' s r => ?_) fun _ x => x)
  cases d with
  | int i =>
    cases r.int
    exact ⟨i, rfl, q B' H' s⟩
  | _ => exact q.elim
/-- what is cut out of a list of anything -/
def cutL {α : Type} (xs : List α) (lo hi : Option Int) : List α := (xs.drop (HT.sIx xs.length 0 lo)).take (HT.sIx xs.length xs.length hi - HT.sIx xs.length 0 lo)
theorem RpA.cut {K : PySem.W.Frag} {B : Hp} {vs : List V} {ds : List D} (r : RpA K B vs ds) (lo hi : Option Int) : RpA K B (cutV vs lo hi) (cutL ds lo hi) := by
  unfold cutV cutL
  rw [r.len]
  exact (r.drop _).take _
def dSl : D → Option Int → Option Int → Res D
  | .lst xs, lo, hi => .ok (.lst (cutL xs lo hi))
  | .tup xs, lo, hi => .ok (.tup (cutL xs lo hi))
  | .str z, lo, hi => if z.length ≤ sizeLine then .ok (.str (cutS z lo hi)) else .no
  | _, _, _ => .no
/-- of a list: a new list -/
def dSlN : D → Option Int → Option Int → Res (List D)
  | .lst xs, lo, hi => .ok (cutL xs lo hi)
  | _, _, _ => .no
def slV {α : Type} (f : D → Option Int → Option Int → Res α) (ga : Rho → Res D) (gl gh : Rho → Res (Option Int)) : Rho → Res α := fun ρ => (ga ρ).bind fun x => (gl ρ).bind fun l => (gh ρ).bind fun h => f x l h
omit [Mg] in
theorem cutL_whole {α : Type} {xs : List α} {lo hi : Option Int} (h : HT.sIx xs.length 0 lo = 0 ∧ HT.sIx xs.length xs.length hi = xs.length) : cutL xs lo hi = xs := by
  unfold cutL
  rw [h.1, h.2]
  simp
omit [Mg] in
theorem calm_sl (x : D) (l h : Option Int) (e : Exn) : dSl x l h ≠ .ex e := fun z => by
  unfold dSl at z
  split at z <;> (try split at z) <;> cases z
omit [Mg] in
theorem calm_slN (x : D) (l h : Option Int) (e : Exn) : dSlN x l h ≠ .ex e := fun z => by
  unfold dSlN at z
  split at z <;> cases z
theorem ej_sl {lo hi : Option Expr} {p2 : Pos} {ga : Rho → Res D} {gl gh : Rho → Res (Option Int)} (ha : BJ X W G a ga) (hl : OJ X W G lo gl) (hh : OJ X W G hi gh) : EJ X W G (.Subscript a (.Slice lo hi none p2) pos) (slV dSl ga gl gh) := by
  obtain ⟨ta, pa, va⟩ := ha
  obtain ⟨tl, pl, vl⟩ := hl
  obtain ⟨th, ph, vh⟩ := hh
  refine ⟨_, pe_slice (sl_list.or (sl_tupA.or sl_str)) pa pl ph, fun F ρ own B σ H Q gd q => ?_⟩
  refine va F ρ own B σ H _ gd (Res.has_mono (Res.has_bind q) (fun d q v B1 H1 s1 r => ?_) fun _ x => x)
  refine vl F ρ own B1 σ H1 _ (gd.step s1) (Res.has_mono (Res.has_bind q) (fun l q B2 H2 s2 => ?_) fun _ x => x.step s1)
  refine vh F ρ own B2 σ H2 _ ((gd.step s1).step s2) (Res.has_mono (Res.has_bind q) (fun h q B3 H3 s3 => ?_) fun _ x => x.step (s1.trans s2))
  have r3 := (r.step s2).step s3
  have s := (s1.trans s2).trans s3
  have g3 := gd.gr.step s
  have q' : (dSl d l h).has (fun d => ∀ (v : V) (B' H' : Hp), Step own F B3 H3 B' H' → Rp X.K B' v d → Q v H') (fun _ => False) := Res.has_calm (calm_sl d l h) q fun d q v B' H' t r => q v B' H' (s.trans t) r
  cases d with
  | lst xs =>
    obtain ⟨p, vs, rfl, hp, rv⟩ := r3.lst g3
    exact .inl ⟨p, vs, rfl, .inl (.inl hp), fun n hn => new_lst g3 (rv.cut l h) q' n hn⟩
  | tup xs =>
    obtain ⟨p, vs, rfl, hp, rv⟩ := r3.tup
    refine .inr (.inl ⟨p, vs, rfl, Ext.seqT g3.same hp, fun e => ?_, fun _ n hn => new_tup g3 (rv.cut l h) q' n hn⟩)
    rw [rv.len] at e
    have q'' : ∀ (v : V) (B' H' : Hp), Step own F B3 H3 B' H' → Rp X.K B' v (.tup (cutL xs l h)) → Q v H' := q'
    rw [cutL_whole e] at q''
    exact q'' _ _ _ (.refl g3) (.tup hp rv)
  | str z =>
    cases r3.str
    simp only [dSl] at q'
    split at q'
    · rename_i hz
      exact .inr (.inr ⟨z, rfl, hz, q' _ _ _ (.refl g3) (.str _)⟩)
    · exact q'.elim
  | _ => exact q'.elim
theorem nj_sl {lo hi : Option Expr} {p2 : Pos} {ga : Rho → Res D} {gl gh : Rho → Res (Option Int)} (ha : BJ X W G a ga) (hl : OJ X W G lo gl) (hh : OJ X W G hi gh) : NJ X W G (.Subscript a (.Slice lo hi none p2) pos) (slV dSlN ga gl gh) := by
  obtain ⟨ta, pa, va⟩ := ha
  obtain ⟨tl, pl, vl⟩ := hl
  obtain ⟨th, ph, vh⟩ := hh
  refine ⟨_, pe_slice sl_list pa pl ph, fun F ρ own B σ H Q gd q => ?_⟩
  refine va F ρ own B σ H _ gd (Res.has_mono (Res.has_bind q) (fun d q v B1 H1 s1 r => ?_) fun _ x => x)
  refine vl F ρ own B1 σ H1 _ (gd.step s1) (Res.has_mono (Res.has_bind q) (fun l q B2 H2 s2 => ?_) fun _ x => x.step s1)
  refine vh F ρ own B2 σ H2 _ ((gd.step s1).step s2) (Res.has_mono (Res.has_bind q) (fun h q B3 H3 s3 => ?_) fun _ x => x.step (s1.trans s2))
  have r3 := (r.step s2).step s3
  have s := (s1.trans s2).trans s3
  have g3 := gd.gr.step s
  cases d with
  | lst xs =>
    obtain ⟨p, vs, rfl, hp, rv⟩ := r3.lst g3
    exact ⟨p, vs, rfl, .inl (.inl hp), fun n hn => new_lstN g3 (rv.cut l h) (fun p vs B' H' t => q p vs B' H' (s.trans t)) n hn⟩
  | _ => exact q.elim

/-! ### arguments, displays -/
def noA : Rho → Res (List D) := fun _ => .ok []
def consA (g : Rho → Res D) (h : Rho → Res (List D)) : Rho → Res (List D) := fun ρ => (g ρ).bind fun d => (h ρ).bind fun ds => .ok (d :: ds)
theorem aj_nil : AJ X W G [] noA := ⟨_, pa_nil, fun F ρ own B σ H Q gd q => q [] B H (.refl gd.gr) .nil⟩
theorem aj_cons {es : List Expr} {g : Rho → Res D} {h : Rho → Res (List D)} (he : EJ X W G e g) (hr : AJ X W G es h) (hs : starEach (e :: es) X.env = (false, eval e X.env) :: starEach es X.env := by rfl) : AJ X W G (e :: es) (consA g h) := by
  obtain ⟨t, p, v⟩ := he
  obtain ⟨u, p', v'⟩ := hr
  refine ⟨_, pa_cons p p' hs, fun F ρ own B σ H Q gd q => ?_⟩
  refine v F ρ own B σ H _ gd (Res.has_mono (Res.has_bind q) (fun d q v B1 H1 s1 r => ?_) fun _ x => x)
  refine v' F ρ own B1 σ H1 _ (gd.step s1) (Res.has_mono (Res.has_bind q) (fun ds q vs B2 H2 s2 rs => ?_) fun _ x => x.step s1)
  exact q _ B2 H2 (s1.trans s2) (.cons (r.mono s2.ext) rs)
theorem baj_nil : BAJ X W G [] noA := ⟨_, pa_nil, fun F ρ own B σ H Q gd q => q [] B H (.refl gd.gr) .nil⟩
theorem baj_cons {es : List Expr} {g : Rho → Res D} {h : Rho → Res (List D)} (he : BJ X W G e g) (hr : BAJ X W G es h) (hs : starEach (e :: es) X.env = (false, eval e X.env) :: starEach es X.env := by rfl) : BAJ X W G (e :: es) (consA g h) := by
  obtain ⟨t, p, v⟩ := he
  obtain ⟨u, p', v'⟩ := hr
  refine ⟨_, pa_cons p p' hs, fun F ρ own B σ H Q gd q => ?_⟩
  refine v F ρ own B σ H _ gd (Res.has_mono (Res.has_bind q) (fun d q v B1 H1 s1 r => ?_) fun _ x => x)
  refine v' F ρ own B1 σ H1 _ (gd.step s1) (Res.has_mono (Res.has_bind q) (fun ds q vs B2 H2 s2 rs => ?_) fun _ x => x.step s1)
  exact q _ B2 H2 (s1.trans s2) (.cons (r.step s2) rs)
def tupV (g : Rho → Res (List D)) : Rho → Res D := fun ρ => (g ρ).bind fun ds => if ds.length ≤ sizeLine then .ok (.tup ds) else .no
def lstV (g : Rho → Res (List D)) : Rho → Res (List D) := fun ρ => (g ρ).bind fun ds => if ds.length ≤ sizeLine then .ok ds else .no
theorem ej_tup {es : List Expr} {x1} {g : Rho → Res (List D)} (h : AJ X W G es g) : EJ X W G (.Tuple es x1 pos) (tupV g) := by
  obtain ⟨t, p, v⟩ := h
  refine ⟨_, pe_tup p, fun F ρ own B σ H Q gd q => ?_⟩
  refine v F ρ own B σ H _ gd (Res.has_mono (Res.has_bind q) (fun ds q vs B' H' s r => ?_) fun _ x => x)
  split at q
  · rename_i hz
    exact ⟨by rw [r.len]; exact hz, fun n hn => new_tup (gd.gr.step s) r (fun v B2 H2 t => q v B2 H2 (s.trans t)) n hn⟩
  · exact q.elim
theorem nj_lst {es : List Expr} {g : Rho → Res (List D)} (h : AJ X W G es g) : NJ X W G (.List es pos) (lstV g) := by
  obtain ⟨t, p, v⟩ := h
  refine ⟨_, pe_lst p, fun F ρ own B σ H Q gd q => ?_⟩
  refine v F ρ own B σ H _ gd (Res.has_mono (Res.has_bind q) (fun ds q vs B' H' s r => ?_) fun _ x => x)
  split at q
  · rename_i hz
    exact ⟨by rw [r.len]; exact hz, fun n hn => new_lstN (gd.gr.step s) r (fun p vs B2 H2 t => q p vs B2 H2 (s.trans t)) n hn⟩
  · exact q.elim

/-! ### calls of built-ins -/
def CallD (X : Cx) (r : List V → Hp → VK → Prop) (f : List D → Res D) : Prop :=
  (∀ ds e, f ds ≠ .ex e) ∧ ∀ (F : Hp) (own : Own) (B H : Hp) (vs : List V) (ds : List D) (Q : VK), Ground F own B H → SnA X.K own B H vs ds →
    (f ds).has (fun d => ∀ (v : V) (B' H' : Hp), Step own F B H B' H' → Rp X.K B' v d → Q v H') (fun _ => False) → r vs H Q
def CallN (X : Cx) (r : List V → Hp → VK → Prop) (f : List D → Res (List D)) : Prop :=
  (∀ ds e, f ds ≠ .ex e) ∧ ∀ (F : Hp) (own : Own) (B H : Hp) (vs : List V) (ds : List D) (Q : VK), Ground F own B H → SnA X.K own B H vs ds →
    (f ds).has (fun d => ∀ (p : Addr) (vs : List V) (B' H' : Hp), Step own F B H B' H' → B' p = none → F p = none → own p = none → H' p = some (.lst vs) → RpA X.K B' vs d → Q (.ref p) H') (fun _ => False) → r vs H Q
def callV {α : Type} (f : List D → Res α) (g : Rho → Res (List D)) : Rho → Res α := fun ρ => (g ρ).bind f
theorem ev_cb {r : List V → Hp → VK → Prop} {f : List D → Res D} {t : TA} {g : Rho → Res (List D)} (hf : CallD X r f) (ha : EvBA X W G t g) : Ev X W G (tCB r t) (callV f g) := fun F ρ own B σ H Q gd q => by
  refine ha F ρ own B σ H _ gd (Res.has_mono (Res.has_bind q) (fun ds q vs B' H' s rs => ?_) fun _ x => x)
  exact hf.2 F own B' H' vs ds Q (gd.gr.step s) rs (Res.has_calm (hf.1 ds) q fun d q v B2 H2 t => q v B2 H2 (s.trans t))
theorem ev_cbN {r : List V → Hp → VK → Prop} {f : List D → Res (List D)} {t : TA} {g : Rho → Res (List D)} (hf : CallN X r f) (ha : EvBA X W G t g) : EvN X W G (tCB r t) (callV f g) := fun F ρ own B σ H Q gd q => by
  refine ha F ρ own B σ H _ gd (Res.has_mono (Res.has_bind q) (fun ds q vs B' H' s rs => ?_) fun _ x => x)
  exact hf.2 F own B' H' vs ds Q (gd.gr.step s) rs (Res.has_calm (hf.1 ds) q fun d q p vs B2 H2 t => q p vs B2 H2 (s.trans t))
variable {x : Str} {p : Pos} {es : List Expr} {id Ty : String}
theorem ej_B {f : List D → Res D} {g : Rho → Res (List D)} (hf : ∃ r, CallR X (.builtin id) r ∧ CallD X r f) (hg : Gl X x) (hm : X.mg x = none) (hv : bootBuiltins x = some (.builtin id)) (ha : BAJ X W G (e :: es) g) (hn : x ≠ "__name__" := by decide) (hdb : (x == ("__debug__" : Str)) = false := by decide)
    (he : starEach (e :: es) X.env = (false, eval e X.env) :: starEach es X.env := by rfl) (hpl : (backTo pos (starEach es X.env)).any (·.1) = false := by rfl) : EJ X W G (.Call (.Name x p) (e :: es) [] pos) (callV f g) := by
  obtain ⟨r, h1, h2⟩ := hf
  obtain ⟨t, pa, va⟩ := ha
  exact ⟨_, pe_callB h1 hg hm hv pa hn hdb he hpl, ev_cb h2 va⟩
theorem nj_B {f : List D → Res (List D)} {g : Rho → Res (List D)} (hf : ∃ r, CallR X (.builtin id) r ∧ CallN X r f) (hg : Gl X x) (hm : X.mg x = none) (hv : bootBuiltins x = some (.builtin id)) (ha : BAJ X W G (e :: es) g) (hn : x ≠ "__name__" := by decide) (hdb : (x == ("__debug__" : Str)) = false := by decide)
    (he : starEach (e :: es) X.env = (false, eval e X.env) :: starEach es X.env := by rfl) (hpl : (backTo pos (starEach es X.env)).any (·.1) = false := by rfl) : NJ X W G (.Call (.Name x p) (e :: es) [] pos) (callV f g) := by
  obtain ⟨r, h1, h2⟩ := hf
  obtain ⟨t, pa, va⟩ := ha
  exact ⟨_, pe_callB h1 hg hm hv pa hn hdb he hpl, ev_cbN h2 va⟩
theorem ej_Ty {f : List D → Res D} {g : Rho → Res (List D)} (hf : ∃ r, CallR X (.type Ty) r ∧ CallD X r f) (hg : Gl X x) (hm : X.mg x = none) (hv : bootBuiltins x = some (.type Ty)) (ha : BAJ X W G (e :: es) g) (hn : x ≠ "__name__" := by decide) (hdb : (x == ("__debug__" : Str)) = false := by decide)
    (he : starEach (e :: es) X.env = (false, eval e X.env) :: starEach es X.env := by rfl) (hpl : (backTo pos (starEach es X.env)).any (·.1) = false := by rfl) : EJ X W G (.Call (.Name x p) (e :: es) [] pos) (callV f g) := by
  obtain ⟨r, h1, h2⟩ := hf
  obtain ⟨t, pa, va⟩ := ha
  exact ⟨_, pe_callTy h1 hg hm hv pa hn hdb he hpl, ev_cb h2 va⟩
theorem nj_Ty {f : List D → Res (List D)} {g : Rho → Res (List D)} (hf : ∃ r, CallR X (.type Ty) r ∧ CallN X r f) (hg : Gl X x) (hm : X.mg x = none) (hv : bootBuiltins x = some (.type Ty)) (ha : BAJ X W G (e :: es) g) (hn : x ≠ "__name__" := by decide) (hdb : (x == ("__debug__" : Str)) = false := by decide)
    (he : starEach (e :: es) X.env = (false, eval e X.env) :: starEach es X.env := by rfl) (hpl : (backTo pos (starEach es X.env)).any (·.1) = false := by rfl) : NJ X W G (.Call (.Name x p) (e :: es) [] pos) (callV f g) := by
  obtain ⟨r, h1, h2⟩ := hf
  obtain ⟨t, pa, va⟩ := ha
  exact ⟨_, pe_callTy h1 hg hm hv pa hn hdb he hpl, ev_cbN h2 va⟩
end
end T

set_option Elab.async false
set_option linter.all false
set_option maxRecDepth 100000
set_option maxHeartbeats 4000000
/-! T-layer, part D: built-in functions and methods, what a loop walks, comprehensions. -/
namespace T
open PySem PySem.Spec PyProof.Rows L2
variable [Mg]

/-! ### data of one kind -/
def D.ints : List D → Option (List Int)
  | [] => some []
  | .int i :: r => (D.ints r).map fun is => i :: is
  | _ :: _ => none
def D.bools : List D → Option (List Bool)
  | [] => some []
  | .bl i :: r => (D.bools r).map fun is => i :: is
  | _ :: _ => none
def D.strs : List D → Option (List Str)
  | [] => some []
  | .str i :: r => (D.strs r).map fun is => i :: is
  | _ :: _ => none
section
variable {K : PySem.W.Frag} {B : Hp}
theorem RpA.ints : ∀ {vs : List V} {ds : List D} {is : List Int}, RpA K B vs ds → D.ints ds = some is → vs = is.map V.int
  | _, [], is, r, e => by
    cases r
    cases e
    rfl
  | _, d :: ds, is, r, e => by
    cases r with
    | cons h r =>
      cases d with
      | int i =>
        simp [D.ints] at e
        obtain ⟨js, e, rfl⟩ := e
        cases h
        rw [RpA.ints r e]
        rfl
      | _ => simp [D.ints] at e
theorem RpA.bools : ∀ {vs : List V} {ds : List D} {is : List Bool}, RpA K B vs ds → D.bools ds = some is → vs = is.map V.bl
  | _, [], is, r, e => by
    cases r
    cases e
    rfl
  | _, d :: ds, is, r, e => by
    cases r with
    | cons h r =>
      cases d with
      | bl i =>
        simp [D.bools] at e
        obtain ⟨js, e, rfl⟩ := e
        cases h
        rw [RpA.bools r e]
        rfl
      | _ => simp [D.bools] at e
theorem RpA.strs : ∀ {vs : List V} {ds : List D} {is : List Str}, RpA K B vs ds → D.strs ds = some is → vs = is.map V.str
  | _, [], is, r, e => by
    cases r
    cases e
    rfl
  | _, d :: ds, is, r, e => by
    cases r with
    | cons h r =>
      cases d with
      | str i =>
        simp [D.strs] at e
        obtain ⟨js, e, rfl⟩ := e
        cases h
        rw [RpA.strs r e]
        rfl
      | _ => simp [D.strs] at e
theorem RpA.of_strs : ∀ ys : List Str, RpA K B (ys.map V.str) (ys.map D.str)
  | [] => .nil
  | y :: ys => .cons (.str y) (RpA.of_strs ys)
end
section
variable {K : PySem.W.Frag} {own : Own} {B H : Hp}
theorem SnA.one {vs : List V} {d : D} (h : SnA K own B H vs [d]) : ∃ v, vs = [v] ∧ Sn K own B H v d := by
  cases h with
  | cons h r =>
    cases r
    exact ⟨_, rfl, h⟩
theorem SnA.two {vs : List V} {d e : D} (h : SnA K own B H vs [d, e]) : ∃ v w, vs = [v, w] ∧ Sn K own B H v d ∧ Sn K own B H w e := by
  cases h with
  | cons h r =>
    cases r with
    | cons h' r =>
      cases r
      exact ⟨_, _, rfl, h, h'⟩
end

/-! ### functions -/
def dLen : List D → Res D
  | [.lst xs] => .ok (.int xs.length)
  | [.tup xs] => .ok (.int xs.length)
  | [.scr xs] => .ok (.int xs.length)
  | [.str y] => if y.length ≤ sizeLine then .ok (.int y.length) else .no
  | _ => .no
def dList : List D → Res (List D)
  | [.lst xs] => .ok xs
  | [.tup xs] => .ok xs
  | [.scr xs] => .ok xs
  | _ => .no
def dTuple : List D → Res D
  | [.lst xs] => .ok (.tup xs)
  | [.tup xs] => .ok (.tup xs)
  | _ => .no
def dInt : List D → Res D
  | [.int i] => .ok (.int i)
  | [.bl b] => .ok (.int (if b then 1 else 0))
  | [.str s] => match PySem.intText? s with
    | some n => if s.length ≤ 640 then .ok (.int n) else .no
    | none => .no
  | _ => .no
def dStrI : List D → Res D
  | [.int i] => if i.natAbs.log2 < 1920 then .ok (.str (toString i)) else .no
  | _ => .no
def dOrd : List D → Res D
  | [.str x] => if x.length = 1 then .ok (.int (x.cps.getD 0 0 : Nat)) else .no
  | _ => .no
def dMax2 : List D → Res D
  | [.int i, .int j] => .ok (.int (if j > i then j else i))
  | _ => .no
def dMin2 : List D → Res D
  | [.int i, .int j] => .ok (.int (if j < i then j else i))
  | _ => .no
def dAll : List D → Res D
  | [.lst xs] => match D.bools xs with
    | some bs => .ok (.bl (bs.all id))
    | none => .no
  | _ => .no
def dAny : List D → Res D
  | [.lst xs] => match D.bools xs with
    | some bs => .ok (.bl (bs.any id))
    | none => .no
  | _ => .no
def dSum : List D → Res D
  | [.lst xs] => match D.ints xs with
    | some bs => .ok (.int bs.sum)
    | none => .no
  | _ => .no
def D.tyN : D → Option String
  | .non => some "NoneType"
  | .bl _ => some "bool"
  | .int _ => some "int"
  | .str _ => some "str"
  | .lst _ => some "list"
  | .scr _ => some "list"
  | .tup _ => some "tuple"
  | _ => none
def dIsi : List D → Res D
  | [x, .ty n] => match x.tyN.bind fun a => kitB a n with
    | some r => .ok (.bl r)
    | none => .no
  | _ => .no
section
variable {X : Cx}
theorem fn_len : ∃ r, CallR X (.builtin "len") r ∧ CallD X r dLen := by
  refine ⟨_, call_len, fun ds e h => ?_, fun F own B H vs ds Q g hx q => ?_⟩
  · unfold dLen at h
    split at h <;> (try split at h) <;> cases h
  · unfold dLen at q
    split at q
    · obtain ⟨v, rfl, hv⟩ := hx.one
      obtain ⟨l, vs, rfl, hl, rv⟩ := hv.lst g
      refine ⟨_, vs.length, rfl, .inl ⟨vs, .inl (.inl hl), rfl⟩, ?_⟩
      rw [rv.len]
      exact q _ _ _ (.refl g) (.int _)
    · obtain ⟨v, rfl, hv⟩ := hx.one
      obtain ⟨l, vs, rfl, hl, rv⟩ := hv.tup
      refine ⟨_, vs.length, rfl, .inr ⟨vs, Ext.seqT g.same hl, rfl⟩, ?_⟩
      rw [rv.len]
      exact q _ _ _ (.refl g) (.int _)
    · obtain ⟨v, rfl, hv⟩ := hx.one
      obtain ⟨l, vs, rfl, hl, rv⟩ := hv.scr
      refine ⟨_, vs.length, rfl, .inl ⟨vs, Same.seq g.same hl, rfl⟩, ?_⟩
      rw [rv.len]
      exact q _ _ _ (.refl g) (.int _)
    · obtain ⟨v, rfl, hv⟩ := hx.one
      cases hv.str
      split at q
      · rename_i hz
        exact ⟨_, _, rfl, ⟨hz, rfl⟩, q _ _ _ (.refl g) (.int _)⟩
      · exact q.elim
    · exact q.elim
theorem fn_list : ∃ r, CallR X (.type "list") r ∧ CallN X r dList := by
  refine ⟨_, call_list_of, fun ds e h => ?_, fun F own B H vs ds Q g hx q => ?_⟩
  · unfold dList at h
    split at h <;> cases h
  · unfold dList at q
    split at q
    · obtain ⟨v, rfl, hv⟩ := hx.one
      obtain ⟨l, vs, rfl, hl, rv⟩ := hv.lst g
      exact ⟨l, vs, rfl, .inl (.inl (.inl hl)), fun n hn => new_lstN g rv q n hn⟩
    · obtain ⟨v, rfl, hv⟩ := hx.one
      obtain ⟨l, vs, rfl, hl, rv⟩ := hv.tup
      exact ⟨l, vs, rfl, .inr (Ext.seqT g.same hl), fun n hn => new_lstN g rv q n hn⟩
    · obtain ⟨v, rfl, hv⟩ := hx.one
      obtain ⟨l, vs, rfl, hl, rv⟩ := hv.scr
      exact ⟨l, vs, rfl, .inl (Same.seq g.same hl), fun n hn => new_lstN g rv q n hn⟩
    · exact q.elim
theorem fn_tuple : ∃ r, CallR X (.type "tuple") r ∧ CallD X r dTuple := by
  refine ⟨_, call_tuple_of, fun ds e h => ?_, fun F own B H vs ds Q g hx q => ?_⟩
  · unfold dTuple at h
    split at h <;> cases h
  · unfold dTuple at q
    split at q
    · obtain ⟨v, rfl, hv⟩ := hx.one
      obtain ⟨l, vs, rfl, hl, rv⟩ := hv.lst g
      exact ⟨l, vs, rfl, .inl ⟨.inl (.inl hl), fun n hn => new_tup g rv q n hn⟩⟩
    · obtain ⟨v, rfl, hv⟩ := hx.one
      obtain ⟨l, vs, rfl, hl, rv⟩ := hv.tup
      exact ⟨l, vs, rfl, .inr ⟨Ext.seqT g.same hl, q _ _ _ (.refl g) (.tup hl rv)⟩⟩
    · exact q.elim
omit [Mg] in
theorem call_or {f : Value} {r r' : List V → Hp → VK → Prop} (h : CallR X f r) (h' : CallR X f r') : CallR X f (fun xs H Q => r xs H Q ∨ r' xs H Q) := by
  intro pins s σ H xs us Q I rr q
  rcases q with q | q
  · exact h pins s σ H xs us Q I rr q
  · exact h' pins s σ H xs us Q I rr q
theorem fn_int : ∃ r, CallR X (.type "int") r ∧ CallD X r dInt := by
  refine ⟨_, call_or call_int1 call_int_str, fun ds e h => ?_, fun F own B H vs ds Q g hx q => ?_⟩
  · unfold dInt at h
    split at h
    · cases h
    · cases h
    · split at h
      · split at h <;> cases h
      · cases h
    · cases h
  · unfold dInt at q
    split at q
    · obtain ⟨v, rfl, hv⟩ := hx.one
      cases hv.int
      exact .inl (.inl ⟨_, rfl, q _ _ _ (.refl g) (.int _)⟩)
    · obtain ⟨v, rfl, hv⟩ := hx.one
      cases hv.bl
      exact .inl (.inr ⟨_, rfl, q _ _ _ (.refl g) (.int _)⟩)
    · obtain ⟨v, rfl, hv⟩ := hx.one
      split at q
      · rename_i n hn
        split at q
        · rename_i hz
          cases hv.frz rfl
          exact .inr ⟨_, n, rfl, hn, hz, q _ _ _ (.refl g) (.int _)⟩
        · exact q.elim
      · exact q.elim
    · exact q.elim
theorem fn_strI : ∃ r, CallR X (.type "str") r ∧ CallD X r dStrI := by
  refine ⟨_, call_str_int, fun ds e h => ?_, fun F own B H vs ds Q g hx q => ?_⟩
  · unfold dStrI at h
    split at h <;> (try split at h) <;> cases h
  · unfold dStrI at q
    split at q
    · obtain ⟨v, rfl, hv⟩ := hx.one
      cases hv.int
      split at q
      · rename_i hz
        exact ⟨_, rfl, hz, q _ _ _ (.refl g) (.str _)⟩
      · exact q.elim
    · exact q.elim
theorem fn_ord : ∃ r, CallR X (.builtin "ord") r ∧ CallD X r dOrd := by
  refine ⟨_, call_ord, fun ds e h => ?_, fun F own B H vs ds Q g hx q => ?_⟩
  · unfold dOrd at h
    split at h <;> (try split at h) <;> cases h
  · unfold dOrd at q
    split at q
    · obtain ⟨v, rfl, hv⟩ := hx.one
      cases hv.str
      split at q
      · rename_i hz
        exact ⟨_, rfl, hz, q _ _ _ (.refl g) (.int _)⟩
      · exact q.elim
    · exact q.elim
theorem fn_max2 (hc : X.calm = true) : ∃ r, CallR X (.builtin "max") r ∧ CallD X r dMax2 := by
  refine ⟨_, call_max2 hc, fun ds e h => ?_, fun F own B H vs ds Q g hx q => ?_⟩
  · unfold dMax2 at h
    split at h <;> cases h
  · unfold dMax2 at q
    split at q
    · obtain ⟨v, w, rfl, hv, hw⟩ := hx.two
      cases hv.int
      cases hw.int
      exact ⟨_, _, rfl, q _ _ _ (.refl g) (.int _)⟩
    · exact q.elim
theorem fn_min2 (hc : X.calm = true) : ∃ r, CallR X (.builtin "min") r ∧ CallD X r dMin2 := by
  refine ⟨_, call_min2 hc, fun ds e h => ?_, fun F own B H vs ds Q g hx q => ?_⟩
  · unfold dMin2 at h
    split at h <;> cases h
  · unfold dMin2 at q
    split at q
    · obtain ⟨v, w, rfl, hv, hw⟩ := hx.two
      cases hv.int
      cases hw.int
      exact ⟨_, _, rfl, q _ _ _ (.refl g) (.int _)⟩
    · exact q.elim
theorem fn_all (hc : X.calm = true) : ∃ r, CallR X (.builtin "all") r ∧ CallD X r dAll := by
  refine ⟨_, cr_all hc, fun ds e h => ?_, fun F own B H vs ds Q g hx q => ?_⟩
  · unfold dAll at h
    split at h <;> (try split at h) <;> cases h
  · unfold dAll at q
    split at q
    · obtain ⟨v, rfl, hv⟩ := hx.one
      obtain ⟨l, vs, rfl, hl, rv⟩ := hv.lst g
      split at q
      · rename_i bs hb
        have e := rv.bools hb
        subst e
        exact ⟨l, bs, rfl, .inl (.inl hl), q _ _ _ (.refl g) (.bl _)⟩
      · exact q.elim
    · exact q.elim
theorem fn_any (hc : X.calm = true) : ∃ r, CallR X (.builtin "any") r ∧ CallD X r dAny := by
  refine ⟨_, cr_any hc, fun ds e h => ?_, fun F own B H vs ds Q g hx q => ?_⟩
  · unfold dAny at h
    split at h <;> (try split at h) <;> cases h
  · unfold dAny at q
    split at q
    · obtain ⟨v, rfl, hv⟩ := hx.one
      obtain ⟨l, vs, rfl, hl, rv⟩ := hv.lst g
      split at q
      · rename_i bs hb
        have e := rv.bools hb
        subst e
        exact ⟨l, bs, rfl, .inl (.inl hl), q _ _ _ (.refl g) (.bl _)⟩
      · exact q.elim
    · exact q.elim
theorem fn_sum (hc : X.calm = true) : ∃ r, CallR X (.builtin "sum") r ∧ CallD X r dSum := by
  refine ⟨_, cr_sum hc, fun ds e h => ?_, fun F own B H vs ds Q g hx q => ?_⟩
  · unfold dSum at h
    split at h <;> (try split at h) <;> cases h
  · unfold dSum at q
    split at q
    · obtain ⟨v, rfl, hv⟩ := hx.one
      obtain ⟨l, vs, rfl, hl, rv⟩ := hv.lst g
      split at q
      · rename_i bs hb
        have e := rv.ints hb
        subst e
        exact ⟨l, bs, rfl, .inl (.inl hl), q _ _ _ (.refl g) (.int _)⟩
      · exact q.elim
    · exact q.elim
omit [Mg] in
theorem SqT.tyx {K : PySem.W.Frag} {H : Hp} {a : Addr} {xs : List V} (h : SqT K H a xs) : TyX K H (.ref a) (.type "tuple") := by
  rcases h with (h | ⟨o, h⟩) | ⟨o, _, _, h1, h2, _⟩
  · exact .base (.tup h)
  · exact .fTuple h
  · exact .kTuple h1 h2
omit [Mg] in
theorem SqL.tyx {K : PySem.W.Frag} {H : Hp} {a : Addr} {xs : List V} (h : SqL K H a xs) : TyX K H (.ref a) (.type "list") := by
  rcases h with (h | ⟨o, h⟩) | ⟨o, _, _, h1, h2, _⟩
  · exact .base (.lst h)
  · exact .base (.frz h)
  · exact .kList h1 h2
theorem Sn.tyx {K : PySem.W.Frag} {F : Hp} {own : Own} {B H : Hp} {v : V} {d : D} {n : String} (h : Sn K own B H v d) (g : Ground F own B H) (e : d.tyN = some n) : TyX K H v (.type n) := by
  cases d with
  | non =>
    cases h.non
    cases e
    exact .base .non
  | bl b =>
    cases h.bl
    cases e
    exact .base (.bl _)
  | int b =>
    cases h.int
    cases e
    exact .base (.int _)
  | str b =>
    cases h.str
    cases e
    exact .base (.str _)
  | lst xs =>
    obtain ⟨l, vs, rfl, hl, rv⟩ := h.lst g
    cases e
    exact .base (.lst hl)
  | scr xs =>
    obtain ⟨l, vs, rfl, hl, rv⟩ := h.scr
    cases e
    exact SqL.tyx (Same.seq g.same hl)
  | tup xs =>
    obtain ⟨l, vs, rfl, hl, rv⟩ := h.tup
    cases e
    exact SqT.tyx (Ext.seqT g.same hl)
  | _ => cases e
theorem fn_isi : ∃ r, CallR X (.builtin "isinstance") r ∧ CallD X r dIsi := by
  refine ⟨_, call_isi, fun ds e h => ?_, fun F own B H vs ds Q g hx q => ?_⟩
  · unfold dIsi at h
    split at h <;> (try split at h) <;> cases h
  · unfold dIsi at q
    split at q
    · obtain ⟨v, w, rfl, hv, hw⟩ := hx.two
      cases hw.ty
      split at q
      · rename_i r hr
        obtain ⟨a, h1, h2⟩ := Option.bind_eq_some_iff.mp hr
        exact ⟨_, _, _, _, r, rfl, .ty _, hv.tyx g h1, kit_ty h2, q _ _ _ (.refl g) (.bl _)⟩
      · exact q.elim
    · exact q.elim
end
/-- a built-in class as a value -/
theorem ej_ty {X : Cx} {W : WX} {G : List Mode} {x : Str} {n : String} {pos : Pos} (hg : Gl X x) (hm : X.mg x = none) (hv : bootBuiltins x = some (.type n)) (hn : x ≠ "__name__" := by decide) (hd : (x == ("__debug__" : Str)) = false := by decide) : EJ X W G (.Name x pos) (conD (.ty n)) :=
  ⟨_, pe_bltn (v := .ty n) hg hm hv rfl hn hd, ev_c fun _ _ => .ty n⟩
/-- a constant of the module -/
theorem ej_glob {X : Cx} {W : WX} {G : List Mode} {x : Str} {v : V} {u : Value} {d : D} {pos : Pos} (hg : Gl X x) (hm : X.mg x = some u) (r : RelV v u) (h : ∀ B, Rp X.K B v d) (hd : (x == ("__debug__" : Str)) = false := by decide) : EJ X W G (.Name x pos) (conD d) :=
  ⟨_, pe_glob hg hm r hd, fun F ρ own B σ H Q gd q => q v B H (.refl gd.gr) (h B)⟩

/-! ### methods of built-in types -/
def D.isTy : String → D → Bool
  | "str", .str _ => true
  | "list", .lst _ => true
  | _, _ => false
def MethD (X : Cx) (r : V → List V → Hp → VK → Prop) (f : D → List D → Res D) : Prop :=
  (∀ d ds e, f d ds ≠ .ex e) ∧ ∀ (F : Hp) (own : Own) (B H : Hp) (v : V) (d : D) (vs : List V) (ds : List D) (Q : VK), Ground F own B H → Sn X.K own B H v d → SnA X.K own B H vs ds →
    (f d ds).has (fun d => ∀ (v : V) (B' H' : Hp), Step own F B H B' H' → Rp X.K B' v d → Q v H') (fun _ => False) → r v vs H Q
def MethN (X : Cx) (r : V → List V → Hp → VK → Prop) (f : D → List D → Res (List D)) : Prop :=
  (∀ d ds e, f d ds ≠ .ex e) ∧ ∀ (F : Hp) (own : Own) (B H : Hp) (v : V) (d : D) (vs : List V) (ds : List D) (Q : VK), Ground F own B H → Sn X.K own B H v d → SnA X.K own B H vs ds →
    (f d ds).has (fun d => ∀ (p : Addr) (vs : List V) (B' H' : Hp), Step own F B H B' H' → B' p = none → F p = none → own p = none → H' p = some (.lst vs) → RpA X.K B' vs d → Q (.ref p) H') (fun _ => False) → r v vs H Q
def methV {α : Type} (n : String) (f : D → List D → Res α) (go : Rho → Res D) (g : Rho → Res (List D)) : Rho → Res α := fun ρ => (go ρ).bind fun d => if d.isTy n = true then (g ρ).bind fun ds => f d ds else .no
theorem isTy_tyV {K : PySem.W.Frag} {F : Hp} {own : Own} {B H : Hp} {v : V} {d : D} {n : String} (h : Sn K own B H v d) (g : Ground F own B H) (e : d.isTy n = true) : tyV K n v H := by
  unfold D.isTy at e
  split at e
  · cases h.str
    rfl
  · obtain ⟨l, vs, rfl, hl, rv⟩ := h.lst g
    exact .inl ⟨rfl, vs, .inl (.inl hl)⟩
  · cases e
section
variable {X : Cx} {W : WX} {G : List Mode} {e o : Expr} {es : List Expr} {name : Str} {apos cpos : Pos} {n id : String}
theorem ej_M {f : D → List D → Res D} {go : Rho → Res D} {g : Rho → Res (List D)} (pa : PlainAttrs n) (slot : Slot n name id) (hty : typeOf (.builtin id) = pure (.type "method_descriptor")) (hm : ∃ r, MtR X id r ∧ MethD X r f) (ho : BJ X W G o go) (ha : BAJ X W G (e :: es) g)
    (hbase : attributeBase o name X.env (eval o X.env) = eval o X.env := by rfl)
    (hfew : ((backTo cpos (starEach (e :: es) X.env)).all (fun x => !x.1) && (backToKw cpos (keywordEach [] X.env)).all (fun x => x.1.isSome)
      && decide ((e :: es).length + ([] : List Keyword).length + (if ([] : List Keyword).isEmpty then 0 else 1) < 30)) = true := by rfl)
    (hline : (apos.endLine == cpos.line) = true := by rfl) (hs : starEach (e :: es) X.env = (false, eval e X.env) :: starEach es X.env := by rfl) (hplain : (backTo cpos (starEach es X.env)).any (·.1) = false := by rfl) :
    EJ X W G (.Call (.Attribute o name apos) (e :: es) [] cpos) (methV n f go g) := by
  obtain ⟨r, h1, h2⟩ := hm
  obtain ⟨to, po, vo⟩ := ho
  obtain ⟨ta, pa', va⟩ := ha
  refine ⟨_, pe_bm pa slot hty h1 po pa' hbase hfew hline hs hplain, fun F ρ own B σ H Q gd q => ?_⟩
  refine vo F ρ own B σ H _ gd (Res.has_mono (Res.has_bind q) (fun d q v B1 H1 s1 r1 => ?_) fun _ x => x)
  split at q
  · rename_i hty
    refine ⟨isTy_tyV r1 (gd.gr.step s1) hty, ?_⟩
    refine va F ρ own B1 σ H1 _ (gd.step s1) (Res.has_mono (Res.has_bind q) (fun ds q vs B2 H2 s2 r2 => ?_) fun _ x => x.step s1)
    exact h2.2 F own B2 H2 v d vs ds Q ((gd.gr.step s1).step s2) (r1.step s2) r2 (Res.has_calm (h2.1 d ds) q fun d q v B3 H3 s3 => q v B3 H3 ((s1.trans s2).trans s3))
  · exact q.elim
theorem nj_M {f : D → List D → Res (List D)} {go : Rho → Res D} {g : Rho → Res (List D)} (pa : PlainAttrs n) (slot : Slot n name id) (hty : typeOf (.builtin id) = pure (.type "method_descriptor")) (hm : ∃ r, MtR X id r ∧ MethN X r f) (ho : BJ X W G o go) (ha : BAJ X W G (e :: es) g)
    (hbase : attributeBase o name X.env (eval o X.env) = eval o X.env := by rfl)
    (hfew : ((backTo cpos (starEach (e :: es) X.env)).all (fun x => !x.1) && (backToKw cpos (keywordEach [] X.env)).all (fun x => x.1.isSome)
      && decide ((e :: es).length + ([] : List Keyword).length + (if ([] : List Keyword).isEmpty then 0 else 1) < 30)) = true := by rfl)
    (hline : (apos.endLine == cpos.line) = true := by rfl) (hs : starEach (e :: es) X.env = (false, eval e X.env) :: starEach es X.env := by rfl) (hplain : (backTo cpos (starEach es X.env)).any (·.1) = false := by rfl) :
    NJ X W G (.Call (.Attribute o name apos) (e :: es) [] cpos) (methV n f go g) := by
  obtain ⟨r, h1, h2⟩ := hm
  obtain ⟨to, po, vo⟩ := ho
  obtain ⟨ta, pa', va⟩ := ha
  refine ⟨_, pe_bm pa slot hty h1 po pa' hbase hfew hline hs hplain, fun F ρ own B σ H Q gd q => ?_⟩
  refine vo F ρ own B σ H _ gd (Res.has_mono (Res.has_bind q) (fun d q v B1 H1 s1 r1 => ?_) fun _ x => x)
  split at q
  · rename_i hty
    refine ⟨isTy_tyV r1 (gd.gr.step s1) hty, ?_⟩
    refine va F ρ own B1 σ H1 _ (gd.step s1) (Res.has_mono (Res.has_bind q) (fun ds q vs B2 H2 s2 r2 => ?_) fun _ x => x.step s1)
    exact h2.2 F own B2 H2 v d vs ds Q ((gd.gr.step s1).step s2) (r1.step s2) r2 (Res.has_calm (h2.1 d ds) q fun d q p vs B3 H3 s3 => q p vs B3 H3 ((s1.trans s2).trans s3))
  · exact q.elim
end
def dJoin : D → List D → Res D
  | .str a, [.lst xs] => match D.strs xs with
    | some ys => if (ys.map (·.length)).sum + ys.length * a.length ≤ 16777216 then .ok (.str (Txt.join a ys)) else .no
    | none => .no
  | _, _ => .no
def dSplit : D → List D → Res (List D)
  | .str a, [.str b] => if (b.length == 0) = false ∧ a.length + 2 ≤ sizeLine then .ok ((Txt.split a b).map D.str) else .no
  | _, _ => .no
def dIndexS : D → List D → Res D
  | .str a, [.str b] => match Builtin.Str.occurrences a b 0 a.length 1 with
    | i :: _ => .ok (.int (i : Nat))
    | [] => .no
  | _, _ => .no
def dStarts : D → List D → Res D
  | .str a, [.str b] => .ok (.bl (Txt.startswith a b))
  | _, _ => .no
section
variable {X : Cx}
theorem mth_join : ∃ r, MtR X "str.join" r ∧ MethD X r dJoin := by
  refine ⟨_, mt_join, fun d ds e h => ?_, fun F own B H v d vs ds Q g hv hx q => ?_⟩
  · unfold dJoin at h
    split at h <;> (try split at h) <;> (try split at h) <;> cases h
  · unfold dJoin at q
    split at q
    · cases hv.str
      obtain ⟨v, rfl, hv⟩ := hx.one
      obtain ⟨l, vs, rfl, hl, rv⟩ := hv.lst g
      split at q
      · rename_i ys hy
        split at q
        · rename_i hz
          have e := rv.strs hy
          subst e
          exact ⟨_, l, ys, rfl, rfl, .inl (.inl (.inl hl)), hz, q _ _ _ (.refl g) (.str _)⟩
        · exact q.elim
      · exact q.elim
    · exact q.elim
theorem mth_split : ∃ r, MtR X "str.split" r ∧ MethN X r dSplit := by
  refine ⟨_, mt_split, fun d ds e h => ?_, fun F own B H v d vs ds Q g hv hx q => ?_⟩
  · unfold dSplit at h
    split at h <;> (try split at h) <;> cases h
  · unfold dSplit at q
    split at q
    · cases hv.str
      obtain ⟨v, rfl, hv⟩ := hx.one
      cases hv.str
      split at q
      · rename_i hz
        exact ⟨_, _, rfl, rfl, hz.1, hz.2, fun n hn => new_lstN g (RpA.of_strs _) q n hn⟩
      · exact q.elim
    · exact q.elim
theorem mth_indexS : ∃ r, MtR X "str.index" r ∧ MethD X r dIndexS := by
  refine ⟨_, mt_sindex, fun d ds e h => ?_, fun F own B H v d vs ds Q g hv hx q => ?_⟩
  · unfold dIndexS at h
    split at h <;> (try split at h) <;> cases h
  · unfold dIndexS at q
    split at q
    · cases hv.str
      obtain ⟨v, rfl, hv⟩ := hx.one
      cases hv.str
      split at q
      · rename_i i r hi
        exact ⟨_, _, i, r, rfl, rfl, hi, q _ _ _ (.refl g) (.int _)⟩
      · exact q.elim
    · exact q.elim
theorem mth_starts : ∃ r, MtR X "str.startswith" r ∧ MethD X r dStarts := by
  refine ⟨_, mt_startswith, fun d ds e h => ?_, fun F own B H v d vs ds Q g hv hx q => ?_⟩
  · unfold dStarts at h
    split at h <;> cases h
  · unfold dStarts at q
    split at q
    · cases hv.str
      obtain ⟨v, rfl, hv⟩ := hx.one
      cases hv.str
      exact ⟨_, _, rfl, rfl, q _ _ _ (.refl g) (.bl _)⟩
    · exact q.elim
end

/-! ### what a loop walks: frozen items -/
def IterF (K : PySem.W.Frag) (F : Hp) (J : It) (items : List D) (B0 : Hp) : Prop :=
  ∀ (own : Own) (B H : Hp), Ext B0 B → Ground F own B H → ∀ i, (i = items.length → J.stop i H) ∧ (∀ d, items[i]? = some d → J.go i H ∧ ∀ x H', J.yld i H x H' → ∃ B', Step own F B H B' H' ∧ Rp K B' x d)
/-- .. while what is owned stays -/
def IterB (K : PySem.W.Frag) (F : Hp) (J : It) (items : List D) (own0 : Own) (B0 H0 : Hp) : Prop :=
  ∀ (own : Own) (B H : Hp), Ext B0 B → (∀ a, own0 a ≠ none → own a ≠ none ∧ H a = H0 a) → Ground F own B H → ∀ i, (i = items.length → J.stop i H) ∧ (∀ d, items[i]? = some d → J.go i H ∧ ∀ x H', J.yld i H x H' → ∃ B', Step own F B H B' H' ∧ Rp K B' x d)
theorem IterF.b {K : PySem.W.Frag} {F : Hp} {J : It} {items : List D} {own0 : Own} {B0 H0 : Hp} (h : IterF K F J items B0) : IterB K F J items own0 B0 H0 := fun own B H e _ g => h own B H e g
def EvI (X : Cx) (W : WX) (G : List Mode) (wi : TI) (g : Rho → Res (List D)) : Prop :=
  ∀ (F : Hp) (ρ : Rho) (own : Own) (B : Hp) (σ : L2.St) (H : Hp) (R : It → Hp → Prop), Good X.K F G ρ own B σ H →
    (g ρ).has (fun items => ∀ (J : It) (B' H' : Hp), Step own F B H B' H' → IterF X.K F J items B' → R J H') (WOk X.K X.mg W own F B H σ) → wi σ H R
def EvIB (X : Cx) (W : WX) (G : List Mode) (wi : TI) (g : Rho → Res (List D)) : Prop :=
  ∀ (F : Hp) (ρ : Rho) (own : Own) (B : Hp) (σ : L2.St) (H : Hp) (R : It → Hp → Prop), Good X.K F G ρ own B σ H →
    (g ρ).has (fun items => ∀ (J : It) (B' H' : Hp), Step own F B H B' H' → IterB X.K F J items own B' H' → R J H') (WOk X.K X.mg W own F B H σ) → wi σ H R
def IJ (X : Cx) (W : WX) (G : List Mode) (tg e : Expr) (g : Rho → Res (List D)) : Prop := ∃ wi, PI X tg e wi ∧ EvI X W G wi g
def IBJ (X : Cx) (W : WX) (G : List Mode) (tg e : Expr) (g : Rho → Res (List D)) : Prop := ∃ wi, PI X tg e wi ∧ EvIB X W G wi g
theorem IJ.b {X : Cx} {W : WX} {G : List Mode} {tg e : Expr} {g : Rho → Res (List D)} (h : IJ X W G tg e g) : IBJ X W G tg e g :=
  let ⟨wi, p, v⟩ := h; ⟨wi, p, fun F ρ own B σ H R gd q => v F ρ own B σ H R gd (Res.has_mono q (fun _ q J B' H' s i => q J B' H' s i.b) fun _ x => x)⟩
omit [Mg] in
theorem pi_or2 {X : Cx} {tg e : Expr} {t t' : TI} (h : PI X tg e t) (h' : PI X tg e t') : PI X tg e (fun σ H Q => t σ H Q ∨ t' σ H Q) := ⟨fun pins s σ H Q I q => by
  rcases q with q | q
  · exact h.run pins s σ H Q I q
  · exact h'.run pins s σ H Q I q⟩
def dItems : D → Res (List D)
  | .lst xs => .ok xs
  | .tup xs => .ok xs
  | .scr xs => .ok xs
  | .str z => .ok (z.cps.toList.map fun c => .str ⟨#[c]⟩)
  | _ => .no
theorem iter_lst {K : PySem.W.Frag} {F : Hp} {a : Addr} {vs : List V} {ds : List D} {own0 : Own} {B0 H0 : Hp} (g0 : Ground F own0 B0 H0) (hl : H0 a = some (.lst vs)) (hb : B0 a = some (.lst vs) ∨ own0 a ≠ none) (r : RpA K B0 vs ds) : IterB K F (Itl K a) ds own0 B0 H0 := fun own B H e o g i => by
  have hH : H a = some (.lst vs) := by
    rcases hb with hb | hb
    · exact (g.base a _ (e a _ hb)).1
    · rw [(o a hb).2]
      exact hl
  have sq : SqL K H a vs := .inl (.inl hH)
  refine ⟨fun h => ⟨vs, sq, by rw [r.len]; omega⟩, fun d hd => ?_⟩
  obtain ⟨v, h1, h2⟩ := r.get hd
  refine ⟨⟨vs, v, sq, h1⟩, fun x H' y => ?_⟩
  obtain ⟨rfl, y⟩ := y
  have ev := y vs sq
  rw [h1] at ev
  cases ev
  exact ⟨B, .refl g, h2.mono e⟩
theorem iter_scr {K : PySem.W.Frag} {F : Hp} {a : Addr} {vs : List V} {ds : List D} {B0 : Hp} (sq0 : SqL K B0 a vs) (r : RpA K B0 vs ds) : IterF K F (Itl K a) ds B0 := fun own B H e g i => by
  have sq : SqL K H a vs := Same.seq (Same.trans e g.same) sq0
  refine ⟨fun h => ⟨vs, sq, by rw [r.len]; omega⟩, fun d hd => ?_⟩
  obtain ⟨v, h1, h2⟩ := r.get hd
  refine ⟨⟨vs, v, sq, h1⟩, fun x H' y => ?_⟩
  obtain ⟨rfl, y⟩ := y
  have ev := y vs sq
  rw [h1] at ev
  cases ev
  exact ⟨B, .refl g, h2.mono e⟩
theorem iter_tup {K : PySem.W.Frag} {F : Hp} {a : Addr} {vs : List V} {ds : List D} {B0 : Hp} (sq0 : SqT K B0 a vs) (r : RpA K B0 vs ds) : IterF K F (Itt K a) ds B0 := fun own B H e g i => by
  have sq : SqT K H a vs := Ext.seqT (Same.trans e g.same) sq0
  refine ⟨fun h => ⟨vs, sq, by rw [r.len]; omega⟩, fun d hd => ?_⟩
  obtain ⟨v, h1, h2⟩ := r.get hd
  refine ⟨⟨vs, v, sq, h1⟩, fun x H' y => ?_⟩
  obtain ⟨rfl, y⟩ := y
  have ev := y vs sq
  rw [h1] at ev
  cases ev
  exact ⟨B, .refl g, h2.mono e⟩
theorem iter_str {K : PySem.W.Frag} {F : Hp} {z : Str} {B0 : Hp} : IterF K F (Its z) (z.cps.toList.map fun c => .str ⟨#[c]⟩) B0 := fun own B H e g i => by
  refine ⟨fun h => ?_, fun d hd => ?_⟩
  · show z.cps.size ≤ i
    rw [h]
    simp
  · simp only [List.getElem?_map, Option.map_eq_some_iff] at hd
    obtain ⟨c, h1, rfl⟩ := hd
    have h1' : z.cps[i]? = some c := by
      rw [← Array.getElem?_toList]
      exact h1
    refine ⟨?_, fun x H' y => ?_⟩
    · show i < z.cps.size
      exact (Array.getElem?_eq_some_iff.mp h1').1
    · obtain ⟨rfl, c', h2, rfl⟩ := y
      rw [h1'] at h2
      cases h2
      exact ⟨B, .refl g, .str _⟩
section
variable {X : Cx} {W : WX} {G : List Mode} {tg e a b c : Expr} {p pos : Pos}
theorem ij_seq {g : Rho → Res D} (h : EJ X W G e g) : IJ X W G tg e (fun ρ => (g ρ).bind dItems) := by
  obtain ⟨t, pe, ve⟩ := h
  refine ⟨_, pi_or2 (pi_list pe) (pi_or2 (pi_tup pe) (pi_str pe)), fun F ρ own B σ H R gd q => ?_⟩
  have q0 := Res.has_bind q
  cases hg : g ρ with
  | no =>
    rw [hg] at q0
    exact q0.elim
  | ex x =>
    rw [hg] at q0
    refine .inl (ve F ρ own B σ H _ gd ?_)
    rw [hg]
    exact q0
  | ok d =>
    rw [hg] at q0
    have q1 : (dItems d).has _ _ := q0
    cases d with
    | lst xs =>
      refine .inl (ve F ρ own B σ H _ gd ?_)
      rw [hg]
      intro v B' H' s r
      cases r with
      | lst hl rv => exact ⟨_, rfl, ⟨_, .inl (.inl ((gd.gr.step s).base _ _ hl).1)⟩, q1 _ B' H' s (iter_scr (.inl (.inl hl)) rv)⟩
    | scr xs =>
      refine .inl (ve F ρ own B σ H _ gd ?_)
      rw [hg]
      intro v B' H' s r
      cases r with
      | scr hl rv => exact ⟨_, rfl, ⟨_, Same.seq (gd.gr.step s).same hl⟩, q1 _ B' H' s (iter_scr hl rv)⟩
    | tup xs =>
      refine .inr (.inl (ve F ρ own B σ H _ gd ?_))
      rw [hg]
      intro v B' H' s r
      cases r with
      | tup hl rv => exact ⟨_, rfl, ⟨_, Ext.seqT (gd.gr.step s).same hl⟩, q1 _ B' H' s (iter_tup hl rv)⟩
    | str z =>
      refine .inr (.inr (ve F ρ own B σ H _ gd ?_))
      rw [hg]
      intro v B' H' s r
      cases r
      exact ⟨z, rfl, q1 _ B' H' s iter_str⟩
    | _ => exact q1.elim
/-- over an owned list -/
theorem ibj_own {g : Rho → Res D} (h : BJ X W G e g) : IBJ X W G tg e (fun ρ => (g ρ).bind fun d => match d with
    | .lst xs => .ok xs
    | _ => .no) := by
  obtain ⟨t, pe, ve⟩ := h
  refine ⟨_, pi_list pe, fun F ρ own B σ H R gd q => ?_⟩
  refine ve F ρ own B σ H _ gd (Res.has_mono (Res.has_bind q) (fun d q v B' H' s r => ?_) fun _ x => x)
  cases d with
  | lst xs =>
    have g' := gd.gr.step s
    rcases r with r | ⟨l, vs, ds, e1, e2, h1, h2, h3⟩ | ⟨l, o, ds, e1, e2, h1, h2, h3⟩
    · cases r with
      | lst hl rv => exact ⟨_, rfl, ⟨_, .inl (.inl (g'.base _ _ hl).1)⟩, q _ B' H' s (iter_scr (.inl (.inl hl)) rv).b⟩
    · cases e2
      subst e1
      exact ⟨l, rfl, ⟨vs, .inl (.inl h2)⟩, q _ B' H' s (iter_lst g' h2 (.inr h1) h3)⟩
    · cases e2
  | _ => exact q.elim
def upFrom (lo : Int) (n : Nat) : List D := (List.range n).map fun i => .int (lo + (i : Nat))
theorem iter_rng {K : PySem.W.Frag} {F : Hp} {lo : Int} {n : Nat} {B0 : Hp} : IterF K F (Itr lo n) (upFrom lo n) B0 := fun own B H e g i => by
  refine ⟨fun h => ?_, fun d hd => ?_⟩
  · show n ≤ i
    rw [h]
    simp [upFrom]
  · simp only [upFrom, List.getElem?_map, Option.map_eq_some_iff] at hd
    obtain ⟨j, h1, rfl⟩ := hd
    obtain ⟨h2, h3⟩ := List.getElem?_eq_some_iff.mp h1
    simp at h3 h2
    subst h3
    refine ⟨h2, fun x H' y => ?_⟩
    obtain ⟨rfl, rfl⟩ := y
    exact ⟨B, .refl g, .int _⟩
def dRng1 : List D → Res (List D)
  | [.int j] => if -(2 ^ 62) ≤ j ∧ j < 2 ^ 62 then .ok (upFrom 0 j.toNat) else .no
  | _ => .no
def dRng2 : List D → Res (List D)
  | [.int i, .int j] => if -(2 ^ 62) ≤ i ∧ i < 2 ^ 62 ∧ -(2 ^ 62) ≤ j ∧ j < 2 ^ 62 then .ok (upFrom i (j - i).toNat) else .no
  | _ => .no
theorem ij_range1 {g : Rho → Res (List D)} (hg : Gl X "range") (hm : X.mg "range" = none) (ha : AJ X W G [a] g) (hs : starEach [a] X.env = [(false, eval a X.env)] := by rfl) :
    IJ X W G tg (.Call (.Name "range" p) [a] [] pos) (callV dRng1 g) := by
  obtain ⟨t, pe, ve⟩ := ha
  refine ⟨_, pi_range1 hg hm pe hs, fun F ρ own B σ H R gd q => ?_⟩
  refine ve F ρ own B σ H _ gd (Res.has_mono (Res.has_bind q) (fun ds q vs B' H' s r => ?_) fun _ x => x)
  unfold dRng1 at q
  split at q
  · split at q
    · rename_i hz
      cases r with
      | cons r1 r2 =>
        cases r1
        cases r2
        exact ⟨_, rfl, hz.1, hz.2, q _ B' H' s iter_rng⟩
    · exact q.elim
  · exact q.elim
theorem ij_range2 {g : Rho → Res (List D)} (hg : Gl X "range") (hm : X.mg "range" = none) (ha : AJ X W G [a, b] g) (hs : starEach [a, b] X.env = [(false, eval a X.env), (false, eval b X.env)] := by rfl) (hs2 : starEach [b] X.env = [(false, eval b X.env)] := by rfl) :
    IJ X W G tg (.Call (.Name "range" p) [a, b] [] pos) (callV dRng2 g) := by
  obtain ⟨t, pe, ve⟩ := ha
  refine ⟨_, pi_range2 hg hm pe hs hs2, fun F ρ own B σ H R gd q => ?_⟩
  refine ve F ρ own B σ H _ gd (Res.has_mono (Res.has_bind q) (fun ds q vs B' H' s r => ?_) fun _ x => x)
  unfold dRng2 at q
  split at q
  · split at q
    · rename_i hz
      cases r with
      | cons r1 r2 =>
        cases r1
        cases r2 with
        | cons r2 r3 =>
          cases r2
          cases r3
          exact ⟨_, _, rfl, hz, q _ B' H' s iter_rng⟩
    · exact q.elim
  · exact q.elim
/-- range(a, b, -1) -/
def downFrom (hi : Int) (n : Nat) : List D := (List.range n).map fun i => .int (hi + (i : Nat) * (-1))
theorem iter_rngC {K : PySem.W.Frag} {F : Hp} {lo : Int} {n : Nat} {B0 : Hp} : IterF K F (Itc lo (-1) n) (downFrom lo n) B0 := fun own B H e g i => by
  refine ⟨fun h => ?_, fun d hd => ?_⟩
  · show n ≤ i
    rw [h]
    simp [downFrom]
  · simp only [downFrom, List.getElem?_map, Option.map_eq_some_iff] at hd
    obtain ⟨j, h1, rfl⟩ := hd
    obtain ⟨h2, h3⟩ := List.getElem?_eq_some_iff.mp h1
    simp at h3 h2
    subst h3
    refine ⟨h2, fun x H' y => ?_⟩
    obtain ⟨rfl, rfl⟩ := y
    exact ⟨B, .refl g, .int _⟩
def dRngD : List D → Res (List D)
  | [.int i, .int j, .int (-1)] => if -(2 ^ 62) ≤ i ∧ i < 2 ^ 62 ∧ -(2 ^ 62) ≤ j ∧ j < 2 ^ 62 then .ok (downFrom i (i - j).toNat) else .no
  | _ => .no
theorem ij_rangeD {g : Rho → Res (List D)} (hg : Gl X "range") (hm : X.mg "range" = none) (ha : AJ X W G [a, b, c] g)
    (hs : starEach [a, b, c] X.env = (false, eval a X.env) :: starEach [b, c] X.env := by rfl) (hpl : (backTo pos (starEach [b, c] X.env)).any (·.1) = false := by rfl) :
    IJ X W G tg (.Call (.Name "range" p) [a, b, c] [] pos) (callV dRngD g) := by
  obtain ⟨t, pe, ve⟩ := ha
  refine ⟨_, pi_range3 hg hm pe hs hpl, fun F ρ own B σ H R gd q => ?_⟩
  refine ve F ρ own B σ H _ gd (Res.has_mono (Res.has_bind q) (fun ds q vs B' H' s r => ?_) fun _ x => x)
  unfold dRngD at q
  split at q
  · rename_i i j
    split at q
    · rename_i hz
      cases r with
      | cons r1 r2 =>
        cases r1
        cases r2 with
        | cons r2 r3 =>
          cases r2
          cases r3 with
          | cons r3 r4 =>
            cases r3
            cases r4
            exact ⟨_, _, _, _, rfl, RgC.neg hz.1 hz.2.1 hz.2.2.1 hz.2.2.2, q _ B' H' s iter_rngC⟩
    · exact q.elim
  · exact q.elim
end
end T

set_option Elab.async false
set_option linter.all false
set_option maxRecDepth 100000
set_option maxHeartbeats 4000000
/-! T-layer, part E: setting slots, targets, comprehensions. -/
namespace T
open PySem PySem.Spec PyProof.Rows L2
variable [Mg]

/-! ### the slots set -/
/-- what label n owned is let go -/
def dropL (own : Own) (n : Nat) : Own := fun a => match own a with
  | some (m :: r) => if m = n ∧ m ≠ SH then none else some (m :: r)
  | o => o
omit [Mg] in
theorem dropL_some {own : Own} {n : Nat} {a : Addr} {l : Lab} (h : dropL own n a = some l) : own a = some l := by
  unfold dropL at h
  split at h
  · split at h
    · cases h
    · rename_i e _
      rw [e]
      exact h
  · exact h
omit [Mg] in
theorem dropL_ne {own : Own} {n m : Nat} {r : Lab} {a : Addr} (h : own a = some (m :: r)) (ne : m ≠ n) : dropL own n a = some (m :: r) := by
  unfold dropL
  rw [h]
  simp [ne]
omit [Mg] in
theorem dropL_st {own : Own} {n : Nat} {a : Addr} {r : Lab} : own a = some (SH :: r) ↔ dropL own n a = some (SH :: r) := by
  refine ⟨fun h => ?_, dropL_some⟩
  unfold dropL
  rw [h]
  simp
theorem VRep.own_congr {K : PySem.W.Frag} {B H : Hp} {own own' : Own} {m : Mode} {lab : Lab} {v : V} {d : D} (c : ∀ a r, own a = some (lab ++ r) → own' a = some (lab ++ r)) (st : ∀ a n r, own a = some (SH :: n :: r) ↔ own' a = some (SH :: n :: r)) (h : VRep K B H own m lab v d) : VRep K B H own' m lab v d :=
  VRep.carry ⟨Same.refl B, fun l r e => ⟨c l r e, rfl⟩, ⟨st, fun _ _ _ _ => rfl⟩⟩ h
omit [Mg] in
theorem none_back {own own' : Own} {a : Addr} (h : ∀ a l, own' a = some l → own a = some l) (e : own a = none) : own' a = none := by
  cases q : own' a with
  | none => rfl
  | some l =>
    have := h a l q
    rw [e] at this
    cases this
omit [Mg] in
theorem Ground.drop {F : Hp} {own own' : Own} {B H : Hp} (g : Ground F own B H) (h : ∀ a l, own' a = some l → own a = some l) : Ground F own' B H where
  base := fun a o e => ⟨(g.base a o e).1, none_back h (g.base a o e).2⟩
  frame := fun a o e => ⟨(g.frame a o e).1, none_back h (g.frame a o e).2.1, (g.frame a o e).2.2⟩
  live := fun a e => g.live a fun z => e (none_back h z)
section
variable {K : PySem.W.Frag} {F B H : Hp} {own : Own} {G : List Mode} {ρ : Rho} {σ : L2.St}
theorem Good.set (g : Good K F G ρ own B σ H) {i : Nat} {v : V} {d : D} (r : Rp K B v d) : Good K F (G.set i .fz) (ρ.set i (some d)) (dropL own (i + 1)) B (σ.set i (some v)) H where
  gr := g.gr.drop fun a l h => dropL_some h
  len := by simpa using g.len
  slots := fun j e he => by
    have hl := g.len
    by_cases hj : i = j
    · subst hj
      have hlt : i < ρ.length := by
        have := (List.getElem?_eq_some_iff.mp he).1
        simpa using this
      rw [List.getElem?_set_self hlt] at he
      cases he
      refine ⟨v, List.getElem?_set_self (by omega), ?_⟩
      have e1 : (G.set i Mode.fz).getD i .fz = .fz := by
        by_cases hG : i < G.length
        · simp [List.getD, List.getElem?_set_self hG]
        · rw [List.set_eq_of_length_le (Nat.le_of_not_lt hG)]
          simp [List.getD, List.getElem?_eq_none (Nat.le_of_not_lt hG)]
      rw [e1]
      exact r
    · rw [List.getElem?_set_ne hj] at he
      obtain ⟨w, h1, h2⟩ := g.slots j e he
      refine ⟨w, by rw [List.getElem?_set_ne hj]; exact h1, ?_⟩
      have e1 : (G.set i Mode.fz).getD j .fz = G.getD j .fz := by simp [List.getD, List.getElem?_set_ne hj]
      rw [e1]
      exact VRep.own_congr (fun a r e => dropL_ne e (by omega)) (fun a n r => dropL_st) h2
/-- .. a slot that owns nothing -/
theorem Good.set0 (g : Good K F G ρ own B σ H) {i : Nat} {v : V} {d : D} (hG : G.getD i .fz = .fz) (r : Rp K B v d) : Good K F G (ρ.set i (some d)) own B (σ.set i (some v)) H where
  gr := g.gr
  len := by simpa using g.len
  slots := fun j e he => by
    have hl := g.len
    by_cases hj : i = j
    · subst hj
      have hlt : i < ρ.length := by
        have := (List.getElem?_eq_some_iff.mp he).1
        simpa using this
      rw [List.getElem?_set_self hlt] at he
      cases he
      refine ⟨v, List.getElem?_set_self (by omega), ?_⟩
      rw [hG]
      exact r
    · rw [List.getElem?_set_ne hj] at he
      obtain ⟨w, h1, h2⟩ := g.slots j e he
      exact ⟨w, by rw [List.getElem?_set_ne hj]; exact h1, h2⟩
end

/-! ### targets -/
/-- only these slots differ -/
def OnlyAt (is : List Nat) (σ σ' : L2.St) : Prop := σ'.length = σ.length ∧ ∀ j, j ∉ is → σ'[j]? = σ[j]?
omit [Mg] in
theorem OnlyAt.refl {is : List Nat} {σ : L2.St} : OnlyAt is σ σ := ⟨rfl, fun _ _ => rfl⟩
omit [Mg] in
theorem OnlyAt.trans {is js : List Nat} {σ σ' σ2 : L2.St} (h : OnlyAt is σ σ') (h' : OnlyAt js σ' σ2) : OnlyAt (is ++ js) σ σ2 :=
  ⟨h'.1.trans h.1, fun j hj => by
    rw [List.mem_append, not_or] at hj
    exact (h'.2 j hj.2).trans (h.2 j hj.1)⟩
omit [Mg] in
theorem wipe_get {σ : L2.St} : ∀ {vs : List Nat} (j : Nat), (wipe σ vs)[j]? = if j ∈ vs then (if j < σ.length then some none else none) else σ[j]?
  | [], j => by simp [wipe]
  | v :: vs, j => by
    unfold wipe
    by_cases h : v = j
    · subst h
      rw [List.getElem?_set]
      simp [wipe_length]
    · rw [List.getElem?_set_ne h, wipe_get j]
      have : (j ∈ v :: vs) ↔ j ∈ vs := by simp [Ne.symm h]
      simp [this]
omit [Mg] in
theorem wipe_only {is vs : List Nat} {σ σ' : L2.St} (h : OnlyAt is (wipe σ vs) σ') (hs : ∀ i ∈ is, i ∈ vs) : wipe σ' vs = wipe σ vs := by
  apply List.ext_getElem?
  intro j
  rw [wipe_get, wipe_get]
  have hl : σ'.length = σ.length := by rw [h.1, wipe_length]
  by_cases hj : j ∈ vs
  · simp [hj, hl]
  · have hj' : j ∉ is := fun q => hj (hs j q)
    have := h.2 j hj'
    rw [wipe_get] at this
    simp only [hj, if_false] at this ⊢
    exact this
abbrev Bnd := D → Rho → Option Rho
abbrev BndA := List D → Rho → Option Rho
/-- a target: b its mirror, is the slots that it stores into -/
def GJ (X : Cx) (tg : Expr) (b : Bnd) (is : List Nat) : Prop := ∃ g, PG X tg g ∧ ∀ (F : Hp) (own : Own) (B : Hp) (σ : L2.St) (H : Hp) (G : List Mode) (ρ ρ' : Rho) (v : V) (d : D) (Q : L2.St → Hp → Prop),
  Good X.K F G ρ own B σ H → Rp X.K B v d → b d ρ = some ρ' → (∀ i ∈ is, G.getD i .fz = .fz) →
    (∀ σ', Good X.K F G ρ' own B σ' H → OnlyAt is σ σ' → Q σ' H) → g v σ H Q
def GAJ (X : Cx) (tgs : List Expr) (b : BndA) (is : List Nat) : Prop := ∃ g, PGs X tgs g ∧ ∀ (F : Hp) (own : Own) (B : Hp) (σ : L2.St) (H : Hp) (G : List Mode) (ρ ρ' : Rho) (vs : List V) (ds : List D) (Q : L2.St → Hp → Prop),
  Good X.K F G ρ own B σ H → RpA X.K B vs ds → b ds ρ = some ρ' → (∀ i ∈ is, G.getD i .fz = .fz) →
    (∀ σ', Good X.K F G ρ' own B σ' H → OnlyAt is σ σ' → Q σ' H) → g vs σ H Q
def bNm (i : Nat) : Bnd := fun d ρ => some (ρ.set i (some d))
def bNil : BndA := fun ds ρ => match ds with
  | [] => some ρ
  | _ => none
def bCons (b : Bnd) (c : BndA) : BndA := fun ds ρ => match ds with
  | d :: r => (b d ρ).bind fun ρ' => c r ρ'
  | [] => none
def bTp (n : Nat) (b : BndA) : Bnd := fun d ρ => match d with
  | .tup ds => if ds.length = n then b ds ρ else none
  | .lst ds => if ds.length = n then b ds ρ else none
  | _ => none
section
variable {X : Cx} {x : Str} {pos : Pos} {e : Expr} {es : List Expr}
theorem gj_nm {i : Nat} (h : PG X (.Name x pos) (gName i)) : GJ X (.Name x pos) (bNm i) [i] := ⟨_, h, fun F own B σ H G ρ ρ' v d Q gd r e hG q => by
  cases e
  refine q _ (gd.set0 (hG i (List.mem_singleton.mpr rfl)) r) ⟨by simp, fun j hj => ?_⟩
  rw [List.getElem?_set_ne]
  intro z
  exact hj (by simp [z])⟩
theorem gaj_nil : GAJ X [] bNil [] := ⟨_, pgs_nil, fun F own B σ H G ρ ρ' vs ds Q gd r e hG q => by
  cases r with
  | nil =>
    cases e
    exact ⟨rfl, q _ gd .refl⟩
  | cons _ _ => cases e⟩
theorem gaj_cons {b : Bnd} {c : BndA} {is js : List Nat} (h : GJ X e b is) (h' : GAJ X es c js) (hs : (assignEach (e :: es) X.env).map (·.2) = assign e X.env :: (assignEach es X.env).map (·.2) := by rfl) : GAJ X (e :: es) (bCons b c) (is ++ js) := by
  obtain ⟨g, p, v⟩ := h
  obtain ⟨g', p', v'⟩ := h'
  refine ⟨_, pgs_cons p p' hs, fun F own B σ H G ρ ρ' vs ds Q gd r e hG q => ?_⟩
  cases r with
  | nil => cases e
  | cons r1 r2 =>
    obtain ⟨ρ1, e1, e2⟩ := Option.bind_eq_some_iff.mp e
    refine ⟨_, _, rfl, v F own B σ H G ρ ρ1 _ _ _ gd r1 e1 (fun i hi => hG i (List.mem_append_left _ hi)) fun σ1 g1 o1 => ?_⟩
    refine v' F own B σ1 H G ρ1 ρ' _ _ _ g1 r2 e2 (fun i hi => hG i (List.mem_append_right _ hi)) fun σ2 g2 o2 => ?_
    exact q σ2 g2 (o1.trans o2)
omit [Mg] in
theorem pg_or {t t' : TG} (h : PG X e t) (h' : PG X e t') : PG X e (fun v σ H Q => t v σ H Q ∨ t' v σ H Q) := ⟨fun pins s σ H v u Q I r q => by
  rcases q with q | q
  · exact h.run pins s σ H v u Q I r q
  · exact h'.run pins s σ H v u Q I r q⟩
theorem gj_tp {k : Nat} {b : BndA} {is : List Nat} {n : Nat} (hc : X.calm = true) (h : GAJ X es b is) (hn : (assignEach es X.env).length = n := by rfl) (hst : (assignEach es X.env).findIdx? (·.1) = none := by rfl) : GJ X (.Tuple es k pos) (bTp n b) is := by
  obtain ⟨g, p, v⟩ := h
  refine ⟨_, pg_or (pg_tup hc p hn hst) (pg_lst hc p hn hst), fun F own B σ H G ρ ρ' u d Q gd r e hG q => ?_⟩
  unfold bTp at e
  split at e
  · split at e
    · rename_i hz
      cases r with
      | tup ha rv => exact .inl ⟨_, _, rfl, Ext.seqT gd.gr.same ha, by rw [rv.len]; exact hz, v F own B σ H G ρ ρ' _ _ Q gd rv e hG q⟩
    · cases e
  · split at e
    · rename_i hz
      cases r with
      | lst ha rv => exact .inr ⟨_, _, rfl, .inl (.inl (gd.gr.base _ _ ha).1), by rw [rv.len]; exact hz, v F own B σ H G ρ ρ' _ _ Q gd rv e hG q⟩
    · cases e
  · cases e
end

/-! ### enumerate, zip, reversed -/
def numFrom (i : Nat) : List D → List D
  | [] => []
  | x :: xs => .tup [.int i, x] :: numFrom (i + 1) xs
omit [Mg] in
theorem numFrom_len : ∀ (xs : List D) (i : Nat), (numFrom i xs).length = xs.length
  | [], _ => rfl
  | _ :: xs, i => congrArg (· + 1) (numFrom_len xs (i + 1))
omit [Mg] in
theorem numFrom_get : ∀ (xs : List D) (i j : Nat), (numFrom i xs)[j]? = xs[j]?.map fun x => .tup [.int (i + j : Nat), x]
  | [], _, _ => by simp [numFrom]
  | x :: xs, i, 0 => by simp [numFrom]
  | x :: xs, i, j + 1 => by
    simp only [numFrom, List.getElem?_cons_succ]
    rw [numFrom_get xs (i + 1) j]
    congr 1
    funext y
    congr 3
    omega
theorem iter_enum {K : PySem.W.Frag} {F : Hp} {a : Addr} {vs : List V} {ds : List D} {own0 : Own} {B0 H0 : Hp} (hl : SqL K B0 a vs ∨ (own0 a ≠ none ∧ H0 a = some (.lst vs))) (r : RpA K B0 vs ds) : IterB K F (Ite K a) (numFrom 0 ds) own0 B0 H0 := fun own B H e o g i => by
  have sq : SqL K H a vs := by
    rcases hl with h | h
    · exact Same.seq (Same.trans e g.same) h
    · refine .inl (.inl ?_)
      rw [(o a h.1).2]
      exact h.2
  refine ⟨fun h => ⟨vs, sq, by rw [r.len, ← numFrom_len ds 0]; omega⟩, fun d hd => ?_⟩
  rw [numFrom_get] at hd
  obtain ⟨d', h0, rfl⟩ := Option.map_eq_some_iff.mp hd
  obtain ⟨v, h1, h2⟩ := r.get h0
  refine ⟨⟨vs, v, sq, h1⟩, fun x H' y => ?_⟩
  obtain ⟨T, w, rfl, hT, rfl, y⟩ := y
  have ev := y vs sq
  rw [h1] at ev
  cases ev
  refine ⟨upd B T (.tup [.int (i : Nat), v]), .new g _ hT, .tup (.inl (.inl upd_same)) ?_⟩
  have hb := ext_upd (o := .tup [.int (i : Nat), v]) (g.bfresh hT)
  refine .cons ?_ (.cons ((h2.mono e).mono hb) .nil)
  rw [Nat.zero_add]
  exact .int _
section
variable {X : Cx} {W : WX} {G : List Mode} {tg e e2 a b c : Expr} {p pos tpos : Pos} {elts : List Expr} {kk : Nat}
def dEnum : List D → Res (List D)
  | [.lst xs] => .ok (numFrom 0 xs)
  | [.scr xs] => .ok (numFrom 0 xs)
  | _ => .no
theorem ibj_enum {g : Rho → Res (List D)} (hg : Gl X "enumerate") (hm : X.mg "enumerate" = none) (ha : BAJ X W G [e] g) (hs : starEach [e] X.env = [(false, eval e X.env)] := by rfl) : IBJ X W G (.Tuple elts kk tpos) (.Call (.Name "enumerate" p) [e] [] pos) (callV dEnum g) := by
  obtain ⟨t, pe, ve⟩ := ha
  refine ⟨_, pi_enum hg hm pe hs, fun F ρ own B σ H R gd q => ?_⟩
  refine ve F ρ own B σ H _ gd (Res.has_mono (Res.has_bind q) (fun ds q vs B' H' s r => ?_) fun _ x => x)
  have g' := gd.gr.step s
  unfold dEnum at q
  split at q
  · obtain ⟨v, rfl, hv⟩ := r.one
    rcases hv with hv | ⟨l, us, ds, e1, e2, h1, h2, h3⟩ | ⟨l, o, ds, e1, e2, h1, h2, h3⟩
    · cases hv with
      | lst hl rv => exact ⟨_, _, rfl, .inl (.inl (g'.base _ _ hl).1), q _ B' H' s (iter_enum (.inl (.inl (.inl hl))) rv)⟩
    · cases e2
      subst e1
      exact ⟨_, _, rfl, .inl (.inl h2), q _ B' H' s (iter_enum (.inr ⟨h1, h2⟩) h3)⟩
    · cases e2
  · obtain ⟨v, rfl, hv⟩ := r.one
    obtain ⟨l, vs, rfl, hl, rv⟩ := hv.scr
    exact ⟨_, _, rfl, Same.seq g'.same hl, q _ B' H' s (iter_enum (.inl hl) rv)⟩
  · exact q.elim
theorem ij_enum {g : Rho → Res (List D)} (hg : Gl X "enumerate") (hm : X.mg "enumerate" = none) (ha : AJ X W G [e] g) (hs : starEach [e] X.env = [(false, eval e X.env)] := by rfl) : IJ X W G (.Tuple elts kk tpos) (.Call (.Name "enumerate" p) [e] [] pos) (callV dEnum g) := by
  obtain ⟨t, pe, ve⟩ := ha
  refine ⟨_, pi_enum hg hm pe hs, fun F ρ own B σ H R gd q => ?_⟩
  refine ve F ρ own B σ H _ gd (Res.has_mono (Res.has_bind q) (fun ds q vs B' H' s r => ?_) fun _ x => x)
  have g' := gd.gr.step s
  unfold dEnum at q
  split at q
  · cases r with
    | cons r1 r2 =>
      cases r2
      cases r1 with
      | lst hl rv => exact ⟨_, _, rfl, .inl (.inl (g'.base _ _ hl).1), q _ B' H' s fun own1 B1 H1 e1 g1 => iter_enum (own0 := own1) (H0 := H1) (.inl (.inl (.inl hl))) rv own1 B1 H1 e1 (fun a h => ⟨h, rfl⟩) g1⟩
  · cases r with
    | cons r1 r2 =>
      cases r2
      cases r1 with
      | scr hl rv => exact ⟨_, _, rfl, Same.seq g'.same hl, q _ B' H' s fun own1 B1 H1 e1 g1 => iter_enum (own0 := own1) (H0 := H1) (.inl hl) rv own1 B1 H1 e1 (fun a h => ⟨h, rfl⟩) g1⟩
  · exact q.elim
end
end T

set_option Elab.async false
set_option linter.all false
set_option maxRecDepth 100000
set_option maxHeartbeats 4000000
/-! T-layer, part F: comprehensions. -/
namespace T
open PySem PySem.Spec PyProof.Rows L2
variable [Mg]

def Res.calm {α : Type} : Res α → Res α
  | .ok a => .ok a
  | _ => .no
omit [Mg] in
@[simp] theorem Res.calm_ok {α : Type} (a : α) : (Res.ok a).calm = .ok a := mk_eq0 rfl
omit [Mg] in
theorem Res.has_cb {α β : Type} {r : Res α} {f : α → Res β} {P : β → Prop} {E : Exn → Prop} {E' : Exn → Prop} (h : (r.calm.bind f).has P E) : r.has (fun a => (f a).has P E) E' := by
  cases r with
  | ok a => exact h
  | ex e => exact h.elim
  | no => exact h
def wipeR : Rho → List Nat → Rho
  | ρ, [] => ρ
  | ρ, v :: vs => (wipeR ρ vs).set v none
def lcM (b : Bnd) (c : Rho → Res Bool) (f : Rho → Res D) (ρ : Rho) : List D → Res (List D)
  | [] => .ok []
  | x :: xs => match b x ρ with
    | none => .no
    | some ρ' => (c ρ').calm.bind fun k => if k = true then (f ρ').calm.bind fun y => (lcM b c f ρ xs).bind fun ys => .ok (y :: ys) else lcM b c f ρ xs
def yesB : Rho → Res Bool := fun _ => .ok true
def compV (src : Rho → Res (List D)) (b : Bnd) (c : Rho → Res Bool) (f : Rho → Res D) (vs : List Nat) : Rho → Res (List D) := fun ρ => (src ρ).bind fun items => if items.length ≤ sizeLine then lcM b c f (wipeR ρ vs) items else .no
omit [Mg] in
theorem wipeR_length (ρ : Rho) : ∀ vs : List Nat, (wipeR ρ vs).length = ρ.length
  | [] => rfl
  | v :: vs => by
    unfold wipeR
    rw [List.length_set, wipeR_length ρ vs]
omit [Mg] in
theorem wipeR_some {ρ : Rho} {j : Nat} {d : D} : ∀ {vs : List Nat}, (wipeR ρ vs)[j]? = some (some d) → ρ[j]? = some (some d) ∧ j ∉ vs
  | [], h => ⟨h, by simp⟩
  | v :: vs, h => by
    unfold wipeR at h
    by_cases hi : v = j
    · subst hi
      by_cases hv : v < (wipeR ρ vs).length
      · rw [List.getElem?_set_self hv] at h; cases h
      · rw [List.getElem?_eq_none (by simpa using hv)] at h; cases h
    · rw [List.getElem?_set_ne hi] at h
      obtain ⟨h1, h2⟩ := wipeR_some h
      exact ⟨h1, by simp only [List.mem_cons, not_or]; exact ⟨fun e => hi e.symm, h2⟩⟩
theorem Good.wipe {K : PySem.W.Frag} {F B H : Hp} {own : Own} {G : List Mode} {ρ : Rho} {σ : L2.St} (g : Good K F G ρ own B σ H) (vs : List Nat) : Good K F G (wipeR ρ vs) own B (wipe σ vs) H where
  gr := g.gr
  len := by rw [wipe_length, wipeR_length]; exact g.len
  slots := fun i d e => by
    obtain ⟨h1, h2⟩ := wipeR_some e
    obtain ⟨v, k1, k2⟩ := g.slots i d h1
    exact ⟨v, by rw [wipe_get]; simp [h2, k1], k2⟩

abbrev W0 : WX := fun _ _ _ _ => False
abbrev Blk (X : Cx) (scope : Scope) (s : Shared) (H : Hp) (C : Addr) (cl : List (Str × Addr)) (fp : List Addr) : Cx := X.blk s H scope (compEnvC scope cl C X.env) fp
section
variable {X : Cx} {W : WX} {G : List Mode} {tg iter elt c : Expr} {scope : Scope}
theorem fam_e {f : Rho → Res D} (h : ∀ s H C cl fp, EJ (Blk X scope s H C cl fp) W0 G elt f) : ∃ te, (∀ s H C cl fp, PE (Blk X scope s H C cl fp) elt te) ∧ Ev X W0 G te f := by
  refine ⟨fun σ H Q => ∀ s H0 C cl fp, (h s H0 C cl fp).choose σ H Q, fun s H0 C cl fp => ⟨fun pins s1 σ H Q I q => ?_⟩, fun F ρ own B σ H Q gd q s H0 C cl fp => ?_⟩
  · exact (h s H0 C cl fp).choose_spec.1.run pins s1 σ H Q I (q s H0 C cl fp)
  · exact (h s H0 C cl fp).choose_spec.2 F ρ own B σ H Q gd q
theorem fam_t {f : Rho → Res Bool} (h : ∀ s H C cl fp, TJ (Blk X scope s H C cl fp) W0 G c f) : ∃ te, (∀ s H C cl fp, PT (Blk X scope s H C cl fp) c te) ∧ EvT X W0 G te f := by
  refine ⟨fun σ H Q => ∀ s H0 C cl fp, (h s H0 C cl fp).choose σ H Q, fun s H0 C cl fp => ⟨fun pins s1 σ H Q I q => ?_⟩, fun F ρ own B σ H Q gd q s H0 C cl fp => ?_⟩
  · exact (h s H0 C cl fp).choose_spec.1.run pins s1 σ H Q I (q s H0 C cl fp)
  · exact (h s H0 C cl fp).choose_spec.2 F ρ own B σ H Q gd q
theorem fam_g {b : Bnd} {is : List Nat} (h : ∀ s H C cl fp, GJ (Blk X scope s H C cl fp) tg b is) : ∃ g, (∀ s H C cl fp, PG (Blk X scope s H C cl fp) tg g) ∧
    ∀ (F : Hp) (own : Own) (B : Hp) (σ : L2.St) (H : Hp) (G : List Mode) (ρ ρ' : Rho) (v : V) (d : T.D) (Q : L2.St → Hp → Prop), Good X.K F G ρ own B σ H → Rp X.K B v d → b d ρ = some ρ' → (∀ i ∈ is, G.getD i .fz = .fz) →
      (∀ σ', Good X.K F G ρ' own B σ' H → OnlyAt is σ σ' → Q σ' H) → g v σ H Q := by
  refine ⟨fun v σ H Q => ∀ s H0 C cl fp, (h s H0 C cl fp).choose v σ H Q, fun s H0 C cl fp => ⟨fun pins s1 σ H v u Q I r q => ?_⟩, fun F own B σ H G ρ ρ' v d Q gd r e hG q s H0 C cl fp => ?_⟩
  · exact (h s H0 C cl fp).choose_spec.1.run pins s1 σ H v u Q I r (q s H0 C cl fp)
  · exact (h s H0 C cl fp).choose_spec.2 F own B σ H G ρ ρ' v d Q gd r e hG q

/-- D, the new list of a comprehension, is owned under the label 0 while it is made -/
def ownD (own : Own) (N : Addr) : Own := fun a => if a = N then some [0] else own a
omit [Mg] in
theorem ownD_self {own : Own} {N : Addr} : ownD own N N = some [0] := by simp [ownD]
omit [Mg] in
theorem ownD_ne {own : Own} {N a : Addr} (h : a ≠ N) : ownD own N a = own a := by simp [ownD, h]
omit [Mg] in
theorem stk_D {H H' : Hp} {own : Own} {N : Addr} (hD : own N = none) (hH : ∀ a, own a ≠ none → H' a = H a) : StK H own H' (ownD own N) := ⟨fun l n r => by
  by_cases h : l = N
  · subst h
    rw [hD, ownD_self]
    simp
  · rw [ownD_ne h], fun l n r e => hH l (by rw [e]; exact fun z => nomatch z)⟩
theorem VRep.more {K : PySem.W.Frag} {B H H' : Hp} {own : Own} {N : Addr} (hD : own N = none) (hH : ∀ a, own a ≠ none → H' a = H a) {m : Mode} {lab : Lab} {v : V} {d : D} (h : VRep K B H own m lab v d) : VRep K B H' (ownD own N) m lab v d :=
  VRep.carry ⟨Same.refl B, fun l r e => ⟨by rw [ownD_ne (fun z => by rw [z, hD] at e; cases e)]; exact e, hH l (by rw [e]; exact fun z => nomatch z)⟩, stk_D hD hH⟩ h
/-- the heart: the source's items walked, the new list made -/
theorem lc_heart {own0 : List Nat} {wi : TI} {g : TG} {tt : TT} {te : TE} {b : Bnd} {fc : Rho → Res Bool} {f : Rho → Res D} {src : Rho → Res (List D)} {is : List Nat} (hi : EvIB X W G wi src)
    (hg : ∀ (F : Hp) (own : Own) (B : Hp) (σ : L2.St) (H : Hp) (G : List Mode) (ρ ρ' : Rho) (v : V) (d : T.D) (Q : L2.St → Hp → Prop), Good X.K F G ρ own B σ H → Rp X.K B v d → b d ρ = some ρ' → (∀ i ∈ is, G.getD i .fz = .fz) →
      (∀ σ', Good X.K F G ρ' own B σ' H → OnlyAt is σ σ' → Q σ' H) → g v σ H Q)
    (hsub : ∀ i ∈ is, i ∈ own0) (hG : ∀ i ∈ is, G.getD i Mode.fz = Mode.fz) (ht : EvT X W0 G tt fc) (he : Ev X W0 G te f) : EvN X W G (tLc wi g tt te own0) (compV src b fc f own0) := fun F ρ own B σ H Q gd q => by
  refine hi F ρ own B σ H _ gd (Res.has_mono (Res.has_bind q) (fun items q J B1 H1 s1 itr => ?_) fun _ x => x)
  split at q
  case isFalse => exact q.elim
  rename_i hz
  intro D hD
  have g1 := gd.step s1
  have hDo := g1.gr.ofresh hD
  have hDb := g1.gr.bfresh hD
  have hDf := g1.gr.ffresh hD
  -- the state ahead of turn i
  refine ⟨fun i m H' => m = items.length - i ∧ i ≤ items.length ∧ ∃ (B' : Hp) (vs : List V) (ds : List T.D), Step own F B1 H1 B' H' ∧ B' D = none ∧ H' D = some (.lst vs) ∧ RpA X.K B' vs ds ∧ ds.length ≤ i ∧
      (lcM b fc f (wipeR ρ own0) (items.drop i)).has (fun rest => ∀ (p : Addr) (vs : List V) (B' H' : Hp), Step own F B H B' H' → B' p = none → F p = none → own p = none → H' p = some (.lst vs) → RpA X.K B' vs (ds ++ rest) → Q (.ref p) H') (fun _ => False),
    ⟨items.length, by omega, Nat.zero_le _, B1, [], [], .garbage g1.gr _ hD, hDb, upd_same, .nil, Nat.zero_le _, ?_⟩, fun i m H' hW => ?_⟩
  · simp only [List.drop_zero, List.nil_append]
    cases e : lcM b fc f (wipeR ρ own0) items with
    | ok ds =>
      rw [e] at q
      exact q
    | no =>
      rw [e] at q
      exact q
    | ex x =>
      exfalso
      clear q itr
      induction items with
      | nil => cases e
      | cons y ys ih =>
        simp only [lcM] at e
        split at e
        · cases e
        · rename_i ρ' _
          cases h1 : fc ρ' with
          | ok k =>
            rw [h1] at e
            simp only [Res.calm_ok, Res.bind_ok] at e
            split at e
            · cases h2 : f ρ' with
              | ok y' =>
                rw [h2] at e
                simp only [Res.calm_ok, Res.bind_ok] at e
                cases h3 : lcM b fc f (wipeR ρ own0) ys with
                | ok zs =>
                  rw [h3] at e
                  cases e
                | no =>
                  rw [h3] at e
                  cases e
                | ex z =>
                  rw [h3] at e
                  cases e
                  exact ih (by simp only [List.length_cons] at hz; omega) h3
              | ex _ =>
                rw [h2] at e
                cases e
              | no =>
                rw [h2] at e
                cases e
            · exact ih (by simp only [List.length_cons] at hz; omega) e
          | ex _ =>
            rw [h1] at e
            cases e
          | no =>
            rw [h1] at e
            cases e
  · obtain ⟨rfl, hile, B', vs, ds, s2, hBD, hHD, rvs, hlen, rest⟩ := hW
    have g2 := g1.step s2
    -- the ground with D owned
    have grD : Ground F (ownD own D) B' H' := ⟨fun a o e => ⟨(g2.gr.base a o e).1, by
        rw [ownD_ne (fun z => by rw [z, hBD] at e; cases e)]
        exact (g2.gr.base a o e).2⟩, fun a o e => ⟨(g2.gr.frame a o e).1, by
        rw [ownD_ne (fun z => by rw [z, hDf] at e; cases e)]
        exact (g2.gr.frame a o e).2.1, (g2.gr.frame a o e).2.2⟩, fun a h => by
        by_cases ha : a = D
        · rw [ha, hHD]
          exact fun z => nomatch z
        · rw [ownD_ne ha] at h
          exact g2.gr.live a h⟩
    have gdD : Good X.K F G (wipeR ρ own0) (ownD own D) B' (wipe σ own0) H' := by
      have gw := g2.wipe own0
      exact ⟨grD, gw.len, fun j d e => by
        obtain ⟨v, h1, h2⟩ := gw.slots j d e
        exact ⟨v, h1, VRep.more hDo (fun a _ => rfl) h2⟩⟩
    have itr' := itr (ownD own D) B' H' s2.ext (fun a h => ⟨by
      by_cases ha : a = D
      · rw [ha, ownD_self]
        exact fun z => nomatch z
      · rw [ownD_ne ha]
        exact h, (s2.ownd a h).1⟩) grD i
    by_cases hi' : i = items.length
    · refine .inl ⟨itr'.1 hi', ?_⟩
      rw [hi', List.drop_length] at rest
      have rest' : ∀ (p : Addr) (vs : List V) (B' H' : Hp), Step own F B H B' H' → B' p = none → F p = none → own p = none → H' p = some (.lst vs) → RpA X.K B' vs (ds ++ []) → Q (.ref p) H' := rest
      rw [List.append_nil] at rest'
      exact rest' D vs B' H' (s1.trans s2) hBD hDf hDo hHD rvs
    · have hlt : i < items.length := by omega
      have hd : items[i]? = some items[i] := List.getElem?_eq_getElem hlt
      obtain ⟨go, yld⟩ := itr'.2 _ hd
      refine .inr ⟨go, _, fun H4 h4 => ⟨items.length - (i + 1), by omega, h4⟩, fun x H3 hy => ?_⟩
      obtain ⟨B3, s3, rx⟩ := yld x H3 hy
      rw [List.drop_eq_getElem_cons hlt] at rest
      simp only [lcM] at rest
      split at rest
      · exact rest.elim
      · rename_i ρ' hb
        have gd3 := gdD.step s3
        -- what a step over D owned is for own
        have down : ∀ {Ba Ha Bb Hb : Hp}, Step (ownD own D) F Ba Ha Bb Hb → Step own F Ba Ha Bb Hb := fun {Ba Ha Bb Hb} s => ⟨s.ext, s.base, fun a h => s.ownd a (by
          by_cases ha : a = D
          · rw [ha, ownD_self]
            exact fun z => nomatch z
          · rw [ownD_ne ha]
            exact h), s.frame⟩
        refine hg F (ownD own D) B3 (wipe σ own0) H3 G _ ρ' x _ _ gd3 rx hb hG fun σ' gd4 o4 => ⟨wipe_only o4 hsub, ?_⟩
        refine ht F ρ' (ownD own D) B3 σ' H3 _ gd4 (Res.has_mono (Res.has_cb (E' := fun _ => False) rest) (fun k rest B5 H5 s5 => ?_) fun _ x => x.elim)
        have sAll := (s2.trans (down s3)).trans (down s5)
        have dn : ∀ {Ba Ha Bb Hb : Hp}, Step (ownD own D) F Ba Ha Bb Hb → Hb D = Ha D ∧ Bb D = none := fun {Ba Ha Bb Hb} s => s.ownd D (by rw [ownD_self]; exact fun z => nomatch z)
        cases k with
        | false => exact ⟨rfl, by omega, B5, vs, ds, sAll, (dn s5).2, by rw [(dn s5).1, (dn s3).1]; exact hHD, (rvs.mono s3.ext).mono s5.ext, by omega, rest⟩
        | true =>
          refine he F ρ' (ownD own D) B5 σ' H5 _ (gd4.step s5) (Res.has_mono (Res.has_cb (E' := fun _ => False) rest) (fun y rest v B6 H6 s6 r6 => ?_) fun _ x => x.elim)
          have hH6 : H6 D = some (.lst vs) := by rw [(dn s6).1, (dn s5).1, (dn s3).1]; exact hHD
          have sA6 := sAll.trans (down s6)
          refine ⟨vs, hH6, by rw [rvs.len]; omega, rfl, by omega, B6, vs ++ [v], ds ++ [y], ?_, (dn s6).2, upd_same, (((rvs.mono s3.ext).mono s5.ext).mono s6.ext).app (.cons r6 .nil), by simp; omega, ?_⟩
          · exact ⟨sA6.ext, fun a o e => by
              rw [upd_ne (fun z => by rw [z, (dn s6).2] at e; cases e)]
              exact sA6.base a o e, fun a ho => by
              have ne : a ≠ D := fun z => ho (by rw [z]; exact hDo)
              rw [upd_ne ne]
              exact sA6.ownd a ho, fun a o e => by
              rw [upd_ne (fun z => by rw [z, hDf] at e; cases e)]
              exact sA6.frame a o e⟩
          · refine Res.has_mono (Res.has_bind rest) (fun ys q p vs B' H' s7 h1 h2 h3 h4 h5 => ?_) fun _ x => x
            have q' : ∀ (p : Addr) (vs : List V) (B' H' : Hp), Step own F B H B' H' → B' p = none → F p = none → own p = none → H' p = some (.lst vs) → RpA X.K B' vs (ds ++ y :: ys) → Q (.ref p) H' := q
            exact q' p vs B' H' s7 h1 h2 h3 h4 (by simpa using h5)
variable {own0 : List (Str × Nat)} {b : Bnd} {f : Rho → Res D} {fc : Rho → Res Bool} {src : Rho → Res (List D)} {is : List Nat} {pos spos py : Pos}
theorem nj_lc (hc : X.calm = true) (hN : X.N.Nodup) (hi : IBJ X W G tg iter src) (ok : BlkOk X.N X.env.scope scope own0) (hg : ∀ s H C cl fp, GJ (Blk X scope s H C cl fp) tg b is) (hsub : ∀ i ∈ is, i ∈ own0.map (·.2)) (hG : ∀ i ∈ is, G.getD i Mode.fz = Mode.fz)
    (he : ∀ s H C cl fp, EJ (Blk X scope s H C cl fp) W0 G elt f) (hs : ∀ x, foldedSetIterable iter X.env x = pure x := by intro _; rfl) : NJ X W G (.ListComp elt [⟨tg, iter, [], 0⟩] scope pos) (compV src b yesB f (own0.map (·.2))) := by
  obtain ⟨wi, pi, vi⟩ := hi
  obtain ⟨te, pe, ve⟩ := fam_e he
  obtain ⟨g, pg, vg⟩ := fam_g hg
  exact ⟨_, pe_lc hc hN pi ok pg (fun _ _ _ _ _ => pts_nil) pe hs, lc_heart vi vg hsub hG (fun F ρ own B σ H Q gd q => q B H (.refl gd.gr)) ve⟩
theorem nj_lcIf (hc : X.calm = true) (hN : X.N.Nodup) (hi : IBJ X W G tg iter src) (ok : BlkOk X.N X.env.scope scope own0) (hg : ∀ s H C cl fp, GJ (Blk X scope s H C cl fp) tg b is) (hsub : ∀ i ∈ is, i ∈ own0.map (·.2)) (hG : ∀ i ∈ is, G.getD i Mode.fz = Mode.fz)
    (ht : ∀ s H C cl fp, TJ (Blk X scope s H C cl fp) W0 G c fc) (he : ∀ s H C cl fp, EJ (Blk X scope s H C cl fp) W0 G elt f) (hs : ∀ x, foldedSetIterable iter X.env x = pure x := by intro _; rfl) : NJ X W G (.ListComp elt [⟨tg, iter, [c], 0⟩] scope pos) (compV src b fc f (own0.map (·.2))) := by
  obtain ⟨wi, pi, vi⟩ := hi
  obtain ⟨te, pe, ve⟩ := fam_e he
  obtain ⟨tt, pt, vt⟩ := fam_t ht
  obtain ⟨g, pg, vg⟩ := fam_g hg
  exact ⟨_, pe_lc hc hN pi ok pg (fun s H C cl fp => pts_one (pt s H C cl fp)) pe hs, lc_heart vi vg hsub hG vt ve⟩
/-- y = [..], y in slot i -/
def LcJ (X : Cx) (W : WX) (G : List Mode) (y : Str) (py : Pos) (i : Nat) (e : Expr) (spos : Pos) (g : Rho → Res (List D)) : Prop := ∃ te, PS X (.Assign [.Name y py] e spos) (tAsg te (gName i)) ∧ EvN X W G te g
theorem lcj {i : Nat} {y : Str} (hc : X.calm = true) (hN : X.N.Nodup) (hy : X.N[i]? = some y) (hyl : X.env.scope.names.lookup y = some .local)
    (hsw : swapsWith (.ListComp elt [⟨tg, iter, [], 0⟩] scope pos) (some (.Name y py)) spos.line X.env = pure true) (hi : IBJ X W G tg iter src) (ok : BlkOk X.N X.env.scope scope own0) (hg : ∀ s H C cl fp, GJ (Blk X scope s H C cl fp) tg b is) (hsub : ∀ i ∈ is, i ∈ own0.map (·.2))
    (hG : ∀ i ∈ is, G.getD i Mode.fz = Mode.fz) (he : ∀ s H C cl fp, EJ (Blk X scope s H C cl fp) W0 G elt f) (hs : ∀ x, foldedSetIterable iter X.env x = pure x := by intro _; rfl) : LcJ X W G y py i (.ListComp elt [⟨tg, iter, [], 0⟩] scope pos) spos (compV src b yesB f (own0.map (·.2))) := by
  obtain ⟨wi, pi, vi⟩ := hi
  obtain ⟨te, pe, ve⟩ := fam_e he
  obtain ⟨g, pg, vg⟩ := fam_g hg
  exact ⟨_, ps_setLc hc hN hy hyl hsw pi ok pg (fun _ _ _ _ _ => pts_nil) pe hs, lc_heart vi vg hsub hG (fun F ρ own B σ H Q gd q => q B H (.refl gd.gr)) ve⟩
theorem lcjIf {i : Nat} {y : Str} (hc : X.calm = true) (hN : X.N.Nodup) (hy : X.N[i]? = some y) (hyl : X.env.scope.names.lookup y = some .local)
    (hsw : swapsWith (.ListComp elt [⟨tg, iter, [c], 0⟩] scope pos) (some (.Name y py)) spos.line X.env = pure true) (hi : IBJ X W G tg iter src) (ok : BlkOk X.N X.env.scope scope own0) (hg : ∀ s H C cl fp, GJ (Blk X scope s H C cl fp) tg b is) (hsub : ∀ i ∈ is, i ∈ own0.map (·.2))
    (hG : ∀ i ∈ is, G.getD i Mode.fz = Mode.fz) (ht : ∀ s H C cl fp, TJ (Blk X scope s H C cl fp) W0 G c fc) (he : ∀ s H C cl fp, EJ (Blk X scope s H C cl fp) W0 G elt f) (hs : ∀ x, foldedSetIterable iter X.env x = pure x := by intro _; rfl) : LcJ X W G y py i (.ListComp elt [⟨tg, iter, [c], 0⟩] scope pos) spos (compV src b fc f (own0.map (·.2))) := by
  obtain ⟨wi, pi, vi⟩ := hi
  obtain ⟨te, pe, ve⟩ := fam_e he
  obtain ⟨tt, pt, vt⟩ := fam_t ht
  obtain ⟨g, pg, vg⟩ := fam_g hg
  exact ⟨_, ps_setLc hc hN hy hyl hsw pi ok pg (fun s H C cl fp => pts_one (pt s H C cl fp)) pe hs, lc_heart vi vg hsub hG vt ve⟩
end
end T

set_option Elab.async false
set_option linter.all false
set_option maxRecDepth 100000
set_option maxHeartbeats 4000000
/-! T-layer, part G: statements, loops, defs. -/
namespace T
open PySem PySem.Spec PyProof.Rows L2
variable [Mg]

inductive Out where
  | nx (ρ : Rho) | rt (d : D) | bk (ρ : Rho) | ct (ρ : Rho) | ex (e : Exn) (ρ : Rho) | no | rl (d : D) (ρ : Rho)
/-- the modes at a break, a continue; the mode of what is returned; what is kept at an exception, at a return with the slots (rl) -/
structure LM where
  bk : List Mode
  ct : List Mode
  rt : Mode
  ex : List Mode
  rl : List Mode
/-- from one ground to a later one: the base grows, the store's things keep their numbers -/
structure Gr (own : Own) (B : Hp) (own' : Own) (B' : Hp) : Prop where
  ext : Ext B B'
  le : ∀ (a : Addr) (n : Nat), own a = some [SH, n] → own' a = some [SH, n]
omit [Mg] in
theorem Gr.refl {own : Own} {B : Hp} : Gr own B own B := ⟨Same.refl B, fun _ _ h => h⟩
omit [Mg] in
theorem Gr.trans {own own' own2 : Own} {B B' B2 : Hp} (s : Gr own B own' B') (t : Gr own' B' own2 B2) : Gr own B own2 B2 := ⟨s.ext.trans t.ext, fun a n h => t.le a n (s.le a n h)⟩
omit [Mg] in
theorem Step.g {own : Own} {F B H B' H' : Hp} (s : Step own F B H B' H') : Gr own B own B' := ⟨s.ext, fun _ _ h => h⟩
omit [Mg] in
theorem Gr.drop {own : Own} {B : Hp} {i : Nat} : Gr own B (dropL own i) B := ⟨Same.refl B, fun _ _ h => dropL_st.mp h⟩
def PostS (X : Cx) (W : WX) (L : LM) (G' : List Mode) (F : Hp) (own : Own) (B : Hp) (D : Ends) : Out → Prop
  | .nx ρ => ∀ (own' : Own) (B' : Hp) (σ : L2.St) (H : Hp), Gr own B own' B' → Good X.K F G' ρ own' B' σ H → D.nx σ H
  | .bk ρ => ∀ (own' : Own) (B' : Hp) (σ : L2.St) (H : Hp), Gr own B own' B' → Good X.K F L.bk ρ own' B' σ H → D.bk σ H
  | .ct ρ => ∀ (own' : Own) (B' : Hp) (σ : L2.St) (H : Hp), Gr own B own' B' → Good X.K F L.ct ρ own' B' σ H → D.ct σ H
  | .rt d => ∀ (v : V) (own' : Own) (B' H : Hp), Ext B B' → Ground F own' B' H → VRep X.K B' H own' L.rt [0] v d → D.rt v H
  | .ex e ρ => ∀ (c : Value) (dx : Option Addr) (own' : Own) (B' : Hp) (σ : L2.St) (H : Hp), Gr own B own' B' → Good X.K F L.ex ρ own' B' σ H → ExR X.K X.mg B' H e c dx → W c dx σ H
  | .no => False
  | .rl d ρ => ∀ (v : V) (own' : Own) (B' : Hp) (σ : L2.St) (H : Hp), Gr own B own' B' → Good X.K F L.rl ρ own' B' σ H → VRep X.K B' H own' L.rt [0] v d → D.rt v H
/-- slot j keeps its mode -/
def keepsM (G G2 : List Mode) (j : Nat) : Bool := decide (G2.getD j Mode.fz = G.getD j Mode.fz) || decide (j + 1 = SH)
def leM (G2 G : List Mode) : Prop := ∀ j : Nat, G2.getD j Mode.fz = G.getD j Mode.fz ∨ G2.getD j Mode.fz = Mode.fz
def EvS (X : Cx) (W : WX) (L : LM) (G : List Mode) (t : TS) (f : Rho → Out) (G' : List Mode) : Prop :=
  leM L.ex G → ∀ (F : Hp) (ρ : Rho) (own : Own) (B : Hp) (σ : L2.St) (H : Hp) (D : Ends), Good X.K F G ρ own B σ H → PostS X W L G' F own B D (f ρ) → t D σ H
def SJ (X : Cx) (W : WX) (L : LM) (G : List Mode) (st : Stmt) (f : Rho → Out) (G' : List Mode) : Prop := ∃ t, PS X st t ∧ EvS X W L G t f G'
def SsJ (X : Cx) (W : WX) (L : LM) (G : List Mode) (st : List Stmt) (f : Rho → Out) (G' : List Mode) : Prop := ∃ t, PSs X st t ∧ EvS X W L G t f G'
theorem PostS.ext {X : Cx} {W : WX} {L : LM} {G' : List Mode} {F : Hp} {own own1 : Own} {B B1 : Hp} {D : Ends} (e : Gr own B own1 B1) : ∀ {o : Out}, PostS X W L G' F own B D o → PostS X W L G' F own1 B1 D o
  | .nx _, q => fun own B' σ H e' => q own B' σ H (e.trans e')
  | .bk _, q => fun own B' σ H e' => q own B' σ H (e.trans e')
  | .ct _, q => fun own B' σ H e' => q own B' σ H (e.trans e')
  | .rt _, q => fun v own B' H e' => q v own B' H (e.ext.trans e')
  | .ex _ _, q => fun c dx own B' σ H e' => q c dx own B' σ H (e.trans e')
  | .no, q => q
  | .rl _ _, q => fun v own B' σ H e' => q v own B' σ H (e.trans e')

/-! ### letting go: an owned slot freezes -/
theorem ExR.mono {K : PySem.W.Frag} {mg : Str → Option Value} {B B' H : Hp} {e : Exn} {c : Value} {dx : Option Addr} (x : ExR K mg B H e c dx) (h : Ext B B') : ExR K mg B' H e c dx := ⟨x.cls, by
  exact x.fs.mono h⟩
def leB : List Mode → List Mode → Bool
  | [], _ => true
  | m :: ms, [] => decide (m = Mode.fz) && leB ms []
  | m :: ms, n :: ns => (decide (m = n) || decide (m = Mode.fz)) && leB ms ns
omit [Mg] in
theorem leM_of : ∀ {G2 G : List Mode}, leB G2 G = true → leM G2 G
  | [], _, _, j => .inr (by simp)
  | m :: ms, [], h, j => by
    simp only [leB, Bool.and_eq_true, decide_eq_true_eq] at h
    cases j with
    | zero => exact .inr (by simpa using h.1)
    | succ j =>
      have := leM_of h.2 j
      simpa using this
  | m :: ms, n :: ns, h, j => by
    simp only [leB, Bool.and_eq_true, Bool.or_eq_true, decide_eq_true_eq] at h
    cases j with
    | zero => simpa using h.1
    | succ j =>
      have := leM_of h.2 j
      simpa using this
/-- the same, as a proposition -/
def leQ : List Mode → List Mode → Prop
  | [], _ => True
  | m :: ms, [] => m = Mode.fz ∧ leQ ms []
  | m :: ms, n :: ns => (m = n ∨ m = Mode.fz) ∧ leQ ms ns
omit [Mg] in
theorem leM_p : ∀ {G2 G : List Mode}, leQ G2 G → leM G2 G
  | [], _, _, j => .inr (by simp)
  | m :: ms, [], h, j => by
    cases j with
    | zero => exact .inr (by simpa using h.1)
    | succ j =>
      have := leM_p h.2 j
      simpa using this
  | m :: ms, n :: ns, h, j => by
    cases j with
    | zero => simpa using h.1
    | succ j =>
      have := leM_p h.2 j
      simpa using this
/-- what stays owned -/
def ownTo (G G2 : List Mode) (own : Own) : Own := fun a => match own a with
  | some ((j + 1) :: r) => if keepsM G G2 j then some ((j + 1) :: r) else none
  | _ => none
def baseTo (G G2 : List Mode) (own : Own) (B H : Hp) : Hp := fun a => match own a with
  | some ((j + 1) :: _) => if keepsM G G2 j then B a else H a
  | some _ => H a
  | none => B a
section
variable {K : PySem.W.Frag} {F B H : Hp} {own : Own} {G G2 : List Mode} {ρ : Rho} {σ : L2.St}
omit [Mg] in
theorem baseTo_ext (g : Ground F own B H) : Ext B (baseTo G G2 own B H) := fun a o e => by
  unfold baseTo
  rw [(g.base a o e).2]
  exact e
omit [Mg] in
theorem ground_to (g : Ground F own B H) : Ground F (ownTo G G2 own) (baseTo G G2 own B H) H where
  base := fun a o e => by
    unfold baseTo at e
    unfold ownTo
    split at e
    · rename_i j r hj
      rw [hj]
      split at e
      · have := g.bnone (a := a) (by rw [hj]; exact fun z => nomatch z)
        rw [this] at e
        cases e
      · rename_i hk
        simp [e, hk]
    · rename_i l hne hl
      refine ⟨e, ?_⟩
      rw [hl]
      split
      · rename_i j r hj
        cases hj
        exact (hne j r rfl).elim
      · rfl
    · rename_i hl
      rw [hl]
      exact ⟨(g.base a o e).1, rfl⟩
  frame := fun a o e => by
    obtain ⟨h1, h2, h3⟩ := g.frame a o e
    unfold ownTo baseTo
    rw [h2]
    exact ⟨h1, rfl, h3⟩
  live := fun a h => g.live a fun z => h (by unfold ownTo; rw [z])
mutual
theorem VRep.frozen (h0 : ∀ a o, B a = some o → own a = none) : ∀ {m : Mode} {j : Nat} {r : Lab} {v : V} {d : D}, keepsM G G2 j = false → VRep K B H own m ((j + 1) :: r) v d → Rp K (baseTo G G2 own B H) v d
  | .fz, j, r, v, d, hk, h => Rp.mono (fun a o e => by
      unfold baseTo
      rw [h0 a o e]
      exact e) h
  | .raw a dx, j, r, v, d, hk, ⟨h1, fs, h2, h3⟩ => by
    subst h1 h2
    exact .exc _ _
  | .own m, j, r, v, d, hk, ⟨l, vs, ds, hv, hd, ho, hl, hn, h⟩ => by
    subst hv hd
    refine .lst ?_ (RpA.of_get hn fun k v' d' h1 h2 => VRep.frozen h0 (r := r ++ [k]) hk (by simpa using h k v' d' h1 h2))
    unfold baseTo
    rw [ho]
    simp [hk, hl]
  | .dic, j, r, v, d, hk, ⟨l, o, ds, hv, hd, ho, hl, h⟩ => by
    subst hv hd
    refine .ofD (o := o) ?_ (h.mono fun a o e => by
      unfold baseTo
      rw [h0 a o e]
      exact e)
    unfold baseTo
    rw [ho]
    simp [hk, hl]
  | .ins c rm, j, r, v, d, hk, ⟨l, dx, vs, ds, hv, hd, ho, hl, hn, h⟩ => by
    subst hv hd
    refine .ins (dx := dx) ?_ hn (VFs.frozen h0 hk h)
    unfold baseTo
    rw [ho]
    simp [hk, hl]
  | .at a m, j, r, v, d, hk, ⟨h1, h2⟩ => VRep.frozen h0 hk h2
  | .any, j, r, v, d, hk, h => by
    have h' : AnyR K B own v d := h
    rcases h' with ⟨_, h1⟩ | ⟨n, a, h1, h2, _⟩
    · exact Rp.mono (fun a o e => by
        unfold baseTo
        rw [h0 a o e]
        exact e) h1
    · subst h1 h2
      exact .exc _ _
  | .sto, j, r, v, d, hk, ⟨h1, os, h2, h3⟩ => by
    subst h1 h2
    exact .exc _ _
  | .fnil, _, _, _, _, _, h => h.elim
  | .fcons _ _, _, _, _, _, _, h => h.elim
theorem VFs.frozen (h0 : ∀ a o, B a = some o → own a = none) : ∀ {m : Mode} {j : Nat} {r : Lab} {k : Nat} {vs : List V} {ds : List D}, keepsM G G2 j = false → VFs K B H own m ((j + 1) :: r) k vs ds → RpA K (baseTo G G2 own B H) vs ds
  | .fnil, _, _, _, _, _, _, ⟨h1, h2⟩ => by
    subst h1 h2
    exact .nil
  | .fcons m rm, j, r, k, _, _, hk, ⟨v, d, vs', ds', h1, h2, h3, h4⟩ => by
    subst h1 h2
    exact .cons (VRep.frozen h0 (r := r ++ [k]) hk (by simpa using h3)) (VFs.frozen h0 hk h4)
  | .fz, _, _, _, _, _, _, h => h.elim
  | .own _, _, _, _, _, _, _, h => h.elim
  | .raw _ _, _, _, _, _, _, _, h => h.elim
  | .dic, _, _, _, _, _, _, h => h.elim
  | .ins _ _, _, _, _, _, _, _, h => h.elim
  | .at _ _, _, _, _, _, _, _, h => h.elim
  | .any, _, _, _, _, _, _, h => h.elim
  | .sto, _, _, _, _, _, _, h => h.elim
end
omit [Mg] in
theorem ownTo_some {a : Addr} {l : Lab} (h : ownTo G G2 own a = some l) : own a = some l := by
  unfold ownTo at h
  split at h
  · rename_i e
    split at h
    · rw [e]
      exact h
    · cases h
  · cases h
omit [Mg] in
theorem ownTo_st {a : Addr} {r : Lab} : own a = some (SH :: r) ↔ ownTo G G2 own a = some (SH :: r) := by
  refine ⟨fun h => ?_, ownTo_some⟩
  unfold ownTo
  rw [h]
  show (if keepsM G G2 999999 = true then _ else _) = _
  rw [if_pos (by simp [keepsM])]
omit [Mg] in
theorem to_gr (g : Ground F own B H) : Gr own B (ownTo G G2 own) (baseTo G G2 own B H) := ⟨baseTo_ext g, fun _ _ h => ownTo_st.mp h⟩
theorem VRep.kept (h0 : ∀ a o, B a = some o → own a = none) {m : Mode} {j : Nat} {r : Lab} {v : V} {d : D} (hk : keepsM G G2 j = true) (h : VRep K B H own m ((j + 1) :: r) v d) : VRep K (baseTo G G2 own B H) H (ownTo G G2 own) m ((j + 1) :: r) v d :=
  VRep.carry ⟨fun a o e => by
    unfold baseTo
    rw [h0 a o e]
    exact e, fun l r' e => ⟨by
    have e' : own l = some ((j + 1) :: (r ++ r')) := by simpa using e
    unfold ownTo
    rw [e']
    simp [hk], rfl⟩, ⟨fun _ _ _ => ownTo_st, fun _ _ _ _ => rfl⟩⟩ h
/-- GHOST: slots freeze -/
theorem Good.to (g : Good K F G ρ own B σ H) (hle : leM G2 G) : Good K F G2 ρ (ownTo G G2 own) (baseTo G G2 own B H) σ H where
  gr := ground_to g.gr
  len := g.len
  slots := fun i d e => by
    obtain ⟨v, h1, h2⟩ := g.slots i d e
    refine ⟨v, h1, ?_⟩
    have h0 : ∀ a o, B a = some o → own a = none := fun a o e => (g.gr.base a o e).2
    have hi : i + 1 ≠ SH := by
      have h3 := g.len
      have h4 := (List.getElem?_eq_some_iff.mp e).1
      show i + 1 ≠ 1000000
      omega
    by_cases hk : keepsM G G2 i = true
    · have e2 : G2.getD i Mode.fz = G.getD i Mode.fz := by simpa [keepsM, hi] using hk
      rw [e2]
      exact VRep.kept h0 hk h2
    · have hk' : keepsM G G2 i = false := by simpa using hk
      rcases hle i with z | z
      · exact absurd (by unfold keepsM; rw [z]; simp) hk
      · rw [z]
        exact VRep.frozen h0 hk' h2
theorem Good.all (g : Good K F G ρ own B σ H) : ∃ B', Ext B B' ∧ Good K F [] ρ (fun _ => none) B' σ H := by
  have hle : leM [] G := fun j => .inr (by simp)
  have g2 := g.to hle
  refine ⟨_, baseTo_ext (G := G) (G2 := []) g.gr, ⟨⟨fun a o e => ⟨(g2.gr.base a o e).1, rfl⟩, fun a o e => ⟨(g2.gr.frame a o e).1, rfl, (g2.gr.frame a o e).2.2⟩, fun a h => absurd rfl h⟩, g2.len, fun i d e => ?_⟩⟩
  obtain ⟨v, h1, h2⟩ := g2.slots i d e
  exact ⟨v, h1, h2⟩
end
section
variable {X : Cx} {W : WX} {L : LM} {G G' G2 : List Mode} {st : Stmt} {sts : List Stmt} {f : Rho → Out}
theorem ev_to {t : TS} (h : EvS X W L G2 t f G') (hle : leM G2 G) (h2 : leM L.ex G2) : EvS X W L G t f G' := fun hx F ρ own B σ H D gd q =>
  h h2 F ρ _ _ σ H D (gd.to hle) (q.ext (to_gr gd.gr))
theorem ev_out {t : TS} (h : EvS X W L G t f G') (hle : leM G2 G') : EvS X W L G t f G2 := fun hx F ρ own B σ H D gd q => by
  refine h hx F ρ own B σ H D gd ?_
  cases e : f ρ with
  | nx ρ' =>
    rw [e] at q
    exact fun own B' σ H e' g' => q _ _ σ H (e'.trans (to_gr g'.gr)) (g'.to hle)
  | _ =>
    rw [e] at q
    exact q
theorem ssj_to (h : SsJ X W L G2 sts f G') (hle : leQ G2 G) (h2 : leQ L.ex G2 := by first | exact True.intro | (repeat (first | exact True.intro | refine And.intro (Or.inl rfl) ?_ | refine And.intro (Or.inr rfl) ?_ | refine And.intro rfl ?_))) : SsJ X W L G sts f G' := let ⟨t, p, v⟩ := h; ⟨t, p, ev_to v (leM_p hle) (leM_p h2)⟩
theorem ssj_out (h : SsJ X W L G sts f G') (hle : leQ G2 G') : SsJ X W L G sts f G2 := let ⟨t, p, v⟩ := h; ⟨t, p, ev_out v (leM_p hle)⟩
theorem sj_to (h : SJ X W L G2 st f G') (hle : leQ G2 G) (h2 : leQ L.ex G2 := by first | exact True.intro | (repeat (first | exact True.intro | refine And.intro (Or.inl rfl) ?_ | refine And.intro (Or.inr rfl) ?_ | refine And.intro rfl ?_))) : SJ X W L G st f G' := let ⟨t, p, v⟩ := h; ⟨t, p, ev_to v (leM_p hle) (leM_p h2)⟩

/-- an expression's exception leaves a statement -/
theorem WOk.out {F B H : Hp} {own : Own} {ρ : Rho} {σ : L2.St} {e : Exn} {D : Ends} (hx : leM L.ex G) (g : Good X.K F G ρ own B σ H) (q : PostS X W L G' F own B D (.ex e ρ)) : WOk X.K X.mg W own F B H σ e := fun c dx B' H' s x => by
  have g2 := (g.step s).to hx
  exact q c dx _ _ σ H' (s.g.trans (to_gr (g.step s).gr)) g2 (x.mono (baseTo_ext (g.step s).gr))
/-- what an expression gives goes on -/
def thenS {α : Type} (r : Res α) (ρ : Rho) (k : α → Out) : Out := match r with
  | .ok a => k a
  | .ex e => .ex e ρ
  | .no => .no
theorem thenS_has {α : Type} {r : Res α} {F B H : Hp} {own : Own} {ρ : Rho} {σ : L2.St} {D : Ends} {k : α → Out} (hx : leM L.ex G) (g : Good X.K F G ρ own B σ H) (q : PostS X W L G' F own B D (thenS r ρ k)) : r.has (fun a => PostS X W L G' F own B D (k a)) (WOk X.K X.mg W own F B H σ) := by
  cases r with
  | ok a => exact q
  | ex e => exact WOk.out hx g q
  | no => exact q

/-! ### blocks -/
def sSkip : Rho → Out := .nx
def sSeq (f g : Rho → Out) : Rho → Out := fun ρ => match f ρ with
  | .nx ρ' => g ρ'
  | o => o
theorem ssj_nil : SsJ X W L G [] sSkip G := ⟨_, pss_nil, fun hx F ρ own B σ H D gd q => q own B σ H Gr.refl gd⟩
theorem ssj_one (h : SJ X W L G st f G') : SsJ X W L G [st] f G' := let ⟨t, p, v⟩ := h; ⟨t, pss_one p, v⟩
theorem ssj_cons {g : Rho → Out} (h : SJ X W L G st f G2) (h' : SsJ X W L G2 sts g G') (h2 : leQ L.ex G2 := by first | exact True.intro | (repeat (first | exact True.intro | refine And.intro (Or.inl rfl) ?_ | refine And.intro (Or.inr rfl) ?_ | refine And.intro rfl ?_))) : SsJ X W L G (st :: sts) (sSeq f g) G' := by
  obtain ⟨t, p, v⟩ := h
  obtain ⟨u, p', v'⟩ := h'
  refine ⟨_, pss_cons p p', fun hx F ρ own B σ H D gd q => ?_⟩
  refine v hx F ρ own B σ H _ gd ?_
  unfold sSeq at q
  cases e : f ρ with
  | nx ρ' =>
    rw [e] at q
    exact fun own B' σ H e' g' => v' (leM_p h2) F ρ' own B' σ H D g' (q.ext e')
  | _ =>
    rw [e] at q
    exact q
theorem sj_pass {pos : Pos} : SJ X W L G (.Pass pos) sSkip G := ⟨_, ps_pass, fun hx F ρ own B σ H D gd q => q own B σ H Gr.refl gd⟩
theorem sj_break {pos : Pos} (h : leQ L.bk G := by first | exact True.intro | (repeat (first | exact True.intro | refine And.intro (Or.inl rfl) ?_ | refine And.intro (Or.inr rfl) ?_ | refine And.intro rfl ?_))) : SJ X W L G (.Break pos) .bk G' := ⟨_, ps_break, fun hx F ρ own B σ H D gd q => q _ _ σ H (to_gr gd.gr) (gd.to (leM_p h))⟩
theorem sj_cont {pos : Pos} (h : leQ L.ct G := by first | exact True.intro | (repeat (first | exact True.intro | refine And.intro (Or.inl rfl) ?_ | refine And.intro (Or.inr rfl) ?_ | refine And.intro rfl ?_))) : SJ X W L G (.Continue pos) .ct G' := ⟨_, ps_continue, fun hx F ρ own B σ H D gd q => q _ _ σ H (to_gr gd.gr) (gd.to (leM_p h))⟩
theorem sj_never : SJ X W L G st (fun _ => .no) G' := ⟨_, ps_never, fun hx F ρ own B σ H D gd q => q.elim⟩
def sIf (c : Rho → Res Bool) (f g : Rho → Out) : Rho → Out := fun ρ => thenS (c ρ) ρ fun b => if b = true then f ρ else g ρ
theorem sj_if {c : Expr} {a b : List Stmt} {gc : Rho → Res Bool} {g : Rho → Out} {pos : Pos} (hc : TJ X W G c gc) (ha : SsJ X W L G a f G') (hb : SsJ X W L G b g G') : SJ X W L G (.If c a b pos) (sIf gc f g) G' := by
  obtain ⟨tc, pc, vc⟩ := hc
  obtain ⟨ta, pa, va⟩ := ha
  obtain ⟨tb, pb, vb⟩ := hb
  refine ⟨_, ps_if pc pa pb, fun hx F ρ own B σ H D gd q => ?_⟩
  refine vc F ρ own B σ H _ gd (Res.has_mono (thenS_has hx gd q) (fun b q B' H' s => ?_) fun _ x => x)
  cases b with
  | true => exact va hx F ρ own B' σ H' D (gd.step s) (q.ext s.g)
  | false => exact vb hx F ρ own B' σ H' D (gd.step s) (q.ext s.g)

/-! ### assignments -/
variable {e : Expr} {x : Str} {i : Nat} {pos px : Pos}
def sSet (i : Nat) (g : Rho → Res D) : Rho → Out := fun ρ => thenS (g ρ) ρ fun d => .nx (ρ.set i (some d))
def sSetN (i : Nat) (g : Rho → Res (List D)) : Rho → Out := fun ρ => thenS (g ρ) ρ fun d => .nx (ρ.set i (some (.lst d)))
theorem ev_set {te : TE} {g : Rho → Res D} (v : Ev X W G te g) : EvS X W L G (tAsg te (gName i)) (sSet i g) (G.set i Mode.fz) := fun hx F ρ own B σ H D gd q => by
  refine v F ρ own B σ H _ gd (Res.has_mono (thenS_has hx gd q) (fun d q u B' H' s r => ?_) fun _ x => x)
  exact q _ B' _ H' (s.g.trans .drop) ((gd.step s).set r)
theorem sj_set {g : Rho → Res D} (hN : X.N.Nodup) (hi : X.N[i]? = some x) (hx : Loc X.env.scope x) (he : EJ X W G e g) (hs : swapsWith e (some (.Name x px)) pos.line X.env = pure false := by rfl)
    (hf : X.fn x = true ∨ X.env.scope.names.lookup x = some .local := by first | exact .inl rfl | exact .inr rfl | assumption) : SJ X W L G (.Assign [.Name x px] e pos) (sSet i g) (G.set i Mode.fz) := by
  obtain ⟨te, pe, ve⟩ := he
  exact ⟨_, ps_set hN hi hx pe hs hf, ev_set ve⟩
omit [Mg] in
theorem new_st {own : Own} {p a : Addr} {i n : Nat} {r : Lab} (ho : own p = none) : own a = some (SH :: n :: r) ↔ (if a = p then some [i + 1] else dropL own (i + 1) a) = some (SH :: n :: r) := by
  by_cases h : a = p
  · subst h
    rw [ho, if_pos rfl]
    simp
  · rw [if_neg h]
    exact dropL_st
/-- a new list becomes the slot's own -/
theorem Good.setN {K : PySem.W.Frag} {F B H B' H' : Hp} {own : Own} {ρ : Rho} {σ : L2.St} {p : Addr} {vs : List V} {ds : List D} (g : Good K F G ρ own B σ H) (s : Step own F B H B' H') (hB : B' p = none) (hF : F p = none) (ho : own p = none) (hp : H' p = some (.lst vs)) (r : RpA K B' vs ds)
    (hi : (G.set i (Mode.own Mode.fz)).getD i Mode.fz = Mode.own Mode.fz) : Good K F (G.set i (Mode.own Mode.fz)) (ρ.set i (some (.lst ds))) (fun a => if a = p then some [i + 1] else dropL own (i + 1) a) B' (σ.set i (some (.ref p))) H' := by
  have g1 := g.step s
  refine ⟨⟨fun a o e => ?_, fun a o e => ?_, fun a h => ?_⟩, by simpa using g.len, fun j d e => ?_⟩
  · have ne : a ≠ p := fun z => by
      rw [z, hB] at e
      cases e
    simp only [ne, if_false]
    exact ⟨(g1.gr.base a o e).1, none_back (fun a l h => dropL_some h) (g1.gr.base a o e).2⟩
  · have ne : a ≠ p := fun z => by
      rw [z, hF] at e
      cases e
    simp only [ne, if_false]
    exact ⟨(g1.gr.frame a o e).1, none_back (fun a l h => dropL_some h) (g1.gr.frame a o e).2.1, (g1.gr.frame a o e).2.2⟩
  · by_cases ha : a = p
    · rw [ha, hp]
      exact fun z => nomatch z
    · simp only [ha, if_false] at h
      exact g1.gr.live a fun z => h (none_back (fun a l h => dropL_some h) z)
  · have hl := g.len
    by_cases hj : i = j
    · subst hj
      have hlt : i < ρ.length := by
        have := (List.getElem?_eq_some_iff.mp e).1
        simpa using this
      rw [List.getElem?_set_self hlt] at e
      cases e
      refine ⟨.ref p, List.getElem?_set_self (by omega), ?_⟩
      rw [hi]
      refine ⟨p, vs, ds, rfl, rfl, by simp, hp, r.len, fun k v' d' h1 h2 => ?_⟩
      obtain ⟨d2, e1, e2⟩ := r.get' h1
      rw [h2] at e1
      cases e1
      exact e2
    · rw [List.getElem?_set_ne hj] at e
      obtain ⟨w, h1, h2⟩ := g1.slots j d e
      refine ⟨w, by rw [List.getElem?_set_ne hj]; exact h1, ?_⟩
      have e1 : (G.set i (Mode.own Mode.fz)).getD j Mode.fz = G.getD j Mode.fz := by simp [List.getD, List.getElem?_set_ne hj]
      rw [e1]
      refine VRep.own_congr (fun a r e => ?_) (fun a n r => new_st ho) h2
      have ne : a ≠ p := fun z => by
        rw [z, ho] at e
        cases e
      simp only [ne, if_false]
      exact dropL_ne e (by omega)
theorem ev_setN {te : TE} {g : Rho → Res (List D)} (v : EvN X W G te g) (hi : (G.set i (Mode.own Mode.fz)).getD i Mode.fz = Mode.own Mode.fz) : EvS X W L G (tAsg te (gName i)) (sSetN i g) (G.set i (Mode.own Mode.fz)) := fun hx F ρ own B σ H D gd q => by
  refine v F ρ own B σ H _ gd (Res.has_mono (thenS_has hx gd q) (fun d q p vs B' H' s hB hF ho hp r => ?_) fun _ x => x)
  exact q _ B' _ H' (s.g.trans ⟨Same.refl _, fun a n h => (new_st ho).mp h⟩) (gd.setN s hB hF ho hp r hi)
theorem sj_setN {g : Rho → Res (List D)} (hN : X.N.Nodup) (hi : X.N[i]? = some x) (hx : Loc X.env.scope x) (he : NJ X W G e g) (hm : (G.set i (Mode.own Mode.fz)).getD i Mode.fz = Mode.own Mode.fz := by rfl) (hs : swapsWith e (some (.Name x px)) pos.line X.env = pure false := by rfl)
    (hf : X.fn x = true ∨ X.env.scope.names.lookup x = some .local := by first | exact .inl rfl | exact .inr rfl | assumption) : SJ X W L G (.Assign [.Name x px] e pos) (sSetN i g) (G.set i (Mode.own Mode.fz)) := by
  obtain ⟨te, pe, ve⟩ := he
  exact ⟨_, ps_set hN hi hx pe hs hf, ev_setN ve hm⟩
theorem sj_lc {g : Rho → Res (List D)} (h : LcJ X W G x px i e pos g) : SJ X W L G (.Assign [.Name x px] e pos) (sSet i (lstD g)) (G.set i Mode.fz) := by
  obtain ⟨te, ps, ve⟩ := h
  exact ⟨_, ps, ev_set ve.ev⟩
theorem sj_lcN {g : Rho → Res (List D)} (h : LcJ X W G x px i e pos g) (hm : (G.set i (Mode.own Mode.fz)).getD i Mode.fz = Mode.own Mode.fz := by rfl) : SJ X W L G (.Assign [.Name x px] e pos) (sSetN i g) (G.set i (Mode.own Mode.fz)) := by
  obtain ⟨te, ps, ve⟩ := h
  exact ⟨_, ps, ev_setN ve hm⟩
/-- a, b, .. = e -/
def sUnp (b : Bnd) (g : Rho → Res D) : Rho → Out := fun ρ => thenS (g ρ) ρ fun d => match b d ρ with
  | some ρ' => .nx ρ'
  | none => .no
theorem sj_unp {tg : Expr} {b : Bnd} {is : List Nat} {g : Rho → Res D} (he : EJ X W G e g) (hg : GJ X tg b is) (hG : ∀ i ∈ is, G.getD i Mode.fz = Mode.fz) (h1 : (assignEach [tg] X.env).map (·.2) = [assign tg X.env] := by rfl) (hs : swapsWithSole [tg] e pos.line X.env = pure false := by rfl) (hw : swappedStores [tg] e X.env = pure none := by rfl) :
    SJ X W L G (.Assign [tg] e pos) (sUnp b g) G := by
  obtain ⟨te, pe, ve⟩ := he
  obtain ⟨tg', pg, vg⟩ := hg
  refine ⟨_, ps_asg pe pg hs hw h1, fun hx F ρ own B σ H D gd q => ?_⟩
  refine ve F ρ own B σ H _ gd (Res.has_mono (thenS_has hx gd q) (fun d q u B' H' s r => ?_) fun _ x => x)
  cases hb : b d ρ with
  | none =>
    rw [hb] at q
    exact q.elim
  | some ρ' =>
    rw [hb] at q
    exact vg F own B' σ H' G ρ ρ' u d _ (gd.step s) r hb hG fun σ' g' _ => q own B' σ' H' s.g g'
/-- x += e, ints -/
def sAug (h : Int → Int → Int) (i : Nat) (g : Rho → Res D) : Rho → Out := fun ρ => match ρ[i]? with
  | some (some (.int a)) => thenS (g ρ) ρ fun d => match d with
    | .int b => .nx (ρ.set i (some (.int (h a b))))
    | _ => .no
  | _ => .no
theorem sj_aug {g : Rho → Res D} {op : Operator} {h : Int → Int → Int} (ho : PIp X op (ipI h)) (hN : X.N.Nodup) (hi : X.N[i]? = some x) (hx : Loc X.env.scope x) (hm : G.getD i Mode.fz = Mode.fz) (he : BJ X W G e g)
    (hf : X.fn x = true ∨ X.env.scope.names.lookup x = some .local := by first | exact .inl rfl | exact .inr rfl | assumption) : SJ X W L G (.AugAssign (.Name x px) op e pos) (sAug h i g) G := by
  obtain ⟨te, pe, ve⟩ := he
  refine ⟨_, ps_aug hN hi hx pe ho hf, fun hx F ρ own B σ H D gd q => ?_⟩
  unfold sAug at q
  split at q
  · rename_i a ha
    obtain ⟨v, h1, h2⟩ := gd.slots i _ ha
    rw [hm] at h2
    cases h2
    refine ⟨_, h1, ve F ρ own B σ H _ gd (Res.has_mono (thenS_has hx gd q) (fun d q u B' H' s r => ?_) fun _ x => x)⟩
    cases d with
    | int b =>
      cases r.int
      exact ⟨a, b, rfl, rfl, q own B' _ H' s.g ((gd.step s).set0 hm (.int _))⟩
    | _ => exact q.elim
  · exact q.elim

/-! ### an owned list changes -/
section
variable {K : PySem.W.Frag} {F B H : Hp} {own : Own} {ρ : Rho} {σ : L2.St}
theorem Good.ownAt {d : D} (g : Good K F G ρ own B σ H) (hG : G.getD i Mode.fz = Mode.own Mode.fz) (hρ : ρ[i]? = some (some d)) :
    ∃ (l : Addr) (vs : List V) (ds : List D), σ[i]? = some (some (.ref l)) ∧ d = .lst ds ∧ own l = some [i + 1] ∧ H l = some (.lst vs) ∧ RpA K B vs ds := by
  obtain ⟨v, h1, h2⟩ := g.slots i d hρ
  rw [hG] at h2
  obtain ⟨l, vs, ds, rfl, rfl, ho, hl, hn, h⟩ := h2
  exact ⟨l, vs, ds, h1, rfl, ho, hl, RpA.of_get hn h⟩
theorem VRep.upd {l : Addr} {o : HO} {lb : Lab} (ho : own l = some lb) {m : Mode} {lab : Lab} {v : V} {d : D} (ne : ∀ r, lab ++ r ≠ lb) (h : VRep K B H own m lab v d) (hs : ∀ n r, lb ≠ SH :: n :: r := by intro _ _ z; cases z) : VRep K B (upd H l o) own m lab v d :=
  VRep.carry ⟨Same.refl B, fun l' r e => ⟨e, by
    rw [upd_ne]
    intro z
    rw [z, ho] at e
    exact ne r (Option.some.inj e).symm⟩, ⟨fun _ _ _ => .rfl, fun l' n r e => by
    rw [upd_ne]
    intro z
    rw [z, ho] at e
    exact hs n r (Option.some.inj e)⟩⟩ h
theorem Good.mut {l : Addr} {vs : List V} {ds : List D} (g : Good K F G ρ own B σ H) (hG : G.getD i Mode.fz = Mode.own Mode.fz) (hσ : σ[i]? = some (some (.ref l))) (ho : own l = some [i + 1]) (r : RpA K B vs ds) :
    Good K F G (ρ.set i (some (.lst ds))) own B σ (upd H l (.lst vs)) := by
  have hoN : own l ≠ none := by rw [ho]; exact fun z => nomatch z
  refine ⟨⟨fun a o e => ?_, fun a o e => ?_, fun a h => ?_⟩, by simpa using g.len, fun j d e => ?_⟩
  · have ne : a ≠ l := fun z => hoN (by rw [← z]; exact (g.gr.base a o e).2)
    rw [upd_ne ne]
    exact g.gr.base a o e
  · have ne : a ≠ l := fun z => hoN (by rw [← z]; exact (g.gr.frame a o e).2.1)
    rw [upd_ne ne]
    exact g.gr.frame a o e
  · by_cases ha : a = l
    · rw [ha, upd_same]
      exact fun z => nomatch z
    · rw [upd_ne ha]
      exact g.gr.live a h
  · by_cases hj : i = j
    · subst hj
      have hlt : i < ρ.length := by
        have := (List.getElem?_eq_some_iff.mp e).1
        simpa using this
      rw [List.getElem?_set_self hlt] at e
      cases e
      refine ⟨.ref l, hσ, ?_⟩
      rw [hG]
      refine ⟨l, vs, ds, rfl, rfl, ho, upd_same, r.len, fun k v' d' h1 h2 => ?_⟩
      obtain ⟨d2, e1, e2⟩ := r.get' h1
      rw [h2] at e1
      cases e1
      exact e2
    · rw [List.getElem?_set_ne hj] at e
      obtain ⟨w, h1, h2⟩ := g.slots j d e
      refine ⟨w, h1, VRep.upd ho (fun r z => ?_) h2⟩
      have := (List.cons.inj z).1
      omega
end
/-- what the owned list of slot i becomes -/
def atL (i : Nat) (ρ : Rho) (k : List D → Out) : Out := match ρ[i]? with
  | some (some (.lst xs)) => k xs
  | _ => .no
theorem atL_has {F B H : Hp} {own : Own} {ρ : Rho} {σ : L2.St} {D : Ends} {k : List T.D → Out} (g : Good X.K F G ρ own B σ H) (hG : G.getD i Mode.fz = Mode.own Mode.fz) (q : PostS X W L G' F own B D (atL i ρ k)) :
    ∃ (l : Addr) (vs : List V) (ds : List T.D), σ[i]? = some (some (.ref l)) ∧ ρ[i]? = some (some (.lst ds)) ∧ own l = some [i + 1] ∧ H l = some (.lst vs) ∧ RpA X.K B vs ds ∧ PostS X W L G' F own B D (k ds) := by
  unfold atL at q
  split at q
  · rename_i xs hx
    obtain ⟨l, vs, ds, h1, h2, h3, h4, h5⟩ := g.ownAt hG hx
    cases h2
    exact ⟨l, vs, xs, h1, hx, h3, h4, h5, q⟩
  · exact q.elim
def sApp (i : Nat) (g : Rho → Res D) : Rho → Out := fun ρ => atL i ρ fun xs => thenS (g ρ) ρ fun d => if xs.length < sizeLine then .nx (ρ.set i (some (.lst (xs ++ [d])))) else .no
variable {apos cpos : Pos}
theorem sj_app {g : Rho → Res D} (hv : PE X (.Name x px) (tVar i)) (hm : G.getD i Mode.fz = Mode.own Mode.fz) (he : EJ X W G e g)
    (hs : swapsWith (.Call (.Attribute (.Name x px) "append" apos) [e] [] cpos) none pos.line X.env = pure false := by rfl) (hbase : attributeBase (.Name x px) "append" X.env (eval (.Name x px) X.env) = eval (.Name x px) X.env := by rfl)
    (hfew : ((backTo cpos (starEach [e] X.env)).all (fun x => !x.1) && (backToKw cpos (keywordEach [] X.env)).all (fun x => x.1.isSome)
      && decide ([e].length + ([] : List Keyword).length + (if ([] : List Keyword).isEmpty then 0 else 1) < 30)) = true := by rfl)
    (hline : (apos.endLine == cpos.line) = true := by rfl) (hst : starEach [e] X.env = (false, eval e X.env) :: starEach [] X.env := by rfl) (hplain : (backTo cpos (starEach [] X.env)).any (·.1) = false := by rfl) :
    SJ X W L G (.Expr (.Call (.Attribute (.Name x px) "append" apos) [e] [] cpos) pos) (sApp i g) G := by
  obtain ⟨te, pe, ve⟩ := he
  refine ⟨_, ps_expr (pe_bm PySem.F.plainAttrs_list PySem.F.slot_list_append PySem.F.type_list_append mt_append hv (pa_cons pe pa_nil hst) hbase hfew hline hst hplain) hs, fun hx F ρ own B σ H D gd q => ?_⟩
  obtain ⟨l, vs, ds, h1, h2, h3, h4, h5, q⟩ := atL_has gd hm q
  refine ⟨.ref l, h1, .inl ⟨rfl, vs, .inl (.inl h4)⟩, ?_⟩
  refine ve F ρ own B σ H _ gd (Res.has_mono (thenS_has hx gd q) (fun d q u B' H' s r => ?_) fun _ x => x)
  split at q
  · rename_i hz
    have hoN : own l ≠ none := by rw [h3]; exact fun z => nomatch z
    refine ⟨l, vs, u, rfl, rfl, (s.ownd l hoN).1.trans h4, by rw [h5.len]; exact hz, ?_⟩
    exact q own B' σ _ s.g ((gd.step s).mut hm h1 h3 ((h5.mono s.ext).app (.cons r .nil)))
  · exact q.elim
def sSetI (i : Nat) (gk g : Rho → Res D) : Rho → Out := fun ρ => thenS (g ρ) ρ fun d => atL i ρ fun xs => thenS (gk ρ) ρ fun k => match k with
  | .int k => match ixN xs.length k with
    | some j => .nx (ρ.set i (some (.lst (xs.set j d))))
    | none => .no
  | _ => .no
theorem sj_setI {k : Expr} {sp : Pos} {g gk : Rho → Res D} (hv : PE X (.Name x px) (tVar i)) (hm : G.getD i Mode.fz = Mode.own Mode.fz) (he : EJ X W G e g) (hk : BJ X W G k gk)
    (hg : ∀ {to ti : TE}, PE X (.Name x px) to → PE X k ti → PG X (.Subscript (.Name x px) k sp) (gSub to ti rSetL)) (h1 : (assignEach [.Subscript (.Name x px) k sp] X.env).map (·.2) = [assign (.Subscript (.Name x px) k sp) X.env] := by rfl) (hs : swapsWithSole [.Subscript (.Name x px) k sp] e pos.line X.env = pure false := by rfl) (hw : swappedStores [.Subscript (.Name x px) k sp] e X.env = pure none := by rfl) :
    SJ X W L G (.Assign [.Subscript (.Name x px) k sp] e pos) (sSetI i gk g) G := by
  obtain ⟨te, pe, ve⟩ := he
  obtain ⟨tk, pk, vk⟩ := hk
  refine ⟨_, ps_asg pe (hg hv pk) hs hw h1, fun hx F ρ own B σ H D gd q => ?_⟩
  refine ve F ρ own B σ H _ gd (Res.has_mono (thenS_has hx gd q) (fun d q u B' H' s r => ?_) fun _ x => x)
  have g1 := gd.step s
  obtain ⟨l, vs, ds, h1, h2, h3, h4, h5, q⟩ := atL_has g1 hm (q.ext s.g)
  refine ⟨.ref l, h1, ?_⟩
  refine vk F ρ own B' σ H' _ g1 (Res.has_mono (thenS_has hx g1 q) (fun dk q w B2 H2 s2 r2 => ?_) fun _ x => x)
  cases dk with
  | int k =>
    cases r2.int
    simp only at q
    cases hj : ixN ds.length k with
    | none =>
      rw [hj] at q
      exact q.elim
    | some j =>
      rw [hj] at q
      have hoN : own l ≠ none := by rw [h3]; exact fun z => nomatch z
      refine ⟨l, vs, k, j, rfl, rfl, (s2.ownd l hoN).1.trans h4, by rw [h5.len]; exact hj, ?_⟩
      exact q own B2 σ _ s2.g ((g1.step s2).mut hm h1 h3 ((h5.mono s2.ext).set j (r.mono s2.ext)))
  | _ => exact q.elim

/-! ### return -/
def sRet (g : Rho → Res D) : Rho → Out := fun ρ => thenS (g ρ) ρ .rt
def sRetN (g : Rho → Res (List D)) : Rho → Out := fun ρ => thenS (g ρ) ρ fun ds => .rt (.lst ds)
theorem sj_ret {g : Rho → Res D} (he : EJ X W G e g) (hm : L.rt = Mode.fz := by rfl) : SJ X W L G (.Return (some e) pos) (sRet g) G' := by
  obtain ⟨te, pe, ve⟩ := he
  refine ⟨_, ps_ret pe, fun hx F ρ own B σ H D gd q => ?_⟩
  refine ve F ρ own B σ H _ gd (Res.has_mono (thenS_has hx gd q) (fun d q u B' H' s r => ?_) fun _ x => x)
  refine q u own B' H' s.ext (gd.gr.step s) ?_
  rw [hm]
  exact r
theorem sj_retN {g : Rho → Res (List D)} (he : NJ X W G e g) (hm : L.rt = Mode.own Mode.fz := by rfl) : SJ X W L G (.Return (some e) pos) (sRetN g) G' := by
  obtain ⟨te, pe, ve⟩ := he
  refine ⟨_, ps_ret pe, fun hx F ρ own B σ H D gd q => ?_⟩
  refine ve F ρ own B σ H _ gd (Res.has_mono (thenS_has hx gd q) (fun d q p vs B' H' s hB hF ho hp r => ?_) fun _ x => x)
  have g1 := gd.gr.step s
  refine q (.ref p) (fun a => if a = p then some [0] else none) B' H' s.ext ⟨fun a o e => ⟨(g1.base a o e).1, ?_⟩, fun a o e => ⟨(g1.frame a o e).1, ?_, (g1.frame a o e).2.2⟩, fun a h => ?_⟩ ?_
  · have ne : a ≠ p := fun z => by
      rw [z, hB] at e
      cases e
    simp [ne]
  · have ne : a ≠ p := fun z => by
      rw [z, hF] at e
      cases e
    simp [ne]
  · by_cases ha : a = p
    · rw [ha, hp]
      exact fun z => nomatch z
    · simp [ha] at h
  · rw [hm]
    refine ⟨p, vs, d, rfl, rfl, by simp, hp, r.len, fun k v' d' h1 h2 => ?_⟩
    obtain ⟨d2, e1, e2⟩ := r.get' h1
    rw [h2] at e1
    cases e1
    exact e2
/-- return x, x an owned list -/
theorem sj_retV (hv : PE X (.Name x px) (tVar i)) (hG : G.getD i Mode.fz = Mode.own Mode.fz := by rfl) (hm : L.rt = Mode.own Mode.fz := by rfl) : SJ X W L G (.Return (some (.Name x px)) pos) (sRet (getV i)) G' := by
  refine ⟨_, ps_ret hv, fun hx F ρ own B σ H D gd q => ?_⟩
  unfold sRet getV at q
  cases e : ρ[i]? with
  | none =>
    rw [e] at q
    exact q.elim
  | some o =>
    cases o with
    | none =>
      rw [e] at q
      exact q.elim
    | some d =>
      rw [e] at q
      obtain ⟨l, vs, ds, h1, rfl, h3, h4, h5⟩ := gd.ownAt hG e
      refine ⟨_, h1, q (.ref l) (fun a => if a = l then some [0] else none) B H (Same.refl B) ⟨fun a o e => ⟨(gd.gr.base a o e).1, ?_⟩, fun a o e => ⟨(gd.gr.frame a o e).1, ?_, (gd.gr.frame a o e).2.2⟩, fun a h => ?_⟩ ?_⟩
      · have ne : a ≠ l := fun z => by
          have := (gd.gr.base a o e).2
          rw [z, h3] at this
          cases this
        simp [ne]
      · have ne : a ≠ l := fun z => by
          have := (gd.gr.frame a o e).2.1
          rw [z, h3] at this
          cases this
        simp [ne]
      · by_cases ha : a = l
        · rw [ha, h4]
          exact fun z => nomatch z
        · simp [ha] at h
      · rw [hm]
        refine ⟨l, vs, ds, rfl, rfl, by simp, h4, h5.len, fun k v' d' h1 h2 => ?_⟩
        obtain ⟨d2, e1, e2⟩ := h5.get' h1
        rw [h2] at e1
        cases e1
        exact e2
theorem sj_expr {g : Rho → Res D} (he : BJ X W G e g) (hs : swapsWith e none pos.line X.env = pure false := by rfl) : SJ X W L G (.Expr e pos) (fun ρ => thenS (g ρ) ρ fun _ => .nx ρ) G := by
  obtain ⟨te, pe, ve⟩ := he
  refine ⟨_, ps_expr pe hs, fun hx F ρ own B σ H D gd q => ?_⟩
  exact ve F ρ own B σ H _ gd (Res.has_mono (thenS_has hx gd q) (fun d q u B' H' s r => q own B' σ H' s.g (gd.step s)) fun _ x => x)

/-! ### loops -/
def forM (b : Bnd) (body : Rho → Out) : List D → Rho → Out
  | [], ρ => .nx ρ
  | x :: xs, ρ => match b x ρ with
    | none => .no
    | some ρ1 => match body ρ1 with
      | .nx ρ2 => forM b body xs ρ2
      | .ct ρ2 => forM b body xs ρ2
      | .bk ρ2 => .nx ρ2
      | o => o
def sFor (src : Rho → Res (List D)) (b : Bnd) (body : Rho → Out) : Rho → Out := fun ρ => thenS (src ρ) ρ fun items => forM b body items ρ
theorem sj_for {tg iter : Expr} {body : List Stmt} {src : Rho → Res (List D)} {b : Bnd} {is : List Nat} {fb : Rho → Out} (hp : PassesOwn (model X.prog X.w) X.A X.env X.xe) (hc : X.calm = true) (hi : IJ X W G tg iter src) (hg : GJ X tg b is) (hG : ∀ i ∈ is, G.getD i Mode.fz = Mode.fz)
    (hb : SsJ X W ⟨G, G, L.rt, L.ex, L.rl⟩ G body fb G) (hs : ∀ x, foldedSetIterable iter X.env x = pure x := by intro _; rfl) : SJ X W L G (.For tg iter body [] pos) (sFor src b fb) G := by
  obtain ⟨wi, pi, vi⟩ := hi
  obtain ⟨g, pg, vg⟩ := hg
  obtain ⟨tb, pb, vb⟩ := hb
  refine ⟨_, ps_for hp hc pi pg pb hs, fun hx F ρ own B σ H D gd q => ?_⟩
  refine vi F ρ own B σ H _ gd (Res.has_mono (thenS_has hx gd q) (fun items q J B1 H1 s1 itr => ?_) fun _ x => x)
  refine ⟨fun i m σ' H' => m = items.length - i ∧ i ≤ items.length ∧ ∃ (ρ' : Rho) (own' : Own) (B' : Hp), Gr own B1 own' B' ∧ Good X.K F G ρ' own' B' σ' H' ∧ PostS X W L G F own B1 D (forM b fb (items.drop i) ρ'),
    ⟨items.length, by omega, Nat.zero_le _, ρ, own, B1, Gr.refl, gd.step s1, by simpa using q.ext s1.g⟩, fun i m σ' H' hW => ?_⟩
  obtain ⟨rfl, hile, ρ', own', B', e1, g1, q1⟩ := hW
  have itr' := itr own' B' H' e1.ext g1.gr i
  by_cases hi' : i = items.length
  · refine .inl ⟨itr'.1 hi', ?_⟩
    rw [hi', List.drop_length] at q1
    exact q1 own' B' σ' H' e1 g1
  · have hlt : i < items.length := by omega
    have hd : items[i]? = some items[i] := List.getElem?_eq_getElem hlt
    obtain ⟨go, yld⟩ := itr'.2 _ hd
    refine .inr ⟨go, _, fun σ4 H4 h4 => ⟨items.length - (i + 1), by omega, h4⟩, fun x H3 hy => ?_⟩
    obtain ⟨B3, s3, rx⟩ := yld x H3 hy
    rw [List.drop_eq_getElem_cons hlt] at q1
    simp only [forM] at q1
    cases hb : b items[i] ρ' with
    | none =>
      rw [hb] at q1
      exact q1.elim
    | some ρ1 =>
      rw [hb] at q1
      refine vg F own' B3 σ' H3 G ρ' ρ1 x _ _ (g1.step s3) rx hb hG fun σ2 g2 _ => ?_
      have e3 : Gr own B1 own' B3 := e1.trans s3.g
      refine vb hx F ρ1 own' B3 σ2 H3 _ g2 ?_
      simp only at q1
      cases ho : fb ρ1 with
      | nx ρ2 =>
        rw [ho] at q1
        exact fun own4 B4 σ4 H4 e4 g4 => ⟨rfl, by omega, ρ2, own4, B4, e3.trans e4, g4, q1⟩
      | ct ρ2 =>
        rw [ho] at q1
        exact fun own4 B4 σ4 H4 e4 g4 => ⟨rfl, by omega, ρ2, own4, B4, e3.trans e4, g4, q1⟩
      | bk ρ2 =>
        rw [ho] at q1
        exact fun own4 B4 σ4 H4 e4 g4 => q1 own4 B4 σ4 H4 (e3.trans e4) g4
      | rt d =>
        rw [ho] at q1
        exact fun v own4 B4 H4 e4 => q1 v own4 B4 H4 (e3.ext.trans e4)
      | ex x ρ2 =>
        rw [ho] at q1
        exact fun c dx own4 B4 σ4 H4 e4 => q1 c dx own4 B4 σ4 H4 (e3.trans e4)
      | rl d ρ2 =>
        rw [ho] at q1
        exact fun v own4 B4 σ4 H4 e4 => q1 v own4 B4 σ4 H4 (e3.trans e4)
      | no =>
        rw [ho] at q1
        exact q1
def whileM (c : Rho → Res Bool) (body : Rho → Out) : Nat → Rho → Out
  | 0, _ => .no
  | n + 1, ρ => thenS (c ρ) ρ fun k => if k = true then match body ρ with
      | .nx ρ2 => whileM c body n ρ2
      | .ct ρ2 => whileM c body n ρ2
      | .bk ρ2 => .nx ρ2
      | o => o
    else .nx ρ
theorem sj_while {c : Expr} {body : List Stmt} {gc : Rho → Res Bool} {fb : Rho → Out} (n : Nat) (hp : PassesOwn (model X.prog X.w) X.A X.env X.xe) (hc : TJ X W G c gc) (hb : SsJ X W ⟨G, G, L.rt, L.ex, L.rl⟩ G body fb G) : SJ X W L G (.While c body [] pos) (whileM gc fb n) G := by
  obtain ⟨tc, pc, vc⟩ := hc
  obtain ⟨tb, pb, vb⟩ := hb
  refine ⟨_, ps_while hp pc pb, fun hx F ρ own B σ H D gd q => ?_⟩
  refine ⟨fun m σ' H' => ∃ (ρ' : Rho) (own' : Own) (B' : Hp), Good X.K F G ρ' own' B' σ' H' ∧ PostS X W L G F own' B' D (whileM gc fb m ρ'), ⟨n, ρ, own, B, gd, q⟩, fun m σ' H' hW => ?_⟩
  obtain ⟨ρ', own', B', g1, q1⟩ := hW
  cases m with
  | zero => exact q1.elim
  | succ m =>
    simp only [whileM] at q1
    refine vc F ρ' own' B' σ' H' _ g1 (Res.has_mono (thenS_has hx g1 q1) (fun k q2 B2 H2 s2 => ?_) fun _ x => x)
    have q3 := q2.ext s2.g
    cases k with
    | false => exact q2 own' B2 σ' H2 s2.g (g1.step s2)
    | true =>
      rw [if_pos rfl] at q3
      rw [if_pos rfl]
      refine ⟨fun σ4 H4 => ∃ (ρ4 : Rho) (own4 : Own) (B4 : Hp), Good X.K F G ρ4 own4 B4 σ4 H4 ∧ PostS X W L G F own4 B4 D (whileM gc fb m ρ4), fun σ4 H4 h4 => ⟨m, Nat.lt_succ_self m, h4⟩, ?_⟩
      refine vb hx F ρ' own' B2 σ' H2 _ (g1.step s2) ?_
      cases ho : fb ρ' with
      | nx ρ2 =>
        rw [ho] at q3
        exact fun own4 B4 σ4 H4 e4 g4 => ⟨ρ2, own4, B4, g4, q3.ext e4⟩
      | ct ρ2 =>
        rw [ho] at q3
        exact fun own4 B4 σ4 H4 e4 g4 => ⟨ρ2, own4, B4, g4, q3.ext e4⟩
      | _ =>
        rw [ho] at q3
        exact q3
end

/-! ### defs -/
def startR (N : Nat) (ds : List D) : Rho := ds.map some ++ List.replicate (N - ds.length) none
/-- a def's mirror: n parameters, N names, its body -/
def runF (n N : Nat) (f : Rho → Out) : List D → Res D := fun ds => if ds.length = n then match f (startR N ds) with
    | .nx _ => .ok .non
    | .rt d => .ok d
    | .ex e _ => .ex e
    | _ => .no
  else .no
/-- a def's promise, by its mirror m -/
def spT (K : PySem.W.Frag) (mg : Str → Option Value) (md : Mode) (n : Nat) (m : List D → Res D) : Sp := fun vs H Q E => ∃ (ds : List D) (F B : Hp), ds.length = n ∧ RpA K B vs ds ∧ Ground F (fun _ => none) B H ∧
  (m ds).has (fun d => ∀ (v : V) (own : Own) (B' H' : Hp), Ext B B' → Ground F own B' H' → VRep K B' H' own md [0] v d → Q v H') fun e => ∀ (c : Value) (dx : Option Addr) (B' H' : Hp), Ext B B' → Ground F (fun _ => none) B' H' → ExR K mg B' H' e c dx → E c dx H'
abbrev WE1 (E : XK) : WX := fun cls d _ H => E cls d H
theorem good_start {K : PySem.W.Frag} {F B H : Hp} {G : List Mode} {N : Nat} {vs : List V} {ds : List D} {N' : List Str} (hN : N'.length = N) (hz : ds.length + N < 1000000) (g : Ground F (fun _ => none) B H) (r : RpA K B vs ds) (hG : ∀ j : Nat, G.getD j Mode.fz = Mode.fz) : Good K F G (startR N ds) (fun _ => none) B (L2.start N' vs) H := by
  refine ⟨g, ⟨by simp [startR, L2.start, r.len, hN], by simp [startR]; omega⟩, fun i d e => ?_⟩
  unfold startR at e
  rw [List.getElem?_append] at e
  split at e
  · rename_i hi
    rw [List.getElem?_map] at e
    obtain ⟨d', e1, e2⟩ := Option.map_eq_some_iff.mp e
    cases e2
    obtain ⟨v, h1, h2⟩ := r.get e1
    refine ⟨v, ?_, ?_⟩
    · unfold L2.start
      rw [List.getElem?_append_left (by simpa [r.len] using hi), List.getElem?_map, h1]
      rfl
    · rw [hG]
      exact h2
  · rename_i hi
    rw [List.getElem?_replicate] at e
    split at e <;> cases e
section
variable {P : Program} {w : World} {K : PySem.W.Frag} {mg : Str → Option Value} {base : Heap}
/-- THE RULE for a def -/
theorem fn_ok {x qual : Str} {st : Stmt} {f : Addr} {fd : FuncData} {N ps : List Str} {k : Nat} {md : Mode} {G : List Mode} {fm : Rho → Out} (Fn : Fun K x qual st f fd) (S : FnScope N ps (defScope st)) (n NN : Nat) (hn : ps.length = n := by rfl) (hNN : N.length = NN := by rfl) (hG : leB G [] = true := by rfl) (hsz : n + NN < 1000000 := by decide)
    (hm : ∀ ρ, md = Mode.fz ∨ ∀ ρ', fm ρ ≠ .nx ρ')
    (hbody : ∀ (cdv : Value) (A : Around) (outer : List Env) (s : Shared) (H : Hp) (E : XK), Room k (A.deeper (envOfC qual (defScope st) s.heap.objs.size f cdv)) →
      ∃ G', SsJ (cxOf (L2.CX P w) P w K mg base N qual (defScope st) f cdv A outer s H E) (WE1 E) ⟨[], [], md, [], []⟩ G (defBody st) fm G') : FnOk P w K mg base (L2.CX P w) (k + 1) f fd ps (spT K mg md n (runF n NN fm)) := by
  refine Fn.okX S (fun vs H Q E h => ?_) (fun cdv A outer s H vs Q E hr h => ?_)
  · obtain ⟨ds, F, B, h1, h2, _⟩ := h
    rw [h2.len, h1, hn]
  · obtain ⟨ds, F, B, h1, h2, h3, h4⟩ := h
    obtain ⟨G', t, p, v⟩ := hbody cdv A outer s H E hr
    refine ⟨t, p, v (fun j => .inr (by simp)) F (startR NN ds) (fun _ => none) B _ H _ (good_start hNN (by omega) h3 h2 fun j => ?_) ?_⟩
    · rcases leM_of hG j with z | z
      · rw [z]
        simp
      · exact z
    · unfold runF at h4
      rw [if_pos h1] at h4
      cases e : fm (startR NN ds) with
      | nx ρ' =>
        rw [e] at h4
        rcases hm (startR NN ds) with z | z
        · subst z
          exact fun own B' σ H' e' g' => h4 .non own B' H' e'.ext g'.gr .non
        · exact absurd e (z ρ')
      | rt d =>
        rw [e] at h4
        exact fun v own B' H' e' g' r => h4 v own B' H' e' g' r
      | ex x ρ' =>
        rw [e] at h4
        exact fun c dx own B' σ H' e' g' r => h4 c dx B' H' e'.ext (g'.gr.drop fun a l z => nomatch z) r
      | _ =>
        rw [e] at h4
        exact h4.elim
end

/-! ### calls of defs -/
/-- what the caller owns, others' for the callee -/
def lend (own : Own) (F H : Hp) : Hp := fun a => match own a with
  | some _ => H a
  | none => F a
section
variable {F B H B' H' : Hp} {own own' : Own}
omit [Mg] in
theorem ground_lend (g : Ground F own B H) : Ground (lend own F H) (fun _ => none) B H where
  base := fun a o e => ⟨(g.base a o e).1, rfl⟩
  frame := fun a o e => by
    unfold lend at e
    split at e
    · rename_i l hl
      exact ⟨e, rfl, g.bnone (by rw [hl]; exact fun z => nomatch z)⟩
    · exact ⟨(g.frame a o e).1, rfl, (g.frame a o e).2.2⟩
  live := fun a h => absurd rfl h
omit [Mg] in
theorem step_lend (g : Ground F own B H) (e : Ext B B') (g' : Ground (lend own F H) own' B' H') : Step own F B H B' H' where
  ext := e
  base := fun a o z => (g'.base a o z).1
  ownd := fun a h => by
    cases hH : H a with
    | none => exact absurd hH (g.live a h)
    | some o =>
      have hl : lend own F H a = some o := by
        unfold lend
        split
        · exact hH
        · rename_i z
          exact absurd z h
      exact ⟨(g'.frame a o hl).1, (g'.frame a o hl).2.2⟩
  frame := fun a o z => by
    have hl : lend own F H a = some o := by
      unfold lend
      rw [(g.frame a o z).2.1]
      exact z
    exact ⟨(g'.frame a o hl).1, (g'.frame a o hl).2.2⟩
end
section
variable {X : Cx} {W : WX} {G : List Mode} {e : Expr} {es : List Expr} {x : Str} {p pos : Pos} {k n : Nat} {f : Addr} {fd : FuncData} {ps : List Str} {m : List D → Res D}
theorem ej_call {g : Rho → Res (List D)} (hlen : ∀ ds, ds.length ≠ n → m ds = .no) (Fn : FnOk X.prog X.w X.K X.mg X.base (L2.CX X.prog X.w) k f fd ps (spT X.K X.mg Mode.fz n m)) (hr : Room k X.A) (hg : Gl X x) (hm : X.mg x = some (.ref f)) (hk : PySem.W.keepIn X.K (.ref f) = true) (hb : Binds X.K fd ps [])
    (tk : Takes X W) (ha : AJ X W G (e :: es) g) (hdb : (x == ("__debug__" : Str)) = false := by decide) (he : starEach (e :: es) X.env = (false, eval e X.env) :: starEach es X.env := by rfl) (hpl : (backTo pos (starEach es X.env)).any (·.1) = false := by rfl) :
    EJ X W G (.Call (.Name x p) (e :: es) [] pos) (callV m g) := by
  obtain ⟨t, pa, va⟩ := ha
  refine ⟨_, pe_callS Fn hr hg hm hk hb (fun σ => passAt tk σ) pa hdb he hpl, fun F ρ own B σ H Q gd q => ?_⟩
  refine va F ρ own B σ H _ gd (Res.has_mono (Res.has_bind q) (fun ds q vs B1 H1 s1 r => ?_) fun _ x => x)
  have g1 := (gd.step s1).gr
  have hl : ds.length = n := Classical.byContradiction fun z => by
    rw [hlen ds z] at q
    exact q
  refine ⟨ds, lend own F H1, B1, hl, r, ground_lend g1, Res.has_mono q (fun d q v own' B' H' e' g' r' => q v B' H' (s1.trans (step_lend g1 e' g')) r') fun x wk c dx B' H' e' g' xr => wk c dx B' H' (s1.trans (step_lend g1 e' g')) xr⟩
def asL : Res D → Res (List D)
  | .ok (.lst xs) => .ok xs
  | .ok _ => .no
  | .ex e => .ex e
  | .no => .no
def callN (m : List D → Res D) (g : Rho → Res (List D)) : Rho → Res (List D) := fun ρ => (g ρ).bind fun ds => asL (m ds)
theorem nj_call {g : Rho → Res (List D)} (hlen : ∀ ds, ds.length ≠ n → m ds = .no) (Fn : FnOk X.prog X.w X.K X.mg X.base (L2.CX X.prog X.w) k f fd ps (spT X.K X.mg (Mode.own Mode.fz) n m)) (hr : Room k X.A) (hg : Gl X x) (hm : X.mg x = some (.ref f)) (hk : PySem.W.keepIn X.K (.ref f) = true) (hb : Binds X.K fd ps [])
    (tk : Takes X W) (ha : AJ X W G (e :: es) g) (hdb : (x == ("__debug__" : Str)) = false := by decide) (he : starEach (e :: es) X.env = (false, eval e X.env) :: starEach es X.env := by rfl) (hpl : (backTo pos (starEach es X.env)).any (·.1) = false := by rfl) :
    NJ X W G (.Call (.Name x p) (e :: es) [] pos) (callN m g) := by
  obtain ⟨t, pa, va⟩ := ha
  refine ⟨_, pe_callS Fn hr hg hm hk hb (fun σ => passAt tk σ) pa hdb he hpl, fun F ρ own B σ H Q gd q => ?_⟩
  refine va F ρ own B σ H _ gd (Res.has_mono (Res.has_bind q) (fun ds q vs B1 H1 s1 r => ?_) fun _ x => x)
  have g1 := (gd.step s1).gr
  have hl : ds.length = n := Classical.byContradiction fun z => by
    rw [hlen ds z] at q
    exact q
  refine ⟨ds, lend own F H1, B1, hl, r, ground_lend g1, ?_⟩
  cases hd : m ds with
  | no =>
    rw [hd] at q
    exact q
  | ex x =>
    rw [hd] at q
    exact fun c dx B' H' e' g' xr => q c dx B' H' (s1.trans (step_lend g1 e' g')) xr
  | ok d =>
    rw [hd] at q
    rintro v own' B' H' e' g' ⟨l, us, es, rfl, rfl, ho, hl, hn, hr⟩
    have q' : ∀ (p : Addr) (vs : List V) (B' H' : Hp), Step own F B H B' H' → B' p = none → F p = none → own p = none → H' p = some (.lst vs) → RpA X.K B' vs es → Q (.ref p) H' := q
    have hlend : lend own F H1 l = none := by
      cases z : lend own F H1 l with
      | none => rfl
      | some o =>
        have := (g'.frame l o z).2.1
        rw [ho] at this
        cases this
    have hown : own l = none := by
      cases z : own l with
      | none => rfl
      | some lb =>
        unfold lend at hlend
        rw [z] at hlend
        exact absurd hlend (g1.live l (by rw [z]; exact fun z => nomatch z))
    have hF : F l = none := by
      unfold lend at hlend
      rw [hown] at hlend
      exact hlend
    exact q' l us B' H' (s1.trans (step_lend g1 e' g')) (g'.bnone (by rw [ho]; exact fun z => nomatch z)) hF hown hl (RpA.of_get hn hr)
omit [Mg] in
theorem runF_len {n N : Nat} {f : Rho → Out} (ds : List D) (h : ds.length ≠ n) : runF n N f ds = .no := by
  unfold runF
  rw [if_neg h]
end
end T

set_option Elab.async false
set_option linter.all false
set_option maxRecDepth 100000
set_option maxHeartbeats 4000000
/-! T-layer, part H: short names, the law's end. -/
namespace T
open PySem PySem.Spec PyProof.Rows L2
variable [Mg]
def negV (f : Rho → Res D) : Rho → Res D := fun ρ => (f ρ).bind dNeg
def truV (f : Rho → Res D) : Rho → Res Bool := fun ρ => (f ρ).bind dTru
def itemsV (f : Rho → Res D) : Rho → Res (List D) := fun ρ => (f ρ).bind dItems
def ownItems (f : Rho → Res D) : Rho → Res (List D) := fun ρ => (f ρ).bind fun d => match d with
    | .lst xs => .ok xs
    | _ => .no
def sNever : Rho → Out := fun _ => .no
def sDrop (g : Rho → Res D) : Rho → Out := fun ρ => thenS (g ρ) ρ fun _ => .nx ρ

section
variable {X : Cx} {W : WX} {G : List Mode} {a b c : Expr} {pos : Pos}
theorem ev_test {t : TE} {g : Rho → Res D} (h : EvB X W G t g) : EvT X W G (tTest t) (toB g) := ev_toB h
theorem tj_cmp {op : CmpOp} {f : D → D → Res D} {ga gb : Rho → Res D} (ho : ∃ r, OpR X (compareOp op) r ∧ OpD X r f) (hf : Calm f) (hm : behindInMarks op b = false) (ha : BJ X W G a ga) (hb : BJ X W G b gb) : TJ X W G (.Compare a [op] [b] pos) (toB (bin f ga gb)) := by
  obtain ⟨r, h1, h2⟩ := ho
  obtain ⟨ta, pa, va⟩ := ha
  obtain ⟨tb, pb, vb⟩ := hb
  exact ⟨_, pt_cmpR h1 pa pb hm, ev_test (ev_op h2 hf va vb).b⟩
theorem tj_chain {op op' : CmpOp} {f g : D → D → Res D} {ga gb gc : Rho → Res D} (ho : ∃ r, OpR X (compareOp op) r ∧ OpD X r f) (hf : Calm f) (ho' : ∃ r, OpR X (compareOp op') r ∧ OpD X r g) (hg : Calm g) (ha : BJ X W G a ga) (hb : BJ X W G b gb) (hc : BJ X W G c gc)
    (hm : lastMarks [op, op'] [b, c] = false := by with_unfolding_all rfl) : TJ X W G (.Compare a [op, op'] [b, c] pos) (toB (chainV f g ga gb gc)) := by
  obtain ⟨r, h1, h2⟩ := ho
  obtain ⟨r', h1', h2'⟩ := ho'
  obtain ⟨ta, pa, va⟩ := ha
  obtain ⟨tb, pb, vb⟩ := hb
  obtain ⟨tc, pc, vc⟩ := hc
  exact ⟨_, pt_chain h1 h1' pa pb pc hm, ev_test (ev_chain h2 hf h2' hg va vb vc).b⟩
end
theorem RpA.of_ints {K : PySem.W.Frag} {B : Hp} : ∀ ys : List Int, RpA K B (ys.map V.int) (ys.map D.int)
  | [] => .nil
  | y :: ys => .cons (.int y) (RpA.of_ints ys)
def spLaw (K : PySem.W.Frag) : Sp := fun vs H Q _ => ∃ (a : Addr) (ns : List Int), vs = [.ref a] ∧ SqL K H a (ns.map V.int) ∧ ns.length ≤ 63 ∧ (∀ z ∈ ns, Builtin.Int.intBits z ≤ 1048576) ∧ ∀ H', Q (.bl true) H'
theorem law_imp {K : PySem.W.Frag} {mg : Str → Option Value} {f : List D → Res D} (goal : ∀ ns : List Int, ns.length ≤ 63 → (∀ z ∈ ns, Builtin.Int.intBits z ≤ 1048576) → f [.scr (ns.map D.int)] = .ok (.bl true)) (vs : List V) (H : Hp) (Q : VK) (E : XK) (h : spLaw K vs H Q E) : spT K mg Mode.fz 1 f vs H Q E := by
  obtain ⟨a, ns, rfl, hS, hl, hb, q⟩ := h
  refine ⟨[.scr (ns.map D.int)], fun _ => none, H, rfl, .cons (.scr hS (RpA.of_ints ns)) .nil, ⟨fun a o e => ⟨e, rfl⟩, fun a o e => (nomatch e), fun a h => absurd rfl h⟩, ?_⟩
  rw [goal ns hl hb]
  intro v own B' H' e g r
  cases r
  exact q H'
omit [Mg] in
theorem cx_false {P : Program} {w : World} {outer : List Env} {H : Hp} {s : Shared} {e : Value} {s' : Shared} (h : L2.CX P w outer H s (fun _ _ _ => False) e s') : False := by
  obtain ⟨_, _, _, _, _, _, _, _, _, _, _, _, z⟩ := h
  exact z
end T

set_option Elab.async false
set_option linter.all false
set_option maxRecDepth 100000
set_option maxHeartbeats 4000000
/-! T-layer, part M: the mirrors, evaluated. -/
namespace T
open PySem L2
/-- so that simp does not take a theorem for a definitional one: the kernel would evaluate the tests of sizes -/
theorem mk_eq {α : Sort u} {a b : α} (h : a = b) : a = b := h
section
variable {α β : Type} {ρ : Rho} {f g : Rho → Out} {i : Nat} {d e : D}
theorem x_getV (h : ρ[i]? = some (some d)) : getV i ρ = .ok d := by
  unfold getV
  rw [h]
@[simp] theorem getV_0 {a : D} {r : Rho} : getV 0 (some a :: r) = .ok a := mk_eq rfl
@[simp] theorem getV_s {a : Option D} {r : Rho} : getV (i + 1) (a :: r) = getV i r := mk_eq rfl
@[simp] theorem conD_ap : conD d ρ = .ok d := mk_eq rfl
@[simp] theorem bin_ap {h : D → D → Res α} {a b : Rho → Res D} : bin h a b ρ = (a ρ).bind fun x => (b ρ).bind fun y => h x y := mk_eq rfl
@[simp] theorem toB_ap {a : Rho → Res D} : toB a ρ = (a ρ).bind fun d => match d with
  | .bl b => .ok b
  | _ => .no := rfl
@[simp] theorem truV_ap {a : Rho → Res D} : truV a ρ = (a ρ).bind dTru := mk_eq rfl
@[simp] theorem negV_ap {a : Rho → Res D} : negV a ρ = (a ρ).bind dNeg := mk_eq rfl
@[simp] theorem notV_ap {a : Rho → Res D} : notV a ρ = (a ρ).bind dNotB := mk_eq rfl
@[simp] theorem itemsV_ap {a : Rho → Res D} : itemsV a ρ = (a ρ).bind dItems := mk_eq rfl
@[simp] theorem andB_ap {a b : Rho → Res Bool} : andB a b ρ = (a ρ).bind fun k => if k = true then b ρ else .ok false := mk_eq rfl
@[simp] theorem orB_ap {a b : Rho → Res Bool} : orB a b ρ = (a ρ).bind fun k => if k = true then .ok true else b ρ := mk_eq rfl
@[simp] theorem notB_ap {a : Rho → Res Bool} : notB a ρ = (a ρ).bind fun k => .ok (!k) := mk_eq rfl
@[simp] theorem andV_ap {a b : Rho → Res D} : andV a b ρ = (a ρ).bind fun d => match d with
  | .bl k => if k = true then b ρ else .ok (.bl false)
  | _ => .no := rfl
@[simp] theorem orV_ap {a b : Rho → Res D} : orV a b ρ = (a ρ).bind fun d => match d with
  | .bl k => if k = true then .ok (.bl true) else b ρ
  | _ => .no := rfl
@[simp] theorem ifV_ap {c : Rho → Res Bool} {a b : Rho → Res D} : ifV c a b ρ = (c ρ).bind fun k => if k = true then a ρ else b ρ := mk_eq rfl
@[simp] theorem chainV_ap {h h' : D → D → Res D} {a b c : Rho → Res D} : chainV h h' a b c ρ = (a ρ).bind fun x => (b ρ).bind fun y => (h x y).bind fun z => match z with
  | .bl k => if k = true then (c ρ).bind fun w => h' y w else .ok (.bl false)
  | _ => .no := rfl
@[simp] theorem noA_ap : noA ρ = .ok [] := mk_eq rfl
@[simp] theorem consA_ap {a : Rho → Res D} {b : Rho → Res (List D)} : consA a b ρ = (a ρ).bind fun d => (b ρ).bind fun ds => .ok (d :: ds) := mk_eq rfl
@[simp] theorem callV_ap {h : List D → Res α} {b : Rho → Res (List D)} : callV h b ρ = (b ρ).bind h := mk_eq rfl
@[simp] theorem callN_ap {h : List D → Res D} {b : Rho → Res (List D)} : callN h b ρ = (b ρ).bind fun ds => asL (h ds) := mk_eq rfl
@[simp] theorem asL_lst {xs : List D} : asL (.ok (.lst xs)) = .ok xs := mk_eq rfl
@[simp] theorem lstD_ap {b : Rho → Res (List D)} : lstD b ρ = (b ρ).bind fun ds => .ok (.lst ds) := mk_eq rfl
@[simp] theorem lstV_ap {b : Rho → Res (List D)} : lstV b ρ = (b ρ).bind fun ds => if ds.length ≤ sizeLine then .ok ds else .no := mk_eq rfl
@[simp] theorem tupV_ap {b : Rho → Res (List D)} : tupV b ρ = (b ρ).bind fun ds => if ds.length ≤ sizeLine then .ok (.tup ds) else .no := mk_eq rfl
@[simp] theorem noPart_ap : noPart ρ = .ok none := mk_eq rfl
@[simp] theorem toPart_ap {a : Rho → Res D} : toPart a ρ = (a ρ).bind fun d => match d with
  | .int i => .ok (some i)
  | _ => .no := rfl
@[simp] theorem slV_ap {h : D → Option Int → Option Int → Res α} {a : Rho → Res D} {l k : Rho → Res (Option Int)} : slV h a l k ρ = (a ρ).bind fun x => (l ρ).bind fun l => (k ρ).bind fun k => h x l k := mk_eq rfl
@[simp] theorem methV_ap {n : String} {h : D → List D → Res α} {a : Rho → Res D} {b : Rho → Res (List D)} : methV n h a b ρ = (a ρ).bind fun d => if d.isTy n = true then (b ρ).bind fun ds => h d ds else .no := mk_eq rfl
@[simp] theorem compV_ap {s : Rho → Res (List D)} {b : Bnd} {c : Rho → Res Bool} {h : Rho → Res D} {vs : List Nat} : compV s b c h vs ρ = (s ρ).bind fun items => if items.length ≤ sizeLine then lcM b c h (wipeR ρ vs) items else .no := mk_eq rfl
@[simp] theorem yesB_ap : yesB ρ = .ok true := mk_eq rfl
@[simp] theorem ownItems_ap {a : Rho → Res D} : ownItems a ρ = (a ρ).bind fun d => match d with
    | .lst xs => .ok xs
    | _ => .no := rfl
/-! statements -/
@[simp] theorem thenS_ok {a : α} {k : α → Out} : thenS (.ok a) ρ k = k a := mk_eq rfl
@[simp] theorem thenS_no {k : α → Out} : thenS (.no : Res α) ρ k = .no := mk_eq rfl
@[simp] theorem thenS_ex {x : Exn} {k : α → Out} : thenS (.ex x : Res α) ρ k = .ex x ρ := mk_eq rfl
@[simp] theorem sSkip_ap : sSkip ρ = .nx ρ := mk_eq rfl
theorem sSeq_ap : sSeq f g ρ = match f ρ with
  | .nx ρ' => g ρ'
  | o => o := rfl
theorem sSeq_nx {ρ' : Rho} (h : f ρ = .nx ρ') : sSeq f g ρ = g ρ' := by rw [sSeq_ap, h]
theorem sSeq_rt (h : f ρ = .rt d) : sSeq f g ρ = .rt d := by rw [sSeq_ap, h]
@[simp] theorem sIf_ap {c : Rho → Res Bool} : sIf c f g ρ = thenS (c ρ) ρ fun b => if b = true then f ρ else g ρ := mk_eq rfl
@[simp] theorem sSet_ap {a : Rho → Res D} : sSet i a ρ = thenS (a ρ) ρ fun d => .nx (ρ.set i (some d)) := mk_eq rfl
@[simp] theorem sSetN_ap {a : Rho → Res (List D)} : sSetN i a ρ = thenS (a ρ) ρ fun d => .nx (ρ.set i (some (.lst d))) := mk_eq rfl
@[simp] theorem sRet_ap {a : Rho → Res D} : sRet a ρ = thenS (a ρ) ρ .rt := mk_eq rfl
@[simp] theorem sRetN_ap {a : Rho → Res (List D)} : sRetN a ρ = thenS (a ρ) ρ fun ds => .rt (.lst ds) := mk_eq rfl
@[simp] theorem sDrop_ap {a : Rho → Res D} : sDrop a ρ = thenS (a ρ) ρ fun _ => .nx ρ := mk_eq rfl
@[simp] theorem sNever_ap : sNever ρ = .no := mk_eq rfl
@[simp] theorem sUnp_ap {b : Bnd} {a : Rho → Res D} : sUnp b a ρ = thenS (a ρ) ρ fun d => match b d ρ with
  | some ρ' => .nx ρ'
  | none => .no := rfl
@[simp] theorem sApp_ap {a : Rho → Res D} : sApp i a ρ = atL i ρ fun xs => thenS (a ρ) ρ fun d => if xs.length < sizeLine then .nx (ρ.set i (some (.lst (xs ++ [d])))) else .no := mk_eq rfl
@[simp] theorem sSetI_ap {gk a : Rho → Res D} : sSetI i gk a ρ = thenS (a ρ) ρ fun d => atL i ρ fun xs => thenS (gk ρ) ρ fun k => match k with
  | .int k => match ixN xs.length k with
    | some j => .nx (ρ.set i (some (.lst (xs.set j d))))
    | none => .no
  | _ => .no := rfl
theorem x_atL {xs : List D} {k : List D → Out} (h : ρ[i]? = some (some (.lst xs))) : atL i ρ k = k xs := by
  unfold atL
  rw [h]
@[simp] theorem atL_0 {xs : List D} {r : Rho} {k : List D → Out} : atL 0 (some (.lst xs) :: r) k = k xs := mk_eq rfl
theorem atL_s {a : Option D} {r : Rho} {k : List D → Out} : atL (i + 1) (a :: r) k = atL i r k := mk_eq rfl
@[simp] theorem sFor_ap {s : Rho → Res (List D)} {b : Bnd} : sFor s b f ρ = thenS (s ρ) ρ fun items => forM b f items ρ := mk_eq rfl
@[simp] theorem bNm_ap : bNm i d ρ = some (ρ.set i (some d)) := mk_eq rfl
@[simp] theorem bNil_ap : bNil [] ρ = some ρ := mk_eq rfl
@[simp] theorem bCons_ap {b : Bnd} {c : BndA} {r : List D} : bCons b c (d :: r) ρ = (b d ρ).bind fun ρ' => c r ρ' := mk_eq rfl
@[simp] theorem bTp_tup {n : Nat} {b : BndA} {ds : List D} : bTp n b (.tup ds) ρ = if ds.length = n then b ds ρ else none := mk_eq rfl
@[simp] theorem bTp_lst {n : Nat} {b : BndA} {ds : List D} : bTp n b (.lst ds) ρ = if ds.length = n then b ds ρ else none := mk_eq rfl
/-! operations -/
variable {x y : Int} {s t : Str} {p q : Bool} {xs ys : List D}
@[simp] theorem dAdd_i : dAdd (.int x) (.int y) = .ok (.int (x + y)) := mk_eq rfl
@[simp] theorem dAdd_l : dAdd (.lst xs) (.lst ys) = if xs.length + ys.length ≤ sizeLine then .ok (.lst (xs ++ ys)) else .no := mk_eq rfl
@[simp] theorem dAdd_t : dAdd (.tup xs) (.tup ys) = if xs.length + ys.length ≤ sizeLine then .ok (.tup (xs ++ ys)) else .no := mk_eq rfl
@[simp] theorem dAdd_s : dAdd (.str s) (.str t) = if s.length + t.length ≤ sizeLine then .ok (.str (s ++ t)) else .no := mk_eq rfl
@[simp] theorem dCat_l : dCat (.lst xs) (.lst ys) = if xs.length + ys.length ≤ sizeLine then .ok (xs ++ ys) else .no := mk_eq rfl
@[simp] theorem dSub_i : dSub (.int x) (.int y) = .ok (.int (x - y)) := mk_eq rfl
theorem dMul_i : dMul (.int x) (.int y) = if CMulX x y then .ok (.int (x * y)) else .no := mk_eq rfl
theorem dMul_ok (h : CMulX x y) : dMul (.int x) (.int y) = .ok (.int (x * y)) := if_pos h
theorem dDiv_i : dDiv (.int x) (.int y) = if 0 < y ∧ y.natAbs.log2 < 9000 then .ok (.int (x / y)) else .no := mk_eq rfl
theorem dDiv_ok (h : 0 < y ∧ y.natAbs.log2 < 9000) : dDiv (.int x) (.int y) = .ok (.int (x / y)) := if_pos h
theorem dMod_i : dMod (.int x) (.int y) = if 0 < y then .ok (.int (x % y)) else .no := mk_eq rfl
theorem dMod_ok (h : 0 < y) : dMod (.int x) (.int y) = .ok (.int (x % y)) := if_pos h
@[simp] theorem dNeg_i : dNeg (.int x) = .ok (.int (-x)) := mk_eq rfl
@[simp] theorem dNotB_b : dNotB (.bl p) = .ok (.bl (!p)) := mk_eq rfl
@[simp] theorem dLt_i : dLt (.int x) (.int y) = .ok (.bl (decide (x < y))) := mk_eq rfl
@[simp] theorem dLe_i : dLe (.int x) (.int y) = .ok (.bl (decide (x ≤ y))) := mk_eq rfl
@[simp] theorem dGt_i : dGt (.int x) (.int y) = .ok (.bl (decide (y < x))) := mk_eq rfl
@[simp] theorem dGe_i : dGe (.int x) (.int y) = .ok (.bl (decide (y ≤ x))) := mk_eq rfl
@[simp] theorem dEq_i : dEq (.int x) (.int y) = .ok (.bl (decide (x = y))) := by
  show Res.ok (D.bl (x == y)) = _
  rw [show (x == y) = decide (x = y) by rw [Bool.eq_iff_iff]; simp]
@[simp] theorem dNe_i : dNe (.int x) (.int y) = .ok (.bl (!decide (x = y))) := by
  show Res.ok (D.bl (!(x == y))) = _
  rw [show (x == y) = decide (x = y) by rw [Bool.eq_iff_iff]; simp]
@[simp] theorem dEq_b : dEq (.bl p) (.bl q) = .ok (.bl (decide (p = q))) := by
  show Res.ok (D.bl (p == q)) = _
  rw [show (p == q) = decide (p = q) by rw [Bool.eq_iff_iff]; simp]
@[simp] theorem dNe_b : dNe (.bl p) (.bl q) = .ok (.bl (!decide (p = q))) := by
  show Res.ok (D.bl (!(p == q))) = _
  rw [show (p == q) = decide (p = q) by rw [Bool.eq_iff_iff]; simp]
@[simp] theorem dEq_s : dEq (.str s) (.str t) = .ok (.bl (decide (s = t))) := by
  show Res.ok (D.bl (s == t)) = _
  rw [show (s == t) = decide (s = t) by rw [Bool.eq_iff_iff]; simp]
@[simp] theorem dNe_s : dNe (.str s) (.str t) = .ok (.bl (!decide (s = t))) := by
  show Res.ok (D.bl (!(s == t))) = _
  rw [show (s == t) = decide (s = t) by rw [Bool.eq_iff_iff]; simp]
theorem dEq_d (h : D.dat 60 d = true) (h' : D.dat 60 e = true) : dEq d e = .ok (.bl (d.eqb e)) := if_pos ⟨h, h'⟩
theorem dNe_d (h : D.dat 60 d = true) (h' : D.dat 60 e = true) : dNe d e = .ok (.bl (!d.eqb e)) := if_pos ⟨h, h'⟩
@[simp] theorem dLen_l : dLen [.lst xs] = .ok (.int xs.length) := mk_eq rfl
@[simp] theorem dLen_t : dLen [.tup xs] = .ok (.int xs.length) := mk_eq rfl
@[simp] theorem dLen_c : dLen [.scr xs] = .ok (.int xs.length) := mk_eq rfl
@[simp] theorem dLen_s : dLen [.str s] = if s.length ≤ sizeLine then .ok (.int s.length) else .no := mk_eq rfl
@[simp] theorem dList_l : dList [.lst xs] = .ok xs := mk_eq rfl
@[simp] theorem dList_t : dList [.tup xs] = .ok xs := mk_eq rfl
@[simp] theorem dTuple_l : dTuple [.lst xs] = .ok (.tup xs) := mk_eq rfl
@[simp] theorem dTuple_t : dTuple [.tup xs] = .ok (.tup xs) := mk_eq rfl
@[simp] theorem dInt_i : dInt [.int x] = .ok (.int x) := mk_eq rfl
@[simp] theorem dMax2_i : dMax2 [.int x, .int y] = .ok (.int (if y > x then y else x)) := mk_eq rfl
@[simp] theorem dMin2_i : dMin2 [.int x, .int y] = .ok (.int (if y < x then y else x)) := mk_eq rfl
@[simp] theorem dItems_l : dItems (.lst xs) = .ok xs := mk_eq rfl
@[simp] theorem dItems_t : dItems (.tup xs) = .ok xs := mk_eq rfl
@[simp] theorem dItems_s : dItems (.str s) = .ok (s.cps.toList.map fun c => .str ⟨#[c]⟩) := mk_eq rfl
@[simp] theorem dTru_b : dTru (.bl p) = .ok p := mk_eq rfl
@[simp] theorem dSl_l {lo hi : Option Int} : dSl (.lst xs) lo hi = .ok (.lst (cutL xs lo hi)) := mk_eq rfl
@[simp] theorem dSl_t {lo hi : Option Int} : dSl (.tup xs) lo hi = .ok (.tup (cutL xs lo hi)) := mk_eq rfl
@[simp] theorem dSlN_l {lo hi : Option Int} : dSlN (.lst xs) lo hi = .ok (cutL xs lo hi) := mk_eq rfl
theorem dIx_l (h : atI xs x = some d) : dIx (.lst xs) (.int x) = .ok d := by
  show (match atI xs x with | some d => Res.ok d | none => .no) = _
  rw [h]
theorem dIx_t (h : atI xs x = some d) : dIx (.tup xs) (.int x) = .ok d := by
  show (match atI xs x with | some d => Res.ok d | none => .no) = _
  rw [h]
theorem dIx_c (h : atI xs x = some d) : dIx (.scr xs) (.int x) = .ok d := by
  show (match atI xs x with | some d => Res.ok d | none => .no) = _
  rw [h]
@[simp] theorem isi_ll : dIsi [.lst xs, .ty "list"] = .ok (.bl true) := by
  show (match kitB "list" "list" with | some r => Res.ok (D.bl r) | none => .no) = _
  rw [show kitB "list" "list" = some true by decide +kernel]
@[simp] theorem isi_tt : dIsi [.tup xs, .ty "tuple"] = .ok (.bl true) := by
  show (match kitB "tuple" "tuple" with | some r => Res.ok (D.bl r) | none => .no) = _
  rw [show kitB "tuple" "tuple" = some true by decide +kernel]
@[simp] theorem isi_ss : dIsi [.str s, .ty "str"] = .ok (.bl true) := by
  show (match kitB "str" "str" with | some r => Res.ok (D.bl r) | none => .no) = _
  rw [show kitB "str" "str" = some true by decide +kernel]
@[simp] theorem isi_ii : dIsi [.int x, .ty "int"] = .ok (.bl true) := by
  show (match kitB "int" "int" with | some r => Res.ok (D.bl r) | none => .no) = _
  rw [show kitB "int" "int" = some true by decide +kernel]
@[simp] theorem isi_ni : dIsi [.non, .ty "int"] = .ok (.bl false) := by
  show (match kitB "NoneType" "int" with | some r => Res.ok (D.bl r) | none => .no) = _
  rw [show kitB "NoneType" "int" = some false by decide +kernel]
@[simp] theorem dIs_n : dIs d .non = .ok (.bl d.isNon) := mk_eq rfl
@[simp] theorem dIs_b : dIs (.bl p) (.bl q) = .ok (.bl (p == q)) := mk_eq rfl
@[simp] theorem dIsNot_n : dIsNot d .non = .ok (.bl (!d.isNon)) := mk_eq rfl
@[simp] theorem dIsNot_b : dIsNot (.bl p) (.bl q) = .ok (.bl (!(p == q))) := mk_eq rfl
end

/-! ### data of one kind -/
theorem ints_map : ∀ ns : List Int, D.ints (ns.map D.int) = some ns
  | [] => rfl
  | n :: ns => by simp [D.ints, ints_map ns]
theorem bools_map : ∀ ns : List Bool, D.bools (ns.map D.bl) = some ns
  | [] => rfl
  | n :: ns => by simp [D.bools, bools_map ns]
theorem strs_map : ∀ ns : List Str, D.strs (ns.map D.str) = some ns
  | [] => rfl
  | n :: ns => by simp [D.strs, strs_map ns]
theorem eqbA_map {α : Type} [DecidableEq α] {f : α → D} (h : ∀ a b, (f a).eqb (f b) = decide (a = b)) : ∀ xs ys : List α, D.eqbA (xs.map f) (ys.map f) = decide (xs = ys)
  | [], [] => by simp [D.eqbA]
  | [], _ :: _ => by simp [D.eqbA]
  | _ :: _, [] => by simp [D.eqbA]
  | x :: xs, y :: ys => by
    simp only [List.map_cons, D.eqbA, h, eqbA_map h xs ys]
    by_cases h1 : x = y <;> by_cases h2 : xs = ys <;> simp [h1, h2]
theorem datA_map {α : Type} {f : α → D} {n : Nat} (h : ∀ a, D.dat n (f a) = true) : ∀ xs : List α, D.datA n (xs.map f) = true
  | [] => by simp [D.datA]
  | x :: xs => by simp [D.datA, h, datA_map h xs]
@[simp] theorem dat_int {n : Nat} {x : Int} : D.dat n (.int x) = true := by cases n <;> rfl
@[simp] theorem dat_str {n : Nat} {x : Str} : D.dat n (.str x) = true := by cases n <;> rfl
@[simp] theorem dat_bl {n : Nat} {x : Bool} : D.dat n (.bl x) = true := by cases n <;> rfl
@[simp] theorem dat_non {n : Nat} : D.dat n .non = true := by cases n <;> rfl
@[simp] theorem dat_lst {n : Nat} {xs : List D} : D.dat (n + 1) (.lst xs) = D.datA n xs := mk_eq rfl
@[simp] theorem dat_tup {n : Nat} {xs : List D} : D.dat (n + 1) (.tup xs) = D.datA n xs := mk_eq rfl
@[simp] theorem datA_nil {n : Nat} : D.datA n [] = true := by simp [D.datA]
@[simp] theorem datA_cons {n : Nat} {x : D} {xs : List D} : D.datA n (x :: xs) = (D.dat n x && D.datA n xs) := by simp [D.datA]
@[simp] theorem datA_ints {n : Nat} (ns : List Int) : D.datA n (ns.map D.int) = true := datA_map (fun _ => dat_int) ns
theorem eqb_int (a b : Int) : (D.int a).eqb (.int b) = decide (a = b) := by
  show (a == b) = _
  rw [Bool.eq_iff_iff]
  simp
theorem eqb_str (a b : Str) : (D.str a).eqb (.str b) = decide (a = b) := by
  show (a == b) = _
  rw [Bool.eq_iff_iff]
  simp
theorem eqbA_ints (xs ys : List Int) : D.eqbA (xs.map D.int) (ys.map D.int) = decide (xs = ys) := eqbA_map eqb_int xs ys

/-! ### loops -/
/-- a loop that stores: s the state, j what is forgotten; I by the turn -/
theorem forM_foldA {α σ τ : Type} {b : Bnd} {body : Rho → Out} {enc : α → D} (st : σ → τ → Rho) (f : σ → α → σ) (I : Nat → σ → Prop) : ∀ (xs : List α) (k : Nat), (∀ (i : Nat) s j x, xs[i]? = some x → I (k + i) s → ∃ ρ1 j', b (enc x) (st s j) = some ρ1 ∧ (body ρ1 = .nx (st (f s x) j') ∨ body ρ1 = .ct (st (f s x) j')) ∧ I (k + i + 1) (f s x)) →
    ∀ s j, I k s → ∃ j', forM b body (xs.map enc) (st s j) = .nx (st (xs.foldl f s) j') ∧ I (k + xs.length) (xs.foldl f s)
  | [], _, _, s, j, hI => ⟨j, rfl, hI⟩
  | x :: xs, k, h, s, j, hI => by
    obtain ⟨ρ1, j1, h1, h2, h3⟩ := h 0 s j x rfl hI
    obtain ⟨j2, h4, h5⟩ := forM_foldA st f I xs (k + 1) (fun i s j y hy hI => by
      have := h (i + 1) s j y (by simpa using hy) (by rw [show k + (i + 1) = k + 1 + i by omega]; exact hI)
      rw [show k + (i + 1) + 1 = k + 1 + i + 1 by omega] at this
      exact this) (f s x) j1 (by simpa using h3)
    refine ⟨j2, ?_, by rw [show k + (x :: xs).length = k + 1 + xs.length by simp; omega]; exact h5⟩
    simp only [List.map_cons, forM, h1]
    rcases h2 with h2 | h2
    · rw [h2]
      exact h4
    · rw [h2]
      exact h4
theorem forM_fold {α σ τ : Type} {b : Bnd} {body : Rho → Out} {enc : α → D} (st : σ → τ → Rho) (f : σ → α → σ) (I : Nat → σ → Prop) (xs : List α) (h : ∀ (i : Nat) s j x, xs[i]? = some x → I i s → ∃ ρ1 j', b (enc x) (st s j) = some ρ1 ∧ (body ρ1 = .nx (st (f s x) j') ∨ body ρ1 = .ct (st (f s x) j')) ∧ I (i + 1) (f s x))
    (s : σ) (j : τ) (hI : I 0 s) : ∃ j', forM b body (xs.map enc) (st s j) = .nx (st (xs.foldl f s) j') ∧ I xs.length (xs.foldl f s) := by
  have := forM_foldA st f I xs 0 (fun i s j x hx hI => by
    rw [Nat.zero_add] at hI ⊢
    exact h i s j x hx hI) s j hI
  rw [Nat.zero_add] at this
  exact this
/-- a comprehension whose elements never fail -/
theorem lcM_map {α β : Type} {b : Bnd} {f : Rho → Res D} {ρ : Rho} {enc : α → D} {dec : β → D} (g : α → β) : ∀ (xs : List α), (∀ x, x ∈ xs → ∃ ρ1, b (enc x) ρ = some ρ1 ∧ f ρ1 = .ok (dec (g x))) → lcM b yesB f ρ (xs.map enc) = .ok ((xs.map g).map dec)
  | [], _ => rfl
  | x :: xs, h => by
    obtain ⟨ρ1, h1, h2⟩ := h x List.mem_cons_self
    have ih := lcM_map (dec := dec) g xs fun y hy => h y (List.mem_cons_of_mem _ hy)
    simp only [List.map_cons, lcM, h1, yesB, Res.calm_ok, Res.bind_ok, if_true, h2, ih]
theorem lcM_filterMap {α β : Type} {b : Bnd} {c : Rho → Res Bool} {f : Rho → Res D} {ρ : Rho} {enc : α → D} {dec : β → D} (p : α → Bool) (g : α → β) : ∀ (xs : List α), (∀ x, x ∈ xs → ∃ ρ1, b (enc x) ρ = some ρ1 ∧ c ρ1 = .ok (p x) ∧ (p x = true → f ρ1 = .ok (dec (g x)))) →
    lcM b c f ρ (xs.map enc) = .ok (((xs.filter p).map g).map dec)
  | [], _ => rfl
  | x :: xs, h => by
    obtain ⟨ρ1, h1, h2, h3⟩ := h x List.mem_cons_self
    have ih := lcM_filterMap (dec := dec) p g xs fun y hy => h y (List.mem_cons_of_mem _ hy)
    simp only [List.map_cons, lcM, h1, h2, Res.calm_ok, Res.bind_ok, ih]
    cases hp : p x with
    | true => simp [hp, h3 hp]
    | false => simp [hp]
theorem upFrom_eq (lo : Int) (n : Nat) : upFrom lo n = (List.range n).map fun (i : Nat) => D.int (lo + i) := mk_eq rfl
theorem runF_rt {n N : Nat} {f : Rho → Out} {ds : List D} {d : D} (h : ds.length = n) (e : f (startR N ds) = .rt d) : runF n N f ds = .ok d := by
  unfold runF
  rw [if_pos h, e]
theorem atI_get {α : Type} {xs : List α} {i : Int} {j : Nat} {x : α} (h : i = (j : Int)) (e : xs[j]? = some x) : atI xs i = some x := by
  subst h
  exact atI_nat e
theorem sz1 {n : Nat} (h : n ≤ 1000000) : n ≤ sizeLine := Nat.le_trans h (by decide)
theorem sz2 {n : Nat} (h : n < 1000000) : n < sizeLine := Nat.lt_of_lt_of_le h (by decide)
end T

set_option Elab.async false
set_option linter.all false
set_option maxRecDepth 100000
set_option maxHeartbeats 4000000
/-! T-layer, part X: the draws of a law. -/
namespace T
open PySem L2
def mDraws : Rho → Out := (sSeq (sSetN 2 (lstV noA)) (sSeq (sFor (callV dRng1 (consA (getV 1) noA)) (bNm 3) (sSeq (sSet 4 (conD (.int 0))) (sSeq (sIf (toB (bin dGt (callV dLen (consA (getV 0) noA)) (conD (.int 0)))) (sSet 4 (callV dInt (consA (bin dIx (getV 0) (bin dMod (getV 3) (callV dLen (consA (getV 0) noA)))) noA))) sSkip) (sSeq (sIf (toB (bin dLt (getV 4) (conD (.int 0)))) (sSet 4 (bin dSub (conD (.int 1)) (bin dMul (conD (.int 2)) (getV 4)))) sSkip) (sSeq (sIf (orB (toB (bin dLt (getV 4) (conD (.int 1000000000)))) (toB (bin dGe (getV 3) (callV dLen (consA (getV 0) noA))))) (sSeq (sSet 4 (bin dMod (callV dInt (consA (bin dAdd (bin dMul (getV 4) (conD (.int 6364136223846793005))) (bin dMul (conD (.int 1442695040888963407)) (bin dAdd (getV 3) (conD (.int 1))))) noA)) (conD (.int 9223372036854775783)))) (sSet 4 (bin dMod (callV dInt (consA (bin dAdd (bin dAdd (bin dMul (getV 4) (conD (.int 2862933555777941757))) (conD (.int 3037000493))) (getV 3)) noA)) (conD (.int 18446744073709551557))))) sSkip) (sApp 2 (getV 4))))))) (sRet (getV 2))))
def cell0 (ns : List Int) (k : Nat) : Int := if 0 < ns.length then ns.getD (k % ns.length) 0 else 0
def cell1 (ns : List Int) (k : Nat) : Int := if cell0 ns k < 0 then 1 - 2 * cell0 ns k else cell0 ns k
def cellG (T0 A1 B1 M1 A2 C2 M2 : Int) (ns : List Int) (k : Nat) : Int := if cell1 ns k < T0 ∨ ns.length ≤ k then ((cell1 ns k * A1 + B1 * (k + 1)) % M1 * A2 + C2 + k) % M2 else cell1 ns k
def cell2 (ns : List Int) (k : Nat) : Int := cellG 1000000000 6364136223846793005 1442695040888963407 9223372036854775783 2862933555777941757 3037000493 18446744073709551557 ns k
/-- numbers of at most n bits -/
def Fits (n : Nat) (x : Int) : Prop := x.natAbs < 2 ^ n
theorem Fits.mono {n m : Nat} {x : Int} (h : Fits n x) (e : n ≤ m) : Fits m x := Nat.lt_of_lt_of_le h (Nat.pow_le_pow_right (by decide) e)
theorem Fits.mul {n m : Nat} {x y : Int} (h : Fits n x) (h' : Fits m y) (e : n + m ≤ 134217728) : CMulX x y := mulx_ok h h' e
theorem fits_of_bits {n : Nat} {x : Int} (h : Builtin.Int.intBits x ≤ n) : Fits n x := by
  unfold Builtin.Int.intBits at h
  unfold Fits
  by_cases hx : x = 0
  · subst hx
    simp
    exact Nat.two_pow_pos n
  · have h1 : (x == 0) = false := by simpa using hx
    rw [h1] at h
    simp only [if_neg Bool.false_ne_true] at h
    have h2 : x.natAbs ≠ 0 := by omega
    exact (Nat.log2_lt h2).mp (by omega)
theorem fits_small {x : Int} (h : -(2 ^ 64) < x) (h' : x < 2 ^ 64) : Fits 64 x := by
  unfold Fits
  have : (2 : Nat) ^ 64 = 18446744073709551616 := by decide
  rw [this]
  omega
theorem Fits.two {n : Nat} {x : Int} (h : Fits n x) : Fits (n + 2) (1 - 2 * x) := by
  unfold Fits at *
  have : (2 : Nat) ^ (n + 2) = 4 * 2 ^ n := by rw [Nat.pow_add]; omega
  omega
theorem Fits.pos {n : Nat} {x : Int} (h : Fits n x) (h0 : 0 < n) : 0 < n := h0
section
variable {ns : List Int} {n : Nat} (hn : n ≤ 2000000) (hb : ∀ z ∈ ns, Fits n z)
include hb
theorem cell0_fits (k : Nat) : Fits n (cell0 ns k) := by
  unfold cell0
  by_cases h : 0 < ns.length
  · rw [if_pos h]
    have hlt : k % ns.length < ns.length := Nat.mod_lt _ h
    rw [List.getD_eq_getElem?_getD, List.getElem?_eq_getElem hlt]
    exact hb _ (List.getElem_mem hlt)
  · rw [if_neg h]
    unfold Fits
    simp
    exact Nat.two_pow_pos n
theorem cell1_fits (k : Nat) : Fits (n + 2) (cell1 ns k) := by
  unfold cell1
  split
  · exact (cell0_fits hb k).two
  · exact (cell0_fits hb k).mono (by omega)
omit hb in
theorem cell1_nn (k : Nat) : 0 ≤ cell1 ns k := by
  unfold cell1
  split <;> omega
omit hb in
theorem cell2_nn (k : Nat) : 0 ≤ cell2 ns k := by
  unfold cell2 cellG
  split
  · exact Int.emod_nonneg _ (by decide)
  · exact cell1_nn k
theorem cell2_fits (k : Nat) : Fits (n + 66) (cell2 ns k) := by
  unfold cell2 cellG
  split
  · refine (fits_small ?_ ?_).mono (by omega)
    · exact Int.lt_of_lt_of_le (by decide) (Int.emod_nonneg _ (by decide))
    · exact Int.lt_trans (Int.emod_lt_of_pos _ (by decide)) (by decide)
  · exact (cell1_fits hb k).mono (by omega)
omit hn hb in
theorem draws_e0 (S C L K : D) (x : Nat) (hK : K = .int (x : Int)) (hS : S = .scr (ns.map D.int)) : (sIf (toB (bin dGt (callV dLen (consA (getV 0) noA)) (conD (.int 0)))) (sSet 4 (callV dInt (consA (bin dIx (getV 0) (bin dMod (getV 3) (callV dLen (consA (getV 0) noA)))) noA))) sSkip) [some S, some C, some L, some K, some (.int 0)] = .nx [some S, some C, some L, some K, some (.int (cell0 ns x))] := by
  subst hK hS
  by_cases h : 0 < ns.length
  · have hm : (0 : Int) < ns.length := by omega
    have hlt : x % ns.length < ns.length := Nat.mod_lt _ h
    have hix : dIx (.scr (ns.map D.int)) (.int ((x : Int) % ns.length)) = .ok (.int (cell0 ns x)) := by
      refine dIx_c (atI_get (j := x % ns.length) (by simp) ?_)
      rw [List.getElem?_map, List.getElem?_eq_getElem hlt]
      unfold cell0
      rw [if_pos h, List.getD_eq_getElem?_getD, List.getElem?_eq_getElem hlt]
      rfl
    simp only [sIf_ap, toB_ap, bin_ap, callV_ap, consA_ap, noA_ap, getV_s, getV_0, conD_ap, Res.bind_ok, dLen_c, List.length_map, dGt_i, hm, decide_true, thenS_ok, if_true, sSet_ap, dMod_ok hm, hix, dInt_i, List.set]
  · have hm : ¬ (0 : Int) < ns.length := by omega
    simp only [sIf_ap, toB_ap, bin_ap, callV_ap, consA_ap, noA_ap, getV_s, getV_0, conD_ap, Res.bind_ok, dLen_c, List.length_map, dGt_i, hm, decide_false, thenS_ok, if_false, Bool.false_eq_true, sSkip_ap, cell0, h]
include hn
theorem draws_e1 (S C L K : D) (x : Nat) : (sIf (toB (bin dLt (getV 4) (conD (.int 0)))) (sSet 4 (bin dSub (conD (.int 1)) (bin dMul (conD (.int 2)) (getV 4)))) sSkip) [some S, some C, some L, some K, some (.int (cell0 ns x))] = .nx [some S, some C, some L, some K, some (.int (cell1 ns x))] := by
  have hmul : CMulX 2 (cell0 ns x) := (fits_small (by decide) (by decide) : Fits 64 2).mul (cell0_fits hb x) (by omega)
  by_cases h : cell0 ns x < 0
  · simp [h, dMul_ok hmul, cell1]
  · simp [h, cell1]
omit hn hb in
theorem draws_a (S C L : D) (k c A1 B1 M1 : Int) (hM1 : 0 < M1) (m1 : CMulX c A1) (m2 : CMulX B1 (k + 1)) : (bin dMod (callV dInt (consA (bin dAdd (bin dMul (getV 4) (conD (.int A1))) (bin dMul (conD (.int B1)) (bin dAdd (getV 3) (conD (.int 1))))) noA)) (conD (.int M1))) [some S, some C, some L, some (.int k), some (.int c)] = .ok (.int ((c * A1 + B1 * (k + 1)) % M1)) := by
  have a : (bin dMul (conD (.int B1)) (bin dAdd (getV 3) (conD (.int 1)))) [some S, some C, some L, some (.int k), some (.int c)] = .ok (.int (B1 * (k + 1))) := by
    simp only [bin_ap, getV_s, getV_0, conD_ap, Res.bind_ok, dAdd_i, dMul_ok m2]
  have b : (bin dAdd (bin dMul (getV 4) (conD (.int A1))) (bin dMul (conD (.int B1)) (bin dAdd (getV 3) (conD (.int 1))))) [some S, some C, some L, some (.int k), some (.int c)] = .ok (.int (c * A1 + B1 * (k + 1))) := by
    rw [bin_ap, a]
    simp only [bin_ap, getV_s, getV_0, conD_ap, Res.bind_ok, dMul_ok m1, dAdd_i]
  rw [bin_ap, callV_ap, consA_ap, b]
  simp only [noA_ap, Res.bind_ok, dInt_i, dMod_ok hM1, conD_ap]
omit hn hb in
theorem draws_b (S C L : D) (k c A2 C2 M2 : Int) (hM2 : 0 < M2) (m3 : CMulX c A2) : (bin dMod (callV dInt (consA (bin dAdd (bin dAdd (bin dMul (getV 4) (conD (.int A2))) (conD (.int C2))) (getV 3)) noA)) (conD (.int M2))) [some S, some C, some L, some (.int k), some (.int c)] = .ok (.int ((c * A2 + C2 + k) % M2)) := by
  simp only [bin_ap, callV_ap, consA_ap, getV_s, getV_0, conD_ap, noA_ap, Res.bind_ok, dMul_ok m3, dAdd_i, dInt_i, dMod_ok hM2]
omit hn hb in
theorem draws_g (T0 A1 B1 M1 A2 C2 M2 : Int) (S C L K : D) (x : Nat) (hM1 : 0 < M1) (hM2 : 0 < M2) (m1 : CMulX (cell1 ns x) A1) (m2 : CMulX B1 ((x : Int) + 1)) (m3 : CMulX ((cell1 ns x * A1 + B1 * ((x : Int) + 1)) % M1) A2) (hK : K = .int (x : Int)) (hS : S = .scr (ns.map D.int)) :
    (sIf (orB (toB (bin dLt (getV 4) (conD (.int T0)))) (toB (bin dGe (getV 3) (callV dLen (consA (getV 0) noA))))) (sSeq (sSet 4 (bin dMod (callV dInt (consA (bin dAdd (bin dMul (getV 4) (conD (.int A1))) (bin dMul (conD (.int B1)) (bin dAdd (getV 3) (conD (.int 1))))) noA)) (conD (.int M1)))) (sSet 4 (bin dMod (callV dInt (consA (bin dAdd (bin dAdd (bin dMul (getV 4) (conD (.int A2))) (conD (.int C2))) (getV 3)) noA)) (conD (.int M2))))) sSkip) [some S, some C, some L, some K, some (.int (cell1 ns x))] = .nx [some S, some C, some L, some K, some (.int (cellG T0 A1 B1 M1 A2 C2 M2 ns x))] := by
  subst hK hS
  have h1 := draws_a (.scr (ns.map D.int)) C L (x : Int) (cell1 ns x) A1 B1 M1 hM1 m1 m2
  have h2 := draws_b (.scr (ns.map D.int)) C L (x : Int) ((cell1 ns x * A1 + B1 * ((x : Int) + 1)) % M1) A2 C2 M2 hM2 m3
  have h3 : sSeq (sSet 4 (bin dMod (callV dInt (consA (bin dAdd (bin dMul (getV 4) (conD (.int A1))) (bin dMul (conD (.int B1)) (bin dAdd (getV 3) (conD (.int 1))))) noA)) (conD (.int M1)))) (sSet 4 (bin dMod (callV dInt (consA (bin dAdd (bin dAdd (bin dMul (getV 4) (conD (.int A2))) (conD (.int C2))) (getV 3)) noA)) (conD (.int M2)))) [some (.scr (ns.map D.int)), some C, some L, some (.int (x : Int)), some (.int (cell1 ns x))] = .nx [some (.scr (ns.map D.int)), some C, some L, some (.int (x : Int)), some (.int (((cell1 ns x * A1 + B1 * ((x : Int) + 1)) % M1 * A2 + C2 + (x : Int)) % M2))] := by
    rw [sSeq_nx (ρ' := [some (.scr (ns.map D.int)), some C, some L, some (.int (x : Int)), some (.int ((cell1 ns x * A1 + B1 * ((x : Int) + 1)) % M1))]) (by rw [sSet_ap, h1]; rfl), sSet_ap, h2]
    rfl
  have h4 : (orB (toB (bin dLt (getV 4) (conD (.int T0)))) (toB (bin dGe (getV 3) (callV dLen (consA (getV 0) noA))))) [some (.scr (ns.map D.int)), some C, some L, some (.int (x : Int)), some (.int (cell1 ns x))] = .ok (decide (cell1 ns x < T0 ∨ ns.length ≤ x)) := by
    simp only [orB_ap, toB_ap, bin_ap, callV_ap, consA_ap, getV_s, getV_0, conD_ap, noA_ap, Res.bind_ok, dLt_i, dGe_i, dLen_c, List.length_map, Int.ofNat_le]
    by_cases h : cell1 ns x < T0 <;> simp [h]
  rw [sIf_ap, h4, thenS_ok]
  unfold cellG
  by_cases h : cell1 ns x < T0 ∨ ns.length ≤ x
  · rw [decide_eq_true h, if_pos rfl, if_pos h]
    exact h3
  · rw [decide_eq_false h, if_neg Bool.false_ne_true, if_neg h]
    rfl
theorem draws_e2 (S C L K : D) (x : Nat) (hx : x < 100000) (hK : K = .int (x : Int)) (hS : S = .scr (ns.map D.int)) : (sIf (orB (toB (bin dLt (getV 4) (conD (.int 1000000000)))) (toB (bin dGe (getV 3) (callV dLen (consA (getV 0) noA))))) (sSeq (sSet 4 (bin dMod (callV dInt (consA (bin dAdd (bin dMul (getV 4) (conD (.int 6364136223846793005))) (bin dMul (conD (.int 1442695040888963407)) (bin dAdd (getV 3) (conD (.int 1))))) noA)) (conD (.int 9223372036854775783)))) (sSet 4 (bin dMod (callV dInt (consA (bin dAdd (bin dAdd (bin dMul (getV 4) (conD (.int 2862933555777941757))) (conD (.int 3037000493))) (getV 3)) noA)) (conD (.int 18446744073709551557))))) sSkip) [some S, some C, some L, some K, some (.int (cell1 ns x))] = .nx [some S, some C, some L, some K, some (.int (cell2 ns x))] :=
  draws_g _ _ _ _ _ _ _ S C L K x (by decide) (by decide) ((cell1_fits hb x).mul (fits_small (by decide) (by decide)) (by omega)) (Fits.mul (m := 64) (fits_small (by decide) (by decide)) (fits_small (by omega) (by omega)) (by omega))
    (Fits.mul (n := 64) (m := 64) (fits_small (Int.lt_of_lt_of_le (by decide) (Int.emod_nonneg _ (by decide))) (Int.lt_trans (Int.emod_lt_of_pos _ (by decide)) (by decide))) (fits_small (by decide) (by decide)) (by omega)) hK hS
def bDraws : Rho → Out := (sSeq (sSet 4 (conD (.int 0))) (sSeq (sIf (toB (bin dGt (callV dLen (consA (getV 0) noA)) (conD (.int 0)))) (sSet 4 (callV dInt (consA (bin dIx (getV 0) (bin dMod (getV 3) (callV dLen (consA (getV 0) noA)))) noA))) sSkip) (sSeq (sIf (toB (bin dLt (getV 4) (conD (.int 0)))) (sSet 4 (bin dSub (conD (.int 1)) (bin dMul (conD (.int 2)) (getV 4)))) sSkip) (sSeq (sIf (orB (toB (bin dLt (getV 4) (conD (.int 1000000000)))) (toB (bin dGe (getV 3) (callV dLen (consA (getV 0) noA))))) (sSeq (sSet 4 (bin dMod (callV dInt (consA (bin dAdd (bin dMul (getV 4) (conD (.int 6364136223846793005))) (bin dMul (conD (.int 1442695040888963407)) (bin dAdd (getV 3) (conD (.int 1))))) noA)) (conD (.int 9223372036854775783)))) (sSet 4 (bin dMod (callV dInt (consA (bin dAdd (bin dAdd (bin dMul (getV 4) (conD (.int 2862933555777941757))) (conD (.int 3037000493))) (getV 3)) noA)) (conD (.int 18446744073709551557))))) sSkip) (sApp 2 (getV 4))))))
omit hn hb in
theorem draws_app (S C K : D) (s : List Int) (z : Int) (hs : s.length < 100000) : sApp 2 (getV 4) [some S, some C, some (.lst (s.map D.int)), some K, some (.int z)] = .nx [some S, some C, some (.lst ((s ++ [z]).map D.int)), some K, some (.int z)] := by
  have e3 : (s.map D.int).length < sizeLine := sz2 (by simp; omega)
  rw [sApp_ap, x_atL (xs := s.map D.int) rfl, x_getV (d := .int z) rfl, thenS_ok, if_pos e3, List.map_append]
  rfl
theorem draws_body (hl : ns.length ≤ 63) (x : Nat) (hx : x < 100000) (C : D) (a : Option D) (s : List Int) (hs : s.length < 100000) : bDraws [some (.scr (ns.map D.int)), some C, some (.lst (s.map D.int)), some (.int (x : Int)), a] = .nx [some (.scr (ns.map D.int)), some C, some (.lst ((s ++ [cell2 ns x]).map D.int)), some (.int (x : Int)), some (.int (cell2 ns x))] := by
  have e := draws_e2 hn hb (.scr (ns.map D.int)) C (.lst (s.map D.int)) (.int (x : Int)) x hx rfl rfl
  generalize cell2 ns x = z at e ⊢
  unfold bDraws
  rw [sSeq_nx (f := sSet 4 (conD (.int 0))) (ρ' := [some (.scr (ns.map D.int)), some C, some (.lst (s.map D.int)), some (.int (x : Int)), some (.int 0)]) rfl, sSeq_nx (draws_e0 _ _ _ _ x rfl rfl), sSeq_nx (draws_e1 hn hb _ _ _ _ x), sSeq_nx e]
  exact draws_app _ _ _ s z hs
omit hn hb in
theorem draws_loop (body : Rho → Out) (cell : Nat → Int) (S : D) (c : Nat) (hc : c ≤ 100000) (h : ∀ (x : Nat), x < 100000 → ∀ (C : D) (a : Option D) (s : List Int), s.length < 100000 → body [some S, some C, some (.lst (s.map D.int)), some (.int (x : Int)), a] = .nx [some S, some C, some (.lst ((s ++ [cell x]).map D.int)), some (.int (x : Int)), some (.int (cell x))]) :
    runF 2 5 (sSeq (sSetN 2 (lstV noA)) (sSeq (sFor (callV dRng1 (consA (getV 1) noA)) (bNm 3) body) (sRet (getV 2)))) [S, .int c] = .ok (.lst (((List.range c).map cell).map D.int)) := by
  refine runF_rt rfl ?_
  rw [sSeq_nx (f := sSetN 2 (lstV noA)) (ρ' := [some S, some (.int c), some (.lst []), none, none]) rfl]
  obtain ⟨j, hj, hI⟩ := forM_fold (b := bNm 3) (enc := fun (i : Nat) => D.int i) (body := body) (fun (s : List Int) (j : Option D × Option D) => [some S, some (.int c), some (.lst (s.map D.int)), j.1, j.2]) (fun s k => s ++ [cell k]) (fun i s => s = (List.range i).map cell) (List.range c) (fun i s j x hx hI => by
    have hx' : x = i ∧ i < c := by
      obtain ⟨h1, h2⟩ := List.getElem?_eq_some_iff.mp hx
      simp at h1 h2
      omega
    obtain ⟨rfl, hic⟩ := hx'
    refine ⟨_, (some (.int (x : Int)), some (.int (cell x))), rfl, .inl (h x (by omega) _ _ s ?_), ?_⟩
    · rw [hI, List.length_map, List.length_range]
      omega
    · rw [hI, List.range_succ, List.map_append]
      rfl) [] (none, none) rfl
  have hr : callV dRng1 (consA (getV 1) noA) [some S, some (.int c), some (.lst []), none, none] = .ok ((List.range c).map fun (i : Nat) => D.int i) := by
    simp only [callV_ap, consA_ap, getV_s, getV_0, Res.bind_ok, noA_ap, dRng1, upFrom]
    rw [if_pos (by omega)]
    simp
  rw [List.length_range] at hI
  rw [hI] at hj
  rw [sSeq_nx (f := sFor (callV dRng1 (consA (getV 1) noA)) (bNm 3) body) (by
    rw [sFor_ap, hr, thenS_ok]
    exact hj)]
  rfl
theorem draws_run (hl : ns.length ≤ 63) (c : Nat) (hc : c ≤ 100000) : runF 2 5 mDraws [.scr (ns.map D.int), .int c] = .ok (.lst (((List.range c).map (cell2 ns)).map D.int)) :=
  draws_loop bDraws (cell2 ns) _ c hc fun x hx C a s hs => draws_body hn hb hl x hx C a s hs
end
/-- the draws, as a list of numbers that are not negative -/
theorem draws_ok {ns : List Int} (hl : ns.length ≤ 63) (hb : ∀ z ∈ ns, Builtin.Int.intBits z ≤ 1048576) (c : Nat) (hc : c ≤ 100000) : ∃ ds : List Int, ds.length = c ∧ (∀ d ∈ ds, 0 ≤ d ∧ Fits 1048650 d) ∧ runF 2 5 mDraws [.scr (ns.map D.int), .int c] = .ok (.lst (ds.map D.int)) := by
  have hb' : ∀ z ∈ ns, Fits 1048576 z := fun z hz => fits_of_bits (hb z hz)
  refine ⟨(List.range c).map (cell2 ns), by simp, fun d hd => ?_, draws_run (n := 1048576) (by omega) hb' hl c hc⟩
  obtain ⟨k, _, rfl⟩ := List.mem_map.mp hd
  exact ⟨cell2_nn k, (cell2_fits hb' k).mono (by omega)⟩
end T

set_option Elab.async false
set_option linter.all false
set_option maxRecDepth 100000
set_option maxHeartbeats 4000000
/-! T-layer, part N: going through a mirror; texts. -/
namespace T
open PySem L2
section
variable {ρ ρ' : Rho} {f g : Rho → Out} {o : Out} {d : D} {c : Rho → Res Bool}
theorem seq_nx (h : f ρ = .nx ρ') (h' : g ρ' = o) : sSeq f g ρ = o := by rw [sSeq_nx h, h']
theorem seq_rt (h : f ρ = .rt d) : sSeq f g ρ = .rt d := sSeq_rt h
theorem seq_ex {e : Exn} (h : f ρ = .ex e ρ') : sSeq f g ρ = .ex e ρ' := by rw [sSeq_ap, h]
theorem if_t (h : c ρ = .ok true) (h' : f ρ = o) : sIf c f g ρ = o := by rw [sIf_ap, h, thenS_ok, if_pos rfl, h']
theorem if_f (h : c ρ = .ok false) (h' : g ρ = o) : sIf c f g ρ = o := by rw [sIf_ap, h, thenS_ok, if_neg Bool.false_ne_true, h']
/-- a test that is not met, ahead of the rest -/
theorem seq_no (h : c ρ = .ok false) (h' : g ρ = o) : sSeq (sIf c f sSkip) g ρ = o := seq_nx (if_f h rfl) h'
theorem set_ok {i : Nat} {a : Rho → Res D} (h : a ρ = .ok d) : sSet i a ρ = .nx (ρ.set i (some d)) := by rw [sSet_ap, h, thenS_ok]
theorem setN_ok {i : Nat} {a : Rho → Res (List D)} {ds : List D} (h : a ρ = .ok ds) : sSetN i a ρ = .nx (ρ.set i (some (.lst ds))) := by rw [sSetN_ap, h, thenS_ok]
theorem ret_ok {a : Rho → Res D} (h : a ρ = .ok d) : sRet a ρ = .rt d := by rw [sRet_ap, h, thenS_ok]
theorem app_ok {i : Nat} {a : Rho → Res D} {xs : List D} (h0 : ρ[i]? = some (some (.lst xs))) (h : a ρ = .ok d) (hs : xs.length < 1000000) : sApp i a ρ = .nx (ρ.set i (some (.lst (xs ++ [d])))) := by
  rw [sApp_ap, x_atL h0, h, thenS_ok, if_pos (sz2 hs)]
theorem for_ok {s : Rho → Res (List D)} {b : Bnd} {items : List D} (h : s ρ = .ok items) (h' : forM b f items ρ = o) : sFor s b f ρ = o := by rw [sFor_ap, h, thenS_ok, h']
theorem orB_f {a b : Rho → Res Bool} (h : a ρ = .ok false) (h' : b ρ = .ok false) : orB a b ρ = .ok false := by rw [orB_ap, h, Res.bind_ok, if_neg Bool.false_ne_true, h']
theorem orB_t {a b : Rho → Res Bool} (h : a ρ = .ok true) : orB a b ρ = .ok true := by rw [orB_ap, h, Res.bind_ok, if_pos rfl]
theorem orB_r {a b : Rho → Res Bool} {k : Bool} (h : a ρ = .ok false) (h' : b ρ = .ok k) : orB a b ρ = .ok k := by rw [orB_ap, h, Res.bind_ok, if_neg Bool.false_ne_true, h']
theorem andB_f {a b : Rho → Res Bool} (h : a ρ = .ok false) : andB a b ρ = .ok false := by rw [andB_ap, h, Res.bind_ok, if_neg Bool.false_ne_true]
theorem andB_r {a b : Rho → Res Bool} {k : Bool} (h : a ρ = .ok true) (h' : b ρ = .ok k) : andB a b ρ = .ok k := by rw [andB_ap, h, Res.bind_ok, if_pos rfl, h']
theorem orB_ok {a b : Rho → Res Bool} {k l : Bool} (h : a ρ = .ok k) (h' : b ρ = .ok l) : orB a b ρ = .ok (k || l) := by
  rw [orB_ap, h, Res.bind_ok]
  cases k with
  | true => rfl
  | false => simpa using h'
theorem andB_ok {a b : Rho → Res Bool} {k l : Bool} (h : a ρ = .ok k) (h' : k = true → b ρ = .ok l) : andB a b ρ = .ok (k && l) := by
  rw [andB_ap, h, Res.bind_ok]
  cases k with
  | true => simpa using h' rfl
  | false => rfl
theorem notB_ok {a : Rho → Res Bool} {k : Bool} (h : a ρ = .ok k) : notB a ρ = .ok (!k) := by rw [notB_ap, h, Res.bind_ok]
theorem toB_ok {a : Rho → Res D} {k : Bool} (h : a ρ = .ok (.bl k)) : toB a ρ = .ok k := by rw [toB_ap, h, Res.bind_ok]
theorem bin_ok {α : Type} {h : D → D → Res α} {a b : Rho → Res D} {x y : D} {z : Res α} (ha : a ρ = .ok x) (hb : b ρ = .ok y) (hh : h x y = z) : bin h a b ρ = z := by rw [bin_ap, ha, Res.bind_ok, hb, Res.bind_ok, hh]
theorem call1_ok {α : Type} {h : List D → Res α} {a : Rho → Res D} {x : D} {z : Res α} (ha : a ρ = .ok x) (hh : h [x] = z) : callV h (consA a noA) ρ = z := by rw [callV_ap, consA_ap, ha, Res.bind_ok, noA_ap, Res.bind_ok, Res.bind_ok, hh]
theorem call2_ok {α : Type} {h : List D → Res α} {a b : Rho → Res D} {x y : D} {z : Res α} (ha : a ρ = .ok x) (hb : b ρ = .ok y) (hh : h [x, y] = z) : callV h (consA a (consA b noA)) ρ = z := by
  rw [callV_ap, consA_ap, ha, Res.bind_ok, consA_ap, hb, Res.bind_ok, noA_ap, Res.bind_ok, Res.bind_ok, Res.bind_ok, hh]
theorem call3_ok {α : Type} {h : List D → Res α} {a b c : Rho → Res D} {x y w : D} {z : Res α} (ha : a ρ = .ok x) (hb : b ρ = .ok y) (hc : c ρ = .ok w) (hh : h [x, y, w] = z) : callV h (consA a (consA b (consA c noA))) ρ = z := by
  rw [callV_ap, consA_ap, ha, Res.bind_ok, consA_ap, hb, Res.bind_ok, consA_ap, hc, Res.bind_ok, noA_ap, Res.bind_ok, Res.bind_ok, Res.bind_ok, Res.bind_ok, hh]
theorem lstD_ok {a : Rho → Res (List D)} {ds : List D} (h : a ρ = .ok ds) : lstD a ρ = .ok (.lst ds) := by rw [lstD_ap, h, Res.bind_ok]
/-- an item of a list of numbers -/
theorem ix_ints {a b : Rho → Res D} {ns : List Int} {i : Int} {j : Nat} (ha : a ρ = .ok (.lst (ns.map D.int))) (hb : b ρ = .ok (.int i)) (hi : i = (j : Int)) (hj : j < ns.length) : bin dIx a b ρ = .ok (.int (ns.getD j 0)) := by
  refine bin_ok ha hb (dIx_l (atI_get hi ?_))
  rw [List.getElem?_map, List.getElem?_eq_getElem hj, List.getD_eq_getElem?_getD, List.getElem?_eq_getElem hj]
  rfl
end
theorem getD_mem {ns : List Int} {j : Nat} (h : j < ns.length) : ns.getD j 0 ∈ ns := by
  rw [List.getD_eq_getElem?_getD, List.getElem?_eq_getElem h]
  exact List.getElem_mem h
theorem rng1_ok {n : Nat} (h : n ≤ 1000000) : dRng1 [.int n] = .ok ((List.range n).map fun (i : Nat) => D.int i) := by
  unfold dRng1
  simp only
  rw [if_pos (by omega)]
  simp [upFrom]
theorem rng1_int {z : Int} (h0 : 0 ≤ z) (h : z ≤ 1000000) : dRng1 [.int z] = .ok ((List.range z.toNat).map fun (i : Nat) => D.int i) := by
  have := rng1_ok (n := z.toNat) (by omega)
  rw [Int.toNat_of_nonneg h0] at this
  exact this
theorem joinL_nil : ∀ ys : List (List Nat), TL.joinL [] ys = ys.flatten
  | [] => rfl
  | [p] => by simp [TL.joinL]
  | p :: q :: r => by
    show p ++ ([] ++ TL.joinL [] (q :: r)) = _
    rw [joinL_nil (q :: r)]
    simp
theorem join_nil (ys : List (List Nat)) : Txt.join (SX.S []) (ys.map SX.S) = SX.S ys.flatten := by rw [SX.join_S, joinL_nil]
end T

set_option Elab.async false
set_option linter.all false
set_option maxRecDepth 100000
set_option maxHeartbeats 4000000
/-! T-layer, part O: tables (an owned list of owned lists). -/
namespace T
open PySem PySem.Spec PyProof.Rows L2
variable [Mg]

abbrev lsts (rows : List (List D)) : List D := rows.map D.lst
/-- rows at addresses -/
def RowsAt (K : PySem.W.Frag) (B H : Hp) (ps : List Addr) (rows : List (List D)) : Prop := ps.length = rows.length ∧ ∀ (k : Nat) (a : Addr) (row : List D), ps[k]? = some a → rows[k]? = some row → ∃ vs, H a = some (.lst vs) ∧ RpA K B vs row
def Fresh (B F : Hp) (own : Own) (a : Addr) : Prop := B a = none ∧ F a = none ∧ own a = none
/-- to a new list of new lists -/
def EvNN (X : Cx) (W : WX) (G : List Mode) (t : TE) (g : Rho → Res (List (List D))) : Prop :=
  ∀ (F : Hp) (ρ : Rho) (own : Own) (B : Hp) (σ : L2.St) (H : Hp) (Q : VK), Good X.K F G ρ own B σ H →
    (g ρ).has (fun rows => ∀ (p : Addr) (ps : List Addr) (B' H' : Hp), Step own F B H B' H' → (∀ a ∈ p :: ps, Fresh B' F own a) → (p :: ps).Nodup → H' p = some (.lst (ps.map V.ref)) → RowsAt X.K B' H' ps rows → Q (.ref p) H') (WOk X.K X.mg W own F B H σ) → t σ H Q
def lcNM (b : Bnd) (f : Rho → Res (List D)) (ρ : Rho) : List D → Res (List (List D))
  | [] => .ok []
  | x :: xs => match b x ρ with
    | none => .no
    | some ρ' => (f ρ').calm.bind fun y => (lcNM b f ρ xs).bind fun ys => .ok (y :: ys)
def compNV (src : Rho → Res (List D)) (b : Bnd) (f : Rho → Res (List D)) (vs : List Nat) : Rho → Res (List (List D)) := fun ρ => (src ρ).bind fun items => if items.length ≤ sizeLine then lcNM b f (wipeR ρ vs) items else .no
/-- these are owned (label 0) while it is made -/
def ownS (own : Own) (S : List Addr) : Own := fun a => if a ∈ S then some [0] else own a
omit [Mg] in
theorem ownS_in {own : Own} {S : List Addr} {a : Addr} (h : a ∈ S) : ownS own S a ≠ none := by simp [ownS, h]
omit [Mg] in
theorem ownS_out {own : Own} {S : List Addr} {a : Addr} (h : a ∉ S) : ownS own S a = own a := by simp [ownS, h]
omit [Mg] in
theorem ownS_up {own : Own} {S : List Addr} {a : Addr} (h : own a ≠ none) : ownS own S a ≠ none := by
  unfold ownS
  split
  · exact fun z => nomatch z
  · exact h
omit [Mg] in
theorem stk_S {H H' : Hp} {own : Own} {S : List Addr} (hD : ∀ a ∈ S, own a = none) (hH : ∀ a, own a ≠ none → H' a = H a) : StK H own H' (ownS own S) := ⟨fun l n r => by
  by_cases h : l ∈ S
  · rw [hD l h]
    simp [ownS, h]
  · rw [ownS_out h], fun l n r e => hH l (by rw [e]; exact fun z => nomatch z)⟩
theorem VRep.moreS {K : PySem.W.Frag} {B H H' : Hp} {own : Own} {S : List Addr} (hD : ∀ a ∈ S, own a = none) (hH : ∀ a, own a ≠ none → H' a = H a) {m : Mode} {lab : Lab} {v : V} {d : D} (h : VRep K B H own m lab v d) : VRep K B H' (ownS own S) m lab v d :=
  VRep.carry ⟨Same.refl B, fun l r e => by
    have ho : own l ≠ none := by rw [e]; exact fun z => nomatch z
    exact ⟨by rw [ownS_out (fun z => ho (hD l z))]; exact e, hH l ho⟩, stk_S hD hH⟩ h
theorem RowsAt.step {K : PySem.W.Frag} {F B H B' H' : Hp} {own : Own} {ps : List Addr} {rows : List (List D)} (r : RowsAt K B H ps rows) (s : Step own F B H B' H') (ho : ∀ a ∈ ps, own a ≠ none) : RowsAt K B' H' ps rows :=
  ⟨r.1, fun k a row h1 h2 => by
    obtain ⟨vs, h3, h4⟩ := r.2 k a row h1 h2
    exact ⟨vs, by rw [(s.ownd a (ho a (List.mem_of_getElem? h1))).1]; exact h3, h4.mono s.ext⟩⟩
theorem RowsAt.snoc {K : PySem.W.Frag} {B H : Hp} {ps : List Addr} {rows : List (List D)} {a : Addr} {row : List D} {vs : List V} (r : RowsAt K B H ps rows) (h : H a = some (.lst vs)) (h' : RpA K B vs row) : RowsAt K B H (ps ++ [a]) (rows ++ [row]) :=
  ⟨by simp [r.1], fun k b row' h1 h2 => by
    by_cases hk : k < ps.length
    · rw [List.getElem?_append_left hk] at h1
      rw [List.getElem?_append_left (by rw [← r.1]; exact hk)] at h2
      exact r.2 k b row' h1 h2
    · rw [List.getElem?_append_right (by omega)] at h1
      rw [List.getElem?_append_right (by rw [← r.1]; omega), ← r.1] at h2
      have hk0 : k - ps.length = 0 := by
        have := (List.getElem?_eq_some_iff.mp h1).1
        simp at this
        omega
      rw [hk0] at h1 h2
      simp at h1 h2
      subst h1 h2
      exact ⟨vs, h, h'⟩⟩
section
variable {X : Cx} {W : WX} {G : List Mode} {tg iter elt c : Expr} {scope : Scope}
theorem fam_n {f : Rho → Res (List D)} (h : ∀ s H C cl fp, NJ (Blk X scope s H C cl fp) W0 G elt f) : ∃ te, (∀ s H C cl fp, PE (Blk X scope s H C cl fp) elt te) ∧ EvN X W0 G te f := by
  refine ⟨fun σ H Q => ∀ s H0 C cl fp, (h s H0 C cl fp).choose σ H Q, fun s H0 C cl fp => ⟨fun pins s1 σ H Q I q => ?_⟩, fun F ρ own B σ H Q gd q s H0 C cl fp => ?_⟩
  · exact (h s H0 C cl fp).choose_spec.1.run pins s1 σ H Q I (q s H0 C cl fp)
  · exact (h s H0 C cl fp).choose_spec.2 F ρ own B σ H Q gd q
omit [Mg] in
theorem lcNM_calm {b : Bnd} {f : Rho → Res (List D)} {ρ : Rho} : ∀ {xs : List D} {e : Exn}, lcNM b f ρ xs ≠ .ex e
  | [], _, h => nomatch h
  | x :: xs, e, h => by
    simp only [lcNM] at h
    split at h
    · cases h
    · rename_i ρ' _
      cases h2 : f ρ' with
      | ok y =>
        rw [h2] at h
        simp only [Res.calm_ok, Res.bind_ok] at h
        cases h3 : lcNM b f ρ xs with
        | ok zs =>
          rw [h3] at h
          cases h
        | no =>
          rw [h3] at h
          cases h
        | ex z => exact lcNM_calm h3
      | ex _ =>
        rw [h2] at h
        cases h
      | no =>
        rw [h2] at h
        cases h
/-- the heart: the source's items walked, the new list of new lists made -/
theorem lc_heartN {own0 : List Nat} {wi : TI} {g : TG} {tt : TT} {te : TE} {b : Bnd} {f : Rho → Res (List D)} {src : Rho → Res (List D)} {is : List Nat} (hi : EvIB X W G wi src)
    (hg : ∀ (F : Hp) (own : Own) (B : Hp) (σ : L2.St) (H : Hp) (G : List Mode) (ρ ρ' : Rho) (v : V) (d : T.D) (Q : L2.St → Hp → Prop), Good X.K F G ρ own B σ H → Rp X.K B v d → b d ρ = some ρ' → (∀ i ∈ is, G.getD i .fz = .fz) →
      (∀ σ', Good X.K F G ρ' own B σ' H → OnlyAt is σ σ' → Q σ' H) → g v σ H Q)
    (hsub : ∀ i ∈ is, i ∈ own0) (hG : ∀ i ∈ is, G.getD i Mode.fz = Mode.fz) (ht : EvT X W0 G tt yesB) (he : EvN X W0 G te f) : EvNN X W G (tLc wi g tt te own0) (compNV src b f own0) := fun F ρ own B σ H Q gd q => by
  refine hi F ρ own B σ H _ gd (Res.has_mono (Res.has_bind q) (fun items q J B1 H1 s1 itr => ?_) fun _ x => x)
  split at q
  case isFalse => exact q.elim
  rename_i hz
  intro D hD
  have g1 := gd.step s1
  have hDo := g1.gr.ofresh hD
  have hDb := g1.gr.bfresh hD
  have hDf := g1.gr.ffresh hD
  refine ⟨fun i m H' => m = items.length - i ∧ i ≤ items.length ∧ ∃ (B' : Hp) (ps : List Addr) (rows : List (List T.D)), Step own F B1 H1 B' H' ∧ (∀ a ∈ D :: ps, Fresh B' F own a ∧ H' a ≠ none) ∧ (D :: ps).Nodup ∧ H' D = some (.lst (ps.map V.ref)) ∧ RowsAt X.K B' H' ps rows ∧ ps.length = i ∧
      (lcNM b f (wipeR ρ own0) (items.drop i)).has (fun rest => ∀ (p : Addr) (ps : List Addr) (B' H' : Hp), Step own F B H B' H' → (∀ a ∈ p :: ps, Fresh B' F own a) → (p :: ps).Nodup → H' p = some (.lst (ps.map V.ref)) → RowsAt X.K B' H' ps (rows ++ rest) → Q (.ref p) H') (fun _ => False),
    ⟨items.length, by omega, Nat.zero_le _, B1, [], [], .garbage g1.gr _ hD, fun a ha => ?_, by simp, upd_same, ⟨rfl, fun k a row h => by simp at h⟩, rfl, ?_⟩, fun i m H' hW => ?_⟩
  · rw [List.mem_singleton.mp ha]
    exact ⟨⟨hDb, hDf, hDo⟩, by rw [upd_same]; exact fun z => nomatch z⟩
  · simp only [List.drop_zero, List.nil_append]
    cases e : lcNM b f (wipeR ρ own0) items with
    | ok ds =>
      rw [e] at q
      exact q
    | no =>
      rw [e] at q
      exact q
    | ex x => exact (lcNM_calm e).elim
  · obtain ⟨rfl, hile, B', ps, rows, s2, hfr, hnd, hHD, hrows, hlen, rest⟩ := hW
    have g2 := g1.step s2
    have hS : ∀ a ∈ D :: ps, own a = none := fun a ha => (hfr a ha).1.2.2
    have grD : Ground F (ownS own (D :: ps)) B' H' := ⟨fun a o e => ⟨(g2.gr.base a o e).1, by
        rw [ownS_out (fun z => by rw [(hfr a z).1.1] at e; cases e)]
        exact (g2.gr.base a o e).2⟩, fun a o e => ⟨(g2.gr.frame a o e).1, by
        rw [ownS_out (fun z => by rw [(hfr a z).1.2.1] at e; cases e)]
        exact (g2.gr.frame a o e).2.1, (g2.gr.frame a o e).2.2⟩, fun a h => by
        by_cases ha : a ∈ D :: ps
        · exact (hfr a ha).2
        · rw [ownS_out ha] at h
          exact g2.gr.live a h⟩
    have gdD : Good X.K F G (wipeR ρ own0) (ownS own (D :: ps)) B' (wipe σ own0) H' := by
      have gw := g2.wipe own0
      exact ⟨grD, gw.len, fun j d e => by
        obtain ⟨v, h1, h2⟩ := gw.slots j d e
        exact ⟨v, h1, VRep.moreS hS (fun a _ => rfl) h2⟩⟩
    have itr' := itr (ownS own (D :: ps)) B' H' s2.ext (fun a h => ⟨ownS_up h, (s2.ownd a h).1⟩) grD i
    by_cases hi' : i = items.length
    · refine .inl ⟨itr'.1 hi', ?_⟩
      rw [hi', List.drop_length] at rest
      have rest' : ∀ (p : Addr) (ps : List Addr) (B' H' : Hp), Step own F B H B' H' → (∀ a ∈ p :: ps, Fresh B' F own a) → (p :: ps).Nodup → H' p = some (.lst (ps.map V.ref)) → RowsAt X.K B' H' ps (rows ++ []) → Q (.ref p) H' := rest
      rw [List.append_nil] at rest'
      exact rest' D ps B' H' (s1.trans s2) (fun a ha => (hfr a ha).1) hnd hHD hrows
    · have hlt : i < items.length := by omega
      have hd : items[i]? = some items[i] := List.getElem?_eq_getElem hlt
      obtain ⟨go, yld⟩ := itr'.2 _ hd
      refine .inr ⟨go, _, fun H4 h4 => ⟨items.length - (i + 1), by omega, h4⟩, fun x H3 hy => ?_⟩
      obtain ⟨B3, s3, rx⟩ := yld x H3 hy
      rw [List.drop_eq_getElem_cons hlt] at rest
      simp only [lcNM] at rest
      split at rest
      · exact rest.elim
      · rename_i ρ' hb
        have gd3 := gdD.step s3
        have down : ∀ {Ba Ha Bb Hb : Hp}, Step (ownS own (D :: ps)) F Ba Ha Bb Hb → Step own F Ba Ha Bb Hb := fun {Ba Ha Bb Hb} s => ⟨s.ext, s.base, fun a h => s.ownd a (ownS_up h), s.frame⟩
        refine hg F (ownS own (D :: ps)) B3 (wipe σ own0) H3 G _ ρ' x _ _ gd3 rx hb hG fun σ' gd4 o4 => ⟨wipe_only o4 hsub, ?_⟩
        refine ht F ρ' (ownS own (D :: ps)) B3 σ' H3 _ gd4 (fun B5 H5 s5 => ?_)
        refine he F ρ' (ownS own (D :: ps)) B5 σ' H5 _ (gd4.step s5) (Res.has_mono (Res.has_cb (E' := fun _ => False) rest) (fun y rest r vs B6 H6 s6 hrB hrF hro hrH hrr => ?_) fun _ x => x.elim)
        have s36 := (s3.trans s5).trans s6
        have sA6 := s2.trans (down s36)
        have hown : ∀ a ∈ D :: ps, ownS own (D :: ps) a ≠ none := fun a ha => ownS_in ha
        have hH6 : H6 D = some (.lst (ps.map V.ref)) := by
          rw [(s36.ownd D (hown D (List.mem_cons_self ..))).1]
          exact hHD
        have hrN : r ∉ D :: ps := fun z => hown r z hro
        have hroN : own r = none := by rw [ownS_out hrN] at hro; exact hro
        have hDr : D ≠ r := fun z => hrN (by rw [← z]; exact List.mem_cons_self ..)
        have hDps : D ∉ ps := (List.nodup_cons.mp hnd).1
        refine ⟨ps.map V.ref, hH6, by simp; omega, rfl, by omega, B6, ps ++ [r], rows ++ [y], ?_, fun a ha => ?_, ?_, ?_, ?_, by simp; omega, ?_⟩
        · exact ⟨sA6.ext, fun a o e => by
              rw [upd_ne (fun z => by rw [z, (s36.ownd D (hown D (List.mem_cons_self ..))).2] at e; cases e)]
              exact sA6.base a o e, fun a ho => by
              have ne : a ≠ D := fun z => ho (by rw [z]; exact hDo)
              rw [upd_ne ne]
              exact sA6.ownd a ho, fun a o e => by
              rw [upd_ne (fun z => by rw [z, hDf] at e; cases e)]
              exact sA6.frame a o e⟩
        · have ha' : a ∈ D :: ps ∨ a = r := by
            rcases List.mem_cons.mp ha with h | h
            · exact .inl (by rw [h]; exact List.mem_cons_self ..)
            · rcases List.mem_append.mp h with h | h
              · exact .inl (List.mem_cons_of_mem _ h)
              · exact .inr (List.mem_singleton.mp h)
          rcases ha' with h | h
          · obtain ⟨h1, h2⟩ := s36.ownd a (hown a h)
            refine ⟨⟨h2, (hfr a h).1.2.1, hS a h⟩, ?_⟩
            by_cases hz : a = D
            · rw [hz, upd_same]
              exact fun z => nomatch z
            · rw [upd_ne hz, h1]
              exact (hfr a h).2
          · subst h
            refine ⟨⟨hrB, hrF, hroN⟩, ?_⟩
            rw [upd_ne (Ne.symm hDr), hrH]
            exact fun z => nomatch z
        · have : (D :: ps ++ [r]).Nodup := by
            rw [List.nodup_append]
            exact ⟨hnd, by simp, fun a ha b hb z => hrN (by rw [← List.mem_singleton.mp hb, ← z]; exact ha)⟩
          exact this
        · rw [upd_same, List.map_append]
          rfl
        · have hr6 := hrows.step s36 (fun a ha => hown a (List.mem_cons_of_mem _ ha))
          have hr7 := hr6.snoc hrH hrr
          refine ⟨hr7.1, fun k a row h1 h2 => ?_⟩
          obtain ⟨us, h3, h4⟩ := hr7.2 k a row h1 h2
          refine ⟨us, ?_, h4⟩
          rw [upd_ne]
          · exact h3
          · intro z
            have := List.mem_of_getElem? h1
            rw [z] at this
            rcases List.mem_append.mp this with h | h
            · exact hDps h
            · exact hDr (List.mem_singleton.mp h)
        · refine Res.has_mono (Res.has_bind rest) (fun ys q p ps' B' H' s7 h1 h2 h3 h4 => ?_) fun _ x => x
          have q' : ∀ (p : Addr) (ps : List Addr) (B' H' : Hp), Step own F B H B' H' → (∀ a ∈ p :: ps, Fresh B' F own a) → (p :: ps).Nodup → H' p = some (.lst (ps.map V.ref)) → RowsAt X.K B' H' ps (rows ++ y :: ys) → Q (.ref p) H' := q
          exact q' p ps' B' H' s7 h1 h2 h3 (by simpa using h4)
end

section
variable {X : Cx} {W : WX} {L : LM} {G G' : List Mode} {tg iter elt c e : Expr} {scope : Scope} {own0 : List (Str × Nat)} {b : Bnd} {src : Rho → Res (List D)} {is : List Nat} {pos spos py px : Pos} {i : Nat} {x y : Str}
abbrev Mode.tab : Mode := .own (.own .fz)
/-- y = [[..] for ..], y in slot i -/
def LcNJ (X : Cx) (W : WX) (G : List Mode) (y : Str) (py : Pos) (i : Nat) (e : Expr) (spos : Pos) (g : Rho → Res (List (List D))) : Prop := ∃ te, PS X (.Assign [.Name y py] e spos) (tAsg te (gName i)) ∧ EvNN X W G te g
theorem lcjN {f : Rho → Res (List D)} (hc : X.calm = true) (hN : X.N.Nodup) (hy : X.N[i]? = some y) (hyl : X.env.scope.names.lookup y = some .local)
    (hsw : swapsWith (.ListComp elt [⟨tg, iter, [], 0⟩] scope pos) (some (.Name y py)) spos.line X.env = pure true) (hi : IBJ X W G tg iter src) (ok : BlkOk X.N X.env.scope scope own0) (hg : ∀ s H C cl fp, GJ (Blk X scope s H C cl fp) tg b is) (hsub : ∀ i ∈ is, i ∈ own0.map (·.2))
    (hG : ∀ i ∈ is, G.getD i Mode.fz = Mode.fz) (he : ∀ s H C cl fp, NJ (Blk X scope s H C cl fp) W0 G elt f) (hs : ∀ x, foldedSetIterable iter X.env x = pure x := by intro _; rfl) : LcNJ X W G y py i (.ListComp elt [⟨tg, iter, [], 0⟩] scope pos) spos (compNV src b f (own0.map (·.2))) := by
  obtain ⟨wi, pi, vi⟩ := hi
  obtain ⟨te, pe, ve⟩ := fam_n he
  obtain ⟨g, pg, vg⟩ := fam_g hg
  exact ⟨_, ps_setLc hc hN hy hyl hsw pi ok pg (fun _ _ _ _ _ => pts_nil) pe hs, lc_heartN vi vg hsub hG (fun F ρ own B σ H Q gd q => q B H (.refl gd.gr)) ve⟩
def sSetNN (i : Nat) (g : Rho → Res (List (List D))) : Rho → Out := fun ρ => thenS (g ρ) ρ fun rows => .nx (ρ.set i (some (.lst (lsts rows))))
/-- the labels of a table -/
def ownT (own : Own) (i : Nat) (p : Addr) (ps : List Addr) : Own := fun a => if a = p then some [i + 1] else if a ∈ ps then some [i + 1, ps.idxOf a] else dropL own (i + 1) a
omit [Mg] in
theorem ownT_st {own : Own} {i : Nat} {p : Addr} {ps : List Addr} (hfr : ∀ a ∈ p :: ps, own a = none) (h6 : i + 1 ≠ 1000000) {a : Addr} {n : Nat} {r : Lab} : own a = some (SH :: n :: r) ↔ ownT own i p ps a = some (SH :: n :: r) := by
  by_cases hm : a ∈ p :: ps
  · rw [hfr a hm]
    unfold ownT
    split
    · simp
    · split
      · simp only [Option.some.injEq, List.cons.injEq]
        refine ⟨fun z => (nomatch z), fun z => ?_⟩
        have z1 : i + 1 = 1000000 := z.1
        exact absurd z1 h6
      · rename_i h7 h8
        exact absurd hm (by rw [List.mem_cons, not_or]; exact ⟨h7, h8⟩)
  · have hout : ownT own i p ps a = dropL own (i + 1) a := by
      rw [List.mem_cons, not_or] at hm
      unfold ownT
      rw [if_neg hm.1, if_neg hm.2]
    rw [hout]
    exact dropL_st
theorem Good.setNN {K : PySem.W.Frag} {F B H B' H' : Hp} {own : Own} {ρ : Rho} {σ : L2.St} {p : Addr} {ps : List Addr} {rows : List (List D)} (g : Good K F G ρ own B σ H) (s : Step own F B H B' H') (hfr : ∀ a ∈ p :: ps, Fresh B' F own a) (hnd : (p :: ps).Nodup) (hp : H' p = some (.lst (ps.map V.ref))) (r : RowsAt K B' H' ps rows)
    (hi : (G.set i Mode.tab).getD i Mode.fz = Mode.tab) (h6 : i + 1 ≠ 1000000) : Good K F (G.set i Mode.tab) (ρ.set i (some (.lst (lsts rows)))) (ownT own i p ps) B' (σ.set i (some (.ref p))) H' := by
  have g1 := g.step s
  have hout : ∀ {a : Addr}, a ∉ p :: ps → ownT own i p ps a = dropL own (i + 1) a := fun {a} h => by
    rw [List.mem_cons, not_or] at h
    unfold ownT
    rw [if_neg h.1, if_neg h.2]
  have hpn : p ∉ ps := (List.nodup_cons.mp hnd).1
  have hnd2 : ps.Nodup := (List.nodup_cons.mp hnd).2
  refine ⟨⟨fun a o e => ?_, fun a o e => ?_, fun a h => ?_⟩, by simpa using g.len, fun j d e => ?_⟩
  · have ne : a ∉ p :: ps := fun z => by
      rw [(hfr a z).1] at e
      cases e
    rw [hout ne]
    exact ⟨(g1.gr.base a o e).1, none_back (fun a l h => dropL_some h) (g1.gr.base a o e).2⟩
  · have ne : a ∉ p :: ps := fun z => by
      rw [(hfr a z).2.1] at e
      cases e
    rw [hout ne]
    exact ⟨(g1.gr.frame a o e).1, none_back (fun a l h => dropL_some h) (g1.gr.frame a o e).2.1, (g1.gr.frame a o e).2.2⟩
  · by_cases ha : a ∈ p :: ps
    · rcases List.mem_cons.mp ha with z | z
      · rw [z, hp]
        exact fun z => nomatch z
      · obtain ⟨k, hk⟩ := List.getElem?_of_mem z
        have hkl : k < rows.length := by rw [← r.1]; exact (List.getElem?_eq_some_iff.mp hk).1
        obtain ⟨vs, h3, _⟩ := r.2 k a rows[k] hk (List.getElem?_eq_getElem hkl)
        rw [h3]
        exact fun z => nomatch z
    · rw [hout ha] at h
      exact g1.gr.live a fun z => h (none_back (fun a l h => dropL_some h) z)
  · have hl := g.len
    by_cases hj : i = j
    · subst hj
      have hlt : i < ρ.length := by
        have := (List.getElem?_eq_some_iff.mp e).1
        simpa using this
      rw [List.getElem?_set_self hlt] at e
      cases e
      refine ⟨.ref p, List.getElem?_set_self (by omega), ?_⟩
      rw [hi]
      refine ⟨p, ps.map V.ref, lsts rows, rfl, rfl, by simp [ownT], hp, by simp [r.1], fun k v' d' h1 h2 => ?_⟩
      rw [List.getElem?_map] at h1 h2
      obtain ⟨a, ha, rfl⟩ := Option.map_eq_some_iff.mp h1
      obtain ⟨row, hr, rfl⟩ := Option.map_eq_some_iff.mp h2
      obtain ⟨vs, h3, h4⟩ := r.2 k a row ha hr
      have hkl : k < ps.length := (List.getElem?_eq_some_iff.mp ha).1
      have hak : ps[k] = a := (List.getElem?_eq_some_iff.mp ha).2
      refine ⟨a, vs, row, rfl, rfl, ?_, h3, h4.len, fun k2 v2 d2 e1 e2 => ?_⟩
      · have hm : a ∈ ps := List.mem_of_getElem? ha
        unfold ownT
        rw [if_neg (fun z : a = p => hpn (by rw [← z]; exact hm)), if_pos hm]
        have : ps.idxOf a = k := by
          rw [← hak]
          exact hnd2.idxOf_getElem k hkl
        rw [this]
        rfl
      · obtain ⟨d3, e3, e4⟩ := h4.get' e1
        rw [e2] at e3
        cases e3
        exact e4
    · rw [List.getElem?_set_ne hj] at e
      obtain ⟨w, h1, h2⟩ := g1.slots j d e
      refine ⟨w, by rw [List.getElem?_set_ne hj]; exact h1, ?_⟩
      have e1 : (G.set i Mode.tab).getD j Mode.fz = G.getD j Mode.fz := by simp [List.getD, List.getElem?_set_ne hj]
      rw [e1]
      refine VRep.own_congr (fun a r e => ?_) (fun a n r => ownT_st (fun a h => (hfr a h).2.2) h6) h2
      have ne : a ∉ p :: ps := fun z => by
        rw [(hfr a z).2.2] at e
        cases e
      rw [hout ne]
      exact dropL_ne e (by omega)
theorem sj_lcNN {g : Rho → Res (List (List D))} (h : LcNJ X W G x px i e pos g) (hm : (G.set i Mode.tab).getD i Mode.fz = Mode.tab := by rfl) (h6 : i + 1 ≠ 1000000 := by decide) : SJ X W L G (.Assign [.Name x px] e pos) (sSetNN i g) (G.set i Mode.tab) := by
  obtain ⟨te, ps, ve⟩ := h
  refine ⟨_, ps, fun hX F ρ own B σ H D gd q => ?_⟩
  refine ve F ρ own B σ H _ gd (Res.has_mono (thenS_has hX gd q) (fun rows q p ps B' H' s hfr hnd hp r => ?_) fun _ x => x)
  exact q _ B' _ H' (s.g.trans ⟨Same.refl _, fun a n h => (ownT_st (fun a h => (hfr a h).2.2) h6).mp h⟩) (gd.setNN s hfr hnd hp r hm h6)

/-! ### a row, borrowed -/
section
variable {K : PySem.W.Frag} {F B H : Hp} {own : Own} {ρ : Rho} {σ : L2.St}
theorem Good.tabAt {d : D} (g : Good K F G ρ own B σ H) (hG : G.getD i Mode.fz = Mode.tab) (hρ : ρ[i]? = some (some d)) :
    ∃ (l : Addr) (vs : List V) (ds : List D), σ[i]? = some (some (.ref l)) ∧ d = .lst ds ∧ own l = some [i + 1] ∧ H l = some (.lst vs) ∧ vs.length = ds.length ∧
      ∀ (k : Nat) (v' : V) (d' : D), vs[k]? = some v' → ds[k]? = some d' → ∃ (a : Addr) (us : List V) (es : List D), v' = .ref a ∧ d' = .lst es ∧ own a = some [i + 1, k] ∧ H a = some (.lst us) ∧ RpA K B us es := by
  obtain ⟨v, h1, h2⟩ := g.slots i d hρ
  rw [hG] at h2
  obtain ⟨l, vs, ds, rfl, rfl, ho, hl, hn, h⟩ := h2
  refine ⟨l, vs, ds, h1, rfl, ho, hl, hn, fun k v' d' e1 e2 => ?_⟩
  obtain ⟨a, us, es, rfl, rfl, h3, h4, h5, h6⟩ := h k v' d' e1 e2
  exact ⟨a, us, es, rfl, rfl, h3, h4, RpA.of_get h5 h6⟩
end
def ixT (i : Nat) (gk : Rho → Res D) : Rho → Res D := bin dIx (getV i) gk
omit [Mg] in
theorem get_ixN {α β : Type} {vs : List α} {ds : List β} {k : Int} {d : β} (hn : vs.length = ds.length) (h : atI ds k = some d) : ∃ (j : Nat) (v : α), ixN vs.length k = some j ∧ vs[j]? = some v ∧ ds[j]? = some d := by
  unfold atI at h
  obtain ⟨j, h1, h2⟩ := Option.bind_eq_some_iff.mp h
  have hj : j < ds.length := (List.getElem?_eq_some_iff.mp h2).1
  exact ⟨j, vs[j], by rw [hn]; exact h1, List.getElem?_eq_getElem (by omega), h2⟩
theorem ev_row {tk : TE} {gk : Rho → Res D} (hG : G.getD i Mode.fz = Mode.tab) (hk : EvB X W G tk gk) : EvB X W G (tOp (rIx X.K) (tVar i) tk) (bin dIx (getV i) gk) := fun F ρ own B σ H Q gd q => by
  unfold bin getV at q
  cases e : ρ[i]? with
  | none =>
    rw [e] at q
    exact q.elim
  | some o =>
    cases o with
    | none =>
      rw [e] at q
      exact q.elim
    | some d =>
      rw [e] at q
      simp only [Res.bind_ok] at q
      obtain ⟨l, vs, ds, h1, rfl, h3, h4, h5, h6⟩ := gd.tabAt hG e
      refine ⟨.ref l, h1, ?_⟩
      refine hk F ρ own B σ H _ gd (Res.has_mono (Res.has_bind q) (fun dk q w B2 H2 s2 r2 => ?_) fun _ x => x)
      cases dk with
      | int k =>
        cases r2.int
        have q : (dIx (.lst ds) (.int k)).has (fun d => ∀ (v : V) (B' H' : Hp), Step own F B H B' H' → Sn X.K own B' H' v d → Q v H') (WOk X.K X.mg W own F B H σ) := q
        unfold dIx at q
        simp only at q
        split at q
        · rename_i d hd
          obtain ⟨j, v, j1, j2, j3⟩ := get_ixN h5 hd
          obtain ⟨a, us, es, rfl, rfl, a1, a2, a3⟩ := h6 j v d j2 j3
          have hl : H2 l = some (.lst vs) := (s2.ownd l (by rw [h3]; exact fun z => nomatch z)).1.trans h4
          have ha : H2 a = some (.lst us) := (s2.ownd a (by rw [a1]; exact fun z => nomatch z)).1.trans a2
          refine .inl ⟨l, vs, _, .ref a, rfl, rfl, .inl (.inl hl), ?_, q _ _ _ s2 (.inr (.inl ⟨a, us, es, rfl, rfl, (by rw [a1]; exact (fun z => nomatch z)), ha, a3.mono s2.ext⟩))⟩
          first
            | (unfold atI; rw [j1]; exact j2)
            | (rw [j1]; exact j2)
        · exact q.elim
      | _ => exact q.elim
theorem bj_row {k : Expr} {gk : Rho → Res D} {sp : Pos} (hv : PE X (.Name x px) (tVar i)) (hk : BJ X W G k gk) (hm : G.getD i Mode.fz = Mode.tab := by rfl) (hs : PlainIx k := by exact fun _ _ => rfl) : BJ X W G (.Subscript (.Name x px) k sp) (bin dIx (getV i) gk) := by
  obtain ⟨tk, pk, vk⟩ := hk
  exact ⟨_, pe_ix ix_seq hv pk hs, ev_row hm vk⟩

/-! ### table[a][b] = e -/
def sSetII (i : Nat) (ga gb g : Rho → Res D) : Rho → Out := fun ρ => thenS (g ρ) ρ fun d => atL i ρ fun xs => thenS (ga ρ) ρ fun a => match a with
  | .int a => match ixN xs.length a with
    | some j => match xs[j]? with
      | some (.lst row) => thenS (gb ρ) ρ fun b => match b with
        | .int b => match ixN row.length b with
          | some k => .nx (ρ.set i (some (.lst (xs.set j (.lst (row.set k d))))))
          | none => .no
        | _ => .no
      | _ => .no
    | none => .no
  | _ => .no
theorem Good.mutII {K : PySem.W.Frag} {F B H : Hp} {own : Own} {ρ : Rho} {σ : L2.St} {l a : Addr} {vs us : List V} {ds es : List D} {j : Nat} (g : Good K F G ρ own B σ H) (hG : G.getD i Mode.fz = Mode.tab) (hρ : ρ[i]? = some (some (.lst ds))) (hσ : σ[i]? = some (some (.ref l))) (hol : own l = some [i + 1]) (hl : H l = some (.lst vs)) (hv : vs[j]? = some (.ref a)) (ho : own a = some [i + 1, j]) (r : RpA K B us es) :
    Good K F G (ρ.set i (some (.lst (ds.set j (.lst es))))) own B σ (upd H a (.lst us)) := by
  have hoN : own a ≠ none := by rw [ho]; exact fun z => nomatch z
  have hs6 : ∀ n r, [i + 1, j] ≠ SH :: n :: r := fun n r z => by
    have h1 := (List.cons.inj z).1
    have h2 := (List.getElem?_eq_some_iff.mp hρ).1
    have h3 := g.len
    have h4 : i + 1 = 1000000 := h1
    omega
  refine ⟨⟨fun a' o e => ?_, fun a' o e => ?_, fun a' h => ?_⟩, by simpa using g.len, fun j' d e => ?_⟩
  · have ne : a' ≠ a := fun z => hoN (by rw [← z]; exact (g.gr.base a' o e).2)
    rw [upd_ne ne]
    exact g.gr.base a' o e
  · have ne : a' ≠ a := fun z => hoN (by rw [← z]; exact (g.gr.frame a' o e).2.1)
    rw [upd_ne ne]
    exact g.gr.frame a' o e
  · by_cases ha : a' = a
    · rw [ha, upd_same]
      exact fun z => nomatch z
    · rw [upd_ne ha]
      exact g.gr.live a' h
  · by_cases hj : i = j'
    · subst hj
      have hlt : i < ρ.length := (List.getElem?_eq_some_iff.mp hρ).1
      rw [List.getElem?_set_self hlt] at e
      cases e
      refine ⟨.ref l, hσ, ?_⟩
      rw [hG]
      obtain ⟨v, h1, h2⟩ := g.slots i _ hρ
      rw [hG] at h2
      obtain ⟨l', vs', ds', rfl, e', ho', hl', hn, h⟩ := h2
      cases e'
      rw [hσ] at h1
      cases h1
      rw [hl] at hl'
      cases hl'
      have hla : l ≠ a := fun z => by
        rw [z, ho] at hol
        simp at hol
      refine ⟨l, vs, _, rfl, rfl, hol, by rw [upd_ne hla]; exact hl, by simpa using hn, fun k v' d' e1 e2 => ?_⟩
      by_cases hk : j = k
      · subst hk
        rw [hv] at e1
        cases e1
        have hjl : j < ds.length := by
          have := (List.getElem?_eq_some_iff.mp e2).1
          simpa using this
        rw [List.getElem?_set_self hjl] at e2
        cases e2
        refine ⟨a, us, es, rfl, rfl, by rw [ho]; rfl, upd_same, r.len, fun k2 v2 d2 f1 f2 => ?_⟩
        obtain ⟨d3, f3, f4⟩ := r.get' f1
        rw [f2] at f3
        cases f3
        exact f4
      · rw [List.getElem?_set_ne hk] at e2
        refine VRep.upd ho (fun r z => ?_) (h k v' d' e1 e2) hs6
        simp at z
        exact hk z.1.symm
    · rw [List.getElem?_set_ne hj] at e
      obtain ⟨w, h1, h2⟩ := g.slots j' d e
      refine ⟨w, h1, VRep.upd ho (fun r z => ?_) h2 hs6⟩
      have := (List.cons.inj z).1
      omega
theorem sj_setII {ka kb : Expr} {sp sp2 : Pos} {g ga gb : Rho → Res D} (hv : PE X (.Name x px) (tVar i)) (hm : G.getD i Mode.fz = Mode.tab) (he : EJ X W G e g) (ha : BJ X W G ka ga) (hb : BJ X W G kb gb)
    (hg : ∀ {to ti : TE}, PE X (.Subscript (.Name x px) ka sp2) to → PE X kb ti → PG X (.Subscript (.Subscript (.Name x px) ka sp2) kb sp) (gSub to ti rSetL)) (hsa : PlainIx ka := by exact fun _ _ => rfl) (h1 : (assignEach [.Subscript (.Subscript (.Name x px) ka sp2) kb sp] X.env).map (·.2) = [assign (.Subscript (.Subscript (.Name x px) ka sp2) kb sp) X.env] := by rfl) (hs : swapsWithSole [.Subscript (.Subscript (.Name x px) ka sp2) kb sp] e pos.line X.env = pure false := by rfl) (hw : swappedStores [.Subscript (.Subscript (.Name x px) ka sp2) kb sp] e X.env = pure none := by rfl) :
    SJ X W L G (.Assign [.Subscript (.Subscript (.Name x px) ka sp2) kb sp] e pos) (sSetII i ga gb g) G := by
  obtain ⟨te, pe, ve⟩ := he
  obtain ⟨ta, pa, va⟩ := ha
  obtain ⟨tb, pb, vb⟩ := hb
  refine ⟨_, ps_asg pe (hg (pe_ix ix_seq hv pa hsa) pb) hs hw h1, fun hX F ρ own B σ H D gd q => ?_⟩
  refine ve F ρ own B σ H _ gd (Res.has_mono (thenS_has hX gd q) (fun d q u B' H' s r => ?_) fun _ x => x)
  have g1 := gd.step s
  have q := q.ext s.g
  unfold atL at q
  split at q
  case h_2 => exact q.elim
  rename_i xs hx
  obtain ⟨l, vs, ds, h1, h2, h3, h4, h5, h6⟩ := g1.tabAt hm hx
  cases h2
  refine ⟨.ref l, h1, ?_⟩
  refine va F ρ own B' σ H' _ g1 (Res.has_mono (thenS_has hX g1 q) (fun da q w B2 H2 s2 r2 => ?_) fun _ x => x)
  have g2 := g1.step s2
  have hl2 : H2 l = some (.lst vs) := (s2.ownd l (by rw [h3]; exact fun z => nomatch z)).1.trans h4
  have q := q.ext s2.g
  cases da with
  | int k =>
    cases r2.int
    simp only at q
    cases hj : ixN xs.length k with
    | none =>
      rw [hj] at q
      exact q.elim
    | some j =>
      rw [hj] at q
      simp only at q
      split at q
      case h_2 => exact q.elim
      rename_i row hrow
      have hjl : j < xs.length := (List.getElem?_eq_some_iff.mp hrow).1
      have hjv : vs[j]? = some vs[j] := List.getElem?_eq_getElem (by omega)
      obtain ⟨a, us, es, e1, e2, a1, a2, a3⟩ := h6 j _ _ hjv hrow
      cases e2
      rw [e1] at hjv
      have ha2 : H2 a = some (.lst us) := (s2.ownd a (by rw [a1]; exact fun z => nomatch z)).1.trans a2
      refine .inl ⟨l, vs, k, .ref a, rfl, rfl, .inl (.inl hl2), ?_, ?_⟩
      · first
          | (unfold atI; rw [h5, hj]; exact hjv)
          | (rw [h5, hj]; exact hjv)
      refine vb F ρ own B2 σ H2 _ g2 (Res.has_mono (thenS_has hX g2 q) (fun db q w B3 H3 s3 r3 => ?_) fun _ x => x)
      cases db with
      | int b =>
        cases r3.int
        simp only at q
        cases hk : ixN row.length b with
        | none =>
          rw [hk] at q
          exact q.elim
        | some m =>
          rw [hk] at q
          have ha3 : H3 a = some (.lst us) := (s3.ownd a (by rw [a1]; exact fun z => nomatch z)).1.trans ha2
          have hl3 : H3 l = some (.lst vs) := (s3.ownd l (by rw [h3]; exact fun z => nomatch z)).1.trans hl2
          have r3 := ((a3.mono s2.ext).mono s3.ext)
          refine ⟨a, us, b, m, rfl, rfl, ha3, by rw [r3.len]; exact hk, ?_⟩
          exact q own B3 σ _ s3.g ((g2.step s3).mutII hm hx h1 h3 hl3 hjv a1 (r3.set m ((r.mono s2.ext).mono s3.ext)))
      | _ => exact q.elim
  | _ => exact q.elim
end
end T

set_option Elab.async false
set_option linter.all false
set_option maxRecDepth 100000
set_option maxHeartbeats 4000000
/-! T-layer, part P: loops by what holds at each turn; sequences as arguments. -/
namespace T
open PySem L2
/-- a for loop: I at each turn; Bk where it breaks -/
theorem forM_inv {b : Bnd} {body : Rho → Out} (I : Nat → Rho → Prop) (Bk : Rho → Prop) : ∀ (xs : List D) (k : Nat), (∀ (i : Nat) (x : D) (ρ : Rho), xs[i]? = some x → I (k + i) ρ → ∃ ρ1, b x ρ = some ρ1 ∧ ((∃ ρ2, (body ρ1 = .nx ρ2 ∨ body ρ1 = .ct ρ2) ∧ I (k + i + 1) ρ2) ∨ ∃ ρ2, body ρ1 = .bk ρ2 ∧ Bk ρ2)) →
    ∀ ρ, I k ρ → ∃ ρ', forM b body xs ρ = .nx ρ' ∧ (I (k + xs.length) ρ' ∨ Bk ρ')
  | [], _, _, ρ, hI => ⟨ρ, rfl, .inl hI⟩
  | x :: xs, k, h, ρ, hI => by
    obtain ⟨ρ1, h1, h2⟩ := h 0 x ρ rfl hI
    simp only [forM, h1]
    rcases h2 with ⟨ρ2, h2, h3⟩ | ⟨ρ2, h2, h3⟩
    · have ih := forM_inv I Bk xs (k + 1) (fun i y ρ hy hI => by
        have := h (i + 1) y ρ (by simpa using hy) (by rw [show k + (i + 1) = k + 1 + i by omega]; exact hI)
        rw [show k + (i + 1) + 1 = k + 1 + i + 1 by omega] at this
        exact this) ρ2 (by simpa using h3)
      rw [show k + (x :: xs).length = k + 1 + xs.length by simp; omega]
      rcases h2 with h2 | h2
      · rw [h2]
        exact ih
      · rw [h2]
        exact ih
    · rw [h2]
      exact ⟨ρ2, rfl, .inr h3⟩
theorem for_inv {b : Bnd} {body : Rho → Out} (I : Nat → Rho → Prop) (xs : List D) (h : ∀ (i : Nat) (x : D) (ρ : Rho), xs[i]? = some x → I i ρ → ∃ ρ1, b x ρ = some ρ1 ∧ ∃ ρ2, (body ρ1 = .nx ρ2 ∨ body ρ1 = .ct ρ2) ∧ I (i + 1) ρ2) {ρ : Rho} (hI : I 0 ρ) : ∃ ρ', forM b body xs ρ = .nx ρ' ∧ I xs.length ρ' := by
  obtain ⟨ρ', h1, h2⟩ := forM_inv I (fun _ => False) xs 0 (fun i x ρ hx hI => by
    rw [Nat.zero_add] at hI ⊢
    obtain ⟨ρ1, h1, h2⟩ := h i x ρ hx hI
    exact ⟨ρ1, h1, .inl h2⟩) ρ hI
  rw [Nat.zero_add] at h2
  exact ⟨ρ', h1, h2.resolve_right id⟩
theorem for_invB {b : Bnd} {body : Rho → Out} (I : Nat → Rho → Prop) (Bk : Rho → Prop) (xs : List D) (h : ∀ (i : Nat) (x : D) (ρ : Rho), xs[i]? = some x → I i ρ → ∃ ρ1, b x ρ = some ρ1 ∧ ((∃ ρ2, (body ρ1 = .nx ρ2 ∨ body ρ1 = .ct ρ2) ∧ I (i + 1) ρ2) ∨ ∃ ρ2, body ρ1 = .bk ρ2 ∧ Bk ρ2)) {ρ : Rho} (hI : I 0 ρ) : ∃ ρ', forM b body xs ρ = .nx ρ' ∧ (I xs.length ρ' ∨ Bk ρ') := by
  obtain ⟨ρ', h1, h2⟩ := forM_inv I Bk xs 0 (fun i x ρ hx hI => by
    rw [Nat.zero_add] at hI ⊢
    exact h i x ρ hx hI) ρ hI
  rw [Nat.zero_add] at h2
  exact ⟨ρ', h1, h2⟩
/-- a while loop: I with what is left -/
theorem while_inv {c : Rho → Res Bool} {body : Rho → Out} (I : Nat → Rho → Prop) (Post : Rho → Prop) (h : ∀ n ρ, I n ρ → (c ρ = .ok false ∧ Post ρ) ∨ (c ρ = .ok true ∧ ((∃ ρ2 k, (body ρ = .nx ρ2 ∨ body ρ = .ct ρ2) ∧ k < n ∧ I k ρ2) ∨ ∃ ρ2, body ρ = .bk ρ2 ∧ Post ρ2))) :
    ∀ (fuel n : Nat) (ρ : Rho), n < fuel → I n ρ → ∃ ρ', whileM c body fuel ρ = .nx ρ' ∧ Post ρ'
  | 0, _, _, hn, _ => absurd hn (Nat.not_lt_zero _)
  | fuel + 1, n, ρ, hn, hI => by
    rcases h n ρ hI with ⟨h1, h2⟩ | ⟨h1, ⟨ρ2, k, h2, h3, h4⟩ | ⟨ρ2, h2, h3⟩⟩
    · refine ⟨ρ, ?_, h2⟩
      simp [whileM, h1]
    · obtain ⟨ρ', e, hp⟩ := while_inv I Post h fuel k ρ2 (by omega) h4
      refine ⟨ρ', ?_, hp⟩
      rcases h2 with h2 | h2 <;> simp [whileM, h1, h2, e]
    · refine ⟨ρ2, ?_, h3⟩
      simp [whileM, h1, h2]
theorem seq_bk {f g : Rho → Out} {ρ ρ' : Rho} (h : f ρ = .bk ρ') : sSeq f g ρ = .bk ρ' := by rw [sSeq_ap, h]
theorem seq_ct {f g : Rho → Out} {ρ ρ' : Rho} (h : f ρ = .ct ρ') : sSeq f g ρ = .ct ρ' := by rw [sSeq_ap, h]
theorem cut_from {α : Type} (xs : List α) (i : Nat) (z : Int) (hz : z = (i : Int)) (h : i ≤ xs.length) : cutL xs (some z) none = xs.drop i := by
  subst hz
  have h1 : HT.sIx xs.length 0 (some (i : Int)) = i := by
    rw [HT.sIx_nat]
    omega
  have h2 : HT.sIx xs.length xs.length none = xs.length := rfl
  unfold cutL
  rw [h1, h2]
  exact List.take_of_length_le (by simp)
theorem cut_to {α : Type} (xs : List α) (i : Nat) (z : Int) (hz : z = (i : Int)) (h : i ≤ xs.length) : cutL xs none (some z) = xs.take i := by
  subst hz
  have h1 : HT.sIx xs.length xs.length (some (i : Int)) = i := by
    rw [HT.sIx_nat]
    omega
  have h2 : HT.sIx xs.length 0 none = 0 := rfl
  unfold cutL
  rw [h1, h2]
  simp
theorem cut_mid {α : Type} (xs : List α) (i j : Nat) (y z : Int) (hy : y = (i : Int)) (hz : z = (j : Int)) (hi : i ≤ xs.length) (h : j ≤ xs.length) : cutL xs (some y) (some z) = (xs.drop i).take (j - i) := by
  subst hy hz
  have h1 : HT.sIx xs.length xs.length (some (j : Int)) = j := by
    rw [HT.sIx_nat]
    omega
  have h2 : HT.sIx xs.length 0 (some (i : Int)) = i := by
    rw [HT.sIx_nat]
    omega
  unfold cutL
  rw [h1, h2]
theorem while_ok {c : Rho → Res Bool} {body : Rho → Out} {fuel : Nat} {ρ ρ' : Rho} {g : Rho → Out} {o : Out} (h : whileM c body fuel ρ = .nx ρ') (h' : g ρ' = o) : sSeq (whileM c body fuel) g ρ = o := seq_nx h h'
theorem rngD_ok {n : Nat} (h : n ≤ 1000000) : dRngD [.int ((n : Int) - 1), .int (-1), .int (-1)] = .ok ((List.range n).map fun k => D.int (((n - 1 - k : Nat) : Int))) := by
  unfold dRngD
  simp only
  rw [if_pos (by omega)]
  unfold downFrom
  rw [show ((n : Int) - 1 - -1).toNat = n by omega]
  refine congrArg Res.ok (List.map_congr_left fun k hk => ?_)
  have := List.mem_range.mp hk
  exact congrArg D.int (by omega)
theorem runF_nx {n N : Nat} {f : Rho → Out} {ds : List D} {ρ : Rho} (h : ds.length = n) (e : f (startR N ds) = .nx ρ) : runF n N f ds = .ok .non := by
  unfold runF
  rw [if_pos h, e]
theorem runF_ex {n N : Nat} {f : Rho → Out} {ds : List D} {ρ : Rho} {x : Exn} (h : ds.length = n) (e : f (startR N ds) = .ex x ρ) : runF n N f ds = .ex x := by
  unfold runF
  rw [if_pos h, e]
/-- a sequence of things -/
structure Sq {α : Type} (enc : α → D) (S : D) (xs : List α) : Prop where
  ix : ∀ (j : Nat) (x : α), xs[j]? = some x → dIx S (.int (j : Int)) = .ok (enc x)
  len : dLen [S] = .ok (.int xs.length)
theorem sq_l {α : Type} {enc : α → D} (xs : List α) : Sq enc (.lst (xs.map enc)) xs :=
  ⟨fun j x h => dIx_l (atI_get rfl (by rw [List.getElem?_map, h]; rfl)), by simp⟩
theorem sq_t {α : Type} {enc : α → D} (xs : List α) : Sq enc (.tup (xs.map enc)) xs :=
  ⟨fun j x h => dIx_t (atI_get rfl (by rw [List.getElem?_map, h]; rfl)), by simp⟩
section
variable {ρ : Rho} {a b : Rho → Res D} {i : Int} {j : Nat}
theorem ix_ok {α : Type} {enc : α → D} {S : D} {xs : List α} {x : α} (hs : Sq enc S xs) (ha : a ρ = .ok S) (hb : b ρ = .ok (.int i)) (hi : i = (j : Int)) (hx : xs[j]? = some x) : bin dIx a b ρ = .ok (enc x) := by
  refine bin_ok ha hb ?_
  rw [hi]
  exact hs.ix j x hx
theorem len_ok {α : Type} {enc : α → D} {S : D} {xs : List α} (hs : Sq enc S xs) (ha : a ρ = .ok S) : callV dLen (consA a noA) ρ = .ok (.int xs.length) := call1_ok ha hs.len
theorem add_ok {x y : Int} (ha : a ρ = .ok (.int x)) (hb : b ρ = .ok (.int y)) : bin dAdd a b ρ = .ok (.int (x + y)) := bin_ok ha hb dAdd_i
theorem sub_ok {x y : Int} (ha : a ρ = .ok (.int x)) (hb : b ρ = .ok (.int y)) : bin dSub a b ρ = .ok (.int (x - y)) := bin_ok ha hb dSub_i
theorem mod_ok {x y : Int} (ha : a ρ = .ok (.int x)) (hb : b ρ = .ok (.int y)) (h : 0 < y) : bin dMod a b ρ = .ok (.int (x % y)) := bin_ok ha hb (dMod_ok h)
theorem div_ok {x y : Int} (ha : a ρ = .ok (.int x)) (hb : b ρ = .ok (.int y)) (h : 0 < y ∧ y.natAbs.log2 < 9000) : bin dDiv a b ρ = .ok (.int (x / y)) := bin_ok ha hb (dDiv_ok h)
theorem lt_ok {x y : Int} (ha : a ρ = .ok (.int x)) (hb : b ρ = .ok (.int y)) : toB (bin dLt a b) ρ = .ok (decide (x < y)) := toB_ok (bin_ok ha hb dLt_i)
theorem le_ok {x y : Int} (ha : a ρ = .ok (.int x)) (hb : b ρ = .ok (.int y)) : toB (bin dLe a b) ρ = .ok (decide (x ≤ y)) := toB_ok (bin_ok ha hb dLe_i)
theorem gt_ok {x y : Int} (ha : a ρ = .ok (.int x)) (hb : b ρ = .ok (.int y)) : toB (bin dGt a b) ρ = .ok (decide (y < x)) := toB_ok (bin_ok ha hb dGt_i)
theorem ge_ok {x y : Int} (ha : a ρ = .ok (.int x)) (hb : b ρ = .ok (.int y)) : toB (bin dGe a b) ρ = .ok (decide (y ≤ x)) := toB_ok (bin_ok ha hb dGe_i)
theorem eq_ok {x y : Int} (ha : a ρ = .ok (.int x)) (hb : b ρ = .ok (.int y)) : toB (bin dEq a b) ρ = .ok (decide (x = y)) := toB_ok (bin_ok ha hb dEq_i)
theorem ne_ok {x y : Int} (ha : a ρ = .ok (.int x)) (hb : b ρ = .ok (.int y)) : toB (bin dNe a b) ρ = .ok (!decide (x = y)) := toB_ok (bin_ok ha hb dNe_i)
theorem int_ok {x : Int} (ha : a ρ = .ok (.int x)) : callV dInt (consA a noA) ρ = .ok (.int x) := call1_ok ha dInt_i
theorem max_ok {x y : Int} (ha : a ρ = .ok (.int x)) (hb : b ρ = .ok (.int y)) : callV dMax2 (consA a (consA b noA)) ρ = .ok (.int (max x y)) := by
  refine call2_ok ha hb ?_
  rw [dMax2_i]
  refine congrArg _ (congrArg _ ?_)
  split <;> omega
theorem tup1_ok {x : D} (ha : a ρ = .ok x) : tupV (consA a noA) ρ = .ok (.tup [x]) := by
  rw [tupV_ap, consA_ap, ha, noA_ap]
  simp [sz1]
theorem tup2_ok {x y : D} (ha : a ρ = .ok x) (hb : b ρ = .ok y) : tupV (consA a (consA b noA)) ρ = .ok (.tup [x, y]) := by
  rw [tupV_ap, consA_ap, ha, consA_ap, hb, noA_ap]
  simp [sz1]
theorem tup3_ok {c : Rho → Res D} {x y z : D} (ha : a ρ = .ok x) (hb : b ρ = .ok y) (hc : c ρ = .ok z) : tupV (consA a (consA b (consA c noA))) ρ = .ok (.tup [x, y, z]) := by
  rw [tupV_ap, consA_ap, ha, consA_ap, hb, consA_ap, hc, noA_ap]
  simp [sz1]
theorem isi_l {xs : List D} (ha : a ρ = .ok (.lst xs)) : truV (callV dIsi (consA a (consA (conD (.ty "list")) noA))) ρ = .ok true := by rw [truV_ap, call2_ok ha rfl isi_ll, Res.bind_ok, dTru_b]
theorem isi_t {xs : List D} (ha : a ρ = .ok (.tup xs)) : truV (callV dIsi (consA a (consA (conD (.ty "tuple")) noA))) ρ = .ok true := by rw [truV_ap, call2_ok ha rfl isi_tt, Res.bind_ok, dTru_b]
theorem isi_s {x : Str} (ha : a ρ = .ok (.str x)) : truV (callV dIsi (consA a (consA (conD (.ty "str")) noA))) ρ = .ok true := by rw [truV_ap, call2_ok ha rfl isi_ss, Res.bind_ok, dTru_b]
theorem isi_i {x : Int} (ha : a ρ = .ok (.int x)) : truV (callV dIsi (consA a (consA (conD (.ty "int")) noA))) ρ = .ok true := by rw [truV_ap, call2_ok ha rfl isi_ii, Res.bind_ok, dTru_b]
end
theorem rng1_of {z : Int} {n : Nat} (e : z = (n : Int)) (h : n ≤ 1000000) : dRng1 [.int z] = .ok ((List.range n).map fun (i : Nat) => D.int i) := by
  rw [e]
  exact rng1_ok h
theorem rngD_of {z : Int} {n : Nat} (e : z = (n : Int) - 1) (h : n ≤ 1000000) : dRngD [.int z, .int (-1), .int (-1)] = .ok ((List.range n).map fun k => D.int (((n - 1 - k : Nat) : Int))) := by
  rw [e]
  exact rngD_ok h
theorem rep_flat {β : Type} (x : β) : ∀ n : Nat, (List.replicate n [x]).flatten = List.replicate n x
  | 0 => rfl
  | n + 1 => by rw [List.replicate_succ, List.flatten_cons, rep_flat x n]; rfl
theorem rep_of {x : D} {z : Int} {n : Nat} (e : z = (n : Int)) (h : n ≤ 1000000) : dRep (.lst [x]) (.int z) = .ok (List.replicate n x) := by
  rw [e]
  unfold dRep
  simp only
  rw [if_pos ⟨by omega, by omega, by simpa using sz1 h⟩, Int.toNat_natCast, rep_flat]
theorem ok_b {k l : Bool} {f : Rho → Res Bool} {ρ : Rho} (h : f ρ = .ok k) (e : k = l) : f ρ = .ok l := by rw [h, e]

mutual
theorem D.dat_self : ∀ (d : D) (n : Nat), D.dat n d = true → D.eqb d d = true
  | .non, _, _ => rfl
  | .bl b, _, _ => by simp [D.eqb]
  | .int b, _, _ => by simp [D.eqb]
  | .str b, _, _ => by simp [D.eqb]
  | .lst xs, 0, h => by simp [D.dat] at h
  | .lst xs, n + 1, h => by
    rw [D.eqb]
    exact D.datA_self xs n (by simpa [D.dat] using h)
  | .scr xs, 0, h => by simp [D.dat] at h
  | .scr xs, n + 1, h => by
    rw [D.eqb]
    exact D.datA_self xs n (by simpa [D.dat] using h)
  | .tup xs, 0, h => by simp [D.dat] at h
  | .tup xs, n + 1, h => by
    rw [D.eqb]
    exact D.datA_self xs n (by simpa [D.dat] using h)
  | .dct _, 0, h => by simp [D.dat] at h
  | .dct _, n + 1, h => by simp [D.dat] at h
  | .exc _, 0, h => by simp [D.dat] at h
  | .exc _, n + 1, h => by simp [D.dat] at h
  | .ins _ _, 0, h => by simp [D.dat] at h
  | .ins _ _, n + 1, h => by simp [D.dat] at h
  | .ty _, 0, h => by simp [D.dat] at h
  | .ty _, n + 1, h => by simp [D.dat] at h
theorem D.datA_self : ∀ (ds : List D) (n : Nat), D.datA n ds = true → D.eqbA ds ds = true
  | [], _, _ => by simp [D.eqbA]
  | d :: ds, n, h => by
    simp only [D.datA, Bool.and_eq_true] at h
    rw [D.eqbA, D.dat_self d n h.1, D.datA_self ds n h.2]
    rfl
end
theorem dEq_self {d : D} (h : D.dat 60 d = true) : dEq d d = .ok (.bl true) := by rw [dEq_d h h, D.dat_self d 60 h]
theorem dNe_self {d : D} (h : D.dat 60 d = true) : dNe d d = .ok (.bl false) := by rw [dNe_d h h, D.dat_self d 60 h]; rfl
theorem in_ints {i : List Int} {x : Int} : dIn (.int x) (.lst (i.map D.int)) = .ok (.bl (decide (x ∈ i))) := by
  show (if D.dat 60 (.int x) = true ∧ D.datA 60 (i.map D.int) = true then _ else _) = _
  rw [if_pos ⟨dat_int, datA_ints i⟩]
  refine congrArg Res.ok (congrArg D.bl ?_)
  rw [List.any_map, Bool.eq_iff_iff]
  simp only [List.any_eq_true, Function.comp, eqb_int, decide_eq_true_eq]
  exact ⟨fun ⟨y, h1, h2⟩ => h2 ▸ h1, fun h => ⟨x, h, rfl⟩⟩
end T

set_option Elab.async false
set_option linter.all false
set_option maxRecDepth 100000
set_option maxHeartbeats 4000000
/-! T-layer, part Q: raise of own exceptions, try. -/
namespace T
open PySem PySem.Spec PyProof.Rows L2
variable [Mg]

/-- what the text says of an own exception class without __init__ -/
structure XCls (K : PySem.W.Frag) (mg : Str → Option Value) (x : Str) (C : Addr) : Prop where
  g : mg x = some (.ref C)
  kp : PySem.W.keepIn K (.ref C) = true
  sub : PySem.W.subIn K (.ref C) (.type "BaseException") = some true
  ty : PySem.W.typeIn K (.ref C) = some (.type "type")
  dct : PySem.W.hasDictIn K C = true
structure XNew (K : PySem.W.Frag) (C : Addr) (B newId initId : String) (bmB : List Value) : Prop where
  F : ExcBaseFacts B newId initId bmB
  q : PySem.W.excIn K C bmB newId = true
section
variable {X : Cx} {W : WX} {L : LM} {G G' : List Mode} {C : Addr} {bmB : List Value} {Bs newId initId : String} {x : Str} {e : Expr} {es : List Expr} {p pos pos' : Pos}
omit [Mg] in
theorem pmk_own0 (N : XNew X.K C Bs newId initId bmB) (Tx : XCls X.K X.mg x C) (hg : Gl X x) (hdb : (x == ("__debug__" : Str)) = false := by decide) : PMk X (.Call (.Name x p) [] [] pos) (fun _ H Q => Q (.ref C) none H) := by
  intro pins s σ H Q I h
  refine wpAny_Call_Name_kw (ld_glob I hg Tx.g ?_ hdb)
  refine PySem.W.callWith_K0 I.kIn Tx.kp ?_
  show wpAny _ _ (call (.ref C) []) _ _ _
  obtain ⟨bm, N', nm, qn, bs, hdct, sn, sub, ab, col, dd, k0, k1, k2, k3, k5, mN, hC, hN, hni, T'⟩ := exc_obj I.kIn N.q
  refine wpAny_call_exc_subT N.F T' hC hN hni (fun h' e hm => ?_) (Nat.zero_le _)
  exact mk_of I hm (raises_own Tx.sub Tx.ty) h (I.hok.gone hm.new)
/-- raise X() -/
def sRaise (c : Str) : Rho → Out := fun ρ => .ex ⟨c, []⟩ ρ
theorem sj_raise0 (hc : X.calm = true) (tk : Takes X W) (N : XNew X.K C Bs newId initId bmB) (Tx : XCls X.K X.mg x C) (hg : Gl X x) (hdb : (x == ("__debug__" : Str)) = false := by decide) : SJ X W L G (.Raise (some (.Call (.Name x p) [] [] pos)) none pos') (sRaise x) G' := by
  refine ⟨_, ps_raise hc tk (pmk_own0 N Tx hg hdb), fun hx F ρ own B σ H D gd q => ?_⟩
  exact q (.ref C) none _ _ σ H (to_gr gd.gr) (gd.to hx) ⟨Tx.g, .inl ⟨rfl, rfl⟩⟩
/-- raise X(e, ..) -/
def sRaiseA (c : Str) (g : Rho → Res (List D)) : Rho → Out := fun ρ => thenS (g ρ) ρ fun ds => if ds.length ≤ sizeLine then .ex ⟨c, []⟩ ρ else .no
theorem SnA.len {K : PySem.W.Frag} {own : Own} {B H : Hp} : ∀ {vs : List V} {ds : List D}, SnA K own B H vs ds → vs.length = ds.length
  | _, _, .nil => rfl
  | _, _, .cons _ r => congrArg (· + 1) (SnA.len r)
theorem sj_raiseA {g : Rho → Res (List D)} (hc : X.calm = true) (tk : Takes X W) (N : XNew X.K C Bs newId initId bmB) (Tx : XCls X.K X.mg x C) (hg : Gl X x) (ha : BAJ X W G (e :: es) g) (hdb : (x == ("__debug__" : Str)) = false := by decide)
    (he : starEach (e :: es) X.env = (false, eval e X.env) :: starEach es X.env := by rfl) (hpl : (backTo pos (starEach es X.env)).any (·.1) = false := by rfl) : SJ X W L G (.Raise (some (.Call (.Name x p) (e :: es) [] pos)) none pos') (sRaiseA x g) G' := by
  obtain ⟨t, pa, va⟩ := ha
  refine ⟨_, ps_raise hc tk (pmk_ownA N.F N.q Tx.g Tx.kp (raises_own Tx.sub Tx.ty) hg pa hdb he hpl), fun hx F ρ own B σ H D gd q => ?_⟩
  refine va F ρ own B σ H _ gd (Res.has_mono (thenS_has hx gd q) (fun ds q vs B' H' s r => ?_) fun _ x => x)
  split at q
  · rename_i hz
    refine ⟨by rw [r.len]; exact hz, ?_⟩
    exact q (.ref C) none _ _ σ H' (s.g.trans (to_gr (gd.step s).gr)) ((gd.step s).to hx) ⟨Tx.g, .inl ⟨rfl, rfl⟩⟩
  · exact q.elim

/-! ### try -/
/-- the classes of the text, and who is whose child -/
structure Subs (K : PySem.W.Frag) (mg : Str → Option Value) (cl : List Str) (sub : Str → Str → Bool) : Prop where
  ok : ∀ a ∈ cl, ∀ c ∈ cl, ∀ va vc : Value, mg a = some va → mg c = some vc → PySem.W.exmOne K va vc = some (sub a c)
omit [Mg] in
theorem subs_one {K : PySem.W.Frag} {mg : Str → Option Value} {a c : Str} {A C va vc : Value} {b b' : Bool} (ha : mg a = some A) (hc : mg c = some C) (h1 : mg a = some va) (h2 : mg c = some vc) (h : PySem.W.exmOne K A C = some b) (e : b = b') : PySem.W.exmOne K va vc = some b' := by
  rw [ha] at h1
  rw [hc] at h2
  cases h1
  cases h2
  rw [h, e]
/-- a suite may not raise -/
def noEx : Out → Out
  | .ex _ _ => .no
  | o => o
/-- the first clause that takes it -/
def pickS (sub : Str → Str → Bool) (e : Exn) : List (Str × (Exn → Rho → Out)) → Rho → Out
  | [], ρ => .ex e ρ
  | (c, g) :: r, ρ => if sub e.cls c = true then noEx (g e ρ) else pickS sub e r ρ
def sTry (cl : List Str) (sub : Str → Str → Bool) (f : Rho → Out) (hs : List (Str × (Exn → Rho → Out))) : Rho → Out := fun ρ => match f ρ with
  | .ex e ρ' => if e.cls ∈ cl then pickS sub e hs ρ' else .no
  | o => o
/-- a suite, for every exception that it may get -/
def SuiJ (X : Cx) (L : LM) (Gx : List Mode) (suite : List Stmt) (g : Exn → Rho → Out) (G' : List Mode) : Prop :=
  ∀ (a : Addr) (oe : Obj) (cls : Value) (d : Option Addr) (pn : List (Addr × Obj)) (e : Exn), Zc cls d oe → (∃ vs, oe.data = .fields vs) → SsJ (X.suite a ((a, oe) :: pn)) W0 L Gx suite (g e) G'
def suiT {X : Cx} {L : LM} {Gx : List Mode} {suite : List Stmt} {g : Exn → Rho → Out} {G' : List Mode} (h : SuiJ X L Gx suite g G') (a : Addr) (cls : Value) (d : Option Addr) : TS :=
  fun D σ H => ∃ e : Exn, ∀ (oe : Obj) (pn : List (Addr × Obj)) (hz : Zc cls d oe) (hf : ∃ vs, oe.data = .fields vs), (h a oe cls d pn e hz hf).choose D σ H
theorem suiT_ok {X : Cx} {L : LM} {Gx : List Mode} {suite : List Stmt} {g : Exn → Rho → Out} {G' : List Mode} (h : SuiJ X L Gx suite g G') (a : Addr) (oe : Obj) (cls : Value) (d : Option Addr) (pn : List (Addr × Obj)) (hz : Zc cls d oe) (hf : ∃ vs, oe.data = .fields vs) :
    PSs (X.suite a ((a, oe) :: pn)) suite (suiT h a cls d) := by
  refine ⟨fun pins s σ H D I q => ?_⟩
  obtain ⟨e, q⟩ := q
  exact (h a oe cls d pn e hz hf).choose_spec.1.run pins s σ H D I (q oe pn hz hf)
/-- the clauses of a try -/
inductive HdsJ (X : Cx) (L : LM) (Gx G' : List Mode) (cl : List Str) : List ExceptHandler → List (Str × (Exn → Rho → Out)) → Prop
  | nil : HdsJ X L Gx G' cl [] []
  | cons {y : Str} {C : Addr} {b₀ : Stmt} {suite : List Stmt} {np pos' : Pos} {g : Exn → Rho → Out} {hds : List ExceptHandler} {l : List (Str × (Exn → Rho → Out))} (hm : y ∈ cl) (Tx : XCls X.K X.mg y C) (hg : Gl X y) (hdb : (y == ("__debug__" : Str)) = false) (hsu : SuiJ X L Gx (b₀ :: suite) g G') (r : HdsJ X L Gx G' cl hds l) :
      HdsJ X L Gx G' cl (.ExceptHandler (some (.Name y np)) none (b₀ :: suite) pos' :: hds) ((y, g) :: l)
theorem HdsJ.hds {cl : List Str} {Gx : List Mode} (hx : leM L.ex Gx) : ∀ {hds : List ExceptHandler} {l : List (Str × (Exn → Rho → Out))}, HdsJ X L Gx G' cl hds l → ∃ l' : List (Value × (Addr → Value → Option Addr → TS)), HdsOk X hds l' ∧
    ∀ (sub : Str → Str → Bool), Subs X.K X.mg cl sub → ∀ (F : Hp) (own : Own) (B : Hp) (D : Ends) (e : Exn) (ρ : Rho), e.cls ∈ cl → PostS X W L G' F own B D (pickS sub e l ρ) →
      ∀ (c : Value) (dx : Option Addr) (own' : Own) (B' : Hp) (σ : L2.St) (H : Hp), Gr own B own' B' → Good X.K F Gx ρ own' B' σ H → ExR X.K X.mg B' H e c dx → wMany X.K W D l' c dx σ H
  | _, _, .nil => ⟨[], .nil, fun sub hs F own0 B D e ρ hc q c dx own B' σ H e' g' x => q c dx _ _ σ H (e'.trans (to_gr g'.gr)) (g'.to hx) (x.mono (baseTo_ext g'.gr))⟩
  | _, _, .cons (g := g) (l := l) hm Tx hg hdb hsu r => by
    obtain ⟨l', h1, h2⟩ := HdsJ.hds hx r
    refine ⟨_, .cons (c := .ref _) (ts := suiT hsu) ⟨hg, hdb, .inl Tx.g⟩ (fun a oe cls d pn hz hf => suiT_ok hsu a oe cls d pn hz hf) h1, fun sub hs F own1 B D e ρ hc q c dx own0 B' σ H e' g' x => ?_⟩
    refine ⟨_, hs.ok e.cls hc _ hm c _ x.cls Tx.g, fun hb a ha => ⟨e, fun oe pn hz hf => ?_⟩, fun hb => ?_⟩
    · rw [pickS, if_pos hb] at q
      refine (hsu a oe c dx pn e hz hf).choose_spec.2 hx F ρ own0 B' σ H D g' ?_
      cases ho : g e ρ with
      | nx ρ2 =>
        rw [ho] at q
        exact fun own B2 σ2 H2 e2 g2 => q own B2 σ2 H2 (e'.trans e2) g2
      | bk ρ2 =>
        rw [ho] at q
        exact fun own B2 σ2 H2 e2 g2 => q own B2 σ2 H2 (e'.trans e2) g2
      | ct ρ2 =>
        rw [ho] at q
        exact fun own B2 σ2 H2 e2 g2 => q own B2 σ2 H2 (e'.trans e2) g2
      | rt d =>
        rw [ho] at q
        exact fun v own B2 H2 e2 => q v own B2 H2 (e'.ext.trans e2)
      | rl d ρ2 =>
        rw [ho] at q
        exact fun v own B2 σ2 H2 e2 => q v own B2 σ2 H2 (e'.trans e2)
      | ex e2 ρ2 =>
        rw [ho] at q
        exact q.elim
      | no =>
        rw [ho] at q
        exact q.elim
    · rw [pickS, if_neg (by rw [hb]; exact Bool.false_ne_true)] at q
      exact h2 sub hs F own1 B D e ρ hc q c dx own0 B' σ H e' g' x
theorem sj_try {Gx : List Mode} {cl : List Str} {sub : Str → Str → Bool} {body : List Stmt} {h₀ : ExceptHandler} {hds : List ExceptHandler} {f : Rho → Out} {l : List (Str × (Exn → Rho → Out))} (hs : X.stack = X.env :: X.outer) (hf : X.env.frame = some X.env.locals) (tk : Takes X W) (hsub : Subs X.K X.mg cl sub)
    (hb : ∀ (W : WX) (pn : List (Addr × Obj)) (xe : Value → Shared → Prop), Takes (X.tr pn xe) W → PassesOwn (model X.prog X.w) X.A X.env xe → SsJ (X.tr pn xe) W ⟨L.bk, L.ct, L.rt, Gx, L.rl⟩ G body f G')
    (hh : HdsJ X L Gx G' cl (h₀ :: hds) l) (hGx : leQ Gx G := by first | exact True.intro | (repeat (first | exact True.intro | refine And.intro (Or.inl rfl) ?_ | refine And.intro (Or.inr rfl) ?_ | refine And.intro rfl ?_))) (hGL : leQ L.ex Gx := by first | exact True.intro | (repeat (first | exact True.intro | refine And.intro (Or.inl rfl) ?_ | refine And.intro (Or.inr rfl) ?_ | refine And.intro rfl ?_))) : SJ X W L G (.Try body (h₀ :: hds) [] [] pos) (sTry cl sub f l) G' := by
  obtain ⟨l', h1, h2⟩ := hh.hds (leM_p hGL) (W := W)
  refine ⟨_, ps_try_many hs hf tk (tb := fun W D σ H => ∀ pn xe (t1 : Takes (X.tr pn xe) W) (t2 : PassesOwn (model X.prog X.w) X.A X.env xe), (hb W pn xe t1 t2).choose D σ H) (fun W pn xe t1 t2 => ⟨fun pins s σ H D I q => (hb W pn xe t1 t2).choose_spec.1.run pins s σ H D I (q pn xe t1 t2)⟩) h1, fun hx F ρ own B σ H D gd q => ?_⟩
  intro pn xe t1 t2
  refine (hb _ pn xe t1 t2).choose_spec.2 (leM_p hGx) F ρ own B σ H D gd ?_
  unfold sTry at q
  cases ho : f ρ with
  | ex e ρ2 =>
    rw [ho] at q
    simp only at q
    split at q
    · rename_i hc
      exact fun c dx own2 B' σ' H' e' g' x => h2 sub hsub F own B D e ρ2 hc q c dx own2 B' σ' H' e' g' x
    · exact q.elim
  | nx ρ2 =>
    rw [ho] at q
    exact q
  | bk ρ2 =>
    rw [ho] at q
    exact q
  | ct ρ2 =>
    rw [ho] at q
    exact q
  | rt d =>
    rw [ho] at q
    exact q
  | rl d ρ2 =>
    rw [ho] at q
    exact q
  | no =>
    rw [ho] at q
    exact q.elim
end
end T

set_option Elab.async false
set_option linter.all false
set_option maxRecDepth 100000
set_option maxHeartbeats 4000000
/-! T-layer, part R: sorted, of pairs of numbers. -/
namespace T
open PySem PySem.Spec PyProof.Rows L2
variable [Mg]
def leP (p q : Int × Int) : Prop := p.1 < q.1 ∨ (p.1 = q.1 ∧ p.2 ≤ q.2)
instance (p q : Int × Int) : Decidable (leP p q) := by unfold leP; infer_instance
def insP (x : Int × Int) : List (Int × Int) → List (Int × Int)
  | [] => [x]
  | y :: ys => if leP x y then x :: y :: ys else y :: insP x ys
def sortP : List (Int × Int) → List (Int × Int)
  | [] => []
  | x :: xs => insP x (sortP xs)
omit [Mg] in
theorem insP_perm (x : Int × Int) : ∀ ys, (insP x ys).Perm (x :: ys)
  | [] => .refl _
  | y :: ys => by
    unfold insP
    split
    · exact .refl _
    · exact ((insP_perm x ys).cons y).trans (.swap x y ys)
omit [Mg] in
theorem sortP_perm : ∀ xs, (sortP xs).Perm xs
  | [] => .refl _
  | x :: xs => (insP_perm x (sortP xs)).trans ((sortP_perm xs).cons x)
omit [Mg] in
theorem insP_sorted {x : Int × Int} : ∀ {ys}, List.Pairwise leP ys → List.Pairwise leP (insP x ys)
  | [], _ => by simp [insP]
  | y :: ys, h => by
    obtain ⟨h1, h2⟩ := List.pairwise_cons.mp h
    unfold insP
    split
    · rename_i hxy
      refine List.pairwise_cons.mpr ⟨fun z hz => ?_, h⟩
      rcases List.mem_cons.mp hz with rfl | hz
      · exact hxy
      · have := h1 z hz
        unfold leP at *
        omega
    · rename_i hxy
      refine List.pairwise_cons.mpr ⟨fun z hz => ?_, insP_sorted h2⟩
      rcases List.mem_cons.mp ((insP_perm x ys).mem_iff.mp hz) with rfl | hz
      · unfold leP at *
        omega
      · exact h1 z hz
theorem sortP_sorted : ∀ xs, List.Pairwise leP (sortP xs)
  | [] => List.Pairwise.nil
  | x :: xs => insP_sorted (sortP_sorted xs)
omit [Mg] in
theorem sorted_uniq : ∀ {l m : List (Int × Int)}, List.Pairwise leP l → List.Pairwise leP m → l.Perm m → l = m
  | [], m, _, _, h => (List.nil_perm.mp h).symm
  | x :: l, [], _, _, h => by simpa using h.length_eq
  | x :: l, y :: m, h1, h2, h => by
    obtain ⟨a1, a2⟩ := List.pairwise_cons.mp h1
    obtain ⟨b1, b2⟩ := List.pairwise_cons.mp h2
    have e : x = y := by
      rcases List.mem_cons.mp (h.mem_iff.mp List.mem_cons_self) with e | hx
      · exact e
      · rcases List.mem_cons.mp (h.symm.mem_iff.mp List.mem_cons_self) with e | hy
        · exact e.symm
        · have p1 := a1 y hy
          have p2 := b1 x hx
          unfold leP at p1 p2
          exact Prod.ext (by omega) (by omega)
    subst e
    rw [sorted_uniq a2 b2 (List.Perm.cons_inv h)]
/-- sorted, a pair may be frozen -/
def rSortedPT (K : PySem.W.Frag) : List V → Hp → VK → Prop := fun vs H Q => ∃ (a : Addr) (xs : List V) (ps : List (Int × Int)), vs = [V.ref a] ∧ SqL K H a xs ∧ xs.length = ps.length ∧ (∀ (m : Nat) (x : V) (p : Int × Int), xs[m]? = some x → ps[m]? = some p → ∃ t, x = V.ref t ∧ SqT K H t [.int p.1, .int p.2]) ∧
  ∀ (zs : List (V × (Int × Int))) (p : Addr), zs.Perm (xs.zip ps) → List.Pairwise leP (zs.map (·.2)) → H p = none → Q (.ref p) (upd H p (.lst (zs.map (·.1))))
omit [Mg] in
theorem zip_k {α β : Type} (k : α → β) : ∀ l : List α, l.zip (l.map k) = l.map fun y => (y, k y)
  | [] => rfl
  | x :: l => by rw [List.map_cons, List.zip_cons_cons, zip_k k l]; rfl
omit [Mg] in
theorem cr_sortedPT {X : Cx} : CallR X (.builtin "sorted") (rSortedPT X.K) := by
  intro pins s σ H vs us Q I r h
  obtain ⟨a, xs, ps, rfl, hs, hlen, hx, q⟩ := h
  obtain ⟨its, rv, hl, hz⟩ := I.list hs
  obtain ⟨u, rfl, ru⟩ := vals1 r
  obtain rfl : u = Value.ref a := ru
  -- what each thing says
  have hk : ∃ k : V → Int × Int, ∀ (m : Nat) (x : V) (p : Int × Int), xs[m]? = some x → ps[m]? = some p → k x = p := by
    refine ⟨fun x => Classical.epsilon fun p => ∃ m : Nat, xs[m]? = some x ∧ ps[m]? = some p, fun m x p h1 h2 => ?_⟩
    obtain ⟨m', e1, e2⟩ := Classical.epsilon_spec (p := fun p => ∃ m : Nat, xs[m]? = some x ∧ ps[m]? = some p) ⟨p, m, h1, h2⟩
    obtain ⟨t, e, h3⟩ := hx m x p h1 h2
    obtain ⟨t', e', h4⟩ := hx m' x _ e1 e2
    rw [e] at e'
    cases e'
    have := I.tuple_inj h4 h3
    simp at this
    exact Prod.ext this.1 this.2
  obtain ⟨k, hk⟩ := hk
  have hat : ∀ x ∈ xs, ∃ t, x = V.ref t ∧ SqT X.K H t [.int (k x).1, .int (k x).2] := fun x hm => by
    obtain ⟨m, hm⟩ := List.getElem?_of_mem hm
    have hml : m < ps.length := by rw [← hlen]; exact (List.getElem?_eq_some_iff.mp hm).1
    rw [hk m x ps[m] hm (List.getElem?_eq_getElem hml)]
    exact hx m x ps[m] hm (List.getElem?_eq_getElem hml)
  have hps : ps = xs.map k := by
    refine List.ext_getElem? fun m => ?_
    rw [List.getElem?_map]
    cases e : xs[m]? with
    | none =>
      have := List.getElem?_eq_none_iff.mp e
      rw [List.getElem?_eq_none (by omega)]
      rfl
    | some x =>
      have hml : m < ps.length := by rw [← hlen]; exact (List.getElem?_eq_some_iff.mp e).1
      rw [List.getElem?_eq_getElem hml, ← hk m x ps[m] e (List.getElem?_eq_getElem hml)]
      rfl
  obtain ⟨e1, e2⟩ := refs_back rv fun x m => by
    obtain ⟨t, e, _⟩ := hat x m
    exact ⟨t, e⟩
  refine SrtO.sorted_pairsO (k := fun u => k (backV u)) hl.isList (by rw [← rv.length]; exact hz) (fun v hv => ?_) fun h' d out h1 h2 kp hd hn => ?_
  · obtain ⟨t, rfl⟩ := e2 v hv
    have hm : V.ref t ∈ xs := by rw [e1]; exact List.mem_map.mpr ⟨_, hv, rfl⟩
    obtain ⟨t', e, ht⟩ := hat _ hm
    cases e
    obtain ⟨its2, r2, tt, _⟩ := I.tuple ht
    obtain ⟨u1, u2, rfl, ri, rj⟩ := vals2 r2
    obtain ⟨t1, rfl⟩ := ri
    obtain ⟨t2, rfl⟩ := rj
    obtain ⟨o, ho, hc, n, hd⟩ := tt
    exact ⟨t, o, t1, t2, n, rfl, ho, hc, hd⟩
  · have h3 : ∀ u ∈ out, ∃ a, u = Value.ref a := fun u hu => e2 u (h2.perm.mem_iff.mp hu)
    obtain ⟨n, hn⟩ := hn
    have hb : SrtO.Stb (ltP k) (out.map backV) xs := by
      rw [e1]
      exact SrtO.Stb.map (ltP_swo k) backV h2
    have hsrt : SrtO.Srtd (ltP k) (out.map backV) := SrtO.srtd_map h1
    have hvb : Vals (out.map backV) out := vals_back h3
    generalize out.map backV = ys at *
    have hz1 : (ys.map fun y => (y, k y)).map (·.1) = ys := by
      rw [List.map_map]
      exact List.map_id ys
    have hz2 : (ys.map fun y => (y, k y)).Perm (xs.zip ps) := by
      rw [hps, zip_k k xs]
      exact hb.perm.map _
    have q' := q (ys.map fun y => (y, k y)) d hz2 ?_ (I.hok.fresh hd)
    · rw [hz1] at q'
      refine ⟨.ref d, upd H d (.lst ys), I.laid (t' := s.toks) kp hd ⟨?_, out, n, ?_, hn⟩, rfl, q'⟩
      · rw [hb.len]
        exact hz
      · exact hvb
    · rw [List.map_map]
      refine List.pairwise_map.mpr (List.Pairwise.imp (fun {x y} h => ?_) hsrt)
      have := SrtO.lexB_no.mp h
      show leP (k x) (k y)
      unfold leP
      omega

def D.pairs : List D → Option (List (Int × Int))
  | [] => some []
  | .tup [.int i, .int j] :: r => (D.pairs r).map ((i, j) :: ·)
  | _ => none
def dPair (p : Int × Int) : D := .tup [.int p.1, .int p.2]
def dSortedP : List D → Res (List D)
  | [.lst xs] => match D.pairs xs with
    | some ps => .ok ((sortP ps).map dPair)
    | none => .no
  | _ => .no
omit [Mg] in
theorem pairs_eq : ∀ {ds : List D} {ps : List (Int × Int)}, D.pairs ds = some ps → ds = ps.map dPair
  | [], ps, h => by
    simp [D.pairs] at h
    subst h
    rfl
  | d :: ds, ps, h => by
    unfold D.pairs at h
    split at h
    · rename_i he; cases he
    · rename_i i j r he
      cases he
      cases h2 : D.pairs ds with
      | none =>
        rw [h2] at h
        cases h
      | some qs =>
        rw [h2] at h
        cases h
        rw [pairs_eq h2]
        rfl
    · cases h
omit [Mg] in
theorem pairs_map : ∀ ps : List (Int × Int), D.pairs (ps.map dPair) = some ps
  | [] => rfl
  | p :: ps => by
    show (D.pairs (ps.map dPair)).map ((p.1, p.2) :: ·) = _
    rw [pairs_map ps]
    rfl
theorem fn_sortedP {X : Cx} : ∃ r, CallR X (.builtin "sorted") r ∧ CallN X r dSortedP := by
  refine ⟨_, cr_sortedPT, fun ds e h => ?_, fun F own B H vs ds Q g hx q => ?_⟩
  · unfold dSortedP at h
    split at h
    · split at h <;> cases h
    · cases h
  · unfold dSortedP at q
    split at q
    · rename_i xs
      obtain ⟨v, rfl, hv⟩ := hx.one
      obtain ⟨l, vs, rfl, hl, rv⟩ := hv.lst g
      cases hp : D.pairs xs with
      | none =>
        rw [hp] at q
        exact q.elim
      | some ps =>
        rw [hp] at q
        have hxs := pairs_eq hp
        subst hxs
        have hlen : vs.length = ps.length := by rw [rv.len, List.length_map]
        have hat : ∀ (m : Nat) (x : V) (p : Int × Int), vs[m]? = some x → ps[m]? = some p → Rp X.K B x (dPair p) := fun m x p h1 h2 => by
          obtain ⟨d, h3, h4⟩ := rv.get' h1
          rw [List.getElem?_map, h2] at h3
          cases h3
          exact h4
        refine ⟨l, vs, ps, rfl, .inl (.inl hl), hlen, fun m x p h1 h2 => ?_, fun zs p hz hsort hn => ?_⟩
        · cases hat m x p h1 h2 with
          | tup ha r =>
            cases r with
            | cons r1 r2 =>
              cases r2 with
              | cons r2 r3 =>
                cases r3
                cases r1
                cases r2
                exact ⟨_, rfl, Ext.seqT g.same ha⟩
        · have hzs : zs.map (·.2) = sortP ps := by
            refine sorted_uniq hsort (sortP_sorted ps) ?_
            have := hz.map (·.2)
            rw [List.map_snd_zip (by omega)] at this
            exact this.trans (sortP_perm ps).symm
          have hrep : RpA X.K B (zs.map (·.1)) ((sortP ps).map dPair) := by
            rw [← hzs, List.map_map]
            refine RpA.of_get (by simp) fun m x d h1 h2 => ?_
            rw [List.getElem?_map] at h1 h2
            obtain ⟨z, hz1, rfl⟩ := Option.map_eq_some_iff.mp h1
            rw [hz1] at h2
            cases h2
            have hmem : z ∈ vs.zip ps := hz.mem_iff.mp (List.mem_of_getElem? hz1)
            obtain ⟨j, hj⟩ := List.getElem?_of_mem hmem
            rw [List.getElem?_zip_eq_some] at hj
            exact hat j z.1 z.2 hj.1 hj.2
          exact new_lstN g hrep q p hn
    · exact q.elim
end T

set_option Elab.async false
set_option linter.all false
set_option maxRecDepth 100000
set_option maxHeartbeats 4000000
/-! T-layer, part S: f-strings, xs[::-1]. -/
namespace T
open PySem PySem.Spec PyProof.Rows L2
variable [Mg]
def dFmt : D → Res D
  | .str y => if y.length ≤ sizeLine then .ok (.str y) else .no
  | .int i => if i.natAbs.log2 < 1920 then .ok (.str (toString i)) else .no
  | _ => .no
def fmtV (g : Rho → Res D) : Rho → Res D := fun ρ => (g ρ).bind dFmt
/-- the parts one behind the other -/
def fsNil : Str → Rho → Res Str := fun acc _ => .ok acc
def fsCons (g : Rho → Res D) (r : Str → Rho → Res Str) : Str → Rho → Res Str := fun acc ρ => (g ρ).bind fun d => match d with
  | .str y => if (acc ++ y).length ≤ sizeLine then r (acc ++ y) ρ else .no
  | _ => .no
def fsV (r : Str → Rho → Res Str) : Rho → Res D := fun ρ => (r Str.empty ρ).bind fun s => .ok (.str s)
section
variable {X : Cx} {W : WX} {G : List Mode} {e : Expr} {es : List Expr} {pos : Pos}
theorem ej_fmt {g : Rho → Res D} (h : BJ X W G e g) : EJ X W G (.FormattedValue e (-1) none pos) (fmtV g) := by
  obtain ⟨t, p, v⟩ := h
  refine ⟨_, pe_fmt p, fun F ρ own B σ H Q gd q => ?_⟩
  refine v F ρ own B σ H _ gd (Res.has_mono (Res.has_bind q) (fun d q u B' H' s r => ?_) fun _ x => x)
  unfold dFmt at q
  split at q
  · rename_i y
    split at q
    · rename_i hz
      cases r.frz rfl
      exact .inl ⟨y, rfl, hz, q _ B' H' s (.str y)⟩
    · exact q.elim
  · rename_i i
    split at q
    · rename_i hz
      cases r.frz rfl
      exact .inr ⟨i, rfl, hz, q _ B' H' s (.str _)⟩
    · exact q.elim
  · exact q.elim
def FJ (X : Cx) (W : WX) (G : List Mode) (es : List Expr) (r : Str → Rho → Res Str) : Prop := ∃ ts, PJ X es ts ∧ ∀ (F : Hp) (ρ : Rho) (own : Own) (B : Hp) (σ : L2.St) (H : Hp) (acc : Str) (Q : Str → Hp → Prop), Good X.K F G ρ own B σ H →
    (r acc ρ).has (fun s => ∀ (B' H' : Hp), Step own F B H B' H' → Q s H') (WOk X.K X.mg W own F B H σ) → tJs ts acc σ H Q
theorem fj_nil : FJ X W G [] fsNil := ⟨_, .nil, fun F ρ own B σ H acc Q gd q => q B H (.refl gd.gr)⟩
theorem fj_cons {g : Rho → Res D} {r : Str → Rho → Res Str} (h : EJ X W G e g) (h' : FJ X W G es r) : FJ X W G (e :: es) (fsCons g r) := by
  obtain ⟨t, p, v⟩ := h
  obtain ⟨ts, ps, vs⟩ := h'
  refine ⟨_, .cons p ps, fun F ρ own B σ H acc Q gd q => ?_⟩
  refine v F ρ own B σ H _ gd (Res.has_mono (Res.has_bind q) (fun d q u B' H' s rr => ?_) fun _ x => x)
  cases d with
  | str y =>
    simp only at q
    split at q
    · rename_i hz
      cases rr
      exact ⟨y, rfl, hz, vs F ρ own B' σ H' (acc ++ y) Q (gd.step s) (Res.has_mono q (fun s' q B2 H2 s2 => q B2 H2 (s.trans s2)) fun _ x => x.step s)⟩
    · exact q.elim
  | _ => exact q.elim
theorem ej_fs {v1 v2 : Expr} {rest : List Expr} {r : Str → Rho → Res Str} (h : FJ X W G (v1 :: v2 :: rest) r) : EJ X W G (.JoinedStr (v1 :: v2 :: rest) pos) (fsV r) := by
  obtain ⟨ts, p, v⟩ := h
  refine ⟨_, pe_joined p, fun F ρ own B σ H Q gd q => ?_⟩
  exact v F ρ own B σ H Str.empty _ gd (Res.has_mono (Res.has_bind q) (fun s q B' H' st => q _ B' H' st (.str s)) fun _ x => x)
theorem ej_fs1 {g : Rho → Res D} (h : EJ X W G e g) : EJ X W G (.JoinedStr [e] pos) g := by
  obtain ⟨t, p, v⟩ := h
  exact ⟨_, pe_joined1 p, v⟩
/-! xs[::-1] -/
def dRev : D → Res (List D)
  | .lst xs => .ok xs.reverse
  | .scr xs => .ok xs.reverse
  | _ => .no
def revV (g : Rho → Res D) : Rho → Res (List D) := fun ρ => (g ρ).bind dRev
theorem nj_rev {g : Rho → Res D} {k : Nat} {p1 p2 p3 : Pos} (h : BJ X W G e g) : NJ X W G (.Subscript e (.Slice none none (some (.UnaryOp .USub (.Constant (.int 1) k p1) p2)) p3) pos) (revV g) := by
  obtain ⟨t, p, v⟩ := h
  refine ⟨_, pe_revL p, fun F ρ own B σ H Q gd q => ?_⟩
  refine v F ρ own B σ H _ gd (Res.has_mono (Res.has_bind q) (fun d q u B' H' s r => ?_) fun _ x => x)
  have g' := gd.gr.step s
  have fin : ∀ {us : List V} {ds : List D} {p : Addr}, RpA X.K B' us ds → H' p = none → (∀ (p : Addr) (vs : List V) (B2 H2 : Hp), Step own F B H B2 H2 → B2 p = none → F p = none → own p = none → H2 p = some (.lst vs) → RpA X.K B2 vs ds.reverse → Q (.ref p) H2) → Q (.ref p) (upd H' p (.lst us.reverse)) := fun {us ds p} r hn q =>
    q p us.reverse B' _ (s.trans (.garbage g' _ hn)) (g'.bfresh hn) (g'.ffresh hn) (g'.ofresh hn) upd_same r.rev
  cases d with
  | lst xs =>
    obtain ⟨l, vs, rfl, hl, rv⟩ := r.lst g'
    exact ⟨l, vs, rfl, .inl (.inl hl), fun p hn => fin rv hn q⟩
  | scr xs =>
    obtain ⟨l, vs, rfl, hl, rv⟩ := r.scr
    exact ⟨l, vs, rfl, Same.seq g'.same hl, fun p hn => fin rv hn q⟩
  | _ => exact q.elim
end
end T

set_option Elab.async false
set_option linter.all false
set_option maxRecDepth 100000
set_option maxHeartbeats 4000000
/-! T-layer, part T: texts as lists of codes. -/
namespace T
open PySem L2
abbrev dS (l : List Nat) : D := .str (SX.S l)
theorem dS_of {s : Str} {l : List Nat} (h : s = SX.S l) : (D.str s) = dS l := by rw [h]
section
variable {a b : List Nat}
theorem S_len' (a : List Nat) : (SX.S a).length = a.length := SX.S_len a
theorem dAdd_S (h : a.length + b.length ≤ 1000000) : dAdd (dS a) (dS b) = .ok (dS (a ++ b)) := by
  rw [dAdd_s, if_pos (sz1 (by rw [SX.S_len, SX.S_len]; exact h)), SX.S_cat]
theorem dLen_S (h : a.length ≤ 1000000) : dLen [dS a] = .ok (.int a.length) := by
  rw [dLen_s, if_pos (sz1 (by rw [SX.S_len]; exact h)), SX.S_len]
theorem dEq_S : dEq (dS a) (dS b) = .ok (.bl (decide (a = b))) := by
  rw [dEq_s]
  refine congrArg Res.ok (congrArg D.bl ?_)
  rw [Bool.eq_iff_iff]
  simp only [decide_eq_true_eq]
  exact ⟨SX.S_inj, fun h => by rw [h]⟩
theorem dNe_S : dNe (dS a) (dS b) = .ok (.bl (!decide (a = b))) := by
  rw [dNe_s]
  refine congrArg Res.ok (congrArg D.bl (congrArg not ?_))
  rw [Bool.eq_iff_iff]
  simp only [decide_eq_true_eq]
  exact ⟨SX.S_inj, fun h => by rw [h]⟩
theorem dIn_S {c : Nat} : dIn (dS [c]) (dS a) = .ok (.bl (decide (c ∈ a))) := by
  show Res.ok (D.bl (!(Builtin.Str.occurrences (SX.S a) (SX.S [c]) 0 (SX.S a).length 1).isEmpty)) = _
  rw [SX.in_one]
theorem dNotIn_S {c : Nat} : dNotIn (dS [c]) (dS a) = .ok (.bl (!decide (c ∈ a))) := by
  unfold dNotIn
  rw [dIn_S, Res.bind_ok, dNotB_b]
theorem dOrd_S {c : Nat} : dOrd [dS [c]] = .ok (.int (c : Int)) := by
  show (if (SX.S [c]).length = 1 then Res.ok (D.int ((SX.S [c]).cps.getD 0 0 : Nat)) else .no) = _
  rw [if_pos (show (SX.S [c]).length = 1 from SX.S_len [c])]
  rfl
theorem dIx_S {i : Int} {j c : Nat} (hi : i = (j : Int)) (h : a[j]? = some c) (hl : a.length ≤ 1000000) : dIx (dS a) (.int i) = .ok (dS [c]) := by
  unfold dIx
  simp only
  rw [if_pos (sz1 (by rw [SX.S_len]; exact hl)), atI_get hi h]
theorem num_fits {n : Nat} (h : n < 10 ^ 20) : ((n : Int)).natAbs.log2 < 1920 := by
  rw [Int.natAbs_natCast]
  by_cases h0 : n = 0
  · subst h0
    decide
  · exact (Nat.log2_lt h0).mpr (Nat.lt_of_lt_of_le h (Nat.le_trans (show 10 ^ 20 ≤ 2 ^ 70 by decide) (Nat.pow_le_pow_right (by decide) (by decide))))
theorem dFmt_n {n : Nat} (h : n < 10 ^ 20) : dFmt (.int (n : Int)) = .ok (dS (TL.numL n)) := by
  unfold dFmt
  simp only
  rw [if_pos (num_fits h)]
  exact congrArg (fun s => Res.ok (D.str s)) (SX.num_S n)
theorem dStrI_n {n : Nat} (h : n < 10 ^ 20) : dStrI [.int (n : Int)] = .ok (dS (TL.numL n)) := by
  unfold dStrI
  simp only
  rw [if_pos (num_fits h)]
  exact congrArg (fun s => Res.ok (D.str s)) (SX.num_S n)
theorem dSl_S {lo hi : Option Int} (h : a.length ≤ 1000000) : dSl (dS a) lo hi = .ok (dS (cutL a lo hi)) := by
  show (if (SX.S a).length ≤ sizeLine then Res.ok (D.str (cutS (SX.S a) lo hi)) else .no) = _
  rw [if_pos (sz1 (by rw [SX.S_len]; exact h))]
  unfold cutS cutL
  rw [SX.S_len]
theorem dSplit_S {c : Nat} (hc : c < 256) (h : a.length + 2 ≤ 1000000) : dSplit (dS a) [dS [c]] = .ok ((TL.spl [c] 0 [] a).map dS) := by
  unfold dSplit
  simp only
  rw [if_pos ⟨by rw [SX.S_len]; rfl, sz1 (by rw [SX.S_len]; exact h)⟩, SX.split_S (List.cons_ne_nil _ _) (by simpa using hc), List.map_map]
  rfl
theorem dJoin_nil {ls : List (List Nat)} (h : ls.flatten.length ≤ 1000000) : dJoin (dS []) [.lst (ls.map dS)] = .ok (dS ls.flatten) := by
  unfold dJoin
  simp only
  rw [show ls.map dS = (ls.map SX.S).map D.str by rw [List.map_map]; rfl, strs_map]
  simp only
  rw [if_pos, join_nil]
  rw [SX.S_len]
  have : ((ls.map SX.S).map fun (x : Str) => x.length).sum = ls.flatten.length := by
    rw [SX.lens, List.length_flatten]
  rw [show ((ls.map SX.S).map (·.length)).sum = ls.flatten.length from this, List.length_nil, Nat.mul_zero]
  omega
theorem fs_cons {g : Rho → Res D} {r : Str → Rho → Res Str} {ρ : Rho} {acc : List Nat} {z : Res Str} (h : g ρ = .ok (dS b)) (hl : acc.length + b.length ≤ 1000000) (h' : r (SX.S (acc ++ b)) ρ = z) : fsCons g r (SX.S acc) ρ = z := by
  unfold fsCons
  rw [h, Res.bind_ok]
  simp only
  rw [SX.S_cat, if_pos (sz1 (by rw [SX.S_len, List.length_append]; exact hl)), h']
theorem fs_ok {r : Str → Rho → Res Str} {ρ : Rho} {l : List Nat} (h : r (SX.S []) ρ = .ok (SX.S l)) : fsV r ρ = .ok (dS l) := by
  unfold fsV
  rw [show Str.empty = SX.S [] from rfl, h, Res.bind_ok]
end
end T

set_option Elab.async false
set_option linter.all false
set_option maxRecDepth 100000
set_option maxHeartbeats 4000000
/-! T-layer, part U: lemmas for evaluation by a tactic. -/
namespace T
open PySem L2
section
variable {ρ ρ' : Rho} {f g : Rho → Out} {o : Out} {d : D} {c : Rho → Res Bool} {a b : Rho → Res D} {k l : Bool}
theorem u_tru (h : a ρ = .ok d) (h' : dTru d = .ok k) : truV a ρ = .ok k := by rw [truV_ap, h, Res.bind_ok, h']
theorem ok_d {d' : D} (h : a ρ = .ok d) (e : d = d') : a ρ = .ok d' := by rw [h, e]
theorem u_neg {e : D} (h : a ρ = .ok d) (h' : dNeg d = .ok e) : negV a ρ = .ok e := by rw [negV_ap, h, Res.bind_ok, h']
theorem u_notV {e : D} (h : a ρ = .ok d) (h' : dNotB d = .ok e) : notV a ρ = .ok e := by rw [notV_ap, h, Res.bind_ok, h']
theorem u_items {ds : List D} (h : a ρ = .ok d) (h' : dItems d = .ok ds) : itemsV a ρ = .ok ds := by rw [itemsV_ap, h, Res.bind_ok, h']
theorem u_chain {f g : D → D → Res D} {a b c : Rho → Res D} {x y z : D} {p q : Bool} (ha : a ρ = .ok x) (hb : b ρ = .ok y) (h1 : f x y = .ok (.bl p)) (hc : c ρ = .ok z) (h2 : g y z = .ok (.bl q)) : chainV f g a b c ρ = .ok (.bl (p && q)) := by
  rw [chainV_ap, ha, Res.bind_ok, hb, Res.bind_ok, h1, Res.bind_ok]
  cases p with
  | true => simpa [hc] using h2
  | false => rfl
theorem u_andV (h : a ρ = .ok (.bl k)) (h' : b ρ = .ok (.bl l)) : andV a b ρ = .ok (.bl (k && l)) := by
  rw [andV_ap, h, Res.bind_ok]
  cases k with
  | true => simpa using h'
  | false => rfl
theorem u_orV (h : a ρ = .ok (.bl k)) (h' : b ρ = .ok (.bl l)) : orV a b ρ = .ok (.bl (k || l)) := by
  rw [orV_ap, h, Res.bind_ok]
  cases k with
  | true => rfl
  | false => simpa using h'
theorem u_orV_t (h : a ρ = .ok (.bl true)) : orV a b ρ = .ok (.bl true) := by
  rw [orV_ap, h, Res.bind_ok]
  rfl
theorem u_orV_r (h : a ρ = .ok (.bl false)) (h' : b ρ = .ok d) : orV a b ρ = .ok d := by
  rw [orV_ap, h, Res.bind_ok]
  exact h'
theorem u_andV_f (h : a ρ = .ok (.bl false)) : andV a b ρ = .ok (.bl false) := by
  rw [andV_ap, h, Res.bind_ok]
  rfl
theorem u_andV_r (h : a ρ = .ok (.bl true)) (h' : b ρ = .ok d) : andV a b ρ = .ok d := by
  rw [andV_ap, h, Res.bind_ok]
  exact h'
theorem u_and {a b : Rho → Res Bool} (h : a ρ = .ok k) (h' : b ρ = .ok l) : andB a b ρ = .ok (k && l) := andB_ok h fun _ => h'
theorem u_sl {α : Type} {h : D → Option Int → Option Int → Res α} {p q : Rho → Res (Option Int)} {i j : Option Int} {z : Res α} (ha : a ρ = .ok d) (hp : p ρ = .ok i) (hq : q ρ = .ok j) (hh : h d i j = z) : slV h a p q ρ = z := by rw [slV_ap, ha, Res.bind_ok, hp, Res.bind_ok, hq, Res.bind_ok, hh]
theorem u_part {i : Int} (h : a ρ = .ok (.int i)) : toPart a ρ = .ok (some i) := by rw [toPart_ap, h, Res.bind_ok]
theorem u_meth {α : Type} {n : String} {h : D → List D → Res α} {p : Rho → Res (List D)} {ds : List D} {z : Res α} (ha : a ρ = .ok d) (ht : d.isTy n = true) (hp : p ρ = .ok ds) (hh : h d ds = z) : methV n h a p ρ = z := by rw [methV_ap, ha, Res.bind_ok, if_pos ht, hp, Res.bind_ok, hh]
theorem u_call {α : Type} {h : List D → Res α} {p : Rho → Res (List D)} {ds : List D} {z : Res α} (hp : p ρ = .ok ds) (hh : h ds = z) : callV h p ρ = z := by rw [callV_ap, hp, Res.bind_ok, hh]
theorem u_callN {h : List D → Res D} {p : Rho → Res (List D)} {ds xs : List D} (hp : p ρ = .ok ds) (hh : h ds = .ok (.lst xs)) : callN h p ρ = .ok xs := by rw [callN_ap, hp, Res.bind_ok, hh, asL_lst]
theorem u_consA {p : Rho → Res (List D)} {ds : List D} (ha : a ρ = .ok d) (hp : p ρ = .ok ds) : consA a p ρ = .ok (d :: ds) := by rw [consA_ap, ha, Res.bind_ok, hp, Res.bind_ok]
theorem u_tup {p : Rho → Res (List D)} {ds : List D} (hp : p ρ = .ok ds) (hl : ds.length ≤ 1000000) : tupV p ρ = .ok (.tup ds) := by rw [tupV_ap, hp, Res.bind_ok, if_pos (sz1 hl)]
theorem u_lst {p : Rho → Res (List D)} {ds : List D} (hp : p ρ = .ok ds) (hl : ds.length ≤ 1000000) : lstV p ρ = .ok ds := by rw [lstV_ap, hp, Res.bind_ok, if_pos (sz1 hl)]
theorem u_own {ds : List D} (h : a ρ = .ok (.lst ds)) : ownItems a ρ = .ok ds := by rw [ownItems_ap, h, Res.bind_ok]
theorem u_if {z : Res D} (hc : c ρ = .ok k) (h1 : k = true → a ρ = z) (h2 : k = false → b ρ = z) : ifV c a b ρ = z := by
  rw [ifV_ap, hc, Res.bind_ok]
  cases k with
  | true => exact h1 rfl
  | false => exact h2 rfl
/-- a test, either way -/
theorem if_c (h : c ρ = .ok k) (h1 : k = true → f ρ = o) (h2 : k = false → g ρ = o) : sIf c f g ρ = o := by
  rw [sIf_ap, h, thenS_ok]
  cases k with
  | true => exact h1 rfl
  | false => exact h2 rfl
theorem if_k (h : c ρ = .ok k) (e : k = true) (h1 : f ρ = o) : sIf c f g ρ = o := if_t (h.trans (by rw [e])) h1
theorem if_n (h : c ρ = .ok k) (e : k = false) (h1 : g ρ = o) : sIf c f g ρ = o := if_f (h.trans (by rw [e])) h1
/-- a guard that does not hold -/
theorem seq_g (h : c ρ = .ok k) (e : k = false) (h' : g ρ = o) : sSeq (sIf c f sSkip) g ρ = o := seq_no (h.trans (by rw [e])) h'
/-- a guard that leaves -/
theorem seq_gt (h : c ρ = .ok k) (e : k = true) (h' : f ρ = .rt d) : sSeq (sIf c f sSkip) g ρ = .rt d := seq_rt (if_t (h.trans (by rw [e])) h')
theorem seq_gx {x : Exn} (h : c ρ = .ok k) (e : k = true) (h' : f ρ = .ex x ρ') : sSeq (sIf c f sSkip) g ρ = .ex x ρ' := seq_ex (if_t (h.trans (by rw [e])) h')
/-- a guard that may leave -/
theorem seq_gc (h : c ρ = .ok k) (h1 : k = true → f ρ = .rt d) (h' : k = false → g ρ = .rt d) : sSeq (sIf c f sSkip) g ρ = .rt d := by
  cases k with
  | true => exact seq_gt h rfl (h1 rfl)
  | false => exact seq_g h rfl (h' rfl)
theorem set_eq {i : Nat} {a : Rho → Res D} {ρ' : Rho} (h : a ρ = .ok d) (e : ρ.set i (some d) = ρ') : sSet i a ρ = .nx ρ' := by rw [set_ok h, e]
theorem setN_eq {i : Nat} {a : Rho → Res (List D)} {ds : List D} {ρ' : Rho} (h : a ρ = .ok ds) (e : ρ.set i (some (.lst ds)) = ρ') : sSetN i a ρ = .nx ρ' := by rw [setN_ok h, e]
theorem ret_eq {a : Rho → Res D} {d' : D} (h : a ρ = .ok d) (e : d = d') : sRet a ρ = .rt d' := by rw [ret_ok h, e]
theorem app_eq {i : Nat} {a : Rho → Res D} {xs : List D} {ρ' : Rho} (h0 : ρ[i]? = some (some (.lst xs))) (h : a ρ = .ok d) (hs : xs.length < 1000000) (e : ρ.set i (some (.lst (xs ++ [d]))) = ρ') : sApp i a ρ = .nx ρ' := by rw [app_ok h0 h hs, e]
theorem skip_eq (e : ρ = ρ') : sSkip ρ = .nx ρ' := by rw [sSkip_ap, e]
theorem u_app {i : Nat} {a : Rho → Res D} {xs : List D} (h0 : ρ[i]? = some (some (.lst xs))) (h : a ρ = .ok d) (hs : xs.length < 1000000) : sApp i a ρ = .nx (ρ.set i (some (.lst (xs ++ [d])))) := app_ok h0 h hs
end
section
variable {α : Type} {enc : α → D}
theorem dAdd_L {a b : List α} (h : a.length + b.length ≤ 1000000) : dAdd (.lst (a.map enc)) (.lst (b.map enc)) = .ok (.lst ((a ++ b).map enc)) := by
  rw [dAdd_l, if_pos (sz1 (by simpa using h)), List.map_append]
theorem dAdd_l' {a b : List D} (h : a.length + b.length ≤ 1000000) : dAdd (.lst a) (.lst b) = .ok (.lst (a ++ b)) := by
  rw [dAdd_l, if_pos (sz1 h)]
theorem dAdd_t' {a b : List D} (h : a.length + b.length ≤ 1000000) : dAdd (.tup a) (.tup b) = .ok (.tup (a ++ b)) := by
  rw [dAdd_t, if_pos (sz1 h)]
theorem dAdd_T {a b : List α} (h : a.length + b.length ≤ 1000000) : dAdd (.tup (a.map enc)) (.tup (b.map enc)) = .ok (.tup ((a ++ b).map enc)) := by
  rw [dAdd_t, if_pos (sz1 (by simpa using h)), List.map_append]
theorem dCat_l' {a b : List D} (h : a.length + b.length ≤ 1000000) : dCat (.lst a) (.lst b) = .ok (a ++ b) := by
  rw [dCat_l, if_pos (sz1 h)]
/-- all([..]) -/
theorem all_comp {src : Rho → Res (List D)} {b : Bnd} {h : Rho → Res D} {vs : List Nat} {ρ : Rho} {xs : List α} (p : α → Bool) (hs : src ρ = .ok (xs.map enc)) (hl : xs.length ≤ 1000000) (hf : ∀ x ∈ xs, ∃ ρ1, b (enc x) (wipeR ρ vs) = some ρ1 ∧ h ρ1 = .ok (.bl (p x))) :
    callV dAll (consA (lstD (compV src b yesB h vs)) noA) ρ = .ok (.bl (xs.all p)) := by
  have h1 : compV src b yesB h vs ρ = .ok ((xs.map p).map D.bl) := by
    rw [compV_ap, hs, Res.bind_ok, if_pos (sz1 (by simpa using hl))]
    exact lcM_map p xs hf
  rw [callV_ap, consA_ap, lstD_ap, h1, Res.bind_ok, Res.bind_ok, noA_ap, Res.bind_ok, Res.bind_ok]
  show (match D.bools ((xs.map p).map D.bl) with | some bs => Res.ok (D.bl (bs.all id)) | none => .no) = _
  rw [bools_map]
  refine congrArg Res.ok (congrArg D.bl ?_)
  rw [List.all_map]
  rfl
theorem rev_ok {ρ : Rho} {g : Rho → Res D} {xs : List D} (h : g ρ = .ok (.lst xs)) : revV g ρ = .ok xs.reverse := by
  unfold revV
  rw [h, Res.bind_ok]
  rfl
theorem dIx_last {a : List α} {l : α} : dIx (.lst ((a ++ [l]).map enc)) (.int (-1)) = .ok (enc l) := by
  rw [List.map_append]
  refine dIx_l ?_
  show atI (a.map enc ++ [enc l]) (-1) = _
  unfold atI
  have e : ixN ((a.map enc).length + 1) (-1) = some (a.map enc).length := by
    unfold ixN
    simp
    omega
  rw [List.length_append, List.length_singleton, e]
  simp
theorem setI_last {ρ : Rho} {i : Nat} {gk g : Rho → Res D} {a : List α} {l m : α} (hg : g ρ = .ok (enc m)) (h0 : ρ[i]? = some (some (.lst ((a ++ [l]).map enc)))) (hk : gk ρ = .ok (.int (-1))) : sSetI i gk g ρ = .nx (ρ.set i (some (.lst ((a ++ [m]).map enc)))) := by
  rw [sSetI_ap, hg, thenS_ok, x_atL h0, hk, thenS_ok]
  have e : ixN (((a ++ [l]).map enc).length) (-1) = some a.length := by
    unfold ixN
    simp
    omega
  simp only [e]
  simp
theorem setI_at {ρ : Rho} {i : Nat} {gk g : Rho → Res D} {xs : List D} {d : D} {z : Int} {j : Nat} (hg : g ρ = .ok d) (h0 : ρ[i]? = some (some (.lst xs))) (hk : gk ρ = .ok (.int z)) (hz : z = (j : Int)) (hj : j < xs.length) : sSetI i gk g ρ = .nx (ρ.set i (some (.lst (xs.set j d)))) := by
  rw [sSetI_ap, hg, thenS_ok, x_atL h0, hk, thenS_ok]
  have e : ixN xs.length z = some j := by
    subst hz
    unfold ixN
    simp
    omega
  simp only [e]
theorem dIn_l' (x : D) (ys : List D) : dIn x (.lst ys) = if D.dat 60 x = true ∧ D.datA 60 ys = true then .ok (.bl (ys.any fun y => y.eqb x)) else .no := by
  cases x <;> rfl
end
theorem for_cons {b : Bnd} {body : Rho → Out} {x : D} {xs : List D} {ρ ρ1 ρ2 : Rho} {o : Out} (h : b x ρ = some ρ1) (h1 : body ρ1 = .nx ρ2) (h2 : forM b body xs ρ2 = o) : forM b body (x :: xs) ρ = o := by
  simp only [forM, h, h1, h2]
theorem for_nil {b : Bnd} {body : Rho → Out} {ρ : Rho} : forM b body [] ρ = .nx ρ := rfl
theorem isi_k {x : D} {n : String} {t : String} {r : Bool} (h : dIsi [x, .ty t] = .ok (.bl r)) : dIsi [x, .ty t] = .ok (.bl r) := h
@[simp] theorem isi_bi {p : Bool} : dIsi [.bl p, .ty "int"] = .ok (.bl true) := by
  show (match kitB "bool" "int" with | some r => Res.ok (D.bl r) | none => .no) = _
  rw [show kitB "bool" "int" = some true by decide +kernel]
theorem dTru_l {xs : List D} : dTru (.lst xs) = .ok (!xs.isEmpty) := mk_eq rfl
end T

set_option Elab.async false
set_option linter.all false
set_option maxRecDepth 100000
set_option maxHeartbeats 4000000
/-! T-layer, part V: except X as n; isinstance of n; its fields. -/
namespace T
open PySem PySem.Spec PyProof.Rows L2
variable [Mg]
/-- the slot of the error is let go -/
def dropO (i : Nat) : Out → Out
  | .nx ρ => .nx (ρ.set i none)
  | .bk ρ => .bk (ρ.set i none)
  | .ct ρ => .ct (ρ.set i none)
  | o => o
def sTryAs (cl : List Str) (sub : Str → Str → Bool) (f : Rho → Out) (i : Nat) (c : Str) (g : Exn → Rho → Out) : Rho → Out := fun ρ => match f ρ with
  | .ex e ρ' => if e.cls ∈ cl then (if sub e.cls c = true then dropO i (noEx (g e (ρ'.set i (some (.exc e.fs))))) else .ex e ρ') else .no
  | o => o
section
variable {K : PySem.W.Frag} {F B H : Hp} {own : Own} {G G2 : List Mode} {ρ : Rho} {σ : L2.St} {i : Nat}
theorem Good.raw {a : Addr} {d : Option Addr} {fs : List (Str × D)} {Gx : List Mode} (g : Good K F Gx ρ own B σ H) (h0 : ∀ j, j ≠ i → G.getD j Mode.fz = Gx.getD j Mode.fz) (hi : G.getD i Mode.fz = Mode.raw a d) (hx : ExcFs K B d fs) :
    Good K F G (ρ.set i (some (.exc fs))) own B (σ.set i (some (.ref a))) H where
  gr := g.gr
  len := by simpa using g.len
  slots := fun j e he => by
    by_cases hj : j = i
    · subst hj
      have hl := (List.getElem?_eq_some_iff.mp he).1
      rw [List.length_set] at hl
      rw [List.getElem?_set_self hl] at he
      cases he
      refine ⟨.ref a, ?_, ?_⟩
      · rw [List.getElem?_set_self (by rw [g.len.1]; exact hl)]
      · rw [hi]
        exact ⟨rfl, fs, rfl, hx⟩
    · rw [List.getElem?_set_ne (Ne.symm hj)] at he
      obtain ⟨v, h1, h2⟩ := g.slots j e he
      refine ⟨v, by rw [List.getElem?_set_ne (Ne.symm hj)]; exact h1, ?_⟩
      rw [h0 j hj]
      exact h2
theorem Good.drop1 (g : Good K F G ρ own B σ H) (h : ∀ j, j ≠ i → G2.getD j Mode.fz = G.getD j Mode.fz) : Good K F G2 (ρ.set i none) own B (σ.set i none) H where
  gr := g.gr
  len := by simpa using g.len
  slots := fun j e he => by
    have hj : j ≠ i := fun z => by
      subst z
      have hl := (List.getElem?_eq_some_iff.mp he).1
      rw [List.length_set] at hl
      rw [List.getElem?_set_self hl] at he
      cases he
    rw [List.getElem?_set_ne (Ne.symm hj)] at he
    obtain ⟨v, h1, h2⟩ := g.slots j e he
    refine ⟨v, by rw [List.getElem?_set_ne (Ne.symm hj)]; exact h1, ?_⟩
    rw [h j hj]
    exact h2
end
/-- alike but at i -/
def alike (i : Nat) (G2 G : List Mode) : Bool := (List.range (max G2.length G.length)).all fun j => j == i || decide (G2.getD j Mode.fz = G.getD j Mode.fz)
omit [Mg] in
theorem alike_ok {i : Nat} {G2 G : List Mode} (h : alike i G2 G = true) (j : Nat) (hj : j ≠ i) : G2.getD j Mode.fz = G.getD j Mode.fz := by
  by_cases hl : j < max G2.length G.length
  · have := List.all_eq_true.mp h j (List.mem_range.mpr hl)
    simp only [Bool.or_eq_true, beq_iff_eq, decide_eq_true_eq] at this
    exact this.resolve_left hj
  · have h1 : G2.length ≤ j := by omega
    have h2 : G.length ≤ j := by omega
    rw [List.getD_eq_getElem?_getD, List.getD_eq_getElem?_getD, List.getElem?_eq_none h1, List.getElem?_eq_none h2]
/-- the suite of except X as n, for every exception that it may get -/
def SuiA (X : Cx) (cl : List Str) (sub : Str → Str → Bool) (c : Str) (i : Nat) (L : LM) (Gx : List Mode) (suite : List Stmt) (g : Exn → Rho → Out) (G' : List Mode) : Prop :=
  ∀ (a : Addr) (oe : Obj) (cls : Value) (d : Option Addr) (pn : List (Addr × Obj)) (e : Exn), Zc cls d oe → (∃ vs, oe.data = .fields vs) → X.mg e.cls = some cls → e.cls ∈ cl →
    ∃ (G0 G1 : List Mode), SsJ (X.suite a ((a, oe) :: pn)) W0 ⟨L.bk.set i (Mode.raw a d), L.ct.set i (Mode.raw a d), L.rt, [], L.rl⟩ G0 suite (g e) G1 ∧ alike i Gx G0 = true ∧ G0.getD i Mode.fz = Mode.raw a d ∧ alike i G' G1 = true
omit [Mg] in
theorem getD_setne {i : Nat} {l : List Mode} {m : Mode} (j : Nat) (hj : j ≠ i) : l.getD j Mode.fz = (l.set i m).getD j Mode.fz := by
  rw [List.getD_eq_getElem?_getD, List.getD_eq_getElem?_getD, List.getElem?_set_ne (Ne.symm hj)]
section
variable {X : Cx} {W : WX} {L : LM} {G G' Gx : List Mode} {cl : List Str} {sub : Str → Str → Bool} {c : Str} {i : Nat} {pos : Pos}
def suiAT {suite : List Stmt} {g : Exn → Rho → Out} (h : SuiA X cl sub c i L Gx suite g G') (a : Addr) (cls : Value) (d : Option Addr) : TS :=
  fun D σ H => ∃ (e : Exn) (h1 : X.mg e.cls = some cls) (h2 : e.cls ∈ cl), ∀ (oe : Obj) (pn : List (Addr × Obj)) (hz : Zc cls d oe) (hf : ∃ vs, oe.data = .fields vs), (h a oe cls d pn e hz hf h1 h2).choose_spec.choose_spec.1.choose D σ H
theorem suiAT_ok {suite : List Stmt} {g : Exn → Rho → Out} (h : SuiA X cl sub c i L Gx suite g G') (a : Addr) (oe : Obj) (cls : Value) (d : Option Addr) (pn : List (Addr × Obj)) (hz : Zc cls d oe) (hf : ∃ vs, oe.data = .fields vs) :
    PSs (X.suite a ((a, oe) :: pn)) suite (suiAT h a cls d) := by
  refine ⟨fun pins s σ H D I q => ?_⟩
  obtain ⟨e, h1, h2, q⟩ := q
  exact (h a oe cls d pn e hz hf h1 h2).choose_spec.choose_spec.1.choose_spec.1.run pins s σ H D I (q oe pn hz hf)
theorem sj_tryAs {body suite : List Stmt} {b₀ : Stmt} {n : Str} {C : Addr} {np pos' : Pos} {f : Rho → Out} {g : Exn → Rho → Out} (hs : X.stack = X.env :: X.outer) (hf : X.env.frame = some X.env.locals) (tk : Takes X W) (hsub : Subs X.K X.mg cl sub)
    (hN : X.N.Nodup) (hi : X.N[i]? = some n) (hln : X.env.kindOf n = some .local) (hm : c ∈ cl) (Tx : XCls X.K X.mg c C) (hg : Gl X c) (hdb : (c == ("__debug__" : Str)) = false)
    (hb : ∀ (W : WX) (pn : List (Addr × Obj)) (xe : Value → Shared → Prop), Takes (X.tr pn xe) W → PassesOwn (model X.prog X.w) X.A X.env xe → SsJ (X.tr pn xe) W ⟨L.bk, L.ct, L.rt, Gx, L.rl⟩ G body f G')
    (hsu : SuiA X cl sub c i L Gx (b₀ :: suite) g G') (hGx : leQ Gx G := by first | exact True.intro | (repeat (first | exact True.intro | refine And.intro (Or.inl rfl) ?_ | refine And.intro (Or.inr rfl) ?_ | refine And.intro rfl ?_))) (hGL : leQ L.ex Gx := by first | exact True.intro | (repeat (first | exact True.intro | refine And.intro (Or.inl rfl) ?_ | refine And.intro (Or.inr rfl) ?_ | refine And.intro rfl ?_))) : SJ X W L G (.Try body [.ExceptHandler (some (.Name c np)) (some n) (b₀ :: suite) pos'] [] [] pos) (sTryAs cl sub f i c g) G' := by
  refine ⟨_, ps_try_as (c := .ref C) hs hf hN hi hln ⟨hg, hdb, .inl Tx.g⟩ tk (tb := fun W D σ H => ∀ pn xe (t1 : Takes (X.tr pn xe) W) (t2 : PassesOwn (model X.prog X.w) X.A X.env xe), (hb W pn xe t1 t2).choose D σ H) (fun W pn xe t1 t2 => ⟨fun pins s σ H D I q => (hb W pn xe t1 t2).choose_spec.1.run pins s σ H D I (q pn xe t1 t2)⟩)
    (ts := suiAT hsu) (fun a oe cls d pn hz hf => suiAT_ok hsu a oe cls d pn hz hf), fun hx F ρ own B σ H D gd q => ?_⟩
  intro pn xe t1 t2
  refine (hb _ pn xe t1 t2).choose_spec.2 (leM_p hGx) F ρ own B σ H D gd ?_
  unfold sTryAs at q
  cases ho : f ρ with
  | ex e ρ2 =>
    rw [ho] at q
    simp only at q
    split at q
    · rename_i hc
      intro cv dx ow2 B' σ' H' e' g' x
      refine ⟨_, hsub.ok e.cls hc _ hm cv _ x.cls Tx.g, fun hb2 a ha => ⟨e, x.cls, hc, fun oe pn hz hf => ?_⟩, fun hb2 => ?_⟩
      · rw [if_pos hb2] at q
        obtain ⟨h1, h2, h3⟩ := (hsu a oe cv dx pn e hz hf x.cls hc).choose_spec.choose_spec.2
        have hL := (hsu a oe cv dx pn e hz hf x.cls hc).choose_spec.choose_spec.1.choose_spec.2
        have g2 := Good.raw (i := i) (a := a) (d := dx) g' (fun j hj => (alike_ok h1 j hj).symm) h2 x.fs
        refine hL (fun j => .inr (by simp)) F _ ow2 B' _ H' _ g2 ?_
        cases ho2 : g e (ρ2.set i (some (.exc e.fs))) with
        | nx ρ3 =>
          rw [ho2] at q
          exact fun own B2 σ2 H2 e2 g3 => q own B2 _ H2 (e'.trans e2) (g3.drop1 fun j hj => alike_ok h3 j hj)
        | bk ρ3 =>
          rw [ho2] at q
          exact fun own B2 σ2 H2 e2 g3 => q own B2 _ H2 (e'.trans e2) (g3.drop1 fun j hj => getD_setne j hj)
        | ct ρ3 =>
          rw [ho2] at q
          exact fun own B2 σ2 H2 e2 g3 => q own B2 _ H2 (e'.trans e2) (g3.drop1 fun j hj => getD_setne j hj)
        | rt d =>
          rw [ho2] at q
          exact fun v own B2 H2 e2 g3 r => q v own B2 H2 (e'.ext.trans e2) g3 r
        | rl d ρ3 =>
          rw [ho2] at q
          exact fun v own B2 σ2 H2 e2 g3 r => q v own B2 σ2 H2 (e'.trans e2) g3 r
        | ex e2 ρ3 =>
          rw [ho2] at q
          exact q.elim
        | no =>
          rw [ho2] at q
          exact q.elim
      · rw [if_neg (by rw [hb2]; exact Bool.false_ne_true)] at q
        exact q cv dx _ _ σ' H' (e'.trans (to_gr g'.gr)) (g'.to (leM_p hGL)) (x.mono (baseTo_ext g'.gr))
    · exact q.elim
  | nx ρ2 =>
    rw [ho] at q
    exact q
  | bk ρ2 =>
    rw [ho] at q
    exact q
  | ct ρ2 =>
    rw [ho] at q
    exact q
  | rt d =>
    rw [ho] at q
    exact q
  | rl d ρ2 =>
    rw [ho] at q
    exact q
  | no =>
    rw [ho] at q
    exact q.elim
/-! ### isinstance(n, C) in the suite; n without fields -/
structure IsEs (K : PySem.W.Frag) (mg : Str → Option Value) (cl : List Str) (sub : Str → Str → Bool) : Prop where
  ok : ∀ a ∈ cl, ∀ va : Value, mg a = some va → ∃ A, va = .ref A ∧ ExcC K A ∧ ∀ c ∈ cl, ∀ C : Addr, mg c = some (.ref C) → PySem.W.kitOne K (.ref A) (.ref C) = some (sub a c)
omit [Mg] in
theorem kit_ref {K : PySem.W.Frag} {A C : Addr} {b : Bool} (hs : PySem.W.subIn K (.ref A) (.ref C) = some b) (hself : PySem.W.subIn K (.ref A) (.ref A) = some true) (hd : PySem.W.hasDictIn K C = true) (ht : PySem.W.typeIn K (.ref C) = some (.type "type")) : PySem.W.kitOne K (.ref A) (.ref C) = some b := by
  unfold PySem.W.kitOne
  by_cases h : A = C
  · subst h
    rw [hs] at hself
    rw [if_pos (by simp)]
    exact hself.symm
  · rw [if_neg (by simpa using h)]
    obtain ⟨cd, hc, _⟩ := PySem.W.any_some hd
    unfold PySem.W.kitCls
    simp only
    rw [hc, ht, if_pos (by rfl)]
    exact hs
omit [Mg] in
theorem isEs_one {K : PySem.W.Frag} {mg : Str → Option Value} {c : Str} {A C C' : Addr} {b b' : Bool} (hc : mg c = some (.ref C)) (h2 : mg c = some (.ref C')) (h : PySem.W.kitOne K (.ref A) (.ref C) = some b) (e : b = b') : PySem.W.kitOne K (.ref A) (.ref C') = some b' := by
  rw [hc] at h2
  cases h2
  rw [h, e]
def isE (sub : Str → Str → Bool) (e : Exn) (c : Str) (g : Rho → Res D) : Rho → Res D := fun ρ => (g ρ).bind fun d => match d with
  | .exc [] => .ok (.bl (sub e.cls c))
  | _ => .no
theorem ej_isE {a : Addr} {oe : Obj} {cls : Value} {d : Option Addr} {pn : List (Addr × Obj)} {e : Exn} {n : Str} {C : Addr} {p p1 p2 : Pos} {nm : Str} (hI : IsEs X.K X.mg cl sub) (hz : Zc cls d oe) (hf : ∃ vs, oe.data = .fields vs) (he : X.mg e.cls = some cls) (hcl : e.cls ∈ cl)
    (hg : Gl (X.suite a ((a, oe) :: pn)) nm) (hm : X.mg nm = none) (hv : bootBuiltins nm = some (.builtin "isinstance")) (hn : nm ≠ "__name__") (hdb : (nm == ("__debug__" : Str)) = false)
    (pv : PE (X.suite a ((a, oe) :: pn)) (.Name n p1) (tVar i)) (hG : G.getD i Mode.fz = Mode.raw a d)
    (hc : c ∈ cl) (Tx : XCls X.K X.mg c C) (hgc : Gl (X.suite a ((a, oe) :: pn)) c) (hdc : (c == ("__debug__" : Str)) = false) :
    EJ (X.suite a ((a, oe) :: pn)) W G (.Call (.Name nm p) [.Name n p1, .Name c p2] [] pos) (isE sub e c (getV i)) := by
  obtain ⟨A, rfl, hE, hk⟩ := hI.ok e.cls hcl cls he
  by_cases hd : d = none
  · subst hd
    refine ⟨_, pe_callB (call_isE hE hz hf) hg hm hv (pa_cons pv (pa_cons (pe_glob (v := .ref C) hgc Tx.g rfl hdc) pa_nil)) hn hdb, fun F ρ own B σ H Q gd q => ?_⟩
    unfold isE getV at q
    cases hi : ρ[i]? with
    | none =>
      rw [hi] at q
      exact q.elim
    | some o =>
      cases o with
      | none =>
        rw [hi] at q
        exact q.elim
      | some dv =>
        rw [hi] at q
        obtain ⟨v, h1, h2⟩ := gd.slots i dv hi
        rw [hG] at h2
        obtain ⟨rfl, fs, rfl, hx⟩ := h2
        cases fs with
        | nil => exact ⟨_, h1, .ref C, .ref C, _, rfl, fun u hu => hu, hk c hc C Tx.g, q _ B H (.refl gd.gr) (.bl _)⟩
        | cons f fs => exact q.elim
  · refine ⟨fun _ _ _ => False, ⟨fun _ _ _ _ _ _ z => z.elim⟩, fun F ρ own B σ H Q gd q => ?_⟩
    unfold isE getV at q
    cases hi : ρ[i]? with
    | none =>
      rw [hi] at q
      exact q
    | some o =>
      cases o with
      | none =>
        rw [hi] at q
        exact q
      | some dv =>
        rw [hi] at q
        obtain ⟨v, h1, h2⟩ := gd.slots i dv hi
        rw [hG] at h2
        obtain ⟨rfl, fs, rfl, hx⟩ := h2
        cases fs with
        | nil =>
          rcases hx with ⟨_, hx⟩ | ⟨dd, vs, h3, _⟩
          · exact hd hx
          · exact h3 rfl
        | cons f fs => exact q
end
end T

set_option Elab.async false
set_option linter.all false
set_option maxRecDepth 100000
set_option maxHeartbeats 4000000
/-! T-layer, part W: written dicts, read by a key. -/
namespace T
open PySem PySem.Spec PyProof.Rows L2
variable [Mg]
def kD : Key → D
  | .inl i => .int i
  | .inr x => .str x
def pairsV (kvs : List (Key × Key)) : List (Key × V) := kvs.map fun kv => (kv.1, kV kv.2)
def pairsD (kvs : List (Key × Key)) : List (D × D) := kvs.map fun kv => (kD kv.1, kD kv.2)
section
variable {X : Cx} {W : WX} {G : List Mode} {pos : Pos}
theorem rp_k {K : PySem.W.Frag} {B : Hp} (k : Key) : Rp K B (kV k) (kD k) := by
  cases k with
  | inl i => exact .int i
  | inr x => exact .str x
theorem rpP_pairs {K : PySem.W.Frag} {B : Hp} : ∀ kvs : List (Key × Key), RpP K B (pairsV kvs) (pairsD kvs)
  | [] => .nil
  | (.inl i, v) :: r => .consI (rp_k v) (rpP_pairs r)
  | (.inr x, v) :: r => .consS (rp_k v) (rpP_pairs r)
/-- a display of constants -/
def CJ (X : Cx) (pos : Pos) (ks : List (Option Expr)) (vs : List Expr) (kvs : List (Key × Key)) : Prop :=
  ∃ trs, PPs X pos ks vs trs ∧ ∀ (σ : L2.St) (H : Hp) (Q : List (V × V) → Hp → Prop), Q ((pairsV kvs).map fun kv => (kV kv.1, kv.2)) H → tPairs trs σ H Q
omit [Mg] in
theorem cj_nil : CJ X pos [] [] [] := ⟨_, pps_nil, fun σ H Q q => q⟩
def ConE (X : Cx) (e : Expr) (k : Key) : Prop := PE X e (tC (kV k))
omit [Mg] in
theorem con_i {i : Int} {j p} : ConE X (.Constant (.int i) j p) (.inl i) := pe_int
omit [Mg] in
theorem con_s {x : Str} {j p} : ConE X (.Constant (.str x) j p) (.inr x) := pe_str
omit [Mg] in
theorem cj_cons {k v : Expr} {ks : List (Option Expr)} {vs : List Expr} {a b : Key} {kvs : List (Key × Key)} (hk : ConE X k a) (hv : ConE X v b) (hr : CJ X pos ks vs kvs) : CJ X pos (some k :: ks) (v :: vs) ((a, b) :: kvs) := by
  obtain ⟨trs, h1, h2⟩ := hr
  exact ⟨_, pps_cons hk hv h1, fun σ H Q q => h2 σ H _ q⟩
theorem ej_dct {ks : List (Option Expr)} {vs : List Expr} {kvs : List (Key × Key)} (h : CJ X pos ks vs kvs) (hm : mergeK [] (pairsV kvs) = pairsV kvs) (hall : ks.all (·.isSome) = true) (hl : ks.length = vs.length) (h0 : ks ≠ []) (h15 : ks.length ≤ 15) (hz : kvs.length ≤ 15) :
    EJ X W G (.Dict ks vs pos) (conD (.dct (pairsD kvs))) := by
  obtain ⟨trs, h1, h2⟩ := h
  refine ⟨_, pe_disp h1 hall hl h0 h15, fun F ρ own B σ H Q gd q => ?_⟩
  intro p hp
  refine h2 σ _ _ ⟨upd_same, pairsV kvs, rfl, by simpa [pairsV] using hz, ?_⟩
  rw [upd_upd, hm]
  exact q (.ref p) (upd B p (.dK (pairsV kvs))) _ (Step.new gd.gr _ hp) (.dct upd_same (rpP_pairs kvs))
/-- d[k] -/
def keyOf : D → Option Key
  | .int i => some (.inl i)
  | .str x => some (.inr x)
  | _ => none
def lookD (ds : List (D × D)) (k : Key) : Option D := (ds.find? fun kv => decide (keyOf kv.1 = some k)).map (·.2)
def dGetK : D → D → Res D
  | .dct ds, y => match keyOf y with
    | some k => match lookD ds k with
      | some d => .ok d
      | none => .no
    | none => .no
  | _, _ => .no
theorem RpP.look {K : PySem.W.Frag} {B : Hp} {k : Key} : ∀ {kvs : List (Key × V)} {ds : List (D × D)} {d : D}, RpP K B kvs ds → lookD ds k = some d → ∃ v, valV kvs k = some v ∧ Rp K B v d
  | _, _, _, .nil, h => by cases h
  | _, _, d, .consI (n := n) (v := v) (d := d0) r rs, h => by
    unfold lookD at h
    unfold valV
    by_cases e : (Sum.inl n : Key) = k
    · subst e
      simp [keyOf] at h ⊢
      subst h
      exact r
    · have e' : ¬ (some (Sum.inl n : Key) = some k) := fun z => e (Option.some.inj z)
      rw [List.find?_cons, show decide (keyOf (D.int n) = some k) = false from decide_eq_false e'] at h
      obtain ⟨v', h1, h2⟩ := RpP.look (k := k) rs h
      refine ⟨v', ?_, h2⟩
      rw [List.find?_cons, show decide ((Sum.inl n : Key) = k) = false from decide_eq_false e]
      exact h1
  | _, _, d, .consS (x := n) (v := v) (d := d0) r rs, h => by
    unfold lookD at h
    unfold valV
    by_cases e : (Sum.inr n : Key) = k
    · subst e
      simp [keyOf] at h ⊢
      subst h
      exact r
    · have e' : ¬ (some (Sum.inr n : Key) = some k) := fun z => e (Option.some.inj z)
      rw [List.find?_cons, show decide (keyOf (D.str n) = some k) = false from decide_eq_false e'] at h
      obtain ⟨v', h1, h2⟩ := RpP.look (k := k) rs h
      refine ⟨v', ?_, h2⟩
      rw [List.find?_cons, show decide ((Sum.inr n : Key) = k) = false from decide_eq_false e]
      exact h1
theorem RpT.nolook {K : PySem.W.Frag} {B : Hp} {k : Key} : ∀ {kvs : List (List Key × V)} {ds : List (D × D)}, RpT K B kvs ds → lookD ds k = none
  | _, _, .nil => rfl
  | _, _, .cons (ks := ks) r rs => by
    have ih := RpT.nolook (k := k) rs
    unfold lookD at ih ⊢
    rw [List.find?_cons, show decide (keyOf (D.tup (ks.map keyD)) = some k) = false from decide_eq_false (fun z => nomatch z)]
    exact ih
theorem key_v {K : PySem.W.Frag} {B : Hp} {y : V} {d : D} {k : Key} (h : Rp K B y d) (e : keyOf d = some k) : y = kV k := by
  unfold keyOf at e
  split at e
  · cases e
    cases h
    rfl
  · cases e
    cases h
    rfl
  · cases e
theorem ej_dget {o i : Expr} {ga gb : Rho → Res D} (hu : X.A.units + 1 < cLine) (ha : EJ X W G o ga) (hb : EJ X W G i gb) (hs : NoSl i := by exact fun _ _ => rfl) : EJ X W G (.Subscript o i pos) (bin dGetK ga gb) := by
  obtain ⟨ta, pa, va⟩ := ha
  obtain ⟨tb, pb, vb⟩ := hb
  refine ⟨_, pe_dget hu pa pb hs, fun F ρ own B σ H Q gd q => ?_⟩
  refine va F ρ own B σ H _ gd (Res.has_mono (Res.has_bind q) (fun dx q v B1 H1 s1 r1 => ?_) fun _ x => x)
  refine vb F ρ own B1 σ H1 _ (gd.step s1) (Res.has_mono (Res.has_bind q) (fun dy q w B2 H2 s2 r2 => ?_) fun _ x => x.step s1)
  unfold dGetK at q
  cases dx with
  | dct ds =>
    simp only at q
    cases hk : keyOf dy with
    | none =>
      rw [hk] at q
      exact q.elim
    | some k =>
      rw [hk] at q
      simp only at q
      cases hl : lookD ds k with
      | none =>
        rw [hl] at q
        exact q.elim
      | some d =>
        rw [hl] at q
        have r1' := r1.mono s2.ext
        cases r1' with
        | dct h rp =>
          obtain ⟨u, h1, h2⟩ := rp.look hl
          refine ⟨_, u, rfl, ?_, q u B2 H2 (s1.trans s2) h2⟩
          have e := key_v r2 hk
          subst e
          rw [← h1]
          exact DGet.k (s2.base _ _ h)
        | dctT h rp =>
          rw [rp.nolook] at hl
          cases hl
  | _ => exact q.elim
end
/-! ### xs.count(text) -/
def eqt (k : Str) (v : Value) : Bool := match v with
  | .str n _ => n == k
  | _ => false
omit [Mg] in
theorem eqt_all {k : Str} {t : Tok} : ∀ {ns : List Str} {us : List Value}, Vals (ns.map V.str) us → us.countP (eqt k) = ns.count k ∧ ∀ y ∈ us, MeetsSeq.EqGives y (.str k t) (eqt k y)
  | [], us, h => by
    cases h
    exact ⟨rfl, fun y hy => by simp at hy⟩
  | n :: ns, us, h => by
    cases h with
    | cons r rs =>
      obtain ⟨t', rfl⟩ := r
      obtain ⟨h1, h2⟩ := eqt_all (k := k) (t := t) rs
      refine ⟨?_, fun y hy => ?_⟩
      · rw [List.countP_cons, List.count_cons, h1]
        rfl
      · rcases List.mem_cons.mp hy with e | e
        · rw [e]
          have z := SeqRoads2.EqGives.str n k t' t
          rw [PySem.SeqAt.str_beq] at z
          exact z
        · exact h2 y e
def rCntS (K : PySem.W.Frag) : V → List V → Hp → VK → Prop := fun x xs H Q => ∃ (p : Addr) (ns : List Str) (k : Str), x = .ref p ∧ xs = [.str k] ∧ SqL K H p (ns.map V.str) ∧ Q (.int (ns.count k : Nat)) H
omit [Mg] in
theorem mt_lcountS {X : Cx} : MtR X "list.count" (rCntS X.K) := by
  intro pins s σ H x xs v us Q I rx rxs h
  obtain ⟨p, ns, k, rfl, rfl, hs, q⟩ := h
  cases rx
  obtain ⟨u, rfl, ru⟩ := rxs.one
  obtain ⟨t, rfl⟩ := ru
  obtain ⟨its, rv, ⟨⟨cls, dd, data, sl⟩, n, ho, hc, hdn, hd⟩, hlen⟩ := I.list hs
  simp only at hc hd
  subst hc hd
  obtain ⟨h1, h2⟩ := eqt_all (k := k) (t := t) rv
  refine call_meets PySem.F.slot_list_count ⟨_, ho, rfl⟩ PySem.F.entry_list_count (PySem.F.args_list_count_2 _ _)
    (SeqAt.list_countAt p its.toArray n dd sl (.str k t) (eqt k)) ⟨ho, fun y hy => (h2 y (by simpa using hy)).at _ _, ?_⟩
  refine ⟨.int (ns.count k : Nat), H, I.tok _, ⟨s.toks, ?_⟩, q⟩
  show Value.int ((its.toArray.toList.countP (eqt k) : Nat) : Int) s.toks = Value.int ((ns.count k : Nat) : Int) s.toks
  rw [show its.toArray.toList = its from rfl, h1]
def dCountS : D → List D → Res D
  | .lst xs, [.str k] => match D.strs xs with
    | some ns => .ok (.int (ns.count k : Nat))
    | none => .no
  | _, _ => .no
theorem mth_countS {X : Cx} : ∃ r, MtR X "list.count" r ∧ MethD X r dCountS := by
  refine ⟨_, mt_lcountS, fun d ds e h => ?_, fun F own B H v d vs ds Q g hv hx q => ?_⟩
  · unfold dCountS at h
    split at h <;> (try split at h) <;> cases h
  · unfold dCountS at q
    split at q
    · rename_i xs k
      split at q
      · rename_i ns hns
        obtain ⟨l, ws, rfl, hl, rv⟩ := hv.lst g
        obtain ⟨w, rfl, hw⟩ := hx.one
        cases hw.str
        have e2 := RpA.strs rv hns
        subst e2
        exact ⟨l, ns, k, rfl, rfl, .inl (.inl hl), q _ _ _ (.refl g) (.int _)⟩
      · exact q.elim
    · exact q.elim
end T

set_option Elab.async false
set_option linter.all false
set_option maxRecDepth 100000
set_option maxHeartbeats 4000000
/-! T-layer, part Y: max of four, extend, tuples repeated. -/
namespace PySem
section
variable {prog : Program} {w : World} {A : Around} {E : Value → Shared → Prop} {s : Shared}
theorem args_max4 (a b c d : Value) : argsOk "max" ⟨[a, b, c, d], []⟩ := by unfold argsOk; kernel_rfl
theorem call_max_four {a b c d : Value} {Q : Value → Shared → Prop}
    (h : wpAny (model prog w) A.in1 (pyIter (.ref s.heap.objs.size)) (fun it s₂ => ∃ I fp wr n P St bt, it = .ref I ∧ Walks prog w A.in1 I fp wr n P St ∧ St 0 s₂.heap ∧ (∀ b ∈ fp, b < s₂.heap.objs.size) ∧ 0 < n ∧ CmpOf prog w A.in1 .Gt P bt ∧
      ∀ v h' tk, P (argBest bt (n - 1)) v → (∀ b o, b ∉ wr → s₂.heap.get? b = some o → h'.get? b = some o) → Q v { s₂ with heap := h', toks := tk }) E
      { s with heap := s.heap.push { cls := .type "tuple", data := .seq #[a, b, c, d] } }) :
    wpAny (model prog w) A (call (.builtin "max") [a, b, c, d]) Q E s := by
  have hname : (toString "max" ++ toString ".loop" : String) = "max.loop" := by decide
  refine call_function_tree F.kind_max F.plain_max F.entry_max (args_max4 _ _ _ _) ?_
  show wpAny _ A.in1 (Builtin.Builtins.bindParams "max" ["key", "default"] 0 ⟨[], []⟩ >>= _) _ _ s
  refine wpAny_bind (wpAny_of_eq (show Builtin.Builtins.bindParams "max" ["key", "default"] 0 ⟨[], []⟩ = pure [none, none] from rfl) ?_)
  show wpAny _ A.in1 (newTuple [a, b, c, d] >>= _) _ _ s
  refine wpAny_bind (wpAny_newObj_type ?_)
  refine wpAny_bind (wpAny_mono h (fun it s₂ h₂ => ?_) fun _ _ e => e)
  obtain ⟨I, fp, wr, n, P, St, bt, rfl, W, hst, hfp, hn, hcmp, hQ⟩ := h₂
  refine wpAny_bind (wpAny_newObj_type ?_)
  have hSf : s₂.heap.objs.size ∉ fp := fun hm => Nat.lt_irrefl _ (hfp _ hm)
  rw [hname]
  refine wpAny_pure ⟨plainId_quiet F.plain_max_loop _, codeAny_max_loop_first W bt hcmp s₂.heap.objs.size hSf hn (W.frame _ _ _ hst fun b _ o e => Heap.get?_push_of_some _ e) (Heap.get?_push_size _ rfl) fun v h' tk hP hk => ?_⟩
  exact hQ v h' tk hP fun b o hbw e => hk b o hbw (Nat.ne_of_lt (Heap.lt_size e)) (Heap.get?_push_of_some _ e)
theorem max_four_ints {a b c d : Int} {t u v x : Tok} {Q : Value → Shared → Prop} (hh : A.handled = none)
    (h : ∀ h' tk M t', (∀ c o, s.heap.get? c = some o → h'.get? c = some o) → M = max (max a b) (max c d) → Q (.int M t') { s with heap := h', toks := tk }) :
    wpAny (model prog w) A (call (.builtin "max") [.int a t, .int b u, .int c v, .int d x]) Q E s := by
  have hT : (s.heap.push { cls := .type "tuple", data := .seq #[.int a t, .int b u, .int c v, .int d x] }).IsTuple s.heap.objs.size (intItems #[(a, t), (b, u), (c, v), (d, x)]) := ⟨_, Heap.get?_push_size _ rfl, rfl, 0, by simp [intItems]⟩
  refine call_max_four (wpAny_pyIter_tuple hT ?_)
  have hsz : (s.heap.push { cls := .type "tuple", data := .seq #[.int a t, .int b u, .int c v, .int d x] }).objs.size = s.heap.objs.size + 1 := Heap.size_push ..
  refine ⟨_, [_, s.heap.objs.size], [_], _, _, _, _, rfl, Walks.tuple (A := A.in1) hh _ s.heap.objs.size (by rw [hsz]; exact Nat.ne_of_lt (Nat.lt_succ_self _)) (intItems #[(a, t), (b, u), (c, v), (d, x)]),
    ⟨⟨_, Heap.get?_push_size _ rfl, rfl, rfl⟩, hT.push _⟩, fun c hc => ?_, by simp [intItems], CmpOf.ints_gt (numAt #[(a, t), (b, u), (c, v), (d, x)]) (fun _ _ => intItems_at), fun v' h' tk hP hk => ?_⟩
  · show c < ((s.heap.push _).push _).objs.size
    rw [Heap.size_push, hsz]
    rcases List.mem_cons.mp hc with rfl | hc
    · rw [hsz]; exact Nat.lt_succ_self _
    · rcases List.mem_cons.mp hc with rfl | hc
      · exact Nat.lt_succ_of_lt (Nat.lt_succ_self _)
      · cases hc
  · have hold : ∀ c o, s.heap.get? c = some o → h'.get? c = some o := fun c o e => by
      refine hk c o (fun hm => ?_) (Heap.get?_push_of_some _ (Heap.get?_push_of_some _ e))
      rcases List.mem_cons.mp hm with e1 | hm
      · have := Heap.lt_size e; rw [e1, hsz] at this; exact Nat.lt_irrefl _ (Nat.lt_of_succ_lt this)
      · cases hm
    obtain ⟨t', rfl⟩ := intItems_at hP
    have hs4 : (intItems #[(a, t), (b, u), (c, v), (d, x)]).size - 1 = 3 := by simp [intItems]
    rw [hs4]
    obtain ⟨h1, h2⟩ := argBest_gt (numAt #[(a, t), (b, u), (c, v), (d, x)]) 3
    refine h h' tk _ t' hold ?_
    generalize argBest (fun i j => decide (numAt #[(a, t), (b, u), (c, v), (d, x)] i > numAt #[(a, t), (b, u), (c, v), (d, x)] j)) 3 = k at *
    have m0 := h2 0 (by omega)
    have m1 := h2 1 (by omega)
    have m2 := h2 2 (by omega)
    have m3 := h2 3 (by omega)
    have e0 : numAt #[(a, t), (b, u), (c, v), (d, x)] 0 = a := rfl
    have e1 : numAt #[(a, t), (b, u), (c, v), (d, x)] 1 = b := rfl
    have e2 : numAt #[(a, t), (b, u), (c, v), (d, x)] 2 = c := rfl
    have e3 : numAt #[(a, t), (b, u), (c, v), (d, x)] 3 = d := rfl
    rw [e0] at m0
    rw [e1] at m1
    rw [e2] at m2
    rw [e3] at m3
    have hk' : k = 0 ∨ k = 1 ∨ k = 2 ∨ k = 3 := by omega
    rcases hk' with rfl | rfl | rfl | rfl
    · rw [e0] at *; omega
    · rw [e1] at *; omega
    · rw [e2] at *; omega
    · rw [e3] at *; omega
end
end PySem
namespace T
open PySem PySem.Spec PyProof.Rows L2
variable [Mg]
section
variable {X : Cx} {W : WX} {L : LM} {G G' : List Mode} {x : Str} {px pos : Pos} {i : Nat}
omit [Mg] in
theorem call_max4 (hc : X.calm = true) : CallR X (.builtin "max") (fun xs H Q => ∃ i j k l, xs = [.int i, .int j, .int k, .int l] ∧ Q (.int (max (max i j) (max k l))) H) := by
  intro pins s σ H xs us Q I r h
  obtain ⟨i, j, k, l, rfl, q⟩ := h
  cases r with
  | cons r1 r =>
    cases r with
    | cons r2 r =>
      cases r with
      | cons r3 r =>
        cases r with
        | cons r4 r =>
          cases r
          obtain ⟨t1, rfl⟩ := r1
          obtain ⟨t2, rfl⟩ := r2
          obtain ⟨t3, rfl⟩ := r3
          obtain ⟨t4, rfl⟩ := r4
          exact max_four_ints (I.ok.hd hc) fun h' tk M t' kk e => ⟨.int (max (max i j) (max k l)), H, I.kept kk, (by rw [e]; exact ⟨t', rfl⟩), q⟩
def dMax4 : List D → Res D
  | [.int i, .int j, .int k, .int l] => .ok (.int (max (max i j) (max k l)))
  | _ => .no
theorem fn_max4 (hc : X.calm = true) : ∃ r, CallR X (.builtin "max") r ∧ CallD X r dMax4 := by
  refine ⟨_, call_max4 hc, fun ds e h => ?_, fun F own B H vs ds Q g hx q => ?_⟩
  · unfold dMax4 at h
    split at h <;> cases h
  · unfold dMax4 at q
    split at q
    · cases hx with
      | cons r1 hx =>
        cases hx with
        | cons r2 hx =>
          cases hx with
          | cons r3 hx =>
            cases hx with
            | cons r4 hx =>
              cases hx
              cases r1.int
              cases r2.int
              cases r3.int
              cases r4.int
              exact ⟨_, _, _, _, rfl, q _ _ _ (.refl g) (.int _)⟩
    · exact q.elim
/-! ### xs.extend(ys) -/
def sExt (i : Nat) (g : Rho → Res D) : Rho → Out := fun ρ => atL i ρ fun xs => thenS (g ρ) ρ fun d => match d with
  | .lst ys => if xs.length + ys.length ≤ sizeLine then .nx (ρ.set i (some (.lst (xs ++ ys)))) else .no
  | _ => .no
variable {e : Expr} {apos cpos : Pos}
theorem sj_ext {g : Rho → Res D} (hv : PE X (.Name x px) (tVar i)) (hm : G.getD i Mode.fz = Mode.own Mode.fz) (he : EJ X W G e g)
    (hs : swapsWith (.Call (.Attribute (.Name x px) "extend" apos) [e] [] cpos) none pos.line X.env = pure false := by rfl) (hbase : attributeBase (.Name x px) "extend" X.env (eval (.Name x px) X.env) = eval (.Name x px) X.env := by rfl)
    (hfew : ((backTo cpos (starEach [e] X.env)).all (fun x => !x.1) && (backToKw cpos (keywordEach [] X.env)).all (fun x => x.1.isSome)
      && decide ([e].length + ([] : List Keyword).length + (if ([] : List Keyword).isEmpty then 0 else 1) < 30)) = true := by rfl)
    (hline : (apos.endLine == cpos.line) = true := by rfl) (hst : starEach [e] X.env = (false, eval e X.env) :: starEach [] X.env := by rfl) (hplain : (backTo cpos (starEach [] X.env)).any (·.1) = false := by rfl) :
    SJ X W L G (.Expr (.Call (.Attribute (.Name x px) "extend" apos) [e] [] cpos) pos) (sExt i g) G := by
  obtain ⟨te, pe, ve⟩ := he
  refine ⟨_, ps_expr (pe_bm PySem.F.plainAttrs_list PySem.F.slot_list_extend PySem.F.type_list_extend mt_extend hv (pa_cons pe pa_nil hst) hbase hfew hline hst hplain) hs, fun hX F ρ own B σ H D gd q => ?_⟩
  obtain ⟨l, vs, ds, h1, h2, h3, h4, h5, q⟩ := atL_has gd hm q
  refine ⟨.ref l, h1, .inl ⟨rfl, vs, .inl (.inl h4)⟩, ?_⟩
  refine ve F ρ own B σ H _ gd (Res.has_mono (thenS_has hX gd q) (fun d q u B' H' s r => ?_) fun _ x => x)
  cases d with
  | lst ys =>
    simp only at q
    split at q
    · rename_i hz
      have hoN : own l ≠ none := by rw [h3]; exact fun z => nomatch z
      cases r with
      | lst hb ra =>
        refine ⟨l, _, vs, _, rfl, rfl, (s.ownd l hoN).1.trans h4, s.base _ _ hb, by rw [h5.len, ra.len]; exact hz, ?_⟩
        exact q own B' σ _ s.g ((gd.step s).mut hm h1 h3 ((h5.mono s.ext).app ra))
    · exact q.elim
  | _ => exact q.elim
/-! ### tuples repeated -/
def dRepT : D → D → Res D
  | .tup xs, .int k => if xs ≠ [] ∧ 2 ≤ k ∧ k ≤ 1000 ∧ xs.length ≤ 1000 then .ok (.tup (List.replicate k.toNat xs).flatten) else .no
  | _, _ => .no
omit [Mg] in
theorem calm_repT : Calm dRepT := fun x y e h => by
  unfold dRepT at h
  split at h <;> (try split at h) <;> cases h
theorem rpa_reps {K : PySem.W.Frag} {B : Hp} {vs : List V} {ds : List D} (h : RpA K B vs ds) : ∀ n : Nat, RpA K B (List.replicate n vs).flatten (List.replicate n ds).flatten
  | 0 => .nil
  | n + 1 => by
    rw [List.replicate_succ, List.replicate_succ, List.flatten_cons, List.flatten_cons]
    exact h.app (rpa_reps h n)
theorem bin_repT : ∃ r, OpR X (binaryOp .Mult) r ∧ OpD X r dRepT := by
  refine ⟨_, op_repT, fun F own B H x y dx dy Q g hx hy q => ?_⟩
  unfold dRepT at q
  split at q
  · rename_i xs k
    split at q
    · rename_i hz
      obtain ⟨l, vs, rfl, hl, rv⟩ := hx.tup
      cases hy.int
      refine ⟨l, k, vs, rfl, rfl, Ext.seqT g.same hl, fun z => hz.1 ?_, hz.2.1, hz.2.2.1, by rw [rv.len]; exact hz.2.2.2, fun p hp => ?_⟩
      · subst z
        cases rv
        rfl
      · exact q (.ref p) (upd B p (.tup (List.replicate k.toNat vs).flatten)) _ (Step.new g _ hp) (.tup (.inl (.inl upd_same)) ((rpa_reps rv k.toNat).mono (ext_upd (g.bfresh hp))))
    · exact q.elim
  · exact q.elim
end
end T

set_option Elab.async false
set_option linter.all false
set_option maxRecDepth 100000
set_option maxHeartbeats 4000000
/-! O-layer, part A: instances: attributes by place. -/
namespace T
open PySem PySem.Spec PyProof.Rows L2
/-! ### attributes by name and by place -/
theorem look_at {f : Str} {v : V} : ∀ {vs : List (Str × V)} {i : Nat}, (vs.map (·.1))[i]? = some f → f ∉ (vs.map (·.1)).take i → (vs.map (·.2))[i]? = some v → vs.lookup f = some v
  | [], _, h, _, _ => by simp at h
  | (g, x) :: vs, 0, h, _, e => by
    simp at h e
    subst h e
    simp
  | (g, x) :: vs, i + 1, h, n, e => by
    simp only [List.map_cons, List.getElem?_cons_succ] at h e
    simp only [List.map_cons, List.take_succ_cons, List.mem_cons, not_or] at n
    rw [List.lookup_cons, beq_eq_false_iff_ne.mpr n.1]
    exact look_at h n.2 e
theorem look_no {f : Str} : ∀ {vs : List (Str × V)}, f ∉ vs.map (·.1) → vs.lookup f = none
  | [], _ => rfl
  | (g, x) :: vs, n => by
    simp only [List.map_cons, List.mem_cons, not_or] at n
    rw [List.lookup_cons, beq_eq_false_iff_ne.mpr n.1]
    exact look_no n.2
def putN {α : Type} (i : Nat) (y : α) (xs : List α) : List α := if i < xs.length then xs.set i y else xs ++ [y]
theorem put_at {f : Str} {y : V} : ∀ {vs : List (Str × V)} {i : Nat}, i < vs.length → (vs.map (·.1))[i]? = some f → f ∉ (vs.map (·.1)).take i → (putF f y vs).map (·.1) = vs.map (·.1) ∧ (putF f y vs).map (·.2) = (vs.map (·.2)).set i y
  | [], _, h, _, _ => by simp at h
  | (g, x) :: vs, 0, _, h, _ => by
    simp at h
    subst h
    unfold putF
    simp
  | (g, x) :: vs, i + 1, hl, h, n => by
    simp only [List.map_cons, List.getElem?_cons_succ] at h
    simp only [List.map_cons, List.take_succ_cons, List.mem_cons, not_or] at n
    obtain ⟨h1, h2⟩ := put_at (y := y) (by simpa using hl) h n.2
    unfold putF
    rw [if_neg (Ne.symm n.1)]
    simp [h1, h2]
theorem put_end {f : Str} {y : V} : ∀ {vs : List (Str × V)}, f ∉ vs.map (·.1) → putF f y vs = vs ++ [(f, y)]
  | [], _ => rfl
  | (g, x) :: vs, n => by
    simp only [List.map_cons, List.mem_cons, not_or] at n
    unfold putF
    rw [if_neg (Ne.symm n.1), put_end n.2]
    rfl
section
variable {f : Str} {ns lay : List Str} {i : Nat}
theorem pre_get (h : ns <+: lay) (hi : i < ns.length) : ns[i]? = lay[i]? := by
  obtain ⟨t, rfl⟩ := h
  rw [List.getElem?_append_left hi]
theorem pre_take (h : ns <+: lay) (hi : i ≤ ns.length) : ns.take i = lay.take i := by
  obtain ⟨t, rfl⟩ := h
  rw [List.take_append_of_le_length hi]
theorem put_all {vs : List (Str × V)} {y : V} (h : vs.map (·.1) <+: lay) (hf : lay[i]? = some f) (hn : f ∉ lay.take i) (hi : i ≤ vs.length) : (putF f y vs).map (·.1) <+: lay ∧ (putF f y vs).map (·.2) = putN i y (vs.map (·.2)) := by
  have hl : (vs.map (·.1)).length = vs.length := by simp
  rw [← pre_take h (by omega)] at hn
  unfold putN
  by_cases hlt : i < vs.length
  · rw [if_pos (by simpa using hlt)]
    obtain ⟨h1, h2⟩ := put_at (y := y) hlt ((pre_get h (by omega)).trans hf) hn
    rw [h1]
    exact ⟨h, h2⟩
  · have e : i = vs.length := by omega
    rw [if_neg (by simpa using hlt)]
    rw [List.take_of_length_le (by omega)] at hn
    rw [put_end hn]
    refine ⟨?_, by simp⟩
    obtain ⟨t, ht⟩ := h
    rw [← ht] at hf ⊢
    rw [List.getElem?_append_right (by omega), hl, e, Nat.sub_self] at hf
    cases t with
    | nil => simp at hf
    | cons a t =>
      simp at hf
      subst hf
      exact ⟨t, by simp⟩
end
variable [Mg]
/-- f is the i-th attribute of the classes cl, none of which has an f of its own -/
structure Fld (K : PySem.W.Frag) (c : Nat) (f : Str) (i : Nat) : Prop where
  cls : Cls K (Mg.cls c)
  no : NoAttr K (Mg.cls c) f
  at_ : (Mg.lay c)[i]? = some f
  new : f ∉ (Mg.lay c).take i
def FldOk (K : PySem.W.Frag) (cl : List Nat) (f : Str) (i : Nat) : Prop := ∀ c ∈ cl, Fld K c f i
def dFld (cl : List Nat) (i : Nat) : D → Res D
  | .ins c fs => if c ∈ cl then match fs[i]? with
      | some d => .ok d
      | none => .no
    else .no
  | _ => .no
omit [Mg] in
theorem calm_fld (cl : List Nat) (i : Nat) (d : D) (e : Exn) : dFld cl i d ≠ .ex e := fun h => by
  unfold dFld at h
  split at h
  · split at h
    · split at h <;> cases h
    · cases h
  · cases h
def fldV (cl : List Nat) (i : Nat) (g : Rho → Res D) : Rho → Res D := fun ρ => (g ρ).bind (dFld cl i)
section
variable {K : PySem.W.Frag} {F B H B' H' : Hp} {own own' : Own}
theorem RpA.nth {vs : List V} {ds : List D} {i : Nat} {d : D} (r : RpA K B vs ds) (h : ds[i]? = some d) : ∃ v, vs[i]? = some v ∧ Rp K B v d := r.get h
theorem Fld.look {c : Nat} {f : Str} {i : Nat} {vs : List (Str × V)} {v : V} (F : Fld K c f i) (h : vs.map (·.1) <+: Mg.lay c) (e : (vs.map (·.2))[i]? = some v) : vs.lookup f = some v := by
  have hi : i < vs.length := by
    have := (List.getElem?_eq_some_iff.mp e).1
    simpa using this
  refine look_at ((pre_get h (by simpa using hi)).trans F.at_) ?_ e
  rw [pre_take h (by simp; omega)]
  exact F.new
end
section
variable {X : Cx} {W : WX} {G : List Mode} {e : Expr} {f : Str} {pos : Pos} {cl : List Nat} {i : Nat}
/-- an attribute of a frozen instance -/
theorem ej_fld {g : Rho → Res D} (hf : FldOk X.K cl f i) (he : EJ X W G e g) (hb : attributeBase e f X.env (eval e X.env) = eval e X.env := by rfl) : EJ X W G (.Attribute e f pos) (fldV cl i g) := by
  obtain ⟨t, pe, ve⟩ := he
  refine ⟨_, pe_fld pe hb, fun F ρ own B σ H Q gd q => ?_⟩
  refine ve F ρ own B σ H _ gd (Res.has_mono (Res.has_bind q) (fun d q v B' H' s r => ?_) fun _ x => x)
  unfold dFld at q
  split at q
  · rename_i c fs
    split at q
    · rename_i hc
      cases hl : fs[i]? with
      | none =>
        rw [hl] at q
        exact q.elim
      | some d =>
        rw [hl] at q
        have hF := hf c hc
        cases r with
        | ins hB hk ra =>
          obtain ⟨u, hu, ru⟩ := ra.nth hl
          exact ⟨_, _, _, _, u, rfl, s.base _ _ hB, hF.cls, hF.no, hF.look hk hu, q u B' H' s ru⟩
    · exact q.elim
  · exact q.elim
end
/-! ### modes of attributes -/
def Mode.nth : Nat → Mode → Option Mode
  | 0, .fcons m _ => some m
  | i + 1, .fcons _ r => Mode.nth i r
  | _, _ => none
def Mode.putM : Nat → Mode → Mode → Mode
  | 0, m', .fcons _ r => .fcons m' r
  | i + 1, m', .fcons m r => .fcons m (Mode.putM i m' r)
  | 0, m', .fnil => .fcons m' .fnil
  | _, _, m => m
def Mode.len : Mode → Nat
  | .fcons _ r => r.len + 1
  | _ => 0
def Mode.body : Mode → Mode
  | .at _ m => m
  | m => m
def Mode.wrap : Mode → Mode → Mode
  | .at a _, m => .at a m
  | _, m => m
section
variable {K : PySem.W.Frag} {F B H B' H' : Hp} {own own' : Own}
theorem VRep.body {m : Mode} {lab : Lab} {v : V} {d : D} (h : VRep K B H own m lab v d) : VRep K B H own m.body lab v d := by
  cases m with
  | «at» a m =>
    unfold VRep at h
    exact h.2
  | _ => exact h
theorem VRep.wrap {m m' : Mode} {lab : Lab} {v : V} {d d' : D} (h : VRep K B H own m lab v d) (h' : VRep K B' H' own' m' lab v d') : VRep K B' H' own' (m.wrap m') lab v d' := by
  cases m with
  | «at» a m =>
    unfold VRep at h
    unfold Mode.wrap VRep
    exact ⟨h.1, h'⟩
  | _ => exact h'
theorem VFs.nth : ∀ {i : Nat} {r : Mode} {lab : Lab} {k : Nat} {m : Mode} {vs : List V} {ds : List D}, VFs K B H own r lab k vs ds → Mode.nth i r = some m → ∃ v d, vs[i]? = some v ∧ ds[i]? = some d ∧ VRep K B H own m (lab ++ [k + i]) v d
  | 0, .fcons m r, lab, k, m', vs, ds, h, e => by
    unfold VFs at h
    obtain ⟨v, d, vs', ds', rfl, rfl, h3, h4⟩ := h
    cases e
    exact ⟨v, d, rfl, rfl, h3⟩
  | i + 1, .fcons m r, lab, k, m', vs, ds, h, e => by
    unfold VFs at h
    obtain ⟨v, d, vs', ds', rfl, rfl, h3, h4⟩ := h
    obtain ⟨v', d', h5, h6, h7⟩ := VFs.nth (i := i) h4 e
    refine ⟨v', d', by simpa using h5, by simpa using h6, ?_⟩
    rw [show k + (i + 1) = k + 1 + i by omega]
    exact h7
theorem VFs.len : ∀ {r : Mode} {lab : Lab} {k : Nat} {vs : List V} {ds : List D}, VFs K B H own r lab k vs ds → vs.length = r.len ∧ ds.length = r.len
  | .fcons m r, lab, k, vs, ds, h => by
    unfold VFs at h
    obtain ⟨v, d, vs', ds', rfl, rfl, h3, h4⟩ := h
    obtain ⟨h5, h6⟩ := VFs.len h4
    simp [Mode.len, h5, h6]
  | .fnil, _, _, _, _, h => by
    unfold VFs at h
    obtain ⟨rfl, rfl⟩ := h
    exact ⟨rfl, rfl⟩
  | .fz, _, _, _, _, h => by unfold VFs at h; exact h.elim
  | .own _, _, _, _, _, h => by unfold VFs at h; exact h.elim
  | .raw _ _, _, _, _, _, h => by unfold VFs at h; exact h.elim
  | .dic, _, _, _, _, h => by unfold VFs at h; exact h.elim
  | .ins _ _, _, _, _, _, h => by unfold VFs at h; exact h.elim
  | .at _ _, _, _, _, _, h => by unfold VFs at h; exact h.elim
theorem VFs.carryK : ∀ {r : Mode} {lab lab' : Lab} {k : Nat} {vs : List V} {ds : List D}, (∀ k', Carry K B H own (lab ++ [k']) B' H' own' (lab' ++ [k'])) → VFs K B H own r lab k vs ds → VFs K B' H' own' r lab' k vs ds
  | .fcons m r, lab, lab', k, vs, ds, c, h => by
    unfold VFs at h ⊢
    obtain ⟨v, d, vs', ds', h1, h2, h3, h4⟩ := h
    exact ⟨v, d, vs', ds', h1, h2, VRep.carry (c k) h3, VFs.carryK c h4⟩
  | .fnil, _, _, _, _, _, _, h => by
    unfold VFs at h ⊢
    exact h
  | .fz, _, _, _, _, _, _, h => by unfold VFs at h; exact h.elim
  | .own _, _, _, _, _, _, _, h => by unfold VFs at h; exact h.elim
  | .raw _ _, _, _, _, _, _, _, h => by unfold VFs at h; exact h.elim
  | .dic, _, _, _, _, _, _, h => by unfold VFs at h; exact h.elim
  | .ins _ _, _, _, _, _, _, _, h => by unfold VFs at h; exact h.elim
  | .at _ _, _, _, _, _, _, _, h => by unfold VFs at h; exact h.elim
theorem VFs.rest {k0 : Nat} : ∀ {r : Mode} {lab : Lab} {k : Nat} {vs : List V} {ds : List D}, VFs K B H own r lab k vs ds → k0 < k → (∀ k', k0 < k' → Carry K B H own (lab ++ [k']) B' H' own' (lab ++ [k'])) → VFs K B' H' own' r lab k vs ds
  | .fcons m r, lab, k, vs, ds, h, hk, c => by
    unfold VFs at h ⊢
    obtain ⟨v, d, vs', ds', h1, h2, h3, h4⟩ := h
    exact ⟨v, d, vs', ds', h1, h2, VRep.carry (c k hk) h3, VFs.rest h4 (by omega) c⟩
  | .fnil, _, _, _, _, h, _, _ => by
    unfold VFs at h ⊢
    exact h
  | .fz, _, _, _, _, h, _, _ => by unfold VFs at h; exact h.elim
  | .own _, _, _, _, _, h, _, _ => by unfold VFs at h; exact h.elim
  | .raw _ _, _, _, _, _, h, _, _ => by unfold VFs at h; exact h.elim
  | .dic, _, _, _, _, h, _, _ => by unfold VFs at h; exact h.elim
  | .ins _ _, _, _, _, _, h, _, _ => by unfold VFs at h; exact h.elim
  | .at _ _, _, _, _, _, h, _, _ => by unfold VFs at h; exact h.elim
/-- an attribute is set; the others are carried over -/
theorem VFs.put {m' : Mode} {y : V} {d' : D} : ∀ {i : Nat} {r : Mode} {lab : Lab} {k : Nat} {vs : List V} {ds : List D}, VFs K B H own r lab k vs ds → i ≤ r.len → (∀ k', k' ≠ k + i → Carry K B H own (lab ++ [k']) B' H' own' (lab ++ [k'])) → VRep K B' H' own' m' (lab ++ [k + i]) y d' →
    VFs K B' H' own' (Mode.putM i m' r) lab k (putN i y vs) (putN i d' ds)
  | 0, .fcons m0 r, lab, k, vs, ds, h, hi, c, q => by
    unfold VFs at h
    obtain ⟨v, d, vs', ds', rfl, rfl, h3, h4⟩ := h
    unfold Mode.putM putN VFs
    simp only [List.length_cons, Nat.zero_lt_succ, if_true, List.set_cons_zero]
    refine ⟨y, d', vs', ds', rfl, rfl, q, ?_⟩
    exact VFs.rest (k0 := k) h4 (Nat.lt_succ_self k) fun k' hk => c k' (by omega)
  | i + 1, .fcons m0 r, lab, k, vs, ds, h, hi, c, q => by
    unfold VFs at h
    obtain ⟨v, d, vs', ds', rfl, rfl, h3, h4⟩ := h
    have e : k + (i + 1) = k + 1 + i := by omega
    rw [e] at q
    have ih := VFs.put (i := i) h4 (by simpa [Mode.len] using hi) (fun k' hk => c k' (by omega)) q
    unfold Mode.putM VFs
    refine ⟨v, d, putN i y vs', putN i d' ds', ?_, ?_, VRep.carry (c k (by omega)) h3, ih⟩
    · unfold putN
      by_cases hl : i < vs'.length
      · rw [if_pos hl, if_pos (by simpa using hl)]
        rfl
      · rw [if_neg hl, if_neg (by simpa using hl)]
        rfl
    · unfold putN
      by_cases hl : i < ds'.length
      · rw [if_pos hl, if_pos (by simpa using hl)]
        rfl
      · rw [if_neg hl, if_neg (by simpa using hl)]
        rfl
  | 0, .fnil, lab, k, vs, ds, h, hi, c, q => by
    unfold VFs at h
    obtain ⟨rfl, rfl⟩ := h
    unfold Mode.putM putN VFs
    refine ⟨y, d', [], [], rfl, rfl, q, ?_⟩
    unfold VFs
    exact ⟨rfl, rfl⟩
  | i + 1, .fnil, _, _, _, _, _, hi, _, _ => by simp [Mode.len] at hi
  | _, .fz, _, _, _, _, h, _, _, _ => by unfold VFs at h; exact h.elim
  | _, .own _, _, _, _, _, h, _, _, _ => by unfold VFs at h; exact h.elim
  | _, .raw _ _, _, _, _, _, h, _, _, _ => by unfold VFs at h; exact h.elim
  | _, .dic, _, _, _, _, h, _, _, _ => by unfold VFs at h; exact h.elim
  | _, .ins _ _, _, _, _, _, h, _, _, _ => by unfold VFs at h; exact h.elim
  | _, .at _ _, _, _, _, _, h, _, _, _ => by unfold VFs at h; exact h.elim
end
end T

set_option Elab.async false
set_option linter.all false
set_option maxRecDepth 100000
set_option maxHeartbeats 4000000
/-! attributes: their number, int operators in place. -/
namespace T
open PySem PySem.Spec PyProof.Rows L2
variable [Mg]
structure FldS (c : Nat) : Prop where
  small : (Mg.lay c).length < 1000
theorem pre_small {c : Nat} {us : List (Str × V)} (h : us.map (·.1) <+: Mg.lay c) (S : FldS c) : us.length < 1000 := by
  have h1 := h.length_le
  have h2 := S.small
  simp at h1
  omega
def FldOp (X : Cx) (op : Operator) (h : Int → Int → Int) : Prop := ∃ rd, InOp X op rd ∧ ∀ (a b : Int) (H : Hp) (Q : VK), Q (.int (h a b)) H → rd (.int a) (.int b) H Q
section
variable {X : Cx}
omit [Mg] in
theorem fop_add : FldOp X .Add (fun a b => a + b) := ⟨_, in_add, fun a b H Q q => ⟨a, b, rfl, rfl, q⟩⟩
omit [Mg] in
theorem fop_sub : FldOp X .Sub (fun a b => a - b) := ⟨_, in_sub, fun a b H Q q => ⟨a, b, rfl, rfl, q⟩⟩
end
end T

set_option Elab.async false
set_option linter.all false
set_option maxRecDepth 100000
set_option maxHeartbeats 4000000
/-! O-layer, part I: slices stored. -/
namespace T
open PySem PySem.Spec PyProof.Rows L2
variable [Mg]
def gSlc (to : TE) (tl th : TO) : TG := fun v σ H Q => to σ H fun x H1 => tl σ H1 fun l H2 => th σ H2 fun u H3 => ∃ (p b : Addr) (xs ys : List V) (a c : Int), x = .ref p ∧ v = .ref b ∧ l = some a ∧ u = some c ∧ H3 p = some (.lst xs) ∧ H3 b = some (.lst ys) ∧ p ≠ b ∧ 0 ≤ a ∧ a ≤ c ∧ c ≤ xs.length ∧ xs.length + ys.length ≤ sizeLine ∧
  Q σ (upd H3 p (.lst (xs.take a.toNat ++ ys ++ xs.drop c.toNat)))
section
variable {X : Cx} {W : WX} {L : LM} {G G' : List Mode} {o e : Expr} {lo hi : Option Expr} {x : Str} {px p2 pos sp : Pos} {i : Nat} {to : TE} {tl th : TO}
omit [Mg] in
theorem pg_slset (ho : PE X o to) (hl : PO X lo tl) (hu : PO X hi th)
    (ha : ∀ v, assign (.Subscript o (.Slice lo hi none p2) sp) X.env v = (do
      let ov ← holding [v] (eval o X.env)
      let iv ← holding [v, ov] (eval (.Slice lo hi none p2) X.env)
      standAt sp
      holding [v, ov, iv] (setItem ov iv v)
      release [iv, v, ov] []) := by intro _; rfl) : PG X (.Subscript o (.Slice lo hi none p2) sp) (gSlc to tl th) := by
  refine ⟨fun pins s σ H v u Q I r h => ?_⟩
  rw [ha]
  refine wpAny_bind (wpAny_holding (thn (ho.run pins s σ H _ I h) fun ov s1 ⟨x, H1, I1, r1, q1⟩ => ?_))
  refine wpAny_bind (wpAny_holding ?_)
  refine wpAny_Slice (thn (hl.run pins s1 σ H1 _ I1 q1) fun vl s2 ⟨l, H2, I2, pl, q2⟩ => thn (hu.run pins s2 σ H2 _ I2 q2) fun vu s3 ⟨w, H3, I3, pu, q3⟩ => ?_)
  rw [evalPart_none]
  refine wpAny_pure ?_
  obtain ⟨p, b, xs, ys, a, c, rfl, rfl, rfl, rfl, hp, hb, hne, h0, hac, hc, hz, q⟩ := q3
  have I4 : Inv X pins σ H3 { s3 with heap := s3.heap.push { cls := .type "slice", data := .fields #[vl, vu, .none] } } := I3.kept (t' := s3.toks) fun b ob q => Heap.get?_push_of_some _ q
  cases r1
  cases r
  cases pl
  cases pu
  refine wpAny_bind (wpAny_standAt (wpAny_bind (wpAny_holding ?_)))
  refine set_slice I4 hp hb hne (Heap.IsSliceOf.new ..) ⟨_, rfl⟩ ⟨_, rfl⟩ h0 hac hc hz fun s5 I5 => ?_
  exact wpAny_release ⟨σ, _, I5, q⟩
/-- x[a:c] = e -/
def sSetSl (i : Nat) (gl gh : Rho → Res (Option Int)) (g : Rho → Res D) : Rho → Out := fun ρ => thenS (g ρ) ρ fun d => atL i ρ fun xs => thenS (gl ρ) ρ fun l => thenS (gh ρ) ρ fun u => match d, l, u with
  | .lst ys, some a, some c => if 0 ≤ a ∧ a ≤ c ∧ c ≤ xs.length ∧ xs.length + ys.length ≤ sizeLine then .nx (ρ.set i (some (.lst (xs.take a.toNat ++ ys ++ xs.drop c.toNat)))) else .no
  | _, _, _ => .no
theorem sj_setSl {g : Rho → Res D} {gl gh : Rho → Res (Option Int)} (hv : PE X (.Name x px) (tVar i)) (hm : G.getD i Mode.fz = Mode.own Mode.fz) (he : EJ X W G e g) (hl : OJ X W G lo gl) (hh : OJ X W G hi gh)
    (hg : ∀ {to : TE} {tl th : TO}, PE X (.Name x px) to → PO X lo tl → PO X hi th → PG X (.Subscript (.Name x px) (.Slice lo hi none p2) sp) (gSlc to tl th)) (h1 : (assignEach [.Subscript (.Name x px) (.Slice lo hi none p2) sp] X.env).map (·.2) = [assign (.Subscript (.Name x px) (.Slice lo hi none p2) sp) X.env] := by rfl) (hs : swapsWithSole [.Subscript (.Name x px) (.Slice lo hi none p2) sp] e pos.line X.env = pure false := by rfl) (hw : swappedStores [.Subscript (.Name x px) (.Slice lo hi none p2) sp] e X.env = pure none := by rfl) :
    SJ X W L G (.Assign [.Subscript (.Name x px) (.Slice lo hi none p2) sp] e pos) (sSetSl i gl gh g) G := by
  obtain ⟨te, pe, ve⟩ := he
  obtain ⟨tl, pl, vl⟩ := hl
  obtain ⟨th, ph, vh⟩ := hh
  refine ⟨_, ps_asg pe (hg hv pl ph) hs hw h1, fun hX F ρ own B σ H D gd q => ?_⟩
  refine ve F ρ own B σ H _ gd (Res.has_mono (thenS_has hX gd q) (fun d q u B' H' s r => ?_) fun _ x => x)
  have g1 := gd.step s
  obtain ⟨l, vs, ds, k1, k2, k3, k4, k5, q⟩ := atL_has g1 hm (q.ext s.g)
  refine ⟨.ref l, k1, ?_⟩
  refine vl F ρ own B' σ H' _ g1 (Res.has_mono (thenS_has hX g1 q) (fun la q B2 H2 s2 => ?_) fun _ x => x)
  have g2 := g1.step s2
  refine vh F ρ own B2 σ H2 _ g2 (Res.has_mono (thenS_has hX g2 (q.ext s2.g)) (fun ua q B3 H3 s3 => ?_) fun _ x => x)
  have g3 := g2.step s3
  have q := q.ext s3.g
  cases d with
  | lst ys =>
    cases la with
    | none => exact q.elim
    | some a =>
      cases ua with
      | none => exact q.elim
      | some c =>
        simp only at q
        split at q
        · rename_i hz
          have hlo : own l ≠ none := by rw [k3]; exact fun z => nomatch z
          have hl3 : H3 l = some (.lst vs) := ((s3.ownd l hlo).1.trans (s2.ownd l hlo).1).trans k4
          have r3 := (r.mono s2.ext).mono s3.ext
          cases r3 with
          | lst hb rb =>
            rename_i b us
            have hbo : own b = none := (g3.gr.base _ _ hb).2
            refine ⟨l, b, vs, us, a, c, rfl, rfl, rfl, rfl, hl3, (g3.gr.base _ _ hb).1, fun z => hlo (by rw [z]; exact hbo), hz.1, hz.2.1, by rw [k5.len]; exact hz.2.2.1, by rw [k5.len, rb.len]; exact hz.2.2.2, ?_⟩
            have k6 := (k5.mono s2.ext).mono s3.ext
            exact q own B3 σ _ Gr.refl (g3.mut hm k1 k3 (((k6.take _).app rb).app (k6.drop _)))
        · exact q.elim
  | _ => exact q.elim
end
end T

set_option Elab.async false
set_option linter.all false
set_option maxRecDepth 100000
set_option maxHeartbeats 4000000
/-! O-layer, part K: owned lists and dicts lent to plain defs whose results hold no list. -/
namespace T
open PySem PySem.Spec PyProof.Rows L2
mutual
/-- numbers, texts, and tuples of such -/
def D.noL : D → Bool
  | .non | .bl _ | .int _ | .str _ | .ty _ => true
  | .tup xs => D.noLA xs
  | _ => false
def D.noLA : List D → Bool
  | [] => true
  | x :: xs => D.noL x && D.noLA xs
end
def callB (m : List D → Res D) (g : Rho → Res (List D)) : Rho → Res D := fun ρ => (g ρ).bind fun ds => match m ds with
  | .ok d => if d.noL = true then .ok d else .no
  | .ex e => if e.fs.isEmpty = true then .ex e else .no
  | .no => .no
def HO.cont : HO → Bool
  | .lst _ | .dK _ | .dT _ | .ins _ _ _ => true
  | _ => false
/-- what is owned stands in the base for a while -/
def borB (own : Own) (B H : Hp) : Hp := fun a => match own a with
  | none => B a
  | some _ => match H a with
    | some o => if T.HO.cont o = true then some o else none
    | none => none
def borF (own : Own) (F H : Hp) : Hp := fun a => match own a with
  | none => F a
  | some _ => match H a with
    | some o => if T.HO.cont o = true then none else some o
    | none => none
def unbor (own : Own) (B : Hp) : Hp := fun a => match own a with
  | none => B a
  | some _ => none
variable [Mg]
section
variable {K : PySem.W.Frag} {F B H B' H' : Hp} {own own' : Own}
omit [Mg] in
theorem bor_ext (g : Ground F own B H) : Ext B (borB own B H) := fun a o e => by
  unfold borB
  rw [(g.base a o e).2]
  exact e
omit [Mg] in
theorem bor_ground (g : Ground F own B H) : Ground (borF own F H) (fun _ => none) (borB own B H) H where
  base := fun a o e => by
    refine ⟨?_, rfl⟩
    unfold borB at e
    cases ho : own a with
    | none =>
      rw [ho] at e
      exact (g.base a o e).1
    | some l =>
      rw [ho] at e
      simp only at e
      cases hh : H a with
      | none =>
        rw [hh] at e
        cases e
      | some u =>
        rw [hh] at e
        simp only at e
        split at e
        · exact e
        · cases e
  frame := fun a o e => by
    unfold borF at e
    unfold borB
    cases ho : own a with
    | none =>
      rw [ho] at e
      obtain ⟨h1, h2, h3⟩ := g.frame a o e
      exact ⟨h1, rfl, h3⟩
    | some l =>
      rw [ho] at e
      simp only at e ⊢
      cases hh : H a with
      | none =>
        rw [hh] at e
        cases e
      | some u =>
        rw [hh] at e
        simp only at e ⊢
        split at e
        · cases e
        · rename_i hc
          exact ⟨e, True.intro, by rw [if_neg hc]⟩
  live := fun a h => absurd rfl h
theorem bor_rp {vs : List V} {ds : List D} (g : Ground F own B H) : SnA K own B H vs ds → RpA K (borB own B H) vs ds := fun h => by
  induction h with
  | nil => exact .nil
  | cons r rs ih =>
    refine .cons ?_ ih
    rcases r with r | ⟨l, us, es, rfl, rfl, h1, h2, h3⟩ | ⟨l, o, es, rfl, rfl, h1, h2, h3⟩
    · exact r.mono (bor_ext g)
    · refine .lst ?_ (h3.mono (bor_ext g))
      unfold borB
      cases ho : own l with
      | none => exact absurd ho h1
      | some lb =>
        simp only [h2]
        rfl
    · refine .ofD (o := o) ?_ (h3.mono (bor_ext g))
      unfold borB
      cases ho : own l with
      | none => exact absurd ho h1
      | some lb =>
        simp only [h2]
        rcases h3 with ⟨kvs, rfl, _⟩ | ⟨kvs, rfl, _⟩ <;> rfl
omit [Mg] in
theorem unbor_step (g : Ground F own B H) (e : Ext (borB own B H) B') (g' : Ground (borF own F H) own' B' H') : Step own F B H (unbor own B') H' where
  ext := fun a o h => by
    unfold unbor
    rw [(g.base a o h).2]
    exact e a o (bor_ext g a o h)
  base := fun a o h => by
    unfold unbor at h
    cases ho : own a with
    | none =>
      rw [ho] at h
      exact (g'.base a o h).1
    | some l =>
      rw [ho] at h
      cases h
  ownd := fun a h => by
    cases ho : own a with
    | none => exact absurd ho h
    | some l =>
      refine ⟨?_, by unfold unbor; rw [ho]⟩
      cases hh : H a with
      | none => exact absurd hh (g.live a h)
      | some u =>
        by_cases hc : T.HO.cont u = true
        · have : borB own B H a = some u := by
            unfold borB
            rw [ho]
            simp only [hh]
            rw [if_pos hc]
          exact (g'.base a u (e a u this)).1
        · have : borF own F H a = some u := by
            unfold borF
            rw [ho]
            simp only [hh]
            rw [if_neg hc]
          exact (g'.frame a u this).1
  frame := fun a o h => by
    have hn := (g.frame a o h).2.1
    have : borF own F H a = some o := by
      unfold borF
      rw [hn]
      exact h
    obtain ⟨h1, h2, h3⟩ := g'.frame a o this
    exact ⟨h1, by unfold unbor; rw [hn]; exact h3⟩
omit [Mg] in
theorem unbor_tup {a : Addr} {o : HO} (g : Ground F own B H) (e : Ext (borB own B H) B') (g' : Ground (borF own F H) own' B' H') (h : B' a = some o) (hc : T.HO.cont o = false) : unbor own B' a = some o := by
  unfold unbor
  cases ho : own a with
  | none => exact h
  | some l =>
    exfalso
    cases hh : H a with
    | none => exact absurd hh (g.live a (by rw [ho]; exact fun z => nomatch z))
    | some u =>
      by_cases hu : T.HO.cont u = true
      · have : borB own B H a = some u := by
          unfold borB
          rw [ho]
          simp only [hh]
          rw [if_pos hu]
        have := e a u this
        rw [h] at this
        cases this
        rw [hc] at hu
        cases hu
      · have : borF own F H a = some u := by
          unfold borF
          rw [ho]
          simp only [hh]
          rw [if_neg hu]
        have := (g'.frame a u this).2.2
        rw [h] at this
        cases this
mutual
theorem Rp.unbor (g : Ground F own B H) (e : Ext (borB own B H) B') (g' : Ground (borF own F H) own' B' H') : ∀ {v : V} {d : D}, d.noL = true → Rp K B' v d → Rp K (T.unbor own B') v d
  | _, _, _, .non => .non
  | _, _, _, .bl b => .bl b
  | _, _, _, .int i => .int i
  | _, _, _, .str x => .str x
  | _, _, _, .ty n => .ty n
  | _, _, hn, .tup h r => by
    refine .tup ?_ (RpA.unbor g e g' (by simpa [D.noL] using hn) r)
    rcases h with (h | ⟨o, h⟩) | h
    · exact .inl (.inl (unbor_tup g e g' h rfl))
    · exact .inl (.inr ⟨o, unbor_tup g e g' h rfl⟩)
    · exact .inr h
  | _, _, hn, .lst _ _ => by simp [D.noL] at hn
  | _, _, hn, .scr _ _ => by simp [D.noL] at hn
  | _, _, hn, .dct _ _ => by simp [D.noL] at hn
  | _, _, hn, .dctT _ _ => by simp [D.noL] at hn
  | _, _, hn, .ins _ _ _ => by simp [D.noL] at hn
  | _, _, hn, .exc _ _ => by simp [D.noL] at hn
theorem RpA.unbor (g : Ground F own B H) (e : Ext (borB own B H) B') (g' : Ground (borF own F H) own' B' H') : ∀ {vs : List V} {ds : List D}, D.noLA ds = true → RpA K B' vs ds → RpA K (T.unbor own B') vs ds
  | _, _, _, .nil => .nil
  | _, _, hn, .cons r rs => by
    simp only [D.noLA, Bool.and_eq_true] at hn
    exact .cons (Rp.unbor g e g' hn.1 r) (RpA.unbor g e g' hn.2 rs)
end
end
section
variable {X : Cx} {W : WX} {G : List Mode} {e : Expr} {es : List Expr} {x : Str} {p pos : Pos} {k n : Nat} {f : Addr} {fd : FuncData} {ps : List Str} {m : List D → Res D}
theorem ej_callB {g : Rho → Res (List D)} (hlen : ∀ ds, ds.length ≠ n → m ds = .no) (Fn : FnOk X.prog X.w X.K X.mg X.base (L2.CX X.prog X.w) k f fd ps (spT X.K X.mg Mode.fz n m)) (hr : Room k X.A) (hg : Gl X x) (hm : X.mg x = some (.ref f)) (hk : PySem.W.keepIn X.K (.ref f) = true) (hb : Binds X.K fd ps [])
    (tk : Takes X W) (ha : BAJ X W G (e :: es) g) (hdb : (x == ("__debug__" : Str)) = false := by decide) (he : starEach (e :: es) X.env = (false, eval e X.env) :: starEach es X.env := by rfl) (hpl : (backTo pos (starEach es X.env)).any (·.1) = false := by rfl) :
    EJ X W G (.Call (.Name x p) (e :: es) [] pos) (callB m g) := by
  obtain ⟨t, pa, va⟩ := ha
  refine ⟨_, pe_callS Fn hr hg hm hk hb (fun σ => passAt tk σ) pa hdb he hpl, fun F ρ own B σ H Q gd q => ?_⟩
  refine va F ρ own B σ H _ gd (Res.has_mono (Res.has_bind q) (fun ds q vs B1 H1 s1 r => ?_) fun _ x => x)
  have g1 := (gd.step s1).gr
  have hl : ds.length = n := Classical.byContradiction fun z => by
    rw [hlen ds z] at q
    exact q
  refine ⟨ds, borF own F H1, borB own B1 H1, hl, bor_rp g1 r, bor_ground g1, ?_⟩
  cases hd : m ds with
  | no =>
    rw [hd] at q
    exact q
  | ok d =>
    rw [hd] at q
    simp only at q
    split at q
    · rename_i hn
      intro v own' B' H' e' g' r'
      unfold VRep at r'
      exact q v _ H' (s1.trans (unbor_step g1 e' g')) (r'.unbor g1 e' g' hn)
    · exact q.elim
  | ex x =>
    rw [hd] at q
    simp only at q
    split at q
    · rename_i hn
      intro c dx B' H' e' g' xr
      have hfs : x.fs = [] := List.isEmpty_iff.mp hn
      refine q c dx _ H' (s1.trans (unbor_step g1 e' g')) ⟨xr.cls, ?_⟩
      rcases xr.fs with h | ⟨_, _, h, _⟩
      · exact .inl h
      · exact absurd hfs h
    · exact q.elim
end
end T

set_option Elab.async false
set_option linter.all false
set_option maxRecDepth 100000
set_option maxHeartbeats 4000000
/-! O-layer, part L: dicts written at the top of the text, read by a text. -/
namespace T
open PySem PySem.Spec PyProof.Rows L2
def kdV (tab : List (Str × D)) (g : Rho → Res D) : Rho → Res D := fun ρ => (g ρ).bind fun d => match d with
  | .str k => match tab.lookup k with
    | some d => .ok d
    | none => .no
  | _ => .no
variable [Mg]
/-- the dict at p, written at the top -/
structure KTab (K : PySem.W.Frag) (w : World) (p : Addr) (tab : List (Str × D)) : Prop where
  ok : ∀ kd ∈ tab, ∃ v, KDct K w p kd.1 v ∧ ∀ B, Rp K B v kd.2
omit [Mg] in
theorem lookup_mem {k : Str} {d : D} : ∀ {tab : List (Str × D)}, tab.lookup k = some d → (k, d) ∈ tab
  | [], h => by cases h
  | (a, x) :: tab, h => by
    rw [List.lookup_cons] at h
    cases e : k == a with
    | true =>
      rw [e] at h
      cases h
      rw [beq_iff_eq.mp e]
      simp
    | false =>
      rw [e] at h
      exact List.mem_cons_of_mem _ (lookup_mem h)
section
variable {X : Cx} {W : WX} {G : List Mode} {e : Expr} {x : Str} {p1 pos : Pos} {p : Addr} {tab : List (Str × D)}
theorem ej_kdict {g : Rho → Res D} (hg : Gl X x) (hm : X.mg x = some (.ref p)) (ht : KTab X.K X.w p tab) (he : BJ X W G e g) (hs : PlainIx e := by exact fun _ _ => rfl) (hd : (x == ("__debug__" : Str)) = false := by decide) : EJ X W G (.Subscript (.Name x p1) e pos) (kdV tab g) := by
  obtain ⟨te, pe, ve⟩ := he
  refine ⟨_, pe_ix ix_kdict (pe_glob (v := .ref p) hg hm rfl hd) pe hs, fun F ρ own B σ H Q gd q => ?_⟩
  refine ve F ρ own B σ H _ gd (Res.has_mono (Res.has_bind q) (fun d q u B' H' s r => ?_) fun _ x => x)
  cases d with
  | str k =>
    simp only at q
    cases hl : tab.lookup k with
    | none =>
      rw [hl] at q
      exact q.elim
    | some d =>
      rw [hl] at q
      cases r.str
      obtain ⟨v, h1, h2⟩ := ht.ok _ (lookup_mem hl)
      exact ⟨p, k, v, rfl, rfl, h1, q v B' H' s (h2 B')⟩
  | _ => exact q.elim
end
end T

set_option Elab.async false
set_option linter.all false
set_option maxRecDepth 100000
set_option maxHeartbeats 4000000
/-! S-layer, part A: the store. -/
namespace T
open PySem PySem.Spec PyProof.Rows L2
/-! ### what an expression gives that changes the store -/
inductive ResM (α : Type) where
  | ok (a : α) (ρ : Rho) | ex (e : Exn) (ρ : Rho) | no
def ResM.has {α : Type} (r : ResM α) (P : α → Rho → Prop) (E : Exn → Rho → Prop) : Prop :=
  match r with
  | .ok a ρ => P a ρ
  | .ex e ρ => E e ρ
  | .no => False
def ResM.bind {α β : Type} (r : ResM α) (f : α → Rho → ResM β) : ResM β := match r with
  | .ok a ρ => f a ρ
  | .ex e ρ => .ex e ρ
  | .no => .no
theorem ResM.has_bind {α β : Type} {r : ResM α} {f : α → Rho → ResM β} {P : β → Rho → Prop} {E : Exn → Rho → Prop} (h : (r.bind f).has P E) : r.has (fun a ρ => (f a ρ).has P E) E := by
  cases r with
  | ok a ρ => exact h
  | ex e ρ => exact h
  | no => exact h
theorem ResM.has_mono {α : Type} {r : ResM α} {P P' : α → Rho → Prop} {E E' : Exn → Rho → Prop} (h : r.has P E) (p : ∀ a ρ, P a ρ → P' a ρ) (q : ∀ e ρ, E e ρ → E' e ρ) : r.has P' E' := by
  cases r with
  | ok a ρ => exact p a ρ h
  | ex e ρ => exact q e ρ h
  | no => exact h
/-- without a change -/
def liftM {α : Type} (r : Res α) (ρ : Rho) : ResM α := match r with
  | .ok a => .ok a ρ
  | .ex e => .ex e ρ
  | .no => .no
def pureM {α : Type} (g : Rho → Res α) : Rho → ResM α := fun ρ => liftM (g ρ) ρ
theorem liftM_has {α : Type} {r : Res α} {ρ : Rho} {P : α → Rho → Prop} {E : Exn → Rho → Prop} (h : (liftM r ρ).has P E) : r.has (fun a => P a ρ) (fun e => E e ρ) := by
  cases r <;> exact h

/-! ### numbers of things; the store's list -/
def refN : D → Option Nat
  | .exc [(_, .int n)] => if 0 ≤ n then some n.toNat else none
  | _ => none
@[simp] theorem refN_ref (n : Nat) : refN (refD n) = some n := by simp [refN, refD]
theorem nref_refN {d : D} (h : d.nref = true) : refN d = none := by
  cases d <;> first | rfl | cases h
@[simp] theorem refD_nref (n : Nat) : (refD n).nref = false := mk_eq0 rfl
def stoOf : D → Option (List D)
  | .exc fs => some (fs.map (·.2))
  | _ => none
@[simp] theorem stoOf_stoD (os : List D) : stoOf (stoD os) = some os := by
  simp only [stoOf, stoD, List.map_map]
  congr 1
  exact List.map_id' os
/-- the store that stands in slot S -/
def stoR (S : Nat) (ρ : Rho) : Option (List D) := match ρ[S]? with
  | some (some d) => stoOf d
  | _ => none
def setS (S : Nat) (os : List D) (ρ : Rho) : Rho := ρ.set S (some (stoD os))
theorem stoR_set {S : Nat} {os os' : List D} {ρ : Rho} (h : stoR S ρ = some os) : stoR S (setS S os' ρ) = some os' := by
  unfold stoR at h ⊢
  unfold setS
  cases e : ρ[S]? with
  | none =>
    rw [e] at h
    cases h
  | some o =>
    have hl := (List.getElem?_eq_some_iff.mp e).1
    rw [List.getElem?_set_self hl]
    exact stoOf_stoD os'
variable [Mg]
section
variable {K : PySem.W.Frag} {F B B' H H' : Hp} {own own' : Own} {os : List D}
/-- what a thing needs to stay: its own labels, and all numbers -/
theorem RootR.keepN {n : Nat} {a : Addr} (ha : own a = some [SH, n]) (e : Ext B B') (s1 : ∀ l m, own l = some [SH, m] → own' l = some [SH, m]) (s2 : ∀ l k, own l = some [SH, n, k] → own' l = some [SH, n, k] ∧ H' l = H l) (s3 : H' a = H a) : ∀ {o : D}, RootR K B H own n a o → RootR K B' H' own' n a o := by
  have anyK : ∀ {v : V} {d : D}, AnyR K B own v d → AnyR K B' own' v d := fun {v d} h => by
    rcases h with ⟨h1, h2⟩ | ⟨m, b, h1, h2, h3⟩
    · exact .inl ⟨h1, h2.mono e⟩
    · exact .inr ⟨m, b, h1, h2, s1 _ _ h3⟩
  have anyA : ∀ {vs : List V} {ds : List D}, AnyA K B own vs ds → AnyA K B' own' vs ds := fun h => ⟨h.1, fun k v d h1 h2 => anyK (h.2 k v d h1 h2)⟩
  have anyD : ∀ {o : HO} {kvs : List (D × D)}, AnyD K B own o kvs → AnyD K B' own' o kvs := fun h => by
    rcases h with ⟨ps, h1, h2, h3⟩ | ⟨ps, h1, h2, h3⟩
    · exact .inl ⟨ps, h1, h2, fun k p q a b => ⟨(h3 k p q a b).1, anyK (h3 k p q a b).2⟩⟩
    · exact .inr ⟨ps, h1, h2, fun k p q a b => ⟨(h3 k p q a b).1, anyK (h3 k p q a b).2⟩⟩
  intro o h
  cases o with
  | ins c ds =>
    obtain ⟨dx, vs, h1, h2, h3, h4⟩ := h
    refine ⟨dx, vs, s3.trans h1, h2, h3, fun k v d a b => ?_⟩
    have h5 := h4 k v d a b
    cases hm : Mg.fm c k with
    | any =>
      rw [hm] at h5
      exact anyK h5
    | lst =>
      rw [hm] at h5
      obtain ⟨l, us, es, e1, e2, e3, e4, e5⟩ := h5
      exact ⟨l, us, es, e1, e2, (s2 _ _ e3).1, (s2 _ _ e3).2.trans e4, anyA e5⟩
    | dct =>
      rw [hm] at h5
      obtain ⟨l, us, es, e1, e2, e3, e4, e5⟩ := h5
      exact ⟨l, us, es, e1, e2, (s2 _ _ e3).1, (s2 _ _ e3).2.trans e4, anyD e5⟩
  | lst ds =>
    obtain ⟨vs, h1, h2⟩ := h
    exact ⟨vs, s3.trans h1, anyA h2⟩
  | dct ds =>
    obtain ⟨vs, h1, h2⟩ := h
    exact ⟨vs, s3.trans h1, anyD h2⟩
  | _ => exact h.elim
theorem StoR.obj (h : StoR K B H own os) {n : Nat} {a : Addr} {o : D} (e : os[n]? = some o) (ha : own a = some [SH, n]) : RootR K B H own n a o := by
  obtain ⟨b, h1, h2⟩ := h.at_ n o e
  have := h.inj a b n [] ha h1
  subst this
  exact h2
/-- one thing changes -/
theorem StoR.mut (h : StoR K B H own os) {n : Nat} {o' : D} (hn : n < os.length) (e : Ext B B')
    (h1 : ∀ (l : Addr) (m : Nat) (r : Lab), m ≠ n → (own l = some (SH :: m :: r) ↔ own' l = some (SH :: m :: r))) (h2 : ∀ l, own l = some [SH, n] ↔ own' l = some [SH, n])
    (h3 : ∀ (l : Addr) (m : Nat) (r : Lab), m ≠ n → own l = some (SH :: m :: r) → H' l = H l) (h4 : ∀ (a a' : Addr) (r : Lab), own' a = some (SH :: n :: r) → own' a' = some (SH :: n :: r) → a = a')
    (h5 : ∀ a, own' a = some [SH, n] → RootR K B' H' own' n a o') : StoR K B' H' own' (os.set n o') where
  at_ := fun m o hm => by
    have s1 : ∀ l m, own l = some [SH, m] → own' l = some [SH, m] := fun l m hl => by
      by_cases hmn : m = n
      · subst hmn
        exact (h2 l).mp hl
      · exact (h1 l m [] hmn).mp hl
    by_cases hmn : m = n
    · subst hmn
      rw [List.getElem?_set_self hn] at hm
      cases hm
      obtain ⟨a, k1, k2⟩ := h.at_ m _ (List.getElem?_eq_getElem hn)
      exact ⟨a, (h2 a).mp k1, h5 a ((h2 a).mp k1)⟩
    · rw [List.getElem?_set_ne (Ne.symm hmn)] at hm
      obtain ⟨a, k1, k2⟩ := h.at_ m o hm
      exact ⟨a, (h1 a m [] hmn).mp k1, k2.keepN k1 e s1 (fun l k hl => ⟨(h1 l m [k] hmn).mp hl, h3 l m [k] hmn hl⟩) (h3 a m [] hmn k1)⟩
  inj := fun a a' m r k1 k2 => by
    by_cases hmn : m = n
    · subst hmn
      exact h4 a a' r k1 k2
    · exact h.inj a a' m r ((h1 a m r hmn).mpr k1) ((h1 a' m r hmn).mpr k2)
  bnd := fun a m r k1 => by
    rw [List.length_set]
    by_cases hmn : m = n
    · subst hmn
      exact hn
    · exact h.bnd a m r ((h1 a m r hmn).mpr k1)
/-- a new thing -/
theorem StoR.new (h : StoR K B H own os) {p : Addr} {o : D} (e : Ext B B') (ho : own p = none) (hH : ∀ (l : Addr) (n : Nat) (r : Lab), own l = some (SH :: n :: r) → H' l = H l)
    (hr : RootR K B' H' (fun a => if a = p then some [SH, os.length] else own a) os.length p o) : StoR K B' H' (fun a => if a = p then some [SH, os.length] else own a) (os ++ [o]) := by
  have k1 : ∀ (l : Addr) (n : Nat) (r : Lab), own l = some (SH :: n :: r) → (if l = p then some [SH, os.length] else own l) = some (SH :: n :: r) := fun l n r hl => by
    rw [if_neg fun z => by rw [z, ho] at hl; cases hl]
    exact hl
  refine ⟨fun n d hn => ?_, fun a a' n r h1 h2 => ?_, fun a n r h1 => ?_⟩
  · by_cases hl : n < os.length
    · rw [List.getElem?_append_left hl] at hn
      obtain ⟨a, h1, h2⟩ := h.at_ n d hn
      exact ⟨a, k1 _ _ _ h1, h2.keepN h1 e (fun l m hl => k1 _ _ _ hl) (fun l k hl => ⟨k1 _ _ _ hl, hH _ _ _ hl⟩) (hH _ _ _ h1)⟩
    · have hn' : n = os.length := by
        have := (List.getElem?_eq_some_iff.mp hn).1
        rw [List.length_append, List.length_singleton] at this
        omega
      subst hn'
      rw [List.getElem?_append_right (Nat.le_refl _), Nat.sub_self] at hn
      cases hn
      exact ⟨p, if_pos rfl, hr⟩
  · by_cases ha : a = p <;> by_cases ha' : a' = p
    · rw [ha, ha']
    · rw [if_pos ha] at h1
      rw [if_neg ha'] at h2
      have hb := h.bnd _ _ _ h2
      cases h1
      exact absurd hb (Nat.lt_irrefl _)
    · rw [if_neg ha] at h1
      rw [if_pos ha'] at h2
      have hb := h.bnd _ _ _ h1
      cases h2
      exact absurd hb (Nat.lt_irrefl _)
    · rw [if_neg ha] at h1
      rw [if_neg ha'] at h2
      exact h.inj a a' n r h1 h2
  · rw [List.length_append, List.length_singleton]
    by_cases ha : a = p
    · rw [if_pos ha] at h1
      cases h1
      omega
    · rw [if_neg ha] at h1
      have := h.bnd _ _ _ h1
      omega
end
/-! ### slots in a def with the store -/
def Mode.flat : Mode → Bool
  | .fz | .any | .raw _ _ => true
  | .own .fz => true
  | _ => false
def flatG (S : Nat) (G : List Mode) : Bool := (List.range G.length).all fun i => i == S || (G.getD i Mode.fz).flat
omit [Mg] in
theorem flatG_at {S : Nat} {G : List Mode} (h : flatG S G = true) {i : Nat} (hi : i ≠ S) : (G.getD i Mode.fz).flat = true := by
  by_cases hl : i < G.length
  · have := List.all_eq_true.mp h i (List.mem_range.mpr hl)
    simp only [Bool.or_eq_true, beq_iff_eq] at this
    exact this.resolve_left hi
  · rw [List.getD_eq_getElem?_getD, List.getElem?_eq_none (by omega)]
    rfl
section
variable {K : PySem.W.Frag} {F B B' H H' : Hp} {own own' : Own} {os os' : List D} {G : List Mode} {ρ : Rho} {σ : L2.St} {S : Nat}
theorem VRep.flat {m : Mode} (hm : m.flat = true) {lab : Lab} {v : V} {d : D} (e : Ext B B') (c : ∀ (l : Addr) (r : Lab), own l = some (lab ++ r) → own' l = some (lab ++ r) ∧ H' l = H l) (s : ∀ (a : Addr) (n : Nat), own a = some [SH, n] → own' a = some [SH, n]) (h : VRep K B H own m lab v d) : VRep K B' H' own' m lab v d := by
  cases m with
  | fz => exact Rp.mono e h
  | any =>
    rcases (h : AnyR K B own v d) with ⟨h1, h2⟩ | ⟨n, a, h1, h2, h3⟩
    · exact .inl ⟨h1, h2.mono e⟩
    · exact .inr ⟨n, a, h1, h2, s _ _ h3⟩
  | raw a dx =>
    obtain ⟨h1, fs, h2, h3⟩ := h
    exact ⟨h1, fs, h2, h3.mono e⟩
  | own m' =>
    cases m' with
    | fz =>
      obtain ⟨l, vs, ds, h1, h2, h3, h4, h5, h6⟩ := h
      have := c l [] (by simpa using h3)
      exact ⟨l, vs, ds, h1, h2, by simpa using this.1, this.2.trans h4, h5, fun k v' d' a b => Rp.mono e (h6 k v' d' a b)⟩
    | _ => cases hm
  | _ => cases hm
theorem Good.sto (g : Good K F G ρ own B σ H) (hS : G.getD S Mode.fz = .sto) (hρ : stoR S ρ = some os) : StoR K B H own os := by
  unfold stoR at hρ
  split at hρ
  · rename_i d e
    obtain ⟨v, h1, h2⟩ := g.slots S d e
    rw [hS] at h2
    obtain ⟨h3, os', h4, h5⟩ := h2
    subst h4
    rw [stoOf_stoD] at hρ
    cases hρ
    exact h5
  · cases hρ
/-- the store changes -/
theorem Good.setS (g : Good K F G ρ own B σ H) (hS : G.getD S Mode.fz = .sto) (hfl : flatG S G = true) (hρ : stoR S ρ = some os) (gr : Ground F own' B' H') (st : StoR K B' H' own' os') (e : Ext B B')
    (c : ∀ (l : Addr) (i : Nat) (r : Lab), i + 1 ≠ SH → own l = some ((i + 1) :: r) → own' l = some ((i + 1) :: r) ∧ H' l = H l) (s : ∀ (a : Addr) (n : Nat), own a = some [SH, n] → own' a = some [SH, n]) :
    Good K F G (T.setS S os' ρ) own' B' σ H' where
  gr := gr
  len := by simpa [T.setS] using g.len
  slots := fun i d hd => by
    unfold T.setS at hd
    by_cases hi : S = i
    · subst hi
      have hl : S < ρ.length := by
        have := (List.getElem?_eq_some_iff.mp hd).1
        simpa using this
      rw [List.getElem?_set_self hl] at hd
      cases hd
      unfold stoR at hρ
      split at hρ
      · rename_i d0 e0
        obtain ⟨v, h1, h2⟩ := g.slots S d0 e0
        rw [hS] at h2 ⊢
        exact ⟨v, h1, h2.1, os', rfl, st⟩
      · cases hρ
    · rw [List.getElem?_set_ne hi] at hd
      obtain ⟨v, h1, h2⟩ := g.slots i d hd
      have hl := (List.getElem?_eq_some_iff.mp hd).1
      have hg := g.len
      refine ⟨v, h1, VRep.flat (flatG_at hfl (Ne.symm hi)) e (fun l r hl' => c l i r (by show i + 1 ≠ 1000000; omega) hl') s h2⟩
theorem AnyR.step {own : Own} {F B H B' H' : Hp} {v : V} {d : D} (h : AnyR K B own v d) (s : Step own F B H B' H') : AnyR K B' own v d := h.keep s.ext fun _ _ _ h => h
theorem AnyR.gr {v : V} {d : D} (h : AnyR K B own v d) (s : Gr own B own' B') : AnyR K B' own' v d := by
  rcases h with ⟨h1, h2⟩ | ⟨n, a, h1, h2, h3⟩
  · exact .inl ⟨h1, h2.mono s.ext⟩
  · exact .inr ⟨n, a, h1, h2, s.le _ _ h3⟩
theorem AnyR.fz {v : V} {d : D} (h : AnyR K B own v d) (n : d.nref = true) : Rp K B v d := by
  rcases h with ⟨h1, h2⟩ | ⟨m, a, h1, h2, h3⟩
  · exact h2
  · subst h1
    cases n
theorem AnyR.ref {v : V} {d : D} {n : Nat} (h : AnyR K B own v d) (e : refN d = some n) : ∃ a, d = refD n ∧ v = .ref a ∧ own a = some [SH, n] := by
  rcases h with ⟨h1, h2⟩ | ⟨m, a, h1, h2, h3⟩
  · rw [nref_refN h1] at e
    cases e
  · subst h1
    rw [refN_ref] at e
    cases e
    exact ⟨a, rfl, h2, h3⟩
/-- a slot takes any value -/
theorem Good.setA (g : Good K F G ρ own B σ H) {i : Nat} {v : V} {d : D} (hG : G.getD i .fz = .any) (r : AnyR K B own v d) : Good K F G (ρ.set i (some d)) own B (σ.set i (some v)) H where
  gr := g.gr
  len := by simpa using g.len
  slots := fun j e he => by
    have hl := g.len
    by_cases hj : i = j
    · subst hj
      have hlt : i < ρ.length := by
        have := (List.getElem?_eq_some_iff.mp he).1
        simpa using this
      rw [List.getElem?_set_self hlt] at he
      cases he
      refine ⟨v, List.getElem?_set_self (by omega), ?_⟩
      rw [hG]
      exact r
    · rw [List.getElem?_set_ne hj] at he
      obtain ⟨w, h1, h2⟩ := g.slots j e he
      exact ⟨w, by rw [List.getElem?_set_ne hj]; exact h1, h2⟩
end
end T

set_option Elab.async false
set_option linter.all false
set_option maxRecDepth 100000
set_option maxHeartbeats 4000000
/-! S-layer, part B: values; expressions that change the store; statements. -/
namespace T
open PySem PySem.Spec PyProof.Rows L2
/-- frozen values only -/
def nrR (d : D) : Res D := if d.nref = true then .ok d else .no
def nrV (g : Rho → Res D) : Rho → Res D := fun ρ => (g ρ).bind nrR
/-- an attribute: by classes its place, what it holds -/
abbrev FT := List (Nat × Nat × FM)
def fldD (tab : FT) (so : Option (List D)) (d : D) : Res D := match refN d with
  | some n => match so with
    | some os => match os[n]? with
      | some (.ins c ds) => match tab.lookup c with
        | some (k, .any) => match ds[k]? with
          | some x => .ok x
          | none => .no
        | _ => .no
      | _ => .no
    | none => .no
  | none => match d with
    | .ins c ds => match tab.lookup c with
      | some (k, _) => match ds[k]? with
        | some x => nrR x
        | none => .no
      | none => .no
    | _ => .no
def fldS (S : Nat) (tab : FT) (g : Rho → Res D) : Rho → Res D := fun ρ => (g ρ).bind fun d => fldD tab (stoR S ρ) d
/-- the content of a thing (references in it: nothing known of them) -/
def cntR (d : D) : Res D := match d with
  | .lst _ | .dct _ => .ok d
  | _ => .no
def conD2 (tab : FT) (so : Option (List D)) (d : D) : Res D := match refN d with
  | some n => match so with
    | some os => match os[n]? with
      | some (.ins c ds) => match tab.lookup c with
        | some (k, .any) => .no
        | some (k, _) => match ds[k]? with
          | some x => cntR x
          | none => .no
        | none => .no
      | _ => .no
    | none => .no
  | none => .no
/-- a list or dict of its own, in an attribute, read -/
def conS (S : Nat) (tab : FT) (g : Rho → Res D) : Rho → Res D := fun ρ => (g ρ).bind fun d => conD2 tab (stoR S ρ) d
/-- a value, read: a thing of the store by its content -/
def derD (so : Option (List D)) (d : D) : Res D := match refN d with
  | some n => match so with
    | some os => match os[n]? with
      | some x => cntR x
      | none => .no
    | none => .no
  | none => nrR d
def derS (S : Nat) (g : Rho → Res D) : Rho → Res D := fun ρ => (g ρ).bind fun d => derD (stoR S ρ) d
variable [Mg]
def FldT (K : PySem.W.Frag) (f : Str) (tab : FT) : Prop := ∀ (c k : Nat) (m : FM), tab.lookup c = some (k, m) → Fld K c f k ∧ Mg.fm c k = m
def EvP (X : Cx) (W : WX) (G : List Mode) (t : TE) (g : Rho → Res D) : Prop :=
  ∀ (F : Hp) (ρ : Rho) (own : Own) (B : Hp) (σ : L2.St) (H : Hp) (Q : VK), Good X.K F G ρ own B σ H →
    (g ρ).has (fun d => ∀ (v : V) (B' H' : Hp), Step own F B H B' H' → AnyR X.K B' own v d → Q v H') (WOk X.K X.mg W own F B H σ) → t σ H Q
/-- any value, the store unchanged -/
def PJ (X : Cx) (W : WX) (G : List Mode) (e : Expr) (g : Rho → Res D) : Prop := ∃ t, PE X e t ∧ EvP X W G t g
section
variable {K : PySem.W.Frag} {B H : Hp} {own : Own}
omit [Mg] in
theorem nrR_has {d : D} {P : D → Prop} {E : Exn → Prop} (h : (nrR d).has P E) : d.nref = true ∧ P d := by
  unfold nrR at h
  split at h
  · rename_i hn
    exact ⟨hn, h⟩
  · exact h.elim
theorem AnyA.fz {vs : List V} {ds : List D} (h : AnyA K B own vs ds) (n : ds.all D.nref = true) : RpA K B vs ds :=
  RpA.of_get h.1 fun k v d h1 h2 => (h.2 k v d h1 h2).fz (List.all_eq_true.mp n d (List.mem_of_getElem? h2))
theorem AnyD.fz {o : HO} {kvs : List (D × D)} (h : AnyD K B own o kvs) (n : kvs.all (fun p => p.2.nref) = true) : RpD K B o kvs := by
  rcases h with ⟨ps, h1, h2, h3⟩ | ⟨ps, h1, h2, h3⟩
  · refine .inl ⟨ps, h1, ?_⟩
    clear h1
    induction ps generalizing kvs with
    | nil =>
      cases kvs with
      | nil => exact .nil
      | cons _ _ => cases h2
    | cons p ps ih =>
      cases kvs with
      | nil => cases h2
      | cons q kvs =>
        obtain ⟨a, b⟩ := h3 0 p q rfl rfl
        have hn := List.all_cons.symm.trans n
        rw [Bool.and_eq_true] at hn
        have r := ih (kvs := kvs) hn.2 (by simpa using h2) (fun k p' q' e1 e2 => h3 (k + 1) p' q' (by simpa using e1) (by simpa using e2))
        obtain ⟨key, v⟩ := p
        obtain ⟨kd, d⟩ := q
        simp only at a b hn
        subst a
        cases key with
        | inl i => exact .consI (b.fz hn.1) r
        | inr i => exact .consS (b.fz hn.1) r
  · refine .inr ⟨ps, h1, ?_⟩
    clear h1
    induction ps generalizing kvs with
    | nil =>
      cases kvs with
      | nil => exact .nil
      | cons _ _ => cases h2
    | cons p ps ih =>
      cases kvs with
      | nil => cases h2
      | cons q kvs =>
        obtain ⟨a, b⟩ := h3 0 p q rfl rfl
        have hn := List.all_cons.symm.trans n
        rw [Bool.and_eq_true] at hn
        have r := ih (kvs := kvs) hn.2 (by simpa using h2) (fun k p' q' e1 e2 => h3 (k + 1) p' q' (by simpa using e1) (by simpa using e2))
        obtain ⟨key, v⟩ := p
        obtain ⟨kd, d⟩ := q
        simp only at a b hn
        subst a
        exact .cons (b.fz hn.1) r
theorem AnyR.rp {v : V} {d : D} (h : AnyR K B own v d) : Rp K B v d := by
  rcases h with ⟨_, h⟩ | ⟨n, a, rfl, rfl, _⟩
  · exact h
  · exact .exc _ _
theorem AnyA.rp {vs : List V} {ds : List D} (h : AnyA K B own vs ds) : RpA K B vs ds := RpA.of_get h.1 fun k v d h1 h2 => (h.2 k v d h1 h2).rp
theorem AnyD.rp {o : HO} {kvs : List (D × D)} (h : AnyD K B own o kvs) : RpD K B o kvs := by
  rcases h with ⟨ps, h1, h2, h3⟩ | ⟨ps, h1, h2, h3⟩
  · refine .inl ⟨ps, h1, ?_⟩
    clear h1
    induction ps generalizing kvs with
    | nil =>
      cases kvs with
      | nil => exact .nil
      | cons _ _ => cases h2
    | cons p ps ih =>
      cases kvs with
      | nil => cases h2
      | cons q kvs =>
        obtain ⟨a, b⟩ := h3 0 p q rfl rfl
        have r := ih (kvs := kvs) (by simpa using h2) (fun k p' q' e1 e2 => h3 (k + 1) p' q' (by simpa using e1) (by simpa using e2))
        obtain ⟨key, v⟩ := p
        obtain ⟨kd, d⟩ := q
        simp only at a b
        subst a
        cases key with
        | inl i => exact .consI b.rp r
        | inr i => exact .consS b.rp r
  · refine .inr ⟨ps, h1, ?_⟩
    clear h1
    induction ps generalizing kvs with
    | nil =>
      cases kvs with
      | nil => exact .nil
      | cons _ _ => cases h2
    | cons p ps ih =>
      cases kvs with
      | nil => cases h2
      | cons q kvs =>
        obtain ⟨a, b⟩ := h3 0 p q rfl rfl
        have r := ih (kvs := kvs) (by simpa using h2) (fun k p' q' e1 e2 => h3 (k + 1) p' q' (by simpa using e1) (by simpa using e2))
        obtain ⟨key, v⟩ := p
        obtain ⟨kd, d⟩ := q
        simp only at a b
        subst a
        exact .cons b.rp r
end
section
variable {X : Cx} {W : WX} {G : List Mode} {e o : Expr} {x f : Str} {pos : Pos} {i S : Nat}
theorem pj_ej {g : Rho → Res D} (h : EJ X W G e g) : PJ X W G e (nrV g) := by
  obtain ⟨t, pe, ve⟩ := h
  refine ⟨t, pe, fun F ρ own B σ H Q gd q => ve F ρ own B σ H Q gd (Res.has_mono (Res.has_bind q) (fun d q v B' H' s r => ?_) fun _ x => x)⟩
  obtain ⟨hn, q⟩ := nrR_has q
  exact q v B' H' s (.inl ⟨hn, r⟩)
theorem ej_pj {g : Rho → Res D} (h : PJ X W G e g) : EJ X W G e (nrV g) := by
  obtain ⟨t, pe, ve⟩ := h
  refine ⟨t, pe, fun F ρ own B σ H Q gd q => ve F ρ own B σ H Q gd (Res.has_mono (Res.has_bind q) (fun d q v B' H' s r => ?_) fun _ x => x)⟩
  obtain ⟨hn, q⟩ := nrR_has q
  exact q v B' H' s (r.fz hn)
theorem pj_var {i : Nat} (h : PE X (.Name x pos) (tVar i)) (hm : G.getD i .fz = .any := by rfl) : PJ X W G (.Name x pos) (getV i) := ⟨_, h, fun F ρ own B σ H Q gd q => by
  unfold getV at q
  split at q
  · rename_i d e
    obtain ⟨v, h1, h2⟩ := gd.slots i d e
    rw [hm] at h2
    exact ⟨v, h1, q v B H (.refl gd.gr) h2⟩
  · exact q.elim⟩
theorem ej_varA {i : Nat} (h : PE X (.Name x pos) (tVar i)) (hm : G.getD i .fz = .any := by rfl) : EJ X W G (.Name x pos) (nrV (getV i)) := ej_pj (pj_var h hm)
/-- e.f -/
theorem pj_fld {tab : FT} {g : Rho → Res D} (hf : FldT X.K f tab) (he : PJ X W G e g) (hS : G.getD S .fz = .sto := by rfl) (hb : attributeBase e f X.env (eval e X.env) = eval e X.env := by rfl) : PJ X W G (.Attribute e f pos) (fldS S tab g) := by
  obtain ⟨t, pe, ve⟩ := he
  refine ⟨_, pe_fld pe hb, fun F ρ own B σ H Q gd q => ?_⟩
  refine ve F ρ own B σ H _ gd (Res.has_mono (Res.has_bind q) (fun d q v B' H' s r => ?_) fun _ x => x)
  unfold fldD at q
  split at q
  · rename_i n hn
    obtain ⟨a, rfl, rfl, ho⟩ := r.ref hn
    split at q
    · rename_i os hos
      split at q
      · rename_i c ds hc
        split at q
        · rename_i k hk
          split at q
          · rename_i y hy
            have st := (gd.step s).sto hS hos
            obtain ⟨dx, vs, h1, h2, h3, h4⟩ := st.obj hc ho
            obtain ⟨hF, hM⟩ := hf c k _ hk
            have hkl : k < vs.length := by rw [h3]; exact (List.getElem?_eq_some_iff.mp hy).1
            have hu : (vs.map (·.2))[k]? = some (vs[k]'hkl).2 := by rw [List.getElem?_map, List.getElem?_eq_getElem hkl]; rfl
            have h5 := h4 k _ _ hu hy
            rw [hM] at h5
            exact ⟨_, _, _, _, _, rfl, h1, hF.cls, hF.no, hF.look h2 hu, q _ B' H' s h5⟩
          · exact q.elim
        · exact q.elim
      · exact q.elim
    · exact q.elim
  · split at q
    · rename_i c ds _
      split at q
      · rename_i k m hk
        split at q
        · rename_i y hy
          obtain ⟨hn, q⟩ := nrR_has q
          have hF := (hf c k _ hk).1
          have r' := r.fz (d := .ins c ds) rfl
          cases r' with
          | ins hB hk2 ra =>
            obtain ⟨u, hu, ru⟩ := ra.nth hy
            exact ⟨_, _, _, _, u, rfl, s.base _ _ hB, hF.cls, hF.no, hF.look hk2 hu, q u B' H' s (.inl ⟨hn, ru⟩)⟩
        · exact q.elim
      · exact q.elim
    · exact q.elim
omit [Mg] in
theorem cntR_has {d : D} {P : D → Prop} {E : Exn → Prop} (h : (cntR d).has P E) : P d ∧ ((∃ xs, d = .lst xs) ∨ ∃ kvs, d = .dct kvs) := by
  unfold cntR at h
  split at h
  · rename_i xs
    exact ⟨h, .inl ⟨xs, rfl⟩⟩
  · rename_i xs
    exact ⟨h, .inr ⟨xs, rfl⟩⟩
  · exact h.elim
/-- e.f, a list or dict of its own -/
theorem bj_con {tab : FT} {g : Rho → Res D} (hf : FldT X.K f tab) (he : PJ X W G e g) (hS : G.getD S .fz = .sto := by rfl) (hb : attributeBase e f X.env (eval e X.env) = eval e X.env := by rfl) : BJ X W G (.Attribute e f pos) (conS S tab g) := by
  obtain ⟨t, pe, ve⟩ := he
  refine ⟨_, pe_fld pe hb, fun F ρ own B σ H Q gd q => ?_⟩
  refine ve F ρ own B σ H _ gd (Res.has_mono (Res.has_bind q) (fun d q v B' H' s r => ?_) fun _ x => x)
  unfold conD2 at q
  split at q
  case h_2 => exact q.elim
  rename_i n hn
  obtain ⟨a, rfl, rfl, ho⟩ := r.ref hn
  split at q
  case h_2 => exact q.elim
  rename_i os hos
  split at q
  case h_2 => exact q.elim
  rename_i c ds hc
  split at q
  · exact q.elim
  case h_3 => exact q.elim
  rename_i k m hne hk
  split at q
  case h_2 => exact q.elim
  rename_i y hy
  have st := (gd.step s).sto hS hos
  obtain ⟨dx, vs, h1, h2, h3, h4⟩ := st.obj hc ho
  obtain ⟨hF, hM⟩ := hf c k _ hk
  have hkl : k < vs.length := by rw [h3]; exact (List.getElem?_eq_some_iff.mp hy).1
  have hu : (vs.map (·.2))[k]? = some (vs[k]'hkl).2 := by rw [List.getElem?_map, List.getElem?_eq_getElem hkl]; rfl
  have h5 := h4 k _ _ hu hy
  rw [hM] at h5
  obtain ⟨q, hcn⟩ := cntR_has q
  refine ⟨_, _, _, _, _, rfl, h1, hF.cls, hF.no, hF.look h2 hu, q _ B' H' s ?_⟩
  cases m with
  | any => exact (hne rfl).elim
  | lst =>
    obtain ⟨l, us, es, e1, e2, e3, e4, e5⟩ := h5
    subst e2
    rcases hcn with ⟨xs, z⟩ | ⟨xs, z⟩
    · cases z
      exact .inr (.inl ⟨l, us, es, e1, rfl, by rw [e3]; simp, e4, e5.rp⟩)
    · cases z
  | dct =>
    obtain ⟨l, us, es, e1, e2, e3, e4, e5⟩ := h5
    subst e2
    rcases hcn with ⟨xs, z⟩ | ⟨xs, z⟩
    · cases z
    · cases z
      exact .inr (.inr ⟨l, us, es, e1, rfl, by rw [e3]; simp, e4, e5.rp⟩)
/-- a value, read -/
theorem bj_der {g : Rho → Res D} (he : PJ X W G e g) (hS : G.getD S .fz = .sto := by rfl) : BJ X W G e (derS S g) := by
  obtain ⟨t, pe, ve⟩ := he
  refine ⟨t, pe, fun F ρ own B σ H Q gd q => ?_⟩
  refine ve F ρ own B σ H _ gd (Res.has_mono (Res.has_bind q) (fun d q v B' H' s r => ?_) fun _ x => x)
  unfold derD at q
  split at q
  · rename_i n hn
    obtain ⟨a, rfl, rfl, ho⟩ := r.ref hn
    split at q
    case h_2 => exact q.elim
    rename_i os hos
    split at q
    case h_2 => exact q.elim
    rename_i y hy
    have st := (gd.step s).sto hS hos
    have hr := st.obj hy ho
    obtain ⟨q, hcn⟩ := cntR_has q
    refine q _ B' H' s ?_
    have hno : own a ≠ none := by rw [ho]; exact fun z => nomatch z
    rcases hcn with ⟨xs, rfl⟩ | ⟨xs, rfl⟩
    · obtain ⟨us, e4, e5⟩ := hr
      exact .inr (.inl ⟨a, us, xs, rfl, rfl, hno, e4, e5.rp⟩)
    · obtain ⟨us, e4, e5⟩ := hr
      exact .inr (.inr ⟨a, us, xs, rfl, rfl, hno, e4, e5.rp⟩)
  · obtain ⟨hn, q⟩ := nrR_has q
    exact q v B' H' s (.inl (r.fz hn))
end
/-! ### changes of the store -/
def WMk (X : Cx) (W : WX) (G : List Mode) (F : Hp) (own : Own) (B : Hp) (σ : L2.St) (e : Exn) (ρ' : Rho) : Prop :=
  ∀ (c : Value) (dx : Option Addr) (own' : Own) (B' H' : Hp), Gr own B own' B' → Good X.K F G ρ' own' B' σ H' → ExR X.K X.mg B' H' e c dx → W c dx σ H'
theorem WMk.ext {X : Cx} {W : WX} {G : List Mode} {F : Hp} {own own' : Own} {B B' : Hp} {σ : L2.St} {e : Exn} {ρ' : Rho} (w : WMk X W G F own B σ e ρ') (h : Gr own B own' B') : WMk X W G F own' B' σ e ρ' := fun c dx own2 B2 H2 e2 => w c dx own2 B2 H2 (h.trans e2)
theorem WMk.ok {X : Cx} {W : WX} {G : List Mode} {F B H : Hp} {own : Own} {ρ : Rho} {σ : L2.St} {e : Exn} (g : Good X.K F G ρ own B σ H) (w : WMk X W G F own B σ e ρ) : WOk X.K X.mg W own F B H σ e := fun c dx B' H' s x => w c dx own B' H' s.g (g.step s) x
def EvM (X : Cx) (W : WX) (G : List Mode) (md : Mode) (t : TE) (g : Rho → ResM D) : Prop :=
  ∀ (F : Hp) (ρ : Rho) (own : Own) (B : Hp) (σ : L2.St) (H : Hp) (Q : VK), Good X.K F G ρ own B σ H →
    (g ρ).has (fun d ρ' => ∀ (v : V) (own' : Own) (B' H' : Hp), Gr own B own' B' → Good X.K F G ρ' own' B' σ H' → VRep X.K B' H' own' md [0] v d → Q v H') (WMk X W G F own B σ) → t σ H Q
def EvMA (X : Cx) (W : WX) (G : List Mode) (t : TA) (g : Rho → ResM (List D)) : Prop :=
  ∀ (F : Hp) (ρ : Rho) (own : Own) (B : Hp) (σ : L2.St) (H : Hp) (Q : List V → Hp → Prop), Good X.K F G ρ own B σ H →
    (g ρ).has (fun ds ρ' => ∀ (us : List V) (own' : Own) (B' H' : Hp), Gr own B own' B' → Good X.K F G ρ' own' B' σ H' → AnyA X.K B' own' us ds → Q us H') (WMk X W G F own B σ) → t σ H Q
/-- e gives a thing of mode md, and may change the store -/
def MJ (X : Cx) (W : WX) (G : List Mode) (md : Mode) (e : Expr) (g : Rho → ResM D) : Prop := ∃ t, PE X e t ∧ EvM X W G md t g
def MAJ (X : Cx) (W : WX) (G : List Mode) (es : List Expr) (g : Rho → ResM (List D)) : Prop := ∃ t, PA X es t ∧ EvMA X W G t g
def noM : Rho → ResM (List D) := fun ρ => .ok [] ρ
def consM (g : Rho → ResM D) (h : Rho → ResM (List D)) : Rho → ResM (List D) := fun ρ => (g ρ).bind fun d ρ1 => (h ρ1).bind fun ds ρ2 => .ok (d :: ds) ρ2
def nrM (g : Rho → ResM D) : Rho → ResM D := fun ρ => (g ρ).bind fun d ρ1 => liftM (nrR d) ρ1
section
variable {K : PySem.W.Frag} {B B' : Hp} {own own' : Own}
theorem AnyA.nil : AnyA K B own [] [] := ⟨rfl, fun k v d h => by simp at h⟩
theorem AnyA.cons {v : V} {vs : List V} {d : D} {ds : List D} (h : AnyR K B own v d) (h' : AnyA K B own vs ds) : AnyA K B own (v :: vs) (d :: ds) := ⟨by simp [h'.1], fun k u e h1 h2 => by
  cases k with
  | zero =>
    simp at h1 h2
    subst h1 h2
    exact h
  | succ k => exact h'.2 k u e (by simpa using h1) (by simpa using h2)⟩
theorem AnyA.gr {vs : List V} {ds : List D} (h : AnyA K B own vs ds) (s : Gr own B own' B') : AnyA K B' own' vs ds := ⟨h.1, fun k v d h1 h2 => (h.2 k v d h1 h2).gr s⟩
end
section
variable {X : Cx} {W : WX} {G : List Mode} {md : Mode} {e a b : Expr} {es : List Expr} {x : Str} {pos : Pos}
theorem mj_pj {g : Rho → Res D} (h : PJ X W G e g) : MJ X W G .any e (pureM g) := by
  obtain ⟨t, pe, ve⟩ := h
  exact ⟨t, pe, fun F ρ own B σ H Q gd q => ve F ρ own B σ H Q gd (Res.has_mono (liftM_has q) (fun d q v B' H' s r => q v own B' H' s.g (gd.step s) r) fun e x => WMk.ok gd x)⟩
theorem mj_ej {g : Rho → Res D} (h : EJ X W G e g) : MJ X W G .fz e (pureM g) := by
  obtain ⟨t, pe, ve⟩ := h
  exact ⟨t, pe, fun F ρ own B σ H Q gd q => ve F ρ own B σ H Q gd (Res.has_mono (liftM_has q) (fun d q v B' H' s r => q v own B' H' s.g (gd.step s) r) fun e x => WMk.ok gd x)⟩
omit [Mg] in
theorem nrM_has {d : D} {ρ : Rho} {P : D → Rho → Prop} {E : Exn → Rho → Prop} (h : (liftM (nrR d) ρ).has P E) : d.nref = true ∧ P d ρ := nrR_has (liftM_has h)
theorem mj_fz {g : Rho → ResM D} (h : MJ X W G .any e g) : MJ X W G .fz e (nrM g) := by
  obtain ⟨t, pe, ve⟩ := h
  refine ⟨t, pe, fun F ρ own B σ H Q gd q => ve F ρ own B σ H Q gd (ResM.has_mono (ResM.has_bind q) (fun d ρ1 q v own' B' H' s g1 r => ?_) fun _ _ x => x)⟩
  obtain ⟨hn, q⟩ := nrM_has q
  exact q v own' B' H' s g1 (AnyR.fz r hn)
theorem mj_any {g : Rho → ResM D} (h : MJ X W G .fz e g) : MJ X W G .any e (nrM g) := by
  obtain ⟨t, pe, ve⟩ := h
  refine ⟨t, pe, fun F ρ own B σ H Q gd q => ve F ρ own B σ H Q gd (ResM.has_mono (ResM.has_bind q) (fun d ρ1 q v own' B' H' s g1 r => ?_) fun _ _ x => x)⟩
  obtain ⟨hn, q⟩ := nrM_has q
  exact q v own' B' H' s g1 (.inl ⟨hn, r⟩)
theorem maj_nil : MAJ X W G [] noM := ⟨_, pa_nil, fun F ρ own B σ H Q gd q => q [] own B H .refl gd .nil⟩
theorem maj_cons {g : Rho → ResM D} {h : Rho → ResM (List D)} (he : MJ X W G .any e g) (hr : MAJ X W G es h) (hs : starEach (e :: es) X.env = (false, eval e X.env) :: starEach es X.env := by rfl) : MAJ X W G (e :: es) (consM g h) := by
  obtain ⟨t, pe, ve⟩ := he
  obtain ⟨u, pu, vu⟩ := hr
  refine ⟨_, pa_cons pe pu hs, fun F ρ own B σ H Q gd q => ?_⟩
  refine ve F ρ own B σ H _ gd (ResM.has_mono (ResM.has_bind q) (fun d ρ1 q v own1 B1 H1 e1 g1 r1 => ?_) fun _ _ x => x)
  refine vu F ρ1 own1 B1 σ H1 _ g1 (ResM.has_mono (ResM.has_bind q) (fun ds ρ2 q us own2 B2 H2 e2 g2 r2 => ?_) fun _ _ x => x.ext e1)
  exact q (v :: us) own2 B2 H2 (e1.trans e2) g2 (.cons (AnyR.gr r1 e2) r2)
/-! operators -/
variable {op : Operator}
def binM (f : D → D → Res D) (ga gb : Rho → ResM D) : Rho → ResM D := fun ρ => (ga ρ).bind fun x ρ1 => (gb ρ1).bind fun y ρ2 => liftM (f x y) ρ2
theorem ev_opM {r : R2} {f : D → D → Res D} {ta tb : TE} {ga gb : Rho → ResM D} (ho : OpD X r f) (hf : Calm f) (ha : EvM X W G Mode.fz ta ga) (hb : EvM X W G Mode.fz tb gb) : EvM X W G Mode.fz (tOp r ta tb) (binM f ga gb) := fun F ρ own B σ H Q gd q => by
  refine ha F ρ own B σ H _ gd (ResM.has_mono (ResM.has_bind q) (fun dx ρ1 q v own1 B1 H1 e1 g1 r1 => ?_) fun _ _ x => x)
  refine hb F ρ1 own1 B1 σ H1 _ g1 (ResM.has_mono (ResM.has_bind q) (fun dy ρ2 q w own2 B2 H2 e2 g2 r2 => ?_) fun _ _ x => x.ext e1)
  have r1' : Rp X.K B1 v dx := r1
  have r2' : Rp X.K B2 w dy := r2
  refine ho F own2 B2 H2 v w dx dy Q g2.gr (.inl (r1'.mono e2.ext)) (.inl r2') (Res.has_calm (hf dx dy) (liftM_has q) fun d q v' B' H' s3 r3 => q v' own2 B' H' ((e1.trans e2).trans s3.g) (g2.step s3) r3)
theorem mj_bin {f : D → D → Res D} {ga gb : Rho → ResM D} (ho : ∃ r, OpR X (binaryOp op) r ∧ OpD X r f) (hf : Calm f) (ha : MJ X W G Mode.fz a ga) (hb : MJ X W G Mode.fz b gb) : MJ X W G Mode.fz (.BinOp a op b pos) (binM f ga gb) := by
  obtain ⟨r, h1, h2⟩ := ho
  obtain ⟨ta, pa, va⟩ := ha
  obtain ⟨tb, pb, vb⟩ := hb
  exact ⟨_, pe_op h1 pa pb, ev_opM h2 hf va vb⟩
theorem mj_cmp {op : CmpOp} {f : D → D → Res D} {ga gb : Rho → ResM D} (ho : ∃ r, OpR X (compareOp op) r ∧ OpD X r f) (hf : Calm f) (hm : behindInMarks op b = false) (ha : MJ X W G Mode.fz a ga) (hb : MJ X W G Mode.fz b gb) : MJ X W G Mode.fz (.Compare a [op] [b] pos) (binM f ga gb) := by
  obtain ⟨r, h1, h2⟩ := ho
  obtain ⟨ta, pa, va⟩ := ha
  obtain ⟨tb, pb, vb⟩ := hb
  exact ⟨_, pe_cmpR h1 pa pb hm, ev_opM h2 hf va vb⟩
theorem mj_ix {ga gb : Rho → ResM D} (ha : MJ X W G Mode.fz a ga) (hb : MJ X W G Mode.fz b gb) (hs : PlainIx b := by exact fun _ _ => rfl) : MJ X W G Mode.fz (.Subscript a b pos) (binM dIx ga gb) := by
  obtain ⟨ta, pa, va⟩ := ha
  obtain ⟨tb, pb, vb⟩ := hb
  exact ⟨_, pe_ix ix_seq pa pb hs, ev_opM op_ix calm_ix va vb⟩
/-- frozen arguments -/
def frzA (g : Rho → ResM (List D)) : Rho → ResM (List D) := fun ρ => (g ρ).bind fun ds ρ1 => if ds.all D.nref = true then .ok ds ρ1 else .no
def tupM (g : Rho → ResM (List D)) : Rho → ResM D := fun ρ => (g ρ).bind fun ds ρ1 => if ds.all D.nref = true ∧ ds.length ≤ sizeLine then .ok (.tup ds) ρ1 else .no
theorem mj_tup {x1} {g : Rho → ResM (List D)} (h : MAJ X W G es g) : MJ X W G Mode.fz (.Tuple es x1 pos) (tupM g) := by
  obtain ⟨t, p, v⟩ := h
  refine ⟨_, pe_tup p, fun F ρ own B σ H Q gd q => ?_⟩
  refine v F ρ own B σ H _ gd (ResM.has_mono (ResM.has_bind q) (fun ds ρ1 q us own1 B1 H1 e1 g1 r => ?_) fun _ _ x => x)
  split at q
  · rename_i hz
    have r' := r.fz hz.1
    exact ⟨by rw [r.1]; exact hz.2, fun n hn => new_tup g1.gr r' (fun v B2 H2 t r2 => q v own1 B2 H2 (e1.trans t.g) (g1.step t) r2) n hn⟩
  · exact q.elim
def callP (m : List D → Res D) (g : Rho → ResM (List D)) : Rho → ResM D := fun ρ => (g ρ).bind fun ds ρ1 => if ds.all D.nref = true then liftM (m ds) ρ1 else .no
theorem rpa_sna {K : PySem.W.Frag} {own : Own} {B H : Hp} : ∀ {vs : List V} {ds : List D}, RpA K B vs ds → SnA K own B H vs ds
  | _, _, .nil => .nil
  | _, _, .cons r rs => .cons (.inl r) (rpa_sna rs)
theorem ev_cbM {r : List V → Hp → VK → Prop} {f : List D → Res D} {t : TA} {g : Rho → ResM (List D)} (hf : CallD X r f) (ha : EvMA X W G t g) : EvM X W G Mode.fz (tCB r t) (callP f g) := fun F ρ own B σ H Q gd q => by
  refine ha F ρ own B σ H _ gd (ResM.has_mono (ResM.has_bind q) (fun ds ρ1 q us own1 B1 H1 e1 g1 rs => ?_) fun _ _ x => x)
  split at q
  case isFalse => exact q.elim
  rename_i hn
  refine hf.2 F own1 B1 H1 us ds Q g1.gr (rpa_sna (rs.fz hn)) ?_
  have q := liftM_has q
  cases hd : f ds with
  | ok d =>
    rw [hd] at q
    exact fun v B2 H2 t r2 => q v own1 B2 H2 (e1.trans t.g) (g1.step t) r2
  | ex e => exact absurd hd (hf.1 ds e)
  | no =>
    rw [hd] at q
    exact q
variable {id Ty : String} {p : Pos} {k n : Nat} {fd : FuncData} {ps : List Str}
theorem mj_B {f : List D → Res D} {g : Rho → ResM (List D)} (hf : ∃ r, CallR X (.builtin id) r ∧ CallD X r f) (hg : Gl X x) (hm : X.mg x = none) (hv : bootBuiltins x = some (.builtin id)) (ha : MAJ X W G (e :: es) g) (hn : x ≠ "__name__" := by decide) (hdb : (x == ("__debug__" : Str)) = false := by decide)
    (he : starEach (e :: es) X.env = (false, eval e X.env) :: starEach es X.env := by rfl) (hpl : (backTo pos (starEach es X.env)).any (·.1) = false := by rfl) : MJ X W G Mode.fz (.Call (.Name x p) (e :: es) [] pos) (callP f g) := by
  obtain ⟨r, h1, h2⟩ := hf
  obtain ⟨t, pa, va⟩ := ha
  exact ⟨_, pe_callB h1 hg hm hv pa hn hdb he hpl, ev_cbM h2 va⟩
theorem mj_Ty {f : List D → Res D} {g : Rho → ResM (List D)} (hf : ∃ r, CallR X (.type Ty) r ∧ CallD X r f) (hg : Gl X x) (hm : X.mg x = none) (hv : bootBuiltins x = some (.type Ty)) (ha : MAJ X W G (e :: es) g) (hn : x ≠ "__name__" := by decide) (hdb : (x == ("__debug__" : Str)) = false := by decide)
    (he : starEach (e :: es) X.env = (false, eval e X.env) :: starEach es X.env := by rfl) (hpl : (backTo pos (starEach es X.env)).any (·.1) = false := by rfl) : MJ X W G Mode.fz (.Call (.Name x p) (e :: es) [] pos) (callP f g) := by
  obtain ⟨r, h1, h2⟩ := hf
  obtain ⟨t, pa, va⟩ := ha
  exact ⟨_, pe_callTy h1 hg hm hv pa hn hdb he hpl, ev_cbM h2 va⟩
/-- a plain def, its arguments over changes -/
theorem mj_callF {m : List D → Res D} {ad : Addr} {g : Rho → ResM (List D)} (hlen : ∀ ds, ds.length ≠ n → m ds = .no) (Fn : FnOk X.prog X.w X.K X.mg X.base (L2.CX X.prog X.w) k ad fd ps (spT X.K X.mg Mode.fz n m)) (hr : Room k X.A) (hg : Gl X x) (hm : X.mg x = some (.ref ad)) (hk : PySem.W.keepIn X.K (.ref ad) = true) (hb : Binds X.K fd ps [])
    (tk : Takes X W) (ha : MAJ X W G (e :: es) g) (hdb : (x == ("__debug__" : Str)) = false := by decide) (he : starEach (e :: es) X.env = (false, eval e X.env) :: starEach es X.env := by rfl) (hpl : (backTo pos (starEach es X.env)).any (·.1) = false := by rfl) :
    MJ X W G Mode.fz (.Call (.Name x p) (e :: es) [] pos) (callP m g) := by
  obtain ⟨t, pa, va⟩ := ha
  refine ⟨_, pe_callS Fn hr hg hm hk hb (fun σ => passAt tk σ) pa hdb he hpl, fun F ρ own B σ H Q gd q => ?_⟩
  refine va F ρ own B σ H _ gd (ResM.has_mono (ResM.has_bind q) (fun ds ρ1 q us own1 B1 H1 e1 g1 r => ?_) fun _ _ x => x)
  split at q
  case isFalse => exact q.elim
  rename_i hn
  have hds : ds.length = n := Classical.byContradiction fun z => by
    rw [hlen ds z] at q
    exact q
  refine ⟨ds, lend own1 F H1, B1, hds, r.fz hn, ground_lend g1.gr, ?_⟩
  have q := liftM_has q
  cases hd : m ds with
  | no =>
    rw [hd] at q
    exact q
  | ok d =>
    rw [hd] at q
    exact fun v own' B' H' e' g' r' => q v own1 B' H' (e1.trans (step_lend g1.gr e' g').g) (g1.step (step_lend g1.gr e' g')) r'
  | ex x =>
    rw [hd] at q
    exact fun c dx B' H' e' g' xr => q c dx own1 B' H' (e1.trans (step_lend g1.gr e' g').g) (g1.step (step_lend g1.gr e' g')) xr
end
end T

set_option Elab.async false
set_option linter.all false
set_option maxRecDepth 100000
set_option maxHeartbeats 4000000
/-! S-layer, part C: tests, statements. -/
namespace T
open PySem PySem.Spec PyProof.Rows L2
variable [Mg]
/-! ### tests over changes -/
def EvTM (X : Cx) (W : WX) (G : List Mode) (t : TT) (g : Rho → ResM Bool) : Prop :=
  ∀ (F : Hp) (ρ : Rho) (own : Own) (B : Hp) (σ : L2.St) (H : Hp) (Q : Bool → Hp → Prop), Good X.K F G ρ own B σ H →
    (g ρ).has (fun b ρ' => ∀ (own' : Own) (B' H' : Hp), Gr own B own' B' → Good X.K F G ρ' own' B' σ H' → Q b H') (WMk X W G F own B σ) → t σ H Q
def TMJ (X : Cx) (W : WX) (G : List Mode) (e : Expr) (g : Rho → ResM Bool) : Prop := ∃ t, PT X e t ∧ EvTM X W G t g
def toBM (g : Rho → ResM D) : Rho → ResM Bool := fun ρ => (g ρ).bind fun d ρ1 => match d with
  | .bl b => .ok b ρ1
  | _ => .no
def notM (g : Rho → ResM Bool) : Rho → ResM Bool := fun ρ => (g ρ).bind fun b ρ1 => .ok (!b) ρ1
def andM (g h : Rho → ResM Bool) : Rho → ResM Bool := fun ρ => (g ρ).bind fun b ρ1 => if b = true then h ρ1 else .ok false ρ1
def orM (g h : Rho → ResM Bool) : Rho → ResM Bool := fun ρ => (g ρ).bind fun b ρ1 => if b = true then .ok true ρ1 else h ρ1
section
variable {X : Cx} {W : WX} {L : LM} {G G' : List Mode} {md : Mode} {e a b : Expr} {x : Str} {px pos : Pos} {i : Nat}
theorem ev_testM {t : TE} {g : Rho → ResM D} (h : EvM X W G Mode.fz t g) : EvTM X W G (tTest t) (toBM g) := fun F ρ own B σ H Q gd q => by
  refine h F ρ own B σ H _ gd (ResM.has_mono (ResM.has_bind q) (fun d ρ1 q v own1 B1 H1 e1 g1 r => ?_) fun _ _ x => x)
  have r' : Rp X.K B1 v d := r
  cases d with
  | bl b =>
    cases r'
    exact ⟨b, rfl, q own1 B1 H1 e1 g1⟩
  | _ => exact q.elim
theorem tmj_cmp {op : CmpOp} {f : D → D → Res D} {ga gb : Rho → ResM D} (ho : ∃ r, OpR X (compareOp op) r ∧ OpD X r f) (hf : Calm f) (hm : behindInMarks op b = false) (ha : MJ X W G Mode.fz a ga) (hb : MJ X W G Mode.fz b gb) : TMJ X W G (.Compare a [op] [b] pos) (toBM (binM f ga gb)) := by
  obtain ⟨r, h1, h2⟩ := ho
  obtain ⟨ta, pa, va⟩ := ha
  obtain ⟨tb, pb, vb⟩ := hb
  exact ⟨_, pt_cmpR h1 pa pb hm, ev_testM (ev_opM h2 hf va vb)⟩
theorem tmj_val {g : Rho → ResM D} (h : MJ X W G Mode.fz e g) (he : ∀ whole, isTrue e X.env whole = (do let v ← whole; standAt e.pos; holding [v] (truthy v)) := by intro _; rfl) : TMJ X W G e (toBM g) := by
  obtain ⟨t, p, v⟩ := h
  exact ⟨_, pt_val p he, ev_testM v⟩
theorem tmj_pure {g : Rho → Res Bool} (h : TJ X W G e g) : TMJ X W G e (pureM g) := by
  obtain ⟨t, pe, ve⟩ := h
  exact ⟨t, pe, fun F ρ own B σ H Q gd q => ve F ρ own B σ H Q gd (Res.has_mono (liftM_has q) (fun d q B' H' s => q own B' H' s.g (gd.step s)) fun e x => WMk.ok gd x)⟩
theorem tmj_not {g : Rho → ResM Bool} (h : TMJ X W G a g) : TMJ X W G (.UnaryOp .Not a pos) (notM g) := by
  obtain ⟨t, p, v⟩ := h
  exact ⟨_, pt_not p, fun F ρ own B σ H Q gd q => v F ρ own B σ H _ gd (ResM.has_mono (ResM.has_bind q) (fun b ρ1 q own1 B1 H1 e1 g1 => q own1 B1 H1 e1 g1) fun _ _ x => x)⟩
def WMJ (X : Cx) (W : WX) (G : List Mode) (e : Expr) (g : Rho → ResM Bool) : Prop := ∃ t, PW X e t ∧ EvTM X W G t g
theorem wmj_and {rest : List Expr} {g h : Rho → ResM Bool} (ha : TMJ X W G a g) (hb : WMJ X W G (.BoolOp .And (b :: rest) pos) h) : WMJ X W G (.BoolOp .And (a :: b :: rest) pos) (andM g h) := by
  obtain ⟨t, p, v⟩ := ha
  obtain ⟨u, p', v'⟩ := hb
  refine ⟨_, pw_and p p', fun F ρ own B σ H Q gd q => ?_⟩
  refine v F ρ own B σ H _ gd (ResM.has_mono (ResM.has_bind q) (fun b ρ1 q own1 B1 H1 e1 g1 => ?_) fun _ _ x => x)
  cases b with
  | true => exact v' F ρ1 own1 B1 σ H1 _ g1 (ResM.has_mono q (fun b ρ2 q own2 B2 H2 e2 g2 => q own2 B2 H2 (e1.trans e2) g2) fun _ _ x => x.ext e1)
  | false => exact q own1 B1 H1 e1 g1
theorem wmj_or {rest : List Expr} {g h : Rho → ResM Bool} (ha : TMJ X W G a g) (hb : WMJ X W G (.BoolOp .Or (b :: rest) pos) h) : WMJ X W G (.BoolOp .Or (a :: b :: rest) pos) (orM g h) := by
  obtain ⟨t, p, v⟩ := ha
  obtain ⟨u, p', v'⟩ := hb
  refine ⟨_, pw_or p p', fun F ρ own B σ H Q gd q => ?_⟩
  refine v F ρ own B σ H _ gd (ResM.has_mono (ResM.has_bind q) (fun b ρ1 q own1 B1 H1 e1 g1 => ?_) fun _ _ x => x)
  cases b with
  | true => exact q own1 B1 H1 e1 g1
  | false => exact v' F ρ1 own1 B1 σ H1 _ g1 (ResM.has_mono q (fun b ρ2 q own2 B2 H2 e2 g2 => q own2 B2 H2 (e1.trans e2) g2) fun _ _ x => x.ext e1)
theorem wmj_and1 {g : Rho → ResM Bool} (ha : TMJ X W G a g) : WMJ X W G (.BoolOp .And [a] pos) g := let ⟨_, p, v⟩ := ha; ⟨_, pw_and1 p, v⟩
theorem wmj_or1 {g : Rho → ResM Bool} (ha : TMJ X W G a g) : WMJ X W G (.BoolOp .Or [a] pos) g := let ⟨_, p, v⟩ := ha; ⟨_, pw_or1 p, v⟩
theorem WMJ.tmj {g : Rho → ResM Bool} (h : WMJ X W G e g) : TMJ X W G e g := let ⟨_, p, v⟩ := h; ⟨_, p.pt, v⟩
/-! ### statements over changes -/
def thenM {α : Type} (r : ResM α) (k : α → Rho → Out) : Out := match r with
  | .ok a ρ => k a ρ
  | .ex e ρ => .ex e ρ
  | .no => .no
theorem thenM_has {α : Type} {r : ResM α} {F : Hp} {own : Own} {B : Hp} {σ : L2.St} {D : Ends} {k : α → Rho → Out} (hx : leM L.ex G) (q : PostS X W L G' F own B D (thenM r k)) : r.has (fun a ρ' => PostS X W L G' F own B D (k a ρ')) (WMk X W G F own B σ) := by
  cases r with
  | ok a ρ => exact q
  | ex e ρ => exact fun c dx own' B' H' e' g' x => q c dx _ _ σ H' (e'.trans (to_gr g'.gr)) (g'.to hx) (x.mono (baseTo_ext g'.gr))
  | no => exact q
def sIfM (c : Rho → ResM Bool) (f g : Rho → Out) : Rho → Out := fun ρ => thenM (c ρ) fun b ρ1 => if b = true then f ρ1 else g ρ1
theorem sj_ifM {c : Expr} {a b : List Stmt} {gc : Rho → ResM Bool} {f g : Rho → Out} (hc : TMJ X W G c gc) (ha : SsJ X W L G a f G') (hb : SsJ X W L G b g G') : SJ X W L G (.If c a b pos) (sIfM gc f g) G' := by
  obtain ⟨tc, pc, vc⟩ := hc
  obtain ⟨ta, pa, va⟩ := ha
  obtain ⟨tb, pb, vb⟩ := hb
  refine ⟨_, ps_if pc pa pb, fun hx F ρ own B σ H D gd q => ?_⟩
  refine vc F ρ own B σ H _ gd (ResM.has_mono (thenM_has hx q) (fun b ρ1 q own1 B1 H1 e1 g1 => ?_) fun _ _ x => x)
  cases b with
  | true => exact va hx F ρ1 own1 B1 σ H1 D g1 (q.ext e1)
  | false => exact vb hx F ρ1 own1 B1 σ H1 D g1 (q.ext e1)
/-- a slot of any value takes it -/
def sSetA (i : Nat) (g : Rho → ResM D) : Rho → Out := fun ρ => thenM (g ρ) fun d ρ1 => .nx (ρ1.set i (some d))
theorem sj_setA {g : Rho → ResM D} (hN : X.N.Nodup) (hi : X.N[i]? = some x) (hx : Loc X.env.scope x) (he : MJ X W G .any e g) (hm : G.getD i Mode.fz = .any := by rfl) (hs : swapsWith e (some (.Name x px)) pos.line X.env = pure false := by rfl)
    (hf : X.fn x = true ∨ X.env.scope.names.lookup x = some .local := by first | exact .inl rfl | exact .inr rfl | assumption) : SJ X W L G (.Assign [.Name x px] e pos) (sSetA i g) G := by
  obtain ⟨te, pe, ve⟩ := he
  refine ⟨_, ps_set hN hi hx pe hs hf, fun hx F ρ own B σ H D gd q => ?_⟩
  refine ve F ρ own B σ H _ gd (ResM.has_mono (thenM_has hx q) (fun d ρ1 q u own1 B1 H1 e1 g1 r => ?_) fun _ _ x => x)
  exact q own1 B1 _ H1 e1 (g1.setA hm r)
/-- .. the store unchanged -/
def sSetP (i : Nat) (g : Rho → Res D) : Rho → Out := fun ρ => thenS (g ρ) ρ fun d => .nx (ρ.set i (some d))
theorem sj_setP {g : Rho → Res D} (hN : X.N.Nodup) (hi : X.N[i]? = some x) (hx : Loc X.env.scope x) (he : PJ X W G e g) (hm : G.getD i Mode.fz = .any := by rfl) (hs : swapsWith e (some (.Name x px)) pos.line X.env = pure false := by rfl)
    (hf : X.fn x = true ∨ X.env.scope.names.lookup x = some .local := by first | exact .inl rfl | exact .inr rfl | assumption) : SJ X W L G (.Assign [.Name x px] e pos) (sSetP i g) G := by
  obtain ⟨te, pe, ve⟩ := he
  refine ⟨_, ps_set hN hi hx pe hs hf, fun hx F ρ own B σ H D gd q => ?_⟩
  refine ve F ρ own B σ H _ gd (Res.has_mono (thenS_has hx gd q) (fun d q u B' H' s r => ?_) fun _ x => x)
  exact q own B' _ H' s.g ((gd.step s).setA hm r)
def sDropM (g : Rho → ResM D) : Rho → Out := fun ρ => thenM (g ρ) fun _ ρ1 => .nx ρ1
theorem sj_exprM {g : Rho → ResM D} (he : MJ X W G md e g) (hs : swapsWith e none pos.line X.env = pure false := by rfl) : SJ X W L G (.Expr e pos) (sDropM g) G := by
  obtain ⟨t, pe, ve⟩ := he
  refine ⟨_, ps_expr pe hs, fun hx F ρ own B σ H D gd q => ?_⟩
  exact ve F ρ own B σ H _ gd (ResM.has_mono (thenM_has hx q) (fun d ρ1 q u own1 B1 H1 e1 g1 r => q own1 B1 σ H1 e1 g1) fun _ _ x => x)
/-- return e, the slots are kept -/
def sRetM (g : Rho → ResM D) : Rho → Out := fun ρ => thenM (g ρ) fun d ρ1 => .rl d ρ1
theorem sj_retM {g : Rho → ResM D} (he : MJ X W G .any e g) (hrt : L.rt = .any := by rfl) (hl : leM L.rl G := by exact leM_p (by first | exact True.intro | (repeat (first | exact True.intro | refine And.intro (Or.inl rfl) ?_ | refine And.intro (Or.inr rfl) ?_ | refine And.intro rfl ?_)))) : SJ X W L G (.Return (some e) pos) (sRetM g) G' := by
  obtain ⟨t, pe, ve⟩ := he
  refine ⟨_, ps_ret pe, fun hx F ρ own B σ H D gd q => ?_⟩
  refine ve F ρ own B σ H _ gd (ResM.has_mono (thenM_has hx q) (fun d ρ1 q u own1 B1 H1 e1 g1 r => ?_) fun _ _ x => x)
  refine q u _ _ σ H1 (e1.trans (to_gr g1.gr)) (g1.to hl) ?_
  rw [hrt]
  exact AnyR.gr r (to_gr g1.gr)
/-- bare return -/
def sRet0 : Rho → Out := fun ρ => .rl .non ρ
theorem sj_ret0 (hrt : L.rt = .any := by rfl) (hl : leM L.rl G := by exact leM_p (by first | exact True.intro | (repeat (first | exact True.intro | refine And.intro (Or.inl rfl) ?_ | refine And.intro (Or.inr rfl) ?_ | refine And.intro rfl ?_)))) : SJ X W L G (.Return none pos) sRet0 G' :=
  ⟨_, ps_retN, fun hx F ρ own B σ H D gd q => q .non _ _ σ H (to_gr gd.gr) (gd.to hl) (by rw [hrt]; exact .inl ⟨rfl, .non⟩)⟩
end
end T

set_option Elab.async false
set_option linter.all false
set_option maxRecDepth 100000
set_option maxHeartbeats 4000000
/-! S-layer, part D: defs that are lent the store; calls, methods, constructors. -/
namespace T
open PySem PySem.Spec PyProof.Rows L2
/-- what a def gives, with the store -/
inductive ResS where
  | ok (d : D) (os : List D) | ex (e : Exn) (os : List D) | no
/-- a def's mirror; the store stands in the last slot -/
def runS (n NN : Nat) (f : Rho → Out) (os : List D) (ds : List D) : ResS := if ds.length = n then match f (startR (NN - 1) ds ++ [some (stoD os)]) with
    | .nx ρ => match stoR (NN - 1) ρ with
      | some os' => .ok .non os'
      | none => .no
    | .rl d ρ => match stoR (NN - 1) ρ with
      | some os' => .ok d os'
      | none => .no
    | .ex e ρ => match stoR (NN - 1) ρ with
      | some os' => .ex e os'
      | none => .no
    | _ => .no
  else .no
theorem runS_len {n NN : Nat} {f : Rho → Out} (os ds : List D) (h : ds.length ≠ n) : runS n NN f os ds = .no := by
  unfold runS
  rw [if_neg h]
/-- a slot that the text does not see -/
theorem inv_unseen {X : Cx} {pins : List (Addr × Obj)} {σ : L2.St} {H : Hp} {s : Shared} {S : Nat} {x : Str} {v : V} (I : Inv X pins σ H s) (hN : X.N[S]? = some x) (hx : X.env.scope.names.lookup x = none) : Inv X pins (σ.set S (some v)) H s where
  ok := I.ok
  os := I.os
  bare := I.bare
  base := I.base
  loc := by
    obtain ⟨m, h1, h2⟩ := I.loc
    refine ⟨m, h1, fun i y u h3 h4 h5 => ?_⟩
    by_cases hi : S = i
    · subst hi
      rw [hN] at h3
      cases h3
      unfold Vis at h5
      rw [hx] at h5
      rcases h5 with h | h | h <;> cases h
    · rw [List.getElem?_set_ne hi] at h4
      exact h2 i y u h3 h4 h5
  cell := I.cell
  free := I.free
  freeC := I.freeC
  pin := I.pin
  hok := I.hok
  len := by rw [List.length_set]; exact I.len
theorem pss_unseen {X : Cx} {sts : List Stmt} {t : TS} {S : Nat} {x : Str} {v : V} (h : PSs X sts t) (hN : X.N[S]? = some x) (hx : X.env.scope.names.lookup x = none) : PSs X sts (fun D σ H => t D (σ.set S (some v)) H) :=
  ⟨fun pins s σ H D I q => h.run pins s _ H D (inv_unseen I hN hx) q⟩
/-! ### the store is lent -/
def isS : Lab → Bool
  | h :: _ :: _ => h == SH
  | _ => false
def lendS (own : Own) : Own := fun a => (own a).filter isS
def lendSF (own : Own) (F H : Hp) : Hp := fun a => match own a with
  | some l => if isS l = true then none else H a
  | none => F a
def backS (own own' : Own) : Own := fun a => match own a with
  | some l => if isS l = true then (own' a).filter isS else some l
  | none => (own' a).filter isS
theorem isS_sh {n : Nat} {r : Lab} : isS (SH :: n :: r) = true := by simp [isS]
theorem isS_no {i : Nat} {r : Lab} (h : i + 1 ≠ SH) : isS ((i + 1) :: r) = false := by
  cases r with
  | nil => rfl
  | cons _ _ => simp only [isS, beq_eq_false_iff_ne]; exact h
theorem isS_of {l : Lab} (h : isS l = true) : ∃ n r, l = SH :: n :: r := by
  match l, h with
  | [], h => cases h
  | [_], h => cases h
  | a :: n :: r, h =>
    simp only [isS, beq_iff_eq] at h
    exact ⟨n, r, by rw [h]⟩
theorem lendS_some {own : Own} {a : Addr} {l : Lab} : lendS own a = some l ↔ own a = some l ∧ isS l = true := by
  unfold lendS
  rw [Option.filter_eq_some_iff]
section
variable {F B H B' H' : Hp} {own own' : Own}
theorem lendS_ground (g : Ground F own B H) : Ground (lendSF own F H) (lendS own) B H where
  base := fun a o e => ⟨(g.base a o e).1, by unfold lendS; rw [(g.base a o e).2]; rfl⟩
  frame := fun a o e => by
    unfold lendSF at e
    cases ho : own a with
    | none =>
      rw [ho] at e
      obtain ⟨h1, h2, h3⟩ := g.frame a o e
      exact ⟨h1, by unfold lendS; rw [ho]; rfl, h3⟩
    | some l =>
      rw [ho] at e
      simp only at e
      split at e
      · cases e
      · rename_i hn
        refine ⟨e, ?_, g.bnone (by rw [ho]; exact fun z => nomatch z)⟩
        unfold lendS
        rw [ho, Option.filter_some, if_neg hn]
  live := fun a h => g.live a fun z => h (by unfold lendS; rw [z]; rfl)
/-- what is not the store's stays -/
theorem backS_stay (g : Ground F own B H) (g' : Ground (lendSF own F H) own' B' H') {a : Addr} {l : Lab} (ho : own a = some l) (hn : isS l = false) : backS own own' a = some l ∧ H' a = H a ∧ own' a = none ∧ B' a = none := by
  have hH := g.live a (by rw [ho]; exact fun z => nomatch z)
  cases hh : H a with
  | none => exact absurd hh hH
  | some u =>
    have : lendSF own F H a = some u := by
      unfold lendSF
      rw [ho]
      simp only [hn, hh]
      rfl
    obtain ⟨h1, h2, h3⟩ := g'.frame a u this
    refine ⟨?_, h1, h2, h3⟩
    unfold backS
    rw [ho]
    simp [hn]
theorem backS_ground (g : Ground F own B H) (g' : Ground (lendSF own F H) own' B' H') : Ground F (backS own own') B' H' where
  base := fun a o e => by
    obtain ⟨h1, h2⟩ := g'.base a o e
    refine ⟨h1, ?_⟩
    cases ho : own a with
    | none =>
      unfold backS
      rw [ho, h2]
      rfl
    | some l =>
      by_cases hn : isS l = true
      · unfold backS
        rw [ho, h2]
        simp [hn]
      · have := (backS_stay g g' ho (by simpa using hn)).2.2.2
        rw [e] at this
        cases this
  frame := fun a o e => by
    obtain ⟨h1, h2, h3⟩ := g.frame a o e
    have : lendSF own F H a = some o := by
      unfold lendSF
      rw [h2]
      exact e
    obtain ⟨h4, h5, h6⟩ := g'.frame a o this
    refine ⟨h4, ?_, h6⟩
    unfold backS
    rw [h2, h5]
    rfl
  live := fun a h => by
    cases ho : own a with
    | none =>
      unfold backS at h
      rw [ho] at h
      exact g'.live a fun z => h (by rw [z]; rfl)
    | some l =>
      by_cases hn : isS l = true
      · unfold backS at h
        rw [ho] at h
        simp only [hn, if_true] at h
        exact g'.live a fun z => h (by rw [z]; rfl)
      · rw [(backS_stay g g' ho (by simpa using hn)).2.1]
        exact g.live a (by rw [ho]; exact fun z => nomatch z)
theorem backS_sh (g : Ground F own B H) (g' : Ground (lendSF own F H) own' B' H') {a : Addr} {n : Nat} {r : Lab} : own' a = some (SH :: n :: r) ↔ backS own own' a = some (SH :: n :: r) := by
  cases ho : own a with
  | none =>
    unfold backS
    rw [ho]
    simp only [Option.filter_eq_some_iff]
    exact ⟨fun h => ⟨h, isS_sh⟩, fun h => h.1⟩
  | some l =>
    by_cases hn : isS l = true
    · unfold backS
      rw [ho]
      simp only [hn, if_true, Option.filter_eq_some_iff]
      exact ⟨fun h => ⟨h, isS_sh⟩, fun h => h.1⟩
    · obtain ⟨h1, _, h3, _⟩ := backS_stay g g' ho (by simpa using hn)
      rw [h1, h3]
      refine ⟨fun z => (nomatch z), fun z => ?_⟩
      cases z
      exact absurd isS_sh hn
end
variable [Mg]
/-- the promise of a def that is lent the store -/
def spS (K : PySem.W.Frag) (mg : Str → Option Value) (n : Nat) (m : List D → List D → ResS) : Sp := fun vs H Q E => ∃ (ds os : List D) (F : Hp) (own : Own) (B : Hp), ds.length = n ∧ AnyA K B own vs ds ∧ Ground F own B H ∧ StoR K B H own os ∧
  match m os ds with
  | .ok d os' => ∀ (v : V) (own' : Own) (B' H' : Hp), Gr own B own' B' → Ground F own' B' H' → StoR K B' H' own' os' → AnyR K B' own' v d → Q v H'
  | .ex e os' => ∀ (c : Value) (dx : Option Addr) (own' : Own) (B' H' : Hp), Gr own B own' B' → Ground F own' B' H' → StoR K B' H' own' os' → ExR K mg B' H' e c dx → E c dx H'
  | .no => False
section
variable {P : Program} {w : World} {K : PySem.W.Frag} {mg : Str → Option Value} {base : Heap}
/-- the slots at the start -/
theorem good_startS {F B H : Hp} {own : Own} {G : List Mode} {N : Nat} {vs : List V} {ds os : List D} {N' : List Str} (hN : N'.length = N) (hN1 : 1 ≤ N) (hn : ds.length ≤ N - 1) (hz : N < 1000000) (g : Ground F own B H) (r : AnyA K B own vs ds) (st : StoR K B H own os)
    (hG : ∀ j, j < ds.length → G.getD j Mode.fz = .any) (hS : G.getD (N - 1) Mode.fz = .sto) : Good K F G (startR (N - 1) ds ++ [some (stoD os)]) own B ((L2.start N' vs).set (N - 1) (some (.ref 0))) H := by
  have hl : (startR (N - 1) ds).length = N - 1 := by simp [startR]; omega
  have hσ : (L2.start N' vs).length = N := by simp [L2.start, r.1, hN]; omega
  refine ⟨g, ⟨by rw [List.length_set, hσ, List.length_append, hl]; simp; omega, by rw [List.length_append, hl]; simp; omega⟩, fun i d e => ?_⟩
  by_cases hi : i < N - 1
  · rw [List.getElem?_append_left (by omega)] at e
    unfold startR at e
    rw [List.getElem?_append] at e
    split at e
    · rename_i hd
      rw [List.getElem?_map] at e
      obtain ⟨d', e1, e2⟩ := Option.map_eq_some_iff.mp e
      cases e2
      have hd' : i < ds.length := by simpa using hd
      have hv : i < vs.length := by rw [r.1]; exact hd'
      refine ⟨vs[i], ?_, ?_⟩
      · rw [List.getElem?_set_ne (by omega)]
        unfold L2.start
        rw [List.getElem?_append_left (by simpa using hv), List.getElem?_map, List.getElem?_eq_getElem hv]
        rfl
      · rw [hG i hd']
        exact r.2 i _ _ (List.getElem?_eq_getElem hv) e1
    · rw [List.getElem?_replicate] at e
      split at e <;> cases e
  · have hi' : i = N - 1 := by
      have := (List.getElem?_eq_some_iff.mp e).1
      rw [List.length_append, hl] at this
      simp at this
      omega
    subst hi'
    rw [List.getElem?_append_right (by omega), hl, Nat.sub_self] at e
    cases e
    refine ⟨.ref 0, List.getElem?_set_self (by omega), ?_⟩
    rw [hS]
    exact ⟨rfl, os, rfl, st⟩
def anyN (n : Nat) (G : List Mode) : Bool := (List.range n).all fun j => decide (G.getD j Mode.fz = .any)
omit [Mg] in
theorem anyN_at {n : Nat} {G : List Mode} (h : anyN n G = true) {j : Nat} (hj : j < n) : G.getD j Mode.fz = .any := of_decide_eq_true (List.all_eq_true.mp h j (List.mem_range.mpr hj))
/-- THE RULE for a def that is lent the store -/
theorem fnS_ok {x qual : Str} {st : Stmt} {f : Addr} {fd : FuncData} {N ps : List Str} {k : Nat} {G0 : List Mode} {fm : Rho → Out} (Fn : Fun K x qual st f fd) (Sc : FnScope N ps (defScope st)) (n NN : Nat) (hn : ps.length = n) (hNN : N.length = NN) (hle : n ≤ NN - 1 ∧ 1 ≤ NN ∧ NN < 1000000) (y : Str) (hy : N[NN - 1]? = some y) (hyn : (defScope st).names.lookup y = none)
    (hG : anyN n G0 = true) (hS : G0.getD (NN - 1) Mode.fz = .sto) (GX : List Mode) (hGX : GX.getD (NN - 1) Mode.fz = .sto) (hXG : leM GX G0)
    (hbody : ∀ (cdv : Value) (A : Around) (outer : List Env) (s : Shared) (H : Hp) (E : XK), Room k (A.deeper (envOfC qual (defScope st) s.heap.objs.size f cdv)) →
      ∃ G', SsJ (cxOf (L2.CX P w) P w K mg base N qual (defScope st) f cdv A outer s H E) (WE1 E) ⟨[], [], .any, GX, GX⟩ G0 (defBody st) fm G' ∧ G'.getD (NN - 1) Mode.fz = .sto) :
    FnOk P w K mg base (L2.CX P w) (k + 1) f fd ps (spS K mg n (runS n NN fm)) := by
  refine Fn.okX Sc (fun vs H Q E h => ?_) (fun cdv A outer s H vs Q E hroom h => ?_)
  · obtain ⟨ds, os, F, own, B, h1, h2, _⟩ := h
    rw [h2.1, h1, hn]
  · obtain ⟨ds, os, F, own, B, h1, h2, h3, h4, h5⟩ := h
    obtain ⟨G', ⟨t, p, v⟩, hG'⟩ := hbody cdv A outer s H E hroom
    refine ⟨_, pss_unseen (S := NN - 1) (v := .ref 0) p hy hyn, v hXG F (startR (NN - 1) ds ++ [some (stoD os)]) own B _ H _ (good_startS hNN hle.2.1 (by omega) hle.2.2 h3 h2 h4 (fun j hj => anyN_at hG (by omega)) hS) ?_⟩
    unfold runS at h5
    rw [if_pos h1] at h5
    cases e : fm (startR (NN - 1) ds ++ [some (stoD os)]) with
    | nx ρ' =>
      rw [e] at h5
      simp only at h5
      intro own' B' σ H' e' g'
      cases hp : stoR (NN - 1) ρ' with
      | none =>
        rw [hp] at h5
        exact h5.elim
      | some os' =>
        rw [hp] at h5
        exact h5 .non own' B' H' e' g'.gr (g'.sto hG' hp) (.inl ⟨rfl, .non⟩)
    | rl d ρ' =>
      rw [e] at h5
      simp only at h5
      intro u own' B' σ H' e' g' r'
      cases hp : stoR (NN - 1) ρ' with
      | none =>
        rw [hp] at h5
        exact h5.elim
      | some os' =>
        rw [hp] at h5
        exact h5 u own' B' H' e' g'.gr (g'.sto hGX hp) r'
    | ex x ρ' =>
      rw [e] at h5
      simp only at h5
      intro c dx own' B' σ H' e' g' r'
      cases hp : stoR (NN - 1) ρ' with
      | none =>
        rw [hp] at h5
        exact h5.elim
      | some os' =>
        rw [hp] at h5
        exact h5 c dx own' B' H' e' g'.gr (g'.sto hGX hp) r'
    | _ =>
      rw [e] at h5
      exact h5.elim
end
/-! ### calls -/
def callS (m : List D → List D → ResS) (S : Nat) (g : Rho → ResM (List D)) : Rho → ResM D := fun ρ => (g ρ).bind fun ds ρ1 => match stoR S ρ1 with
  | some os => match m os ds with
    | .ok d os' => .ok d (setS S os' ρ1)
    | .ex e os' => .ex e (setS S os' ρ1)
    | .no => .no
  | none => .no
section
variable {K : PySem.W.Frag} {F B H B' H' : Hp} {own own' : Own} {G : List Mode} {ρ : Rho} {σ : L2.St} {S : Nat} {os os' : List D}
omit [Mg] in
theorem lendS_gr : Gr own B (lendS own) B := ⟨Same.refl B, fun a n h => lendS_some.mpr ⟨h, isS_sh⟩⟩
theorem lendS_sto (h : StoR K B H own os) : StoR K B H (lendS own) os := h.keep (Same.refl B) ⟨fun l n r => ⟨fun h => lendS_some.mpr ⟨h, isS_sh⟩, fun h => (lendS_some.mp h).1⟩, fun _ _ _ _ => rfl⟩
omit [Mg] in
theorem backS_gr (g : Ground F own B H) (g' : Ground (lendSF own F H) own' B' H') (e : Gr (lendS own) B own' B') : Gr own B (backS own own') B' :=
  ⟨e.ext, fun a n h => (backS_sh g g').mp (e.le a n (lendS_some.mpr ⟨h, isS_sh⟩))⟩
theorem backS_good (g : Good K F G ρ own B σ H) (hS : G.getD S .fz = .sto) (hfl : flatG S G = true) (hρ : stoR S ρ = some os) (g' : Ground (lendSF own F H) own' B' H') (e : Gr (lendS own) B own' B') (st : StoR K B' H' own' os') :
    Good K F G (setS S os' ρ) (backS own own') B' σ H' := by
  refine g.setS hS hfl hρ (backS_ground g.gr g') (st.keep (Same.refl B') ⟨fun l n r => backS_sh g.gr g', fun _ _ _ _ => rfl⟩) e.ext (fun l i r hi h => ?_) (backS_gr g.gr g' e).le
  obtain ⟨h1, h2, _⟩ := backS_stay g.gr g' h (isS_no hi)
  exact ⟨h1, h2⟩
theorem AnyR.back {v : V} {d : D} (g : Ground F own B H) (g' : Ground (lendSF own F H) own' B' H') (h : AnyR K B' own' v d) : AnyR K B' (backS own own') v d := by
  rcases h with ⟨h1, h2⟩ | ⟨n, a, h1, h2, h3⟩
  · exact .inl ⟨h1, h2⟩
  · exact .inr ⟨n, a, h1, h2, (backS_sh g g').mp h3⟩
end
section
variable {X : Cx} {W : WX} {G : List Mode} {e o : Expr} {es : List Expr} {x f m : Str} {p pos apos : Pos} {k n c S : Nat} {a : Addr} {fd : FuncData} {ps : List Str} {mm : List D → List D → ResS}
theorem callS_core {t : TA} {g : Rho → ResM (List D)} (hlen : ∀ os ds, ds.length ≠ n → mm os ds = .no) (va : EvMA X W G t g) (hS : G.getD S .fz = .sto) (hfl : flatG S G = true)
    {F : Hp} {ρ : Rho} {own : Own} {B : Hp} {σ : L2.St} {H : Hp} {Q : VK} (gd : Good X.K F G ρ own B σ H) (q : (callS mm S g ρ).has (fun d ρ' => ∀ (v : V) (own' : Own) (B' H' : Hp), Gr own B own' B' → Good X.K F G ρ' own' B' σ H' → VRep X.K B' H' own' .any [0] v d → Q v H') (WMk X W G F own B σ)) :
    t σ H fun vs H1 => spS X.K X.mg n mm vs H1 Q (fun c dx H' => W c dx σ H') := by
  refine va F ρ own B σ H _ gd (ResM.has_mono (ResM.has_bind q) (fun ds ρ1 q us own1 B1 H1 e1 g1 r1 => ?_) fun _ _ x => x)
  cases hg : stoR S ρ1 with
  | none =>
    rw [hg] at q
    exact q.elim
  | some os =>
    rw [hg] at q
    simp only at q
    have hds : ds.length = n := Classical.byContradiction fun z => by
      rw [hlen _ _ z] at q
      exact q
    refine ⟨ds, os, lendSF own1 F H1, lendS own1, B1, hds, r1.gr lendS_gr, lendS_ground g1.gr, lendS_sto (g1.sto hS hg), ?_⟩
    cases hr : mm os ds with
    | no =>
      rw [hr] at q
      exact q.elim
    | ok d os' =>
      rw [hr] at q
      exact fun v own' B' H' e' g' st r' => q v _ B' H' (e1.trans (backS_gr g1.gr g' e')) (backS_good g1 hS hfl hg g' e' st) (AnyR.back g1.gr g' r')
    | ex e os' =>
      rw [hr] at q
      exact fun c dx own' B' H' e' g' st x => q c dx _ B' H' (e1.trans (backS_gr g1.gr g' e')) (backS_good g1 hS hfl hg g' e' st) x
/-- f(e, ..) -/
theorem mj_callS {g : Rho → ResM (List D)} (hlen : ∀ os ds, ds.length ≠ n → mm os ds = .no) (Fn : FnOk X.prog X.w X.K X.mg X.base (L2.CX X.prog X.w) k a fd ps (spS X.K X.mg n mm)) (hr : Room k X.A) (hg : Gl X f) (hm : X.mg f = some (.ref a)) (hk : PySem.W.keepIn X.K (.ref a) = true) (hb : Binds X.K fd ps [])
    (tk : Takes X W) (ha : MAJ X W G (e :: es) g) (hS : G.getD S .fz = .sto := by rfl) (hfl : flatG S G = true := by rfl) (hdb : (f == ("__debug__" : Str)) = false := by decide) (he : starEach (e :: es) X.env = (false, eval e X.env) :: starEach es X.env := by rfl) (hpl : (backTo pos (starEach es X.env)).any (·.1) = false := by rfl) :
    MJ X W G .any (.Call (.Name f p) (e :: es) [] pos) (callS mm S g) := by
  obtain ⟨t, pa, va⟩ := ha
  exact ⟨_, pe_callS Fn hr hg hm hk hb (fun σ => passAt tk σ) pa hdb he hpl, fun F ρ own B σ H Q gd q => callS_core hlen va hS hfl gd q⟩
end
end T

set_option Elab.async false
set_option linter.all false
set_option maxRecDepth 100000
set_option maxHeartbeats 4000000
/-! S-layer, part E: methods, constructors. -/
namespace T
open PySem PySem.Spec PyProof.Rows L2
def tMethP (C : Addr) (m : Str) (sp : Sp) (E : L2.St → XK) (ta : TE) (t : TA) : TE := fun σ H Q => ta σ H fun x H1 => ∃ a dx fs, x = .ref a ∧ H1 a = some (.ins C dx fs) ∧ fs.lookup m = none ∧ t σ H1 fun vs H2 => sp (x :: vs) H2 Q (E σ)
section
variable {X : Cx} {CX : CXT} {k : Nat} {f C : Addr} {fd : FuncData} {ps : List Str} {sp : Sp} {E : L2.St → XK} {x m : Str} {p pos apos : Pos} {e o : Expr} {es : List Expr} {ta : TE} {t : TA}
theorem pe_methP {pl : Sem Bool} (he : PE X o ta) (c : Cls X.K C) (hm : Meth X.K C m f) (F : FnOk X.prog X.w X.K X.mg X.base CX k f fd ps sp) (hr : Room k X.A) (hb : Binds X.K fd ps []) (hx : ∀ σ, PassesAt CX X σ (E σ)) (ha : PA X (e :: es) t)
    (hst : starEach (e :: es) X.env = (false, eval e X.env) :: starEach es X.env := by rfl) (hpl : (backTo pos (starEach es X.env)).any (·.1) = false := by rfl)
    (ht : eval (.Call (.Attribute o m apos) (e :: es) [] pos) X.env = (do
      let ov ← eval o X.env
      standAt apos.atName
      let (f, first) ← holding [ov] (getMethod ov m pl)
      callWith pos f first (backTo pos (starEach (e :: es) X.env)) (backToKw pos (keywordEach [] X.env))) := by rfl) :
    PE X (.Call (.Attribute o m apos) (e :: es) [] pos) (tMethP C m sp E ta t) := by
  refine ⟨fun pins s σ H Q I h => ?_⟩
  refine PySem.W.methodCall_KW (pl := pl) (thn (he.run pins s σ H _ I h) fun u s1 ⟨x, H1, I1, rx, a, dx, fs, ex, ea, l, q⟩ => ?_) ht
  subst ex
  obtain rfl : u = Value.ref a := rx
  refine getmeth_ok I1 ea c hm l ?_
  refine PySem.W.callWith_K (first := [.ref a]) (h₀ := X.base) I.ok.mod.kin hm.kp (thn (ha.run pos pins s1 σ H1 _ I1 q) fun us s2 ⟨vs, H2, I2, r, q2⟩ => ⟨I2.kIn, ?_⟩) hst hpl
  exact run_fnS (us := .ref a :: us) (vs := .ref a :: vs) F hr hb (hx σ) I2 (.cons rfl r) q2
theorem pe_methP0 {pl : Sem Bool} (he : PE X o ta) (c : Cls X.K C) (hm : Meth X.K C m f) (F : FnOk X.prog X.w X.K X.mg X.base CX k f fd ps sp) (hr : Room k X.A) (hb : Binds X.K fd ps []) (hx : ∀ σ, PassesAt CX X σ (E σ))
    (ht : eval (.Call (.Attribute o m apos) [] [] pos) X.env = (do
      let ov ← eval o X.env
      standAt apos.atName
      let (f, first) ← holding [ov] (getMethod ov m pl)
      callWith pos f first (backTo pos (starEach [] X.env)) (backToKw pos (keywordEach [] X.env))) := by rfl) :
    PE X (.Call (.Attribute o m apos) [] [] pos) (tMethP C m sp E ta tNil) := by
  refine ⟨fun pins s σ H Q I h => ?_⟩
  refine PySem.W.methodCall_KW (pl := pl) (thn (he.run pins s σ H _ I h) fun u s1 ⟨x, H1, I1, rx, a, dx, fs, ex, ea, l, q⟩ => ?_) ht
  subst ex
  obtain rfl : u = Value.ref a := rx
  refine getmeth_ok I1 ea c hm l ?_
  exact PySem.W.callWith_K0 (first := [.ref a]) I1.kIn hm.kp (run_fnS (us := [.ref a]) (vs := [.ref a]) F hr hb (hx σ) I1 (.cons rfl .nil) q)
end
def tMakeP (C : Addr) (sp : Sp) (E : L2.St → XK) (t : TA) : TE := fun σ H Q => t σ H fun vs H1 => ∀ x dx, H1 x = none → H1 dx = none → dx ≠ x →
  sp (.ref x :: vs) (upd (upd H1 dx (.own x)) x (.ins C dx [])) (fun v H2 => v = .non ∧ Q (.ref x) H2) (E σ)
section
variable {X : Cx} {CX : CXT} {k : Nat} {f C : Addr} {fd : FuncData} {ps : List Str} {sp : Sp} {E : L2.St → XK} {x : Str} {p pos : Pos} {e : Expr} {es : List Expr} {t : TA}
theorem run_makeP {pins : List (Addr × Obj)} {σ : L2.St} {H : Hp} {s : Shared} {Q : VK} {us : List Value} {vs : List V} (M : Mk X.K C f) (F : FnOk X.prog X.w X.K X.mg X.base CX k f fd ps sp) (hr : Room (k + 1) X.A) (hb : Binds X.K fd ps [])
    (hx : PassesAt CX X σ (E σ)) (I : Inv X pins σ H s) (r : Vals vs us)
    (h : ∀ x dx, H x = none → H dx = none → dx ≠ x → sp (.ref x :: vs) (upd (upd H dx (.own x)) x (.ins C dx [])) (fun v H2 => v = .non ∧ Q (.ref x) H2) (E σ)) :
    wpAny (model X.prog X.w) X.A (call (.ref C) us) (EP X pins σ Q) X.xe s := by
  have hq := h (s.heap.objs.size + 1) s.heap.objs.size (I.hok.fresh (Nat.le_succ _)) (I.hok.fresh (Nat.le_refl _)) (Nat.ne_of_lt (Nat.lt_succ_self _))
  have I2 := Inv.made (C := C) I
  have r2 : Vals (V.ref (s.heap.objs.size + 1) :: vs) (Value.ref (s.heap.objs.size + 1) :: us) := .cons rfl r
  have hl : (Value.ref (s.heap.objs.size + 1) :: us).length = ps.length := by
    have e := r2.length
    rw [F.len _ _ _ _ hq] at e
    exact e.symm
  have b := hb _ (Value.ref (s.heap.objs.size + 1) :: us) I2.kIn (by rw [List.append_nil]; exact hl)
  rw [List.append_nil] at b
  refine wpAny_call (make_map (f := f) I.kIn M.makes M.init (beq_iff_eq.mp M.fn) (codeAny_mono (F.run _ X.stack _ _ ⟨Value.ref (s.heap.objs.size + 1) :: us, []⟩ (Value.ref (s.heap.objs.size + 1) :: us) _ _ (E σ) (hr.make C us [])
    (I2.env0.make C us []) b r2 hq) fun r s' hq' => ?_))
  cases r with
  | error e => exact hx pins _ _ e s' I2 hq'
  | ok fl =>
    cases fl with
    | ret u =>
      obtain ⟨v, H', I3, rv, ev, q3⟩ := I2.after hq'
      subst ev
      exact ⟨rv, ⟨V.ref (s.heap.objs.size + 1), H', I3, rfl, q3⟩⟩
    | next => exact False.elim hq'
    | brk => exact False.elim hq'
    | cont => exact False.elim hq'
theorem pe_makeP (M : Mk X.K C f) (F : FnOk X.prog X.w X.K X.mg X.base CX k f fd ps sp) (hr : Room (k + 1) X.A) (hg : Gl X x) (hm : X.mg x = some (.ref C)) (hb : Binds X.K fd ps []) (hx : ∀ σ, PassesAt CX X σ (E σ))
    (ha : PA X (e :: es) t) (hdb : (x == ("__debug__" : Str)) = false := by decide) (he : starEach (e :: es) X.env = (false, eval e X.env) :: starEach es X.env := by rfl) (hpl : (backTo pos (starEach es X.env)).any (·.1) = false := by rfl) :
    PE X (.Call (.Name x p) (e :: es) [] pos) (tMakeP C sp E t) := by
  refine ⟨fun pins s σ H Q I h => ?_⟩
  refine wpAny_Call_Name_kw (ld_glob I hg hm ?_ hdb)
  refine PySem.W.callWith_K (h₀ := X.base) I.ok.mod.kin M.kp (thn (ha.run pos pins s σ H _ I h) fun us s1 ⟨vs, H1, I1, r, q⟩ => ⟨I1.kIn, ?_⟩) he hpl
  exact run_makeP M F hr hb (hx σ) I1 r q
theorem pe_makeP0 (M : Mk X.K C f) (F : FnOk X.prog X.w X.K X.mg X.base CX k f fd ps sp) (hr : Room (k + 1) X.A) (hg : Gl X x) (hm : X.mg x = some (.ref C)) (hb : Binds X.K fd ps []) (hx : ∀ σ, PassesAt CX X σ (E σ))
    (hdb : (x == ("__debug__" : Str)) = false := by decide) : PE X (.Call (.Name x p) [] [] pos) (tMakeP C sp E tNil) := by
  refine ⟨fun pins s σ H Q I h => ?_⟩
  refine wpAny_Call_Name_kw (ld_glob I hg hm ?_ hdb)
  exact PySem.W.callWith_K0 I.kIn M.kp (run_makeP (us := []) M F hr hb (hx σ) I .nil h)
end
variable [Mg]
/-- the class c has the method m, and no attribute of that name -/
structure MethC (K : PySem.W.Frag) (c : Nat) (m : Str) (f : Addr) : Prop where
  cls : Cls K (Mg.cls c)
  meth : Meth K (Mg.cls c) m f
  no : m ∉ Mg.lay c
omit [Mg] in
theorem pre_no {m : Str} {us : List (Str × V)} {lay : List Str} (h : us.map (·.1) <+: lay) (n : m ∉ lay) : us.lookup m = none := look_no fun z => n (h.subset z)
/-- the receiver is a thing of class c in the store -/
def isClsS (c : Nat) (so : Option (List D)) (d : D) : Bool := match refN d, so with
  | some n, some os => match os[n]? with
    | some (.ins c' _) => c' == c
    | _ => false
  | _, _ => false
def callR (m : List D → List D → ResS) (S : Nat) (ds : List D) (ρ1 : Rho) : ResM D := match stoR S ρ1 with
  | some os => match m os ds with
    | .ok d os' => .ok d (setS S os' ρ1)
    | .ex e os' => .ex e (setS S os' ρ1)
    | .no => .no
  | none => .no
/-- o.m(..) -/
def methS (c : Nat) (m : List D → List D → ResS) (S : Nat) (go : Rho → Res D) (g : Rho → ResM (List D)) : Rho → ResM D := fun ρ => (liftM (go ρ) ρ).bind fun d ρ1 => if isClsS c (stoR S ρ1) d = true then (g ρ1).bind fun ds ρ2 => callR m S (d :: ds) ρ2 else .no
section
variable {X : Cx} {W : WX} {G : List Mode} {e o : Expr} {es : List Expr} {x f m : Str} {p pos apos : Pos} {k n c S : Nat} {a : Addr} {fd : FuncData} {ps : List Str} {mm : List D → List D → ResS}
theorem callR_at (hlen : ∀ os ds, ds.length ≠ n → mm os ds = .no) (hS : G.getD S .fz = .sto) (hfl : flatG S G = true) {F : Hp} {ρ1 : Rho} {own own1 : Own} {B B1 : Hp} {σ : L2.St} {H1 : Hp} {Q : VK} {us : List V} {ds : List D}
    (e1 : Gr own B own1 B1) (g1 : Good X.K F G ρ1 own1 B1 σ H1) (r1 : AnyA X.K B1 own1 us ds) (q : (callR mm S ds ρ1).has (fun d ρ' => ∀ (v : V) (own' : Own) (B' H' : Hp), Gr own B own' B' → Good X.K F G ρ' own' B' σ H' → VRep X.K B' H' own' .any [0] v d → Q v H') (WMk X W G F own B σ)) :
    spS X.K X.mg n mm us H1 Q (fun c dx H' => W c dx σ H') := by
  unfold callR at q
  cases hg : stoR S ρ1 with
  | none =>
    rw [hg] at q
    exact q.elim
  | some os =>
    rw [hg] at q
    simp only at q
    have hds : ds.length = n := Classical.byContradiction fun z => by
      rw [hlen _ _ z] at q
      exact q
    refine ⟨ds, os, lendSF own1 F H1, lendS own1, B1, hds, r1.gr lendS_gr, lendS_ground g1.gr, lendS_sto (g1.sto hS hg), ?_⟩
    cases hr : mm os ds with
    | no =>
      rw [hr] at q
      exact q.elim
    | ok d os' =>
      rw [hr] at q
      exact fun v own' B' H' e' g' st r' => q v _ B' H' (e1.trans (backS_gr g1.gr g' e')) (backS_good g1 hS hfl hg g' e' st) (AnyR.back g1.gr g' r')
    | ex e os' =>
      rw [hr] at q
      exact fun c dx own' B' H' e' g' st x => q c dx _ B' H' (e1.trans (backS_gr g1.gr g' e')) (backS_good g1 hS hfl hg g' e' st) x
theorem meth_core {to : TE} {t : TA} {go : Rho → Res D} {g : Rho → ResM (List D)} (M : MethC X.K c m a) (hlen : ∀ os ds, ds.length ≠ n → mm os ds = .no) (vo : EvP X W G to go) (va : EvMA X W G t g) (hS : G.getD S .fz = .sto) (hfl : flatG S G = true) :
    EvM X W G .any (tMethP (Mg.cls c) m (spS X.K X.mg n mm) (fun σ c dx H' => W c dx σ H') to t) (methS c mm S go g) := fun F ρ own B σ H Q gd q => by
  have q := ResM.has_bind q
  refine vo F ρ own B σ H _ gd (Res.has_mono (liftM_has q) (fun d q v B' H' s r => ?_) fun e x => WMk.ok gd x)
  split at q
  case isFalse => exact q.elim
  rename_i hc
  have gd1 := gd.step s
  unfold isClsS at hc
  split at hc
  case h_2 => cases hc
  rename_i j os hn hos
  split at hc
  case h_2 => cases hc
  rename_i c' ds' hj
  have hcc : c' = c := by simpa using hc
  subst hcc
  obtain ⟨b, rfl, rfl, ho⟩ := r.ref hn
  obtain ⟨dx, vs, h1, h2, h3, h4⟩ := (gd1.sto hS hos).obj hj ho
  refine ⟨b, dx, vs, rfl, h1, pre_no h2 M.no, ?_⟩
  refine va F ρ own B' σ H' _ gd1 (ResM.has_mono (ResM.has_bind q) (fun ds ρ2 q us own2 B2 H2 e2 g2 r2 => ?_) fun e ρ2 x => x.ext s.g)
  exact callR_at hlen hS hfl (s.g.trans e2) g2 (.cons (r.gr e2) r2) q
theorem mj_methS {go : Rho → Res D} {g : Rho → ResM (List D)} {pl : Sem Bool} (M : MethC X.K c m a) (hlen : ∀ os ds, ds.length ≠ n → mm os ds = .no) (Fn : FnOk X.prog X.w X.K X.mg X.base (L2.CX X.prog X.w) k a fd ps (spS X.K X.mg n mm)) (hr : Room k X.A) (hb : Binds X.K fd ps []) (tk : Takes X W) (ho : PJ X W G o go) (ha : MAJ X W G (e :: es) g)
    (hS : G.getD S .fz = .sto := by rfl) (hfl : flatG S G = true := by rfl) (hst : starEach (e :: es) X.env = (false, eval e X.env) :: starEach es X.env := by rfl) (hpl : (backTo pos (starEach es X.env)).any (·.1) = false := by rfl)
    (ht : eval (.Call (.Attribute o m apos) (e :: es) [] pos) X.env = (do
      let ov ← eval o X.env
      standAt apos.atName
      let (f, first) ← holding [ov] (getMethod ov m pl)
      callWith pos f first (backTo pos (starEach (e :: es) X.env)) (backToKw pos (keywordEach [] X.env))) := by rfl) :
    MJ X W G .any (.Call (.Attribute o m apos) (e :: es) [] pos) (methS c mm S go g) := by
  obtain ⟨to, po, vo⟩ := ho
  obtain ⟨t, pa, va⟩ := ha
  exact ⟨_, pe_methP (pl := pl) po M.cls M.meth Fn hr hb (fun σ => passAt tk σ) pa hst hpl ht, meth_core M hlen vo va hS hfl⟩
theorem mj_methS0 {go : Rho → Res D} {pl : Sem Bool} (M : MethC X.K c m a) (hlen : ∀ os ds, ds.length ≠ n → mm os ds = .no) (Fn : FnOk X.prog X.w X.K X.mg X.base (L2.CX X.prog X.w) k a fd ps (spS X.K X.mg n mm)) (hr : Room k X.A) (hb : Binds X.K fd ps []) (tk : Takes X W) (ho : PJ X W G o go)
    (hS : G.getD S .fz = .sto := by rfl) (hfl : flatG S G = true := by rfl)
    (ht : eval (.Call (.Attribute o m apos) [] [] pos) X.env = (do
      let ov ← eval o X.env
      standAt apos.atName
      let (f, first) ← holding [ov] (getMethod ov m pl)
      callWith pos f first (backTo pos (starEach [] X.env)) (backToKw pos (keywordEach [] X.env))) := by rfl) :
    MJ X W G .any (.Call (.Attribute o m apos) [] [] pos) (methS c mm S go noM) := by
  obtain ⟨to, po, vo⟩ := ho
  exact ⟨_, pe_methP0 (pl := pl) po M.cls M.meth Fn hr hb (fun σ => passAt tk σ) ht, meth_core (t := tNil) M hlen vo (fun F ρ own B σ H Q gd q => q [] own B H .refl gd .nil) hS hfl⟩
end
/-! ### a new thing of a class -/
def makeS (c : Nat) (m : List D → List D → ResS) (S : Nat) (g : Rho → ResM (List D)) : Rho → ResM D := fun ρ => (g ρ).bind fun ds ρ1 => match stoR S ρ1 with
  | some os => match m (os ++ [.ins c []]) (refD os.length :: ds) with
    | .ok .non os' => .ok (refD os.length) (setS S os' ρ1)
    | .ex e os' => .ex e (setS S os' ρ1)
    | _ => .no
  | none => .no
def newS (own : Own) (x : Addr) (n : Nat) : Own := fun a => if a = x then some [SH, n] else lendS own a
section
variable {K : PySem.W.Frag} {F B H B' H' : Hp} {own own' : Own} {G : List Mode} {ρ : Rho} {σ : L2.St} {x dx : Addr} {S n : Nat} {os : List D}
omit [Mg] in
theorem newS_ground {C : Addr} (g : Ground F own B H) (hx : H x = none) (hd : H dx = none) (ne : dx ≠ x) : Ground (lendSF own F H) (newS own x n) B (upd (upd H dx (.own x)) x (.ins C dx [])) := by
  have gl := lendS_ground g
  have st : ∀ a u, H a = some u → upd (upd H dx (.own x)) x (.ins C dx []) a = some u ∧ a ≠ x := fun a u h => by
    have n1 : a ≠ x := fun z => by rw [z, hx] at h; cases h
    have n2 : a ≠ dx := fun z => by rw [z, hd] at h; cases h
    rw [upd_ne n1, upd_ne n2]
    exact ⟨h, n1⟩
  refine ⟨fun a u e => ?_, fun a u e => ?_, fun a h => ?_⟩
  · obtain ⟨h1, h2⟩ := gl.base a u e
    refine ⟨(st a u h1).1, ?_⟩
    unfold newS
    rw [if_neg (st a u h1).2]
    exact h2
  · obtain ⟨h1, h2, h3⟩ := gl.frame a u e
    refine ⟨(st a u h1).1, ?_, h3⟩
    unfold newS
    rw [if_neg (st a u h1).2]
    exact h2
  · by_cases ha : a = x
    · rw [ha, upd_same]
      exact fun z => nomatch z
    · unfold newS at h
      rw [if_neg ha] at h
      have := gl.live a h
      cases hh : H a with
      | none => exact absurd hh this
      | some u =>
        rw [(st a u hh).1]
        exact fun z => nomatch z
theorem newS_sto {c : Nat} (g : Good K F G ρ own B σ H) (st : StoR K B H own os) (hx : H x = none) (hd : H dx = none) (ne : dx ≠ x) : StoR K B (upd (upd H dx (.own x)) x (.ins (Mg.cls c) dx [])) (newS own x os.length) (os ++ [.ins c []]) := by
  have ho : lendS own x = none := by
    unfold lendS
    rw [g.gr.ofresh hx]
    rfl
  refine (lendS_sto st).new (Same.refl B) ho (fun l n r h => ?_) ?_
  · have hl := g.gr.live l (by rw [(lendS_some.mp h).1]; exact fun z => nomatch z)
    rw [upd_ne fun z => hl (by rw [z]; exact hx), upd_ne fun z => hl (by rw [z]; exact hd)]
  · exact ⟨dx, [], upd_same, List.nil_prefix, rfl, fun k v d h => by simp at h⟩
omit [Mg] in
theorem newS_gr (g : Ground F own B H) (hx : H x = none) : Gr (lendS own) B (newS own x n) B := ⟨Same.refl B, fun a m h => by
  unfold newS
  rw [if_neg fun z => ?_]
  · exact h
  · have := g.ofresh hx
    rw [← z, (lendS_some.mp h).1] at this
    cases this⟩
end
section
variable {X : Cx} {W : WX} {G : List Mode} {e : Expr} {es : List Expr} {x : Str} {p pos : Pos} {k n c S : Nat} {f : Addr} {fd : FuncData} {ps : List Str} {mm : List D → List D → ResS}
theorem make_core {t : TA} {g : Rho → ResM (List D)} (hlen : ∀ os ds, ds.length ≠ n → mm os ds = .no) (va : EvMA X W G t g) (hS : G.getD S .fz = .sto) (hfl : flatG S G = true) :
    EvM X W G .any (tMakeP (Mg.cls c) (spS X.K X.mg n mm) (fun σ c dx H' => W c dx σ H') t) (makeS c mm S g) := fun F ρ own B σ H Q gd q => by
  refine va F ρ own B σ H _ gd (ResM.has_mono (ResM.has_bind q) (fun ds ρ1 q us own1 B1 H1 e1 g1 r1 => ?_) fun _ _ x => x)
  intro x dx hx hd ne
  cases hg : stoR S ρ1 with
  | none =>
    rw [hg] at q
    exact q.elim
  | some os =>
    rw [hg] at q
    simp only at q
    have hds : (refD os.length :: ds).length = n := Classical.byContradiction fun z => by
      rw [hlen _ _ z] at q
      exact q
    have st := g1.sto hS hg
    refine ⟨refD os.length :: ds, os ++ [.ins c []], lendSF own1 F H1, newS own1 x os.length, B1, hds, .cons (.inr ⟨_, x, rfl, rfl, if_pos rfl⟩) ((r1.gr lendS_gr).gr (newS_gr g1.gr hx)), newS_ground g1.gr hx hd ne, newS_sto g1 st hx hd ne, ?_⟩
    cases hr : mm (os ++ [.ins c []]) (refD os.length :: ds) with
    | no =>
      rw [hr] at q
      exact q.elim
    | ex e os' =>
      rw [hr] at q
      exact fun c dx own' B' H' e' g' st x => q c dx _ B' H' (e1.trans (backS_gr g1.gr g' ((newS_gr g1.gr hx).trans e'))) (backS_good g1 hS hfl hg g' ((newS_gr g1.gr hx).trans e') st) x
    | ok d os' =>
      rw [hr] at q
      intro v own' B' H' e' g' st r'
      split at q
      · rename_i h
        cases h
        have rv := r'.fz (d := .non) rfl
        cases rv
        refine ⟨rfl, ?_⟩
        have hxo : own' x = some [SH, os.length] := e'.le x _ (if_pos rfl)
        exact q _ _ B' H' (e1.trans (backS_gr g1.gr g' ((newS_gr g1.gr hx).trans e'))) (backS_good g1 hS hfl hg g' ((newS_gr g1.gr hx).trans e') st) (AnyR.back g1.gr g' (.inr ⟨_, x, rfl, rfl, hxo⟩))
      · rename_i h
        cases h
      · exact q.elim
theorem mj_makeS {g : Rho → ResM (List D)} (M : Mk X.K (Mg.cls c) f) (hlen : ∀ os ds, ds.length ≠ n → mm os ds = .no) (Fn : FnOk X.prog X.w X.K X.mg X.base (L2.CX X.prog X.w) k f fd ps (spS X.K X.mg n mm)) (hr : Room (k + 1) X.A) (hg : Gl X x) (hm : X.mg x = some (.ref (Mg.cls c))) (hb : Binds X.K fd ps [])
    (tk : Takes X W) (ha : MAJ X W G (e :: es) g) (hS : G.getD S .fz = .sto := by rfl) (hfl : flatG S G = true := by rfl) (hdb : (x == ("__debug__" : Str)) = false := by decide) (he : starEach (e :: es) X.env = (false, eval e X.env) :: starEach es X.env := by rfl) (hpl : (backTo pos (starEach es X.env)).any (·.1) = false := by rfl) :
    MJ X W G .any (.Call (.Name x p) (e :: es) [] pos) (makeS c mm S g) := by
  obtain ⟨t, pa, va⟩ := ha
  exact ⟨_, pe_makeP M Fn hr hg hm hb (fun σ => passAt tk σ) pa hdb he hpl, make_core hlen va hS hfl⟩
theorem mj_makeS0 (M : Mk X.K (Mg.cls c) f) (hlen : ∀ os ds, ds.length ≠ n → mm os ds = .no) (Fn : FnOk X.prog X.w X.K X.mg X.base (L2.CX X.prog X.w) k f fd ps (spS X.K X.mg n mm)) (hr : Room (k + 1) X.A) (hg : Gl X x) (hm : X.mg x = some (.ref (Mg.cls c))) (hb : Binds X.K fd ps [])
    (tk : Takes X W) (hS : G.getD S .fz = .sto := by rfl) (hfl : flatG S G = true := by rfl) (hdb : (x == ("__debug__" : Str)) = false := by decide) : MJ X W G .any (.Call (.Name x p) [] [] pos) (makeS c mm S noM) :=
  ⟨_, pe_makeP0 M Fn hr hg hm hb (fun σ => passAt tk σ) hdb, make_core (t := tNil) (g := noM) hlen (fun F ρ own B σ H Q gd q => q [] own B H .refl gd .nil) hS hfl⟩
end
end T

set_option Elab.async false
set_option linter.all false
set_option maxRecDepth 100000
set_option maxHeartbeats 4000000
/-! S-layer, part F: attributes set; places of lists and dicts. -/
namespace T
open PySem PySem.Spec PyProof.Rows L2
/-! ### places: a thing, or an attribute's own list or dict -/
abbrev Pl := Nat × Option Nat
def labP (p : Pl) : Lab := match p.2 with
  | none => [SH, p.1]
  | some k => [SH, p.1, k]
def getC (os : List D) (p : Pl) : Option D := match p.2 with
  | none => os[p.1]?
  | some k => match os[p.1]? with
    | some (.ins _ ds) => ds[k]?
    | _ => none
def putC (os : List D) (p : Pl) (d : D) : List D := match p.2 with
  | none => os.set p.1 d
  | some k => match os[p.1]? with
    | some (.ins c ds) => os.set p.1 (.ins c (ds.set k d))
    | _ => os
def isCt : D → Bool
  | .lst _ | .dct _ => true
  | _ => false
variable [Mg]
/-- what stands at a place -/
def CtR (K : PySem.W.Frag) (B H : Hp) (own : Own) (l : Addr) : D → Prop
  | .lst ds => ∃ vs, H l = some (.lst vs) ∧ AnyA K B own vs ds
  | .dct kvs => ∃ o, H l = some o ∧ AnyD K B own o kvs
  | _ => False
/-- a place in the store os -/
def PlOk (os : List D) (p : Pl) : Prop := match p.2 with
  | none => True
  | some k => ∃ c ds, os[p.1]? = some (.ins c ds) ∧ Mg.fm c k ≠ .any
def sameC : D → D → Bool
  | .lst _, .lst _ => true
  | .dct _, .dct _ => true
  | _, _ => false
section
variable {K : PySem.W.Frag} {F B B' H H' : Hp} {own own' : Own} {os os' : List D} {G : List Mode} {ρ : Rho} {σ : L2.St} {S : Nat} {p : Pl} {l : Addr} {d d' : D} {o : HO}
theorem CtR.gr (h : CtR K B H own l d) (s : Gr own B own' B') (e : H' l = H l) : CtR K B' H' own' l d := by
  cases d with
  | lst ds =>
    obtain ⟨vs, h1, h2⟩ := h
    exact ⟨vs, e.trans h1, h2.gr s⟩
  | dct ds =>
    obtain ⟨vs, h1, h2⟩ := h
    refine ⟨vs, e.trans h1, ?_⟩
    rcases h2 with ⟨ps, a, b, c⟩ | ⟨ps, a, b, c⟩
    · exact .inl ⟨ps, a, b, fun k p q x y => ⟨(c k p q x y).1, (c k p q x y).2.gr s⟩⟩
    · exact .inr ⟨ps, a, b, fun k p q x y => ⟨(c k p q x y).1, (c k p q x y).2.gr s⟩⟩
  | _ => exact h
/-- a place is found -/
theorem StoR.place (st : StoR K B H own os) (hp : PlOk os p) (hd : getC os p = some d) (hc : isCt d = true) (ho : own l = some (labP p)) : CtR K B H own l d := by
  obtain ⟨n, ok⟩ := p
  cases ok with
  | none =>
    have hr := st.obj (n := n) hd ho
    cases d with
    | lst ds => exact hr
    | dct ds => exact hr
    | _ => cases hc
  | some k =>
    obtain ⟨c, ds, h1, h2⟩ := hp
    unfold getC at hd
    simp only at hd h1
    rw [h1] at hd
    obtain ⟨a, h3, dx, vs, h4, h5, h6, h7⟩ := st.at_ n _ h1
    have hkl : k < vs.length := by rw [h6]; exact (List.getElem?_eq_some_iff.mp hd).1
    have hu : (vs.map (·.2))[k]? = some (vs[k]'hkl).2 := by rw [List.getElem?_map, List.getElem?_eq_getElem hkl]; rfl
    have h8 := h7 k _ _ hu hd
    cases hm : Mg.fm c k with
    | any => exact absurd hm h2
    | lst =>
      rw [hm] at h8
      obtain ⟨l', us, es, e1, e2, e3, e4, e5⟩ := h8
      subst e2
      have := st.inj l l' n [k] ho e3
      subst this
      exact ⟨us, e4, e5⟩
    | dct =>
      rw [hm] at h8
      obtain ⟨l', us, es, e1, e2, e3, e4, e5⟩ := h8
      subst e2
      have := st.inj l l' n [k] ho e3
      subst this
      exact ⟨us, e4, e5⟩
omit [Mg] in
theorem ground_upd {a : Addr} (g : Ground F own B H) (ho : own a ≠ none) : Ground F own B (upd H a o) := by
  refine ⟨fun b u e => ?_, fun b u e => ?_, fun b h => ?_⟩
  · have ne : b ≠ a := fun z => ho (by rw [← z]; exact (g.base b u e).2)
    rw [upd_ne ne]
    exact g.base b u e
  · have ne : b ≠ a := fun z => ho (by rw [← z]; exact (g.frame b u e).2.1)
    rw [upd_ne ne]
    exact g.frame b u e
  · by_cases hb : b = a
    · rw [hb, upd_same]
      exact fun z => nomatch z
    · rw [upd_ne hb]
      exact g.live b h
/-- a thing changes where it stands -/
theorem Good.put (g : Good K F G ρ own B σ H) (hS : G.getD S Mode.fz = .sto) (hfl : flatG S G = true) (hρ : stoR S ρ = some os) {n : Nat} {r : Lab} {o' : D} (hn : n < os.length) (ho : own l = some (SH :: n :: r)) (hr : ∀ a, own a = some [SH, n] → RootR K B (upd H l o) own n a o') : Good K F G (T.setS S (os.set n o') ρ) own B σ (upd H l o) := by
  have st := g.sto hS hρ
  refine g.setS hS hfl hρ (ground_upd g.gr (by rw [ho]; exact fun z => nomatch z)) (st.mut hn (Same.refl B) (fun _ _ _ _ => .rfl) (fun _ => .rfl) (fun b m r' hm hb => ?_) (fun a a' r' h1 h2 => st.inj a a' n r' h1 h2) hr) (Same.refl B) (fun b i r' hi hb => ⟨hb, ?_⟩) (fun _ _ h => h)
  · rw [upd_ne fun z => ?_]
    rw [z, ho] at hb
    simp only [Option.some.injEq, List.cons.injEq] at hb
    exact hm hb.2.1.symm
  · rw [upd_ne fun z => ?_]
    rw [z, ho] at hb
    simp only [Option.some.injEq, List.cons.injEq] at hb
    exact hi hb.1.symm
/-- a list or dict changes at its place -/
theorem Good.putC (g : Good K F G ρ own B σ H) (hS : G.getD S Mode.fz = .sto) (hfl : flatG S G = true) (hρ : stoR S ρ = some os) (hp : PlOk os p) (hd : getC os p = some d) (ho : own l = some (labP p)) (hc : sameC d d' = true) (hr : CtR K B (upd H l o) own l d') :
    Good K F G (T.setS S (T.putC os p d') ρ) own B σ (upd H l o) := by
  have st := g.sto hS hρ
  obtain ⟨n, ok⟩ := p
  cases ok with
  | none =>
    have hn : n < os.length := (List.getElem?_eq_some_iff.mp (show os[n]? = some d from hd)).1
    refine g.put hS hfl hρ hn (r := []) ho fun a ha => ?_
    have := st.inj a l n [] ha ho
    subst this
    cases d' with
    | lst ds => exact hr
    | dct ds => exact hr
    | _ => exact hr.elim
  | some k =>
    obtain ⟨c, ds, h1, h2⟩ := hp
    simp only at h1
    unfold getC at hd
    simp only at hd
    rw [h1] at hd
    have hn : n < os.length := (List.getElem?_eq_some_iff.mp h1).1
    have e : T.putC os (n, some k) d' = os.set n (.ins c (ds.set k d')) := by
      unfold T.putC
      simp only
      rw [h1]
    rw [e]
    refine g.put hS hfl hρ hn (r := [k]) ho fun a ha => ?_
    obtain ⟨dx, vs, h4, h5, h6, h7⟩ := st.obj h1 ha
    have hla : a ≠ l := fun z => by
      rw [z, ho] at ha
      cases ha
    refine ⟨dx, vs, by rw [upd_ne hla]; exact h4, h5, by rw [List.length_set]; exact h6, fun j v y hv hy => ?_⟩
    by_cases hjk : k = j
    · subst hjk
      have hkl : k < ds.length := (List.getElem?_eq_some_iff.mp hd).1
      rw [List.getElem?_set_self hkl] at hy
      cases hy
      have h8 := h7 k v d hv hd
      cases hm : Mg.fm c k with
      | any => exact absurd hm h2
      | lst =>
        rw [hm] at h8
        obtain ⟨l', us, es, e1, e2, e3, e4, e5⟩ := h8
        subst e2
        have := st.inj l l' n [k] ho e3
        subst this
        cases d' with
        | lst es' =>
          obtain ⟨us', k1, k2⟩ := hr
          exact ⟨l, us', es', e1, rfl, e3, k1, k2⟩
        | _ => cases hc
      | dct =>
        rw [hm] at h8
        obtain ⟨l', us, es, e1, e2, e3, e4, e5⟩ := h8
        subst e2
        have := st.inj l l' n [k] ho e3
        subst this
        cases d' with
        | dct es' =>
          obtain ⟨us', k1, k2⟩ := hr
          exact ⟨l, us', es', e1, rfl, e3, k1, k2⟩
        | _ => cases hc
    · rw [List.getElem?_set_ne hjk] at hy
      have h8 := h7 j v y hv hy
      cases hm : Mg.fm c j with
      | any =>
        rw [hm] at h8
        exact h8
      | lst =>
        rw [hm] at h8
        obtain ⟨l', us, es, e1, e2, e3, e4, e5⟩ := h8
        exact ⟨l', us, es, e1, e2, e3, by rw [upd_ne fun z => by rw [z, ho] at e3; simp only [labP, Option.some.injEq, List.cons.injEq] at e3; exact hjk e3.2.2.1]; exact e4, e5⟩
      | dct =>
        rw [hm] at h8
        obtain ⟨l', us, es, e1, e2, e3, e4, e5⟩ := h8
        exact ⟨l', us, es, e1, e2, e3, by rw [upd_ne fun z => by rw [z, ho] at e3; simp only [labP, Option.some.injEq, List.cons.injEq] at e3; exact hjk e3.2.2.1]; exact e4, e5⟩
end
/-! ### the place of an expression -/
def EvC (X : Cx) (W : WX) (G : List Mode) (S : Nat) (t : TE) (g : Rho → Res (Pl × D)) : Prop :=
  ∀ (F : Hp) (ρ : Rho) (own : Own) (B : Hp) (σ : L2.St) (H : Hp) (Q : VK), Good X.K F G ρ own B σ H →
    (g ρ).has (fun r => ∀ (os : List D) (l : Addr) (B' H' : Hp), Step own F B H B' H' → stoR S ρ = some os → PlOk os r.1 → getC os r.1 = some r.2 → own l = some (labP r.1) → CtR X.K B' H' own l r.2 → Q (.ref l) H') (WOk X.K X.mg W own F B H σ) → t σ H Q
def PlJ (X : Cx) (W : WX) (G : List Mode) (S : Nat) (e : Expr) (g : Rho → Res (Pl × D)) : Prop := ∃ t, PE X e t ∧ EvC X W G S t g
/-- a value, a list or dict in the store -/
def plD (so : Option (List D)) (d : D) : Res (Pl × D) := match refN d, so with
  | some n, some os => match os[n]? with
    | some x => if isCt x = true then .ok ((n, none), x) else .no
    | none => .no
  | _, _ => .no
def plR (S : Nat) (g : Rho → Res D) : Rho → Res (Pl × D) := fun ρ => (g ρ).bind fun d => plD (stoR S ρ) d
def plFD (tab : FT) (so : Option (List D)) (d : D) : Res (Pl × D) := match refN d, so with
  | some n, some os => match os[n]? with
    | some (.ins c ds) => match tab.lookup c with
      | some (k, .any) => .no
      | some (k, _) => match ds[k]? with
        | some x => if isCt x = true then .ok ((n, some k), x) else .no
        | none => .no
      | none => .no
    | _ => .no
  | _, _ => .no
def plF (S : Nat) (tab : FT) (g : Rho → Res D) : Rho → Res (Pl × D) := fun ρ => (g ρ).bind fun d => plFD tab (stoR S ρ) d
section
variable {X : Cx} {W : WX} {G : List Mode} {e : Expr} {f : Str} {pos : Pos} {S : Nat}
theorem cj_val {g : Rho → Res D} (he : PJ X W G e g) (hS : G.getD S .fz = .sto := by rfl) : PlJ X W G S e (plR S g) := by
  obtain ⟨t, pe, ve⟩ := he
  refine ⟨t, pe, fun F ρ own B σ H Q gd q => ?_⟩
  refine ve F ρ own B σ H _ gd (Res.has_mono (Res.has_bind q) (fun d q v B' H' s r => ?_) fun _ x => x)
  unfold plD at q
  split at q
  case h_2 => exact q.elim
  rename_i n os hn hos
  obtain ⟨a, rfl, rfl, ho⟩ := r.ref hn
  split at q
  case h_2 => exact q.elim
  rename_i x hx
  split at q
  case isFalse => exact q.elim
  rename_i hc
  have st := (gd.step s).sto hS hos
  exact q os a B' H' s hos trivial hx ho (st.place (p := (n, none)) trivial hx hc ho)
theorem cj_fld {tab : FT} {g : Rho → Res D} (hf : FldT X.K f tab) (he : PJ X W G e g) (hS : G.getD S .fz = .sto := by rfl) (hb : attributeBase e f X.env (eval e X.env) = eval e X.env := by rfl) : PlJ X W G S (.Attribute e f pos) (plF S tab g) := by
  obtain ⟨t, pe, ve⟩ := he
  refine ⟨_, pe_fld pe hb, fun F ρ own B σ H Q gd q => ?_⟩
  refine ve F ρ own B σ H _ gd (Res.has_mono (Res.has_bind q) (fun d q v B' H' s r => ?_) fun _ x => x)
  unfold plFD at q
  split at q
  case h_2 => exact q.elim
  rename_i n os hn hos
  obtain ⟨a, rfl, rfl, ho⟩ := r.ref hn
  split at q
  case h_2 => exact q.elim
  rename_i c ds hc
  split at q
  · exact q.elim
  case h_3 => exact q.elim
  rename_i k m hne hk
  split at q
  case h_2 => exact q.elim
  rename_i x hx
  split at q
  case isFalse => exact q.elim
  rename_i hct
  have st := (gd.step s).sto hS hos
  obtain ⟨dx, vs, h1, h2, h3, h4⟩ := st.obj hc ho
  obtain ⟨hF, hM⟩ := hf c k _ hk
  have hkl : k < vs.length := by rw [h3]; exact (List.getElem?_eq_some_iff.mp hx).1
  have hu : (vs.map (·.2))[k]? = some (vs[k]'hkl).2 := by rw [List.getElem?_map, List.getElem?_eq_getElem hkl]; rfl
  have h5 := h4 k _ _ hu hx
  have hma : Mg.fm c k ≠ .any := by rw [hM]; exact fun z => hne z
  have hpl : PlOk os (n, some k) := ⟨c, ds, hc, hma⟩
  have hgc : getC os (n, some k) = some x := by
    unfold getC
    simp only
    rw [hc]
    exact hx
  rw [hM] at h5
  cases m with
  | any => exact (hne rfl).elim
  | lst =>
    obtain ⟨l, us, es, e1, e2, e3, e4, e5⟩ := h5
    refine ⟨_, _, _, _, _, rfl, h1, hF.cls, hF.no, hF.look h2 hu, ?_⟩
    rw [e1]
    exact q os l B' H' s hos hpl hgc e3 (st.place hpl hgc hct e3)
  | dct =>
    obtain ⟨l, us, es, e1, e2, e3, e4, e5⟩ := h5
    refine ⟨_, _, _, _, _, rfl, h1, hF.cls, hF.no, hF.look h2 hu, ?_⟩
    rw [e1]
    exact q os l B' H' s hos hpl hgc e3 (st.place hpl hgc hct e3)
end
end T

set_option Elab.async false
set_option linter.all false
set_option maxRecDepth 100000
set_option maxHeartbeats 4000000
/-! S-layer, part G: attributes are set; lists and dicts at places change. -/
namespace T
open PySem PySem.Spec PyProof.Rows L2
/-- an attribute of any value, set -/
def putF2 (tab : FT) (so : Option (List D)) (d y : D) : Option (List D) := match refN d, so with
  | some n, some os => match os[n]? with
    | some (.ins c ds) => match tab.lookup c with
      | some (k, .any) => if k ≤ ds.length then some (os.set n (.ins c (putN k y ds))) else none
      | _ => none
    | _ => none
  | _, _ => none
variable [Mg]
section
variable {X : Cx} {W : WX} {L : LM} {G G' : List Mode} {e o : Expr} {f x : Str} {pos pos' apos cpos tpos : Pos} {S i : Nat}
def sFldS (S : Nat) (tab : FT) (go : Rho → Res D) (g : Rho → ResM D) : Rho → Out := fun ρ => thenM (g ρ) fun y ρ1 => thenS (go ρ1) ρ1 fun d => match putF2 tab (stoR S ρ1) d y with
  | some os' => .nx (setS S os' ρ1)
  | none => .no
/-- o.f = e -/
theorem sj_fsetS {tab : FT} {go : Rho → Res D} {g : Rho → ResM D} (hf : FldT X.K f tab) (hsm : ∀ c k m, tab.lookup c = some (k, m) → FldS c) (ho : PJ X W G o go) (he : MJ X W G .any e g) (hS : G.getD S .fz = .sto := by rfl) (hfl : flatG S G = true := by rfl)
    (hs : swapsWith e (some (.Attribute o f pos')) pos.line X.env = pure false := by rfl) : SJ X W L G (.Assign [.Attribute o f pos'] e pos) (sFldS S tab go g) G := by
  obtain ⟨te, pe, ve⟩ := he
  obtain ⟨to, po, vo⟩ := ho
  refine ⟨_, ps_fld po pe hs, fun hx F ρ own B σ H D gd q => ?_⟩
  refine ve F ρ own B σ H _ gd (ResM.has_mono (thenM_has hx q) (fun y ρ1 q u own1 B1 H1 e1 g1 ry => ?_) fun _ _ x => x)
  refine vo F ρ1 own1 B1 σ H1 _ g1 (Res.has_mono (thenS_has hx g1 (q.ext e1)) (fun d q v B' H' s r => ?_) fun _ x => x)
  have g2 := g1.step s
  unfold putF2 at q
  split at q
  case h_2 => exact q.elim
  rename_i os' hp
  split at hp
  case h_2 => cases hp
  rename_i n os hn hos
  obtain ⟨a, rfl, rfl, hao⟩ := r.ref hn
  split at hp
  case h_2 => cases hp
  rename_i c ds hc
  split at hp
  case h_2 => cases hp
  rename_i k hk
  split at hp
  case isFalse => cases hp
  rename_i hkl
  cases hp
  have st := g2.sto hS hos
  obtain ⟨dx, vs, h1, h2, h3, h4⟩ := st.obj hc hao
  obtain ⟨hF, hM⟩ := hf c k _ hk
  refine ⟨a, _, dx, vs, rfl, h1, hF.cls, hF.no, pre_small h2 (hsm c k _ hk), ?_⟩
  obtain ⟨p1, p2⟩ := put_all (y := u) h2 hF.at_ hF.new (i := k) (by omega)
  have hnl : n < os.length := (List.getElem?_eq_some_iff.mp hc).1
  refine q own1 B' σ _ s.g (g2.put hS hfl hos hnl (r := []) hao fun a' ha' => ?_)
  have := st.inj a' a n [] ha' hao
  subst this
  have ry' : AnyR X.K B' own1 u y := AnyR.gr ry s.g
  have hlen : (vs.map (·.2)).length = ds.length := by rw [List.length_map]; exact h3
  refine ⟨dx, _, upd_same, p1, ?_, fun j v d hv hd => ?_⟩
  · have := congrArg List.length p2
    rw [List.length_map] at this
    rw [this]
    unfold putN
    rw [hlen]
    split <;> simp [hlen]
  · rw [p2] at hv
    by_cases hjk : j = k
    · subst hjk
      have hv' : v = u := by
        unfold putN at hv
        split at hv
        · rename_i hl
          rw [List.getElem?_set_self hl] at hv
          cases hv
          rfl
        · rename_i hl
          have : j = (vs.map (·.2)).length := by omega
          rw [this, List.getElem?_append_right (Nat.le_refl _), Nat.sub_self] at hv
          cases hv
          rfl
      have hd' : d = y := by
        unfold putN at hd
        split at hd
        · rename_i hl
          rw [List.getElem?_set_self hl] at hd
          cases hd
          rfl
        · rename_i hl
          have : j = ds.length := by omega
          rw [this, List.getElem?_append_right (Nat.le_refl _), Nat.sub_self] at hd
          cases hd
          rfl
      rw [hv', hd', hM]
      exact ry'
    · have hv' : (vs.map (·.2))[j]? = some v := by
        unfold putN at hv
        split at hv
        · rwa [List.getElem?_set_ne (Ne.symm hjk)] at hv
        · rename_i hl
          have hj : j < (vs.map (·.2)).length := by
            have := (List.getElem?_eq_some_iff.mp hv).1
            rw [List.length_append, List.length_singleton] at this
            omega
          rwa [List.getElem?_append_left hj] at hv
      have hd' : ds[j]? = some d := by
        unfold putN at hd
        split at hd
        · rwa [List.getElem?_set_ne (Ne.symm hjk)] at hd
        · rename_i hl
          have hj : j < ds.length := by
            have := (List.getElem?_eq_some_iff.mp hd).1
            rw [List.length_append, List.length_singleton] at this
            omega
          rwa [List.getElem?_append_left hj] at hd
      have h5 := h4 j v d hv' hd'
      cases hm : Mg.fm c j with
      | any =>
        rw [hm] at h5
        exact h5
      | lst =>
        rw [hm] at h5
        obtain ⟨l', us, es, k1, k2, k3, k4, k5⟩ := h5
        exact ⟨l', us, es, k1, k2, k3, by rw [upd_ne fun z => by rw [z, hao] at k3; cases k3]; exact k4, k5⟩
      | dct =>
        rw [hm] at h5
        obtain ⟨l', us, es, k1, k2, k3, k4, k5⟩ := h5
        exact ⟨l', us, es, k1, k2, k3, by rw [upd_ne fun z => by rw [z, hao] at k3; cases k3]; exact k4, k5⟩
/-! ### a new list or dict becomes a thing of the store -/
def rootN (S : Nat) (g : Rho → Res (List D)) : Rho → ResM D := fun ρ => (liftM (g ρ) ρ).bind fun ds ρ1 => match stoR S ρ1 with
  | some os => if ds.all D.nref = true then .ok (refD os.length) (setS S (os ++ [.lst ds]) ρ1) else .no
  | none => .no
theorem good_new {K : PySem.W.Frag} {F B H : Hp} {own : Own} {os : List D} {ρ : Rho} {σ : L2.St} {p : Addr} {d : D} (g : Good K F G ρ own B σ H) (hS : G.getD S .fz = .sto) (hfl : flatG S G = true) (hos : stoR S ρ = some os) (hB : B p = none) (hF : F p = none) (ho : own p = none) (hp : H p ≠ none) (hc : CtR K B H own p d) :
    Gr own B (fun a => if a = p then some [SH, os.length] else own a) B ∧ Good K F G (setS S (os ++ [d]) ρ) (fun a => if a = p then some [SH, os.length] else own a) B σ H := by
  have gr : Gr own B (fun a => if a = p then some [SH, os.length] else own a) B := ⟨Same.refl B, fun a n h => by
    have ne : a ≠ p := fun z => by rw [z, ho] at h; cases h
    simp only [ne, if_false]
    exact h⟩
  refine ⟨gr, g.setS hS hfl hos ⟨fun a u e => ⟨(g.gr.base a u e).1, ?_⟩, fun a u e => ⟨(g.gr.frame a u e).1, ?_, (g.gr.frame a u e).2.2⟩, fun a h => ?_⟩ ((g.sto hS hos).new (Same.refl B) ho (fun _ _ _ _ => rfl) ?_) (Same.refl B) (fun l i r _ h => ⟨?_, rfl⟩) gr.le⟩
  · have ne : a ≠ p := fun z => by rw [z, hB] at e; cases e
    simp only [ne, if_false]
    exact (g.gr.base a u e).2
  · have ne : a ≠ p := fun z => by rw [z, hF] at e; cases e
    simp only [ne, if_false]
    exact (g.gr.frame a u e).2.1
  · by_cases ha : a = p
    · rw [ha]
      exact hp
    · simp only [ha, if_false] at h
      exact g.gr.live a h
  · have hc' := hc.gr gr rfl
    cases d with
    | lst ds => exact hc'
    | dct ds => exact hc'
    | _ => exact hc'.elim
  · have ne : l ≠ p := fun z => by rw [z, ho] at h; cases h
    simp only [ne, if_false]
    exact h
theorem anyA_of {K : PySem.W.Frag} {B : Hp} {own : Own} {vs : List V} {ds : List D} (r : RpA K B vs ds) (n : ds.all D.nref = true) : AnyA K B own vs ds := ⟨r.len, fun k v d h1 h2 => by
  obtain ⟨d', h3, h4⟩ := r.get' h1
  rw [h2] at h3
  cases h3
  exact .inl ⟨List.all_eq_true.mp n d (List.mem_of_getElem? h2), h4⟩⟩
theorem mj_rootN {g : Rho → Res (List D)} (h : NJ X W G e g) (hS : G.getD S .fz = .sto := by rfl) (hfl : flatG S G = true := by rfl) : MJ X W G .any e (rootN S g) := by
  obtain ⟨t, pe, ve⟩ := h
  refine ⟨t, pe, fun F ρ own B σ H Q gd q => ?_⟩
  have q := ResM.has_bind q
  refine ve F ρ own B σ H Q gd (Res.has_mono (liftM_has q) (fun ds q p vs B' H' s hB hF ho hp r => ?_) fun e x => WMk.ok gd x)
  split at q
  case h_2 => exact q.elim
  rename_i os hos
  split at q
  case isFalse => exact q.elim
  rename_i hn
  obtain ⟨k1, k2⟩ := good_new (d := .lst ds) (gd.step s) hS hfl hos hB hF ho (by rw [hp]; exact fun z => nomatch z) ⟨vs, hp, anyA_of r hn⟩
  exact q (.ref p) _ B' H' (s.g.trans k1) k2 (.inr ⟨_, p, rfl, rfl, if_pos rfl⟩)
/-- {} -/
def rootD (S : Nat) : Rho → ResM D := fun ρ => match stoR S ρ with
  | some os => .ok (refD os.length) (setS S (os ++ [.dct []]) ρ)
  | none => .no
theorem rootD_core {tD : HO} (hz : tD = .dK [] ∨ tD = .dT []) (hS : G.getD S .fz = .sto) (hfl : flatG S G = true) : EvM X W G .any (fun _ H Q => ∀ p, H p = none → Q (.ref p) (upd H p tD)) (rootD S) := fun F ρ own B σ H Q gd q => by
  intro p hp
  unfold rootD at q
  split at q
  case h_2 => exact q.elim
  rename_i os hos
  have gd1 := gd.step (Step.garbage gd.gr tD hp)
  obtain ⟨k1, k2⟩ := good_new (d := .dct []) gd1 hS hfl hos (gd.gr.bfresh hp) (gd.gr.ffresh hp) (gd.gr.ofresh hp) (by rw [upd_same]; exact fun z => nomatch z) ⟨tD, upd_same, by
    rcases hz with z | z
    · exact .inl ⟨[], z, rfl, fun k p q h => by simp at h⟩
    · exact .inr ⟨[], z, rfl, fun k p q h => by simp at h⟩⟩
  exact q (.ref p) _ B _ k1 k2 (.inr ⟨_, p, rfl, rfl, if_pos rfl⟩)
theorem mj_rootDK (hS : G.getD S .fz = .sto := by rfl) (hfl : flatG S G = true := by rfl) : MJ X W G .any (.Dict [] [] pos) (rootD S) := ⟨_, pe_dnewK, rootD_core (.inl rfl) hS hfl⟩
theorem mj_rootDT (hS : G.getD S .fz = .sto := by rfl) (hfl : flatG S G = true := by rfl) : MJ X W G .any (.Dict [] [] pos) (rootD S) := ⟨_, pe_dnewT, rootD_core (.inr rfl) hS hfl⟩
/-! ### lists at places -/
def atC (S : Nat) (gp : Rho → Res (Pl × D)) (ρ : Rho) (k : List D → Pl → List D → Out) : Out := thenS (gp ρ) ρ fun r => match stoR S ρ, r.2 with
  | some os, .lst ds => k os r.1 ds
  | _, _ => .no
/-- p.append(e) -/
def sAppC (S : Nat) (gp : Rho → Res (Pl × D)) (g : Rho → Res D) : Rho → Out := fun ρ => atC S gp ρ fun os p ds => thenS (g ρ) ρ fun y => if ds.length < sizeLine then .nx (setS S (putC os p (.lst (ds ++ [y]))) ρ) else .no
theorem AnyA.app {K : PySem.W.Frag} {B : Hp} {own : Own} {vs us : List V} {ds es : List D} (h : AnyA K B own vs ds) (h' : AnyA K B own us es) : AnyA K B own (vs ++ us) (ds ++ es) := ⟨by simp [h.1, h'.1], fun k v d h1 h2 => by
  by_cases hk : k < vs.length
  · rw [List.getElem?_append_left hk] at h1
    rw [List.getElem?_append_left (by rw [← h.1]; exact hk)] at h2
    exact h.2 k v d h1 h2
  · rw [List.getElem?_append_right (by omega)] at h1
    rw [List.getElem?_append_right (by rw [← h.1]; omega), ← h.1] at h2
    exact h'.2 _ v d h1 h2⟩
theorem AnyA.set {K : PySem.W.Frag} {B : Hp} {own : Own} {vs : List V} {ds : List D} {j : Nat} {v : V} {d : D} (h : AnyA K B own vs ds) (r : AnyR K B own v d) : AnyA K B own (vs.set j v) (ds.set j d) := ⟨by simp [h.1], fun k u y h1 h2 => by
  by_cases hk : j = k
  · subst hk
    have hl := (List.getElem?_eq_some_iff.mp h1).1
    rw [List.length_set] at hl
    rw [List.getElem?_set_self hl] at h1
    rw [List.getElem?_set_self (by rw [← h.1]; exact hl)] at h2
    cases h1
    cases h2
    exact r
  · rw [List.getElem?_set_ne hk] at h1 h2
    exact h.2 k u y h1 h2⟩
theorem sj_appC {gp : Rho → Res (Pl × D)} {g : Rho → Res D} (hv : PlJ X W G S o gp) (he : PJ X W G e g) (hS : G.getD S .fz = .sto := by rfl) (hfl : flatG S G = true := by rfl)
    (hs : swapsWith (.Call (.Attribute o "append" apos) [e] [] cpos) none pos.line X.env = pure false := by rfl) (hbase : attributeBase o "append" X.env (eval o X.env) = eval o X.env := by rfl)
    (hfew : ((backTo cpos (starEach [e] X.env)).all (fun x => !x.1) && (backToKw cpos (keywordEach [] X.env)).all (fun x => x.1.isSome)
      && decide ([e].length + ([] : List Keyword).length + (if ([] : List Keyword).isEmpty then 0 else 1) < 30)) = true := by rfl)
    (hline : (apos.endLine == cpos.line) = true := by rfl) (hst : starEach [e] X.env = (false, eval e X.env) :: starEach [] X.env := by rfl) (hplain : (backTo cpos (starEach [] X.env)).any (·.1) = false := by rfl) :
    SJ X W L G (.Expr (.Call (.Attribute o "append" apos) [e] [] cpos) pos) (sAppC S gp g) G := by
  obtain ⟨te, pe, ve⟩ := he
  obtain ⟨to, po, vo⟩ := hv
  refine ⟨_, ps_expr (pe_bm PySem.F.plainAttrs_list PySem.F.slot_list_append PySem.F.type_list_append mt_append po (pa_cons pe pa_nil hst) hbase hfew hline hst hplain) hs, fun hx F ρ own B σ H D gd q => ?_⟩
  unfold sAppC atC at q
  refine vo F ρ own B σ H _ gd (Res.has_mono (thenS_has hx gd q) (fun r q os l B' H' s hos hpl hgc hol hct => ?_) fun _ x => x)
  rw [hos] at q
  obtain ⟨p, d⟩ := r
  cases d with
  | lst ds =>
    simp only at q hct hgc hpl hol
    obtain ⟨vs, h1, h2⟩ := hct
    have g1 := gd.step s
    refine ⟨.inl ⟨rfl, vs, .inl (.inl h1)⟩, ?_⟩
    refine ve F ρ own B' σ H' _ g1 (Res.has_mono (thenS_has hx g1 (q.ext s.g)) (fun y q u B2 H2 s2 r2 => ?_) fun _ x => x)
    split at q
    case isFalse => exact q.elim
    rename_i hz
    have hoN : own l ≠ none := by rw [hol]; exact fun z => nomatch z
    refine ⟨l, vs, u, rfl, rfl, (s2.ownd l hoN).1.trans h1, by rw [h2.1]; exact hz, ?_⟩
    exact q own B2 σ _ s2.g ((g1.step s2).putC hS hfl hos hpl hgc hol rfl ⟨_, upd_same, (h2.gr s2.g).app (.cons r2 .nil)⟩)
  | _ => exact q.elim
end
end T

set_option Elab.async false
set_option linter.all false
set_option maxRecDepth 100000
set_option maxHeartbeats 4000000
/-! S-layer, part I: lists at places: read, stored into, popped; attributes in place; lists of their own in attributes. -/
namespace T
open PySem PySem.Spec PyProof.Rows L2
variable [Mg]
section
variable {X : Cx} {W : WX} {L : LM} {G G' : List Mode} {e o i : Expr} {f x : Str} {pos pos' apos cpos tpos : Pos} {S : Nat}
theorem AnyA.at {K : PySem.W.Frag} {B : Hp} {own : Own} {vs : List V} {ds : List D} {i : Int} {d : D} (r : AnyA K B own vs ds) (h : atI ds i = some d) : ∃ v, atI vs i = some v ∧ AnyR K B own v d := by
  unfold atI at h ⊢
  rw [r.1]
  obtain ⟨j, h1, h2⟩ := Option.bind_eq_some_iff.mp h
  rw [h1]
  have hj : j < vs.length := by rw [r.1]; exact (List.getElem?_eq_some_iff.mp h2).1
  exact ⟨vs[j], List.getElem?_eq_getElem hj, r.2 j _ d (List.getElem?_eq_getElem hj) h2⟩
/-- p[i], a list's item -/
def ixC (S : Nat) (gp : Rho → Res (Pl × D)) (gi : Rho → Res D) : Rho → Res D := fun ρ => (gp ρ).bind fun r => (gi ρ).bind fun k => match r.2, k with
  | .lst ds, .int j => match atI ds j with
    | some d => .ok d
    | none => .no
  | _, _ => .no
theorem pj_ixC {gp : Rho → Res (Pl × D)} {gi : Rho → Res D} (ho : PlJ X W G S o gp) (hi : BJ X W G i gi) (hS : G.getD S .fz = .sto := by rfl) (hs : PlainIx i := by exact fun _ _ => rfl) : PJ X W G (.Subscript o i pos) (ixC S gp gi) := by
  obtain ⟨to, po, vo⟩ := ho
  obtain ⟨ti, pi, vi⟩ := hi
  refine ⟨_, pe_ix ix_seq po pi hs, fun F ρ own B σ H Q gd q => ?_⟩
  unfold ixC at q
  cases hs0 : stoR S ρ with
  | none =>
    refine vo F ρ own B σ H _ gd (Res.has_mono (Res.has_bind q) (fun r q os l B' H' s hos hpl hgc hol hct => ?_) fun _ x => x)
    rw [hs0] at hos
    cases hos
  | some os0 =>
    refine vo F ρ own B σ H _ gd (Res.has_mono (Res.has_bind q) (fun r q os l B' H' s hos hpl hgc hol hct => ?_) fun _ x => x)
    obtain ⟨p, d⟩ := r
    have g1 := gd.step s
    refine vi F ρ own B' σ H' _ g1 (Res.has_mono (Res.has_bind q) (fun k q2 w B2 H2 s2 r2 => ?_) fun _ x => x.step s)
    clear q
    split at q2
    case h_2 => exact q2.elim
    rename_i ds j h1
    have h1 : d = .lst ds := h1
    subst h1
    cases r2.int
    simp only at hct hol
    split at q2
    case h_2 => exact q2.elim
    rename_i y hy
    obtain ⟨vs, h3, h4⟩ := hct
    have hoN : own l ≠ none := by rw [hol]; exact fun z => nomatch z
    obtain ⟨v, h5, h6⟩ := (h4.gr s2.g).at hy
    exact .inl ⟨l, vs, j, v, rfl, rfl, .inl (.inl ((s2.ownd l hoN).1.trans h3)), h5, q2 v B2 H2 (s.trans s2) h6⟩
/-- p[i] = e -/
def sSetIC (S : Nat) (gp : Rho → Res (Pl × D)) (gk g : Rho → Res D) : Rho → Out := fun ρ => thenS (g ρ) ρ fun y => atC S gp ρ fun os p ds => thenS (gk ρ) ρ fun k => match k with
  | .int k => match ixN ds.length k with
    | some j => .nx (setS S (putC os p (.lst (ds.set j y))) ρ)
    | none => .no
  | _ => .no
theorem sj_setIC {k : Expr} {sp : Pos} {gp : Rho → Res (Pl × D)} {g gk : Rho → Res D} (hv : PlJ X W G S o gp) (he : PJ X W G e g) (hk : BJ X W G k gk) (hS : G.getD S .fz = .sto := by rfl) (hfl : flatG S G = true := by rfl)
    (hg : ∀ {to ti : TE}, PE X o to → PE X k ti → PG X (.Subscript o k sp) (gSub to ti rSetL)) (h1 : (assignEach [.Subscript o k sp] X.env).map (·.2) = [assign (.Subscript o k sp) X.env] := by rfl) (hs : swapsWithSole [.Subscript o k sp] e pos.line X.env = pure false := by rfl) (hw : swappedStores [.Subscript o k sp] e X.env = pure none := by rfl) :
    SJ X W L G (.Assign [.Subscript o k sp] e pos) (sSetIC S gp gk g) G := by
  obtain ⟨te, pe, ve⟩ := he
  obtain ⟨tk, pk, vk⟩ := hk
  obtain ⟨to, po, vo⟩ := hv
  refine ⟨_, ps_asg pe (hg po pk) hs hw h1, fun hx F ρ own B σ H D gd q => ?_⟩
  refine ve F ρ own B σ H _ gd (Res.has_mono (thenS_has hx gd q) (fun y q u B' H' s r => ?_) fun _ x => x)
  have g1 := gd.step s
  have q := q.ext s.g
  unfold atC at q
  refine vo F ρ own B' σ H' _ g1 (Res.has_mono (thenS_has hx g1 q) (fun r2 q os l B2 H2 s2 hos hpl hgc hol hct => ?_) fun _ x => x)
  rw [hos] at q
  obtain ⟨p, d⟩ := r2
  cases d with
  | lst ds =>
    simp only at q hct hgc hpl hol
    obtain ⟨vs, h3, h4⟩ := hct
    have g2 := g1.step s2
    refine vk F ρ own B2 σ H2 _ g2 (Res.has_mono (thenS_has hx g2 (q.ext s2.g)) (fun dk q w B3 H3 s3 r3 => ?_) fun _ x => x)
    cases dk with
    | int k =>
      cases r3.int
      simp only at q
      cases hj : ixN ds.length k with
      | none =>
        rw [hj] at q
        exact q.elim
      | some j =>
        rw [hj] at q
        have hoN : own l ≠ none := by rw [hol]; exact fun z => nomatch z
        refine ⟨l, vs, k, j, rfl, rfl, (s3.ownd l hoN).1.trans h3, by rw [h4.1]; exact hj, ?_⟩
        exact q own B3 σ _ s3.g ((g2.step s3).putC hS hfl hos hpl hgc hol rfl ⟨_, upd_same, (h4.gr s3.g).set ((r.step s2).step s3)⟩)
    | _ => exact q.elim
  | _ => exact q.elim
/-- p.pop(i) -/
def popC (S : Nat) (gp : Rho → Res (Pl × D)) (gi : Rho → Res D) : Rho → ResM D := fun ρ => (liftM (gp ρ) ρ).bind fun r ρ1 => match stoR S ρ1, r.2 with
  | some os, .lst ds => (liftM (gi ρ1) ρ1).bind fun k ρ2 => match k with
    | .int j => if -(2 ^ 63) ≤ j ∧ j < 2 ^ 63 then match seqIndex? j ds.length with
        | some n => match ds[n]? with
          | some y => .ok y (setS S (putC os r.1 (.lst (ds.eraseIdx n))) ρ2)
          | none => .no
        | none => .no
      else .no
    | _ => .no
  | _, _ => .no
theorem AnyA.erase {K : PySem.W.Frag} {B : Hp} {own : Own} {vs : List V} {ds : List D} (h : AnyA K B own vs ds) (n : Nat) : AnyA K B own (vs.eraseIdx n) (ds.eraseIdx n) := ⟨by simp [List.length_eraseIdx, h.1], fun k u y h1 h2 => by
  rw [List.getElem?_eraseIdx] at h1 h2
  split at h1
  · rename_i hk
    rw [if_pos hk] at h2
    exact h.2 k u y h1 h2
  · rename_i hk
    rw [if_neg hk] at h2
    exact h.2 _ u y h1 h2⟩
theorem mj_popC {gp : Rho → Res (Pl × D)} {gi : Rho → Res D} (hv : PlJ X W G S o gp) (hi : BJ X W G i gi) (hS : G.getD S .fz = .sto := by rfl) (hfl : flatG S G = true := by rfl)
    (hbase : attributeBase o "pop" X.env (eval o X.env) = eval o X.env := by rfl)
    (hfew : ((backTo cpos (starEach [i] X.env)).all (fun x => !x.1) && (backToKw cpos (keywordEach [] X.env)).all (fun x => x.1.isSome)
      && decide ([i].length + ([] : List Keyword).length + (if ([] : List Keyword).isEmpty then 0 else 1) < 30)) = true := by rfl)
    (hline : (apos.endLine == cpos.line) = true := by rfl) (hst : starEach [i] X.env = (false, eval i X.env) :: starEach [] X.env := by rfl) (hplain : (backTo cpos (starEach [] X.env)).any (·.1) = false := by rfl) :
    MJ X W G .any (.Call (.Attribute o "pop" apos) [i] [] cpos) (popC S gp gi) := by
  obtain ⟨ti, pi, vi⟩ := hi
  obtain ⟨to, po, vo⟩ := hv
  refine ⟨_, pe_bm PySem.F.plainAttrs_list PySem.F.slot_list_pop PySem.F.type_list_pop mt_popAt po (pa_cons pi pa_nil hst) hbase hfew hline hst hplain, fun F ρ own B σ H Q gd q => ?_⟩
  unfold popC at q
  have q := ResM.has_bind q
  refine vo F ρ own B σ H _ gd (Res.has_mono (liftM_has q) (fun r q os l B' H' s hos hpl hgc hol hct => ?_) fun e x => WMk.ok gd x)
  rw [hos] at q
  obtain ⟨p, d⟩ := r
  cases d with
  | lst ds =>
    simp only at q hct hgc hpl hol
    obtain ⟨vs, h3, h4⟩ := hct
    have g1 := gd.step s
    refine ⟨.inl ⟨rfl, vs, .inl (.inl h3)⟩, ?_⟩
    have q := ResM.has_bind q
    refine vi F ρ own B' σ H' _ g1 (Res.has_mono (liftM_has q) (fun k q w B2 H2 s2 r2 => ?_) fun e x => WMk.ok g1 (x.ext s.g))
    cases k with
    | int j =>
      cases r2.int
      simp only at q
      split at q
      case isFalse => exact q.elim
      rename_i hj
      split at q
      case h_2 => exact q.elim
      rename_i n hn
      split at q
      case h_2 => exact q.elim
      rename_i y hy
      have hoN : own l ≠ none := by rw [hol]; exact fun z => nomatch z
      have h5 := h4.gr s2.g
      have hnl : n < vs.length := by rw [h4.1]; exact (List.getElem?_eq_some_iff.mp hy).1
      refine ⟨l, vs, j, n, vs[n], rfl, rfl, (s2.ownd l hoN).1.trans h3, hj.1, hj.2, by rw [h4.1]; exact hn, List.getElem?_eq_getElem hnl, ?_⟩
      exact q _ own B2 _ (s.g.trans s2.g) ((g1.step s2).putC hS hfl hos hpl hgc hol rfl ⟨_, upd_same, h5.erase n⟩) (h5.2 n _ _ (List.getElem?_eq_getElem hnl) hy)
    | _ => exact q.elim
  | _ => exact q.elim
/-- o.f op= e, ints -/
def sFAugS (S : Nat) (tab : FT) (h : Int → Int → Int) (go : Rho → Res D) (g : Rho → Res D) : Rho → Out := fun ρ => thenS (go ρ) ρ fun d => thenS (fldD tab (stoR S ρ) d) ρ fun a => match a with
  | .int a => thenS (g ρ) ρ fun y => match y with
    | .int b => match putF2 tab (stoR S ρ) d (.int (h a b)) with
      | some os' => .nx (setS S os' ρ)
      | none => .no
    | _ => .no
  | _ => .no
end
end T

set_option Elab.async false
set_option linter.all false
set_option maxRecDepth 100000
set_option maxHeartbeats 4000000
/-! S-layer, part K: attributes and items of what a call gives; and, or as values; comprehensions over changes; a plain def that begins a store. -/
namespace T
open PySem PySem.Spec PyProof.Rows L2
variable [Mg]
/-! ### attributes of what a call gives -/
def fldM (S : Nat) (tab : FT) (g : Rho → ResM D) : Rho → ResM D := fun ρ => (g ρ).bind fun d ρ1 => liftM (fldD tab (stoR S ρ1) d) ρ1
def EvCM (X : Cx) (W : WX) (G : List Mode) (S : Nat) (t : TE) (g : Rho → ResM (Pl × D)) : Prop :=
  ∀ (F : Hp) (ρ : Rho) (own : Own) (B : Hp) (σ : L2.St) (H : Hp) (Q : VK), Good X.K F G ρ own B σ H →
    (g ρ).has (fun r ρ' => ∀ (os : List D) (l : Addr) (own' : Own) (B' H' : Hp), Gr own B own' B' → Good X.K F G ρ' own' B' σ H' → stoR S ρ' = some os → PlOk os r.1 → getC os r.1 = some r.2 → own' l = some (labP r.1) → CtR X.K B' H' own' l r.2 → Q (.ref l) H') (WMk X W G F own B σ) → t σ H Q
def PlMJ (X : Cx) (W : WX) (G : List Mode) (S : Nat) (e : Expr) (g : Rho → ResM (Pl × D)) : Prop := ∃ t, PE X e t ∧ EvCM X W G S t g
def plVM (S : Nat) (g : Rho → ResM D) : Rho → ResM (Pl × D) := fun ρ => (g ρ).bind fun d ρ1 => liftM (plD (stoR S ρ1) d) ρ1
def plFM (S : Nat) (tab : FT) (g : Rho → ResM D) : Rho → ResM (Pl × D) := fun ρ => (g ρ).bind fun d ρ1 => liftM (plFD tab (stoR S ρ1) d) ρ1
def ixCM (S : Nat) (gp : Rho → ResM (Pl × D)) (gi : Rho → Res D) : Rho → ResM D := fun ρ => (gp ρ).bind fun r ρ1 => (liftM (gi ρ1) ρ1).bind fun k ρ2 => match r.2, k with
  | .lst ds, .int j => match atI ds j with
    | some d => .ok d ρ2
    | none => .no
  | _, _ => .no
section
variable {X : Cx} {W : WX} {L : LM} {G G' : List Mode} {e o i : Expr} {f : Str} {pos : Pos} {S : Nat}
theorem mj_fld {tab : FT} {g : Rho → ResM D} (hf : FldT X.K f tab) (he : MJ X W G .any e g) (hS : G.getD S .fz = .sto := by rfl) (hb : attributeBase e f X.env (eval e X.env) = eval e X.env := by rfl) : MJ X W G .any (.Attribute e f pos) (fldM S tab g) := by
  obtain ⟨t, pe, ve⟩ := he
  refine ⟨_, pe_fld pe hb, fun F ρ own B σ H Q gd q => ?_⟩
  refine ve F ρ own B σ H _ gd (ResM.has_mono (ResM.has_bind q) (fun d ρ1 q v own' B' H' s g1 r => ?_) fun _ _ x => x)
  replace q := liftM_has q
  replace r : AnyR X.K B' own' v d := r
  unfold fldD at q
  split at q
  · rename_i n hn
    obtain ⟨a, rfl, rfl, ho⟩ := r.ref hn
    split at q
    · rename_i os hos
      split at q
      · rename_i c ds hc
        split at q
        · rename_i k hk
          split at q
          · rename_i y hy
            have st := g1.sto hS hos
            obtain ⟨dx, vs, h1, h2, h3, h4⟩ := st.obj hc ho
            obtain ⟨hF, hM⟩ := hf c k _ hk
            have hkl : k < vs.length := by rw [h3]; exact (List.getElem?_eq_some_iff.mp hy).1
            have hu : (vs.map (·.2))[k]? = some (vs[k]'hkl).2 := by rw [List.getElem?_map, List.getElem?_eq_getElem hkl]; rfl
            have h5 := h4 k _ _ hu hy
            rw [hM] at h5
            exact ⟨_, _, _, _, _, rfl, h1, hF.cls, hF.no, hF.look h2 hu, q _ own' B' H' s g1 h5⟩
          · exact q.elim
        · exact q.elim
      · exact q.elim
    · exact q.elim
  · split at q
    · rename_i c ds _
      split at q
      · rename_i k m hk
        split at q
        · rename_i y hy
          obtain ⟨hn, q⟩ := nrR_has q
          have hF := (hf c k _ hk).1
          have r' := r.fz (d := .ins c ds) rfl
          cases r' with
          | ins hB hk2 ra =>
            obtain ⟨u, hu, ru⟩ := ra.nth hy
            exact ⟨_, _, _, _, u, rfl, (g1.gr.base _ _ hB).1, hF.cls, hF.no, hF.look hk2 hu, q u own' B' H' s g1 (.inl ⟨hn, ru⟩)⟩
        · exact q.elim
      · exact q.elim
    · exact q.elim
theorem cm_val {g : Rho → ResM D} (he : MJ X W G .any e g) (hS : G.getD S .fz = .sto := by rfl) : PlMJ X W G S e (plVM S g) := by
  obtain ⟨t, pe, ve⟩ := he
  refine ⟨t, pe, fun F ρ own B σ H Q gd q => ?_⟩
  refine ve F ρ own B σ H _ gd (ResM.has_mono (ResM.has_bind q) (fun d ρ1 q v own' B' H' s g1 r => ?_) fun _ _ x => x)
  replace q := liftM_has q
  replace r : AnyR X.K B' own' v d := r
  unfold plD at q
  split at q
  case h_2 => exact q.elim
  rename_i n os hn hos
  obtain ⟨a, rfl, rfl, ho⟩ := r.ref hn
  split at q
  case h_2 => exact q.elim
  rename_i x hx
  split at q
  case isFalse => exact q.elim
  rename_i hc
  exact q os a own' B' H' s g1 hos trivial hx ho ((g1.sto hS hos).place (p := (n, none)) trivial hx hc ho)
theorem cm_fld {tab : FT} {g : Rho → ResM D} (hf : FldT X.K f tab) (he : MJ X W G .any e g) (hS : G.getD S .fz = .sto := by rfl) (hb : attributeBase e f X.env (eval e X.env) = eval e X.env := by rfl) : PlMJ X W G S (.Attribute e f pos) (plFM S tab g) := by
  obtain ⟨t, pe, ve⟩ := he
  refine ⟨_, pe_fld pe hb, fun F ρ own B σ H Q gd q => ?_⟩
  refine ve F ρ own B σ H _ gd (ResM.has_mono (ResM.has_bind q) (fun d ρ1 q v own' B' H' s g1 r => ?_) fun _ _ x => x)
  replace q := liftM_has q
  replace r : AnyR X.K B' own' v d := r
  unfold plFD at q
  split at q
  case h_2 => exact q.elim
  rename_i n os hn hos
  obtain ⟨a, rfl, rfl, ho⟩ := r.ref hn
  split at q
  case h_2 => exact q.elim
  rename_i c ds hc
  split at q
  · exact q.elim
  case h_3 => exact q.elim
  rename_i k m hne hk
  split at q
  case h_2 => exact q.elim
  rename_i x hx
  split at q
  case isFalse => exact q.elim
  rename_i hct
  have st := g1.sto hS hos
  obtain ⟨dx, vs, h1, h2, h3, h4⟩ := st.obj hc ho
  obtain ⟨hF, hM⟩ := hf c k _ hk
  have hkl : k < vs.length := by rw [h3]; exact (List.getElem?_eq_some_iff.mp hx).1
  have hu : (vs.map (·.2))[k]? = some (vs[k]'hkl).2 := by rw [List.getElem?_map, List.getElem?_eq_getElem hkl]; rfl
  have h5 := h4 k _ _ hu hx
  have hma : Mg.fm c k ≠ .any := by rw [hM]; exact fun z => hne z
  have hpl : PlOk os (n, some k) := ⟨c, ds, hc, hma⟩
  have hgc : getC os (n, some k) = some x := by
    unfold getC
    simp only
    rw [hc]
    exact hx
  rw [hM] at h5
  cases m with
  | any => exact (hne rfl).elim
  | lst =>
    obtain ⟨l, us, es, e1, e2, e3, e4, e5⟩ := h5
    refine ⟨_, _, _, _, _, rfl, h1, hF.cls, hF.no, hF.look h2 hu, ?_⟩
    rw [e1]
    exact q os l own' B' H' s g1 hos hpl hgc e3 (st.place hpl hgc hct e3)
  | dct =>
    obtain ⟨l, us, es, e1, e2, e3, e4, e5⟩ := h5
    refine ⟨_, _, _, _, _, rfl, h1, hF.cls, hF.no, hF.look h2 hu, ?_⟩
    rw [e1]
    exact q os l own' B' H' s g1 hos hpl hgc e3 (st.place hpl hgc hct e3)
theorem mj_ixC {gp : Rho → ResM (Pl × D)} {gi : Rho → Res D} (ho : PlMJ X W G S o gp) (hi : BJ X W G i gi) (hs : PlainIx i := by exact fun _ _ => rfl) : MJ X W G .any (.Subscript o i pos) (ixCM S gp gi) := by
  obtain ⟨to, po, vo⟩ := ho
  obtain ⟨ti, pi, vi⟩ := hi
  refine ⟨_, pe_ix ix_seq po pi hs, fun F ρ own B σ H Q gd q => ?_⟩
  refine vo F ρ own B σ H _ gd (ResM.has_mono (ResM.has_bind q) (fun r ρ1 q os l own1 B1 H1 e1 g1 hos hpl hgc hol hct => ?_) fun _ _ x => x)
  obtain ⟨p, d⟩ := r
  refine vi F ρ1 own1 B1 σ H1 _ g1 (Res.has_mono (liftM_has (ResM.has_bind q)) (fun k q2 w B2 H2 s2 r2 => ?_) fun e x => WMk.ok g1 (x.ext e1))
  clear q
  split at q2
  case h_2 => exact q2.elim
  rename_i ds j h1
  have h1 : d = .lst ds := h1
  subst h1
  cases r2.int
  simp only at hct hol
  split at q2
  case h_2 => exact q2.elim
  rename_i y hy
  obtain ⟨vs, h3, h4⟩ := hct
  have hoN : own1 l ≠ none := by rw [hol]; exact fun z => nomatch z
  obtain ⟨v, h5, h6⟩ := (h4.gr s2.g).at hy
  exact .inl ⟨l, vs, j, v, rfl, rfl, .inl (.inl ((s2.ownd l hoN).1.trans h3)), h5, q2 v own1 B2 H2 (e1.trans s2.g) (g1.step s2) h6⟩
/-! ### and, or as values -/
def andVM (f g : Rho → ResM D) : Rho → ResM D := fun ρ => (f ρ).bind fun d ρ1 => match d with
  | .bl b => if b = true then g ρ1 else .ok (.bl false) ρ1
  | _ => .no
def orVM (f g : Rho → ResM D) : Rho → ResM D := fun ρ => (f ρ).bind fun d ρ1 => match d with
  | .bl b => if b = true then .ok (.bl true) ρ1 else g ρ1
  | _ => .no
theorem mj_andV {a b : Expr} {rest : List Expr} {f g : Rho → ResM D} (ha : MJ X W G .fz a f) (hb : MJ X W G .fz (.BoolOp .And (b :: rest) pos) g) : MJ X W G .fz (.BoolOp .And (a :: b :: rest) pos) (andVM f g) := by
  obtain ⟨ta, pa, va⟩ := ha
  obtain ⟨tb, pb, vb⟩ := hb
  refine ⟨_, pe_and pa pb, fun F ρ own B σ H Q gd q => ?_⟩
  refine va F ρ own B σ H _ gd (ResM.has_mono (ResM.has_bind q) (fun d ρ1 q v own1 B1 H1 e1 g1 r => ?_) fun _ _ x => x)
  replace r : Rp X.K B1 v d := r
  cases d with
  | bl c =>
    cases r
    refine ⟨c, rfl, ?_⟩
    cases c with
    | true => exact vb F ρ1 own1 B1 σ H1 Q g1 (ResM.has_mono q (fun b ρ2 q v own2 B2 H2 e2 => q v own2 B2 H2 (e1.trans e2)) fun _ _ x => x.ext e1)
    | false => exact q _ own1 B1 H1 e1 g1 (.bl _)
  | _ => exact q.elim
theorem mj_orV {a b : Expr} {rest : List Expr} {f g : Rho → ResM D} (ha : MJ X W G .fz a f) (hb : MJ X W G .fz (.BoolOp .Or (b :: rest) pos) g) : MJ X W G .fz (.BoolOp .Or (a :: b :: rest) pos) (orVM f g) := by
  obtain ⟨ta, pa, va⟩ := ha
  obtain ⟨tb, pb, vb⟩ := hb
  refine ⟨_, pe_or pa pb, fun F ρ own B σ H Q gd q => ?_⟩
  refine va F ρ own B σ H _ gd (ResM.has_mono (ResM.has_bind q) (fun d ρ1 q v own1 B1 H1 e1 g1 r => ?_) fun _ _ x => x)
  replace r : Rp X.K B1 v d := r
  cases d with
  | bl c =>
    cases r
    refine ⟨c, rfl, ?_⟩
    cases c with
    | false => exact vb F ρ1 own1 B1 σ H1 Q g1 (ResM.has_mono q (fun b ρ2 q v own2 B2 H2 e2 => q v own2 B2 H2 (e1.trans e2)) fun _ _ x => x.ext e1)
    | true => exact q _ own1 B1 H1 e1 g1 (.bl _)
  | _ => exact q.elim
theorem mj_one {a : Expr} {op : BoolOp} {md : Mode} {f : Rho → ResM D} (ha : MJ X W G md a f) : MJ X W G md (.BoolOp op [a] pos) f := let ⟨_, p, v⟩ := ha; ⟨_, pe_one p, v⟩
def notVM (f : Rho → ResM D) : Rho → ResM D := fun ρ => (f ρ).bind fun d ρ1 => liftM (dNotB d) ρ1
end
end T

set_option Elab.async false
set_option linter.all false
set_option maxRecDepth 100000
set_option maxHeartbeats 4000000
/-! S-layer, part L: comprehensions over changes; a plain def that begins a store. -/
namespace T
open PySem PySem.Spec PyProof.Rows L2
/-- the variables of a comprehension get back what they had -/
def unW : List Nat → Rho → Rho → Rho
  | [], _, ρ2 => ρ2
  | i :: is, ρ, ρ2 => (unW is ρ ρ2).set i ((ρ[i]?).getD none)
theorem unW_len : ∀ (is : List Nat) (ρ ρ2 : Rho), (unW is ρ ρ2).length = ρ2.length
  | [], _, _ => rfl
  | i :: is, ρ, ρ2 => by simp [unW, unW_len is ρ ρ2]
theorem unW_some {j : Nat} {d : D} : ∀ {is : List Nat} {ρ ρ2 : Rho}, (unW is ρ ρ2)[j]? = some (some d) → (j ∈ is ∧ ρ[j]? = some (some d)) ∨ (j ∉ is ∧ ρ2[j]? = some (some d))
  | [], ρ, ρ2, h => .inr ⟨by simp, h⟩
  | i :: is, ρ, ρ2, h => by
    unfold unW at h
    by_cases hj : i = j
    · subst hj
      have hlt : i < (unW is ρ ρ2).length := by
        have := (List.getElem?_eq_some_iff.mp h).1
        simpa using this
      rw [List.getElem?_set_self hlt] at h
      refine .inl ⟨by simp, ?_⟩
      cases e : ρ[i]? with
      | none =>
        rw [e] at h
        cases h
      | some o =>
        rw [e] at h
        cases h
        rfl
    · rw [List.getElem?_set_ne hj] at h
      rcases unW_some h with ⟨h1, h2⟩ | ⟨h1, h2⟩
      · exact .inl ⟨List.mem_cons_of_mem _ h1, h2⟩
      · exact .inr ⟨by simp only [List.mem_cons, not_or]; exact ⟨fun z => hj z.symm, h1⟩, h2⟩
def lcMM (b : Bnd) (f : Rho → ResM D) (is : List Nat) : List D → Rho → ResM (List D)
  | [], ρ => .ok [] ρ
  | x :: xs, ρ => match b x (wipeR ρ is) with
    | none => .no
    | some ρ1 => match f ρ1 with
      | .ok y ρ2 => match lcMM b f is xs (unW is ρ ρ2) with
        | .ok ys ρ3 => .ok (y :: ys) ρ3
        | _ => .no
      | _ => .no
def compM (src : Rho → Res (List D)) (b : Bnd) (f : Rho → ResM D) (is : List Nat) : Rho → ResM (List D) := fun ρ => (liftM (src ρ) ρ).bind fun items ρ1 => if items.length ≤ sizeLine then match lcMM b f is items ρ1 with
    | .ok ds ρ2 => .ok ds ρ2
    | _ => .no
  else .no
variable [Mg]
section
variable {K : PySem.W.Frag} {F B H B2 H2 : Hp} {own own2 : Own} {G : List Mode} {ρ ρ2 : Rho} {σ σ' : L2.St} {is js : List Nat} {D : Addr} {o : HO}
theorem Good.unW (g : Good K F G ρ own B σ H) (g2 : Good K F G ρ2 own2 B2 σ' H2) (hO : OnlyAt js (L2.wipe σ is) σ') (hsub : ∀ i ∈ js, i ∈ is) (hE : Ext B B2) (hG : ∀ i ∈ is, G.getD i Mode.fz = Mode.fz) : Good K F G (T.unW is ρ ρ2) own2 B2 σ H2 := by
  refine ⟨g2.gr, ⟨?_, by rw [unW_len]; exact g2.len.2⟩, fun j d e => ?_⟩
  · rw [unW_len, ← g2.len.1, hO.1, wipe_length]
  · rcases unW_some e with ⟨h1, h2⟩ | ⟨h1, h2⟩
    · obtain ⟨v, h3, h4⟩ := g.slots j d h2
      refine ⟨v, h3, ?_⟩
      rw [hG j h1] at h4 ⊢
      unfold VRep at h4 ⊢
      exact h4.mono hE
    · obtain ⟨v, h3, h4⟩ := g2.slots j d h2
      rw [hO.2 j (fun z => h1 (hsub j z)), wipe_get, if_neg h1] at h3
      exact ⟨v, h3, h4⟩
/-- a new thing that nobody knows becomes frozen -/
theorem Good.base1 (g : Good K F G ρ own B σ H) (hb : B D = none) (hf : F D = none) (ho : own D = none) (hh : H D = some o) : Good K F G ρ own (upd B D o) σ H := by
  refine ⟨⟨fun a u e => ?_, fun a u e => ?_, g.gr.live⟩, g.len, fun j d e => ?_⟩
  · by_cases ha : a = D
    · subst ha
      rw [upd_same] at e
      cases e
      exact ⟨hh, ho⟩
    · rw [upd_ne ha] at e
      exact g.gr.base a u e
  · have ne : a ≠ D := fun z => by rw [z, hf] at e; cases e
    rw [upd_ne ne]
    exact g.gr.frame a u e
  · obtain ⟨v, h1, h2⟩ := g.slots j d e
    exact ⟨v, h1, VRep.carry ⟨ext_upd hb, fun l r h => ⟨h, rfl⟩, .refl⟩ h2⟩
/-- D goes into the frame, and out of it -/
theorem Good.frame1 (g : Good K F G ρ own B σ H) (hb : B D = none) (ho : own D = none) (hh : H D = some o) : Good K (upd F D o) G ρ own B σ H := by
  refine ⟨⟨g.gr.base, fun a u e => ?_, g.gr.live⟩, g.len, g.slots⟩
  by_cases ha : a = D
  · subst ha
    rw [upd_same] at e
    cases e
    exact ⟨hh, ho, hb⟩
  · rw [upd_ne ha] at e
    exact g.gr.frame a u e
theorem Good.unframe1 {o' : HO} (g : Good K (upd F D o) G ρ own B σ H) (hf : F D = none) : Good K F G ρ own B σ (upd H D o') := by
  obtain ⟨h1, h2, h3⟩ := g.gr.frame D o upd_same
  refine ⟨⟨fun a u e => ?_, fun a u e => ?_, fun a h => ?_⟩, g.len, fun j d e => ?_⟩
  · rw [upd_ne (fun z => by rw [z, h3] at e; cases e)]
    exact g.gr.base a u e
  · have ne : a ≠ D := fun z => by rw [z, hf] at e; cases e
    rw [upd_ne ne]
    exact g.gr.frame a u (by rw [upd_ne ne]; exact e)
  · rw [upd_ne (fun z => by rw [z] at h; exact h h2)]
    exact g.gr.live a h
  · obtain ⟨v, h4, h5⟩ := g.slots j d e
    have hst : ∀ (l : Addr), own l ≠ none → upd H D o' l = H l := fun l h => upd_ne (fun z => by rw [z] at h; exact h h2)
    exact ⟨v, h4, VRep.carry ⟨Same.refl B, fun l r h => ⟨h, hst l (by rw [h]; exact fun z => nomatch z)⟩, ⟨fun _ _ _ => .rfl, fun l n r h => hst l (by rw [h]; exact fun z => nomatch z)⟩⟩ h5⟩
end
/-! ### a new list, its items made over changes -/
def EvNM (X : Cx) (W : WX) (G : List Mode) (t : TE) (g : Rho → ResM (List D)) : Prop :=
  ∀ (F : Hp) (ρ : Rho) (own : Own) (B : Hp) (σ : L2.St) (H : Hp) (Q : VK), Good X.K F G ρ own B σ H →
    (g ρ).has (fun ds ρ' => ∀ (p : Addr) (vs : List V) (own' : Own) (B' H' : Hp), Gr own B own' B' → Good X.K F G ρ' own' B' σ H' → B' p = none → F p = none → own' p = none → H' p = some (.lst vs) → AnyA X.K B' own' vs ds → Q (.ref p) H') (WMk X W G F own B σ) → t σ H Q
def NMJ (X : Cx) (W : WX) (G : List Mode) (e : Expr) (g : Rho → ResM (List D)) : Prop := ∃ t, PE X e t ∧ EvNM X W G t g
def rootL (S : Nat) (g : Rho → ResM (List D)) : Rho → ResM D := fun ρ => (g ρ).bind fun ds ρ1 => match stoR S ρ1 with
  | some os => .ok (refD os.length) (setS S (os ++ [.lst ds]) ρ1)
  | none => .no
def frzL (g : Rho → ResM (List D)) : Rho → ResM D := fun ρ => (g ρ).bind fun ds ρ1 => if ds.all D.nref = true then .ok (.lst ds) ρ1 else .no
section
variable {X : Cx} {W : WX} {L : LM} {G G' : List Mode} {tg iter elt a e : Expr} {scope : Scope} {p pos : Pos} {b : Bnd} {is : List Nat} {S : Nat}
/-- .. a thing of the store -/
theorem mj_rootL {g : Rho → ResM (List D)} (h : NMJ X W G e g) (hS : G.getD S .fz = .sto := by rfl) (hfl : flatG S G = true := by rfl) : MJ X W G .any e (rootL S g) := by
  obtain ⟨t, pe, ve⟩ := h
  refine ⟨t, pe, fun F ρ own B σ H Q gd q => ?_⟩
  refine ve F ρ own B σ H Q gd (ResM.has_mono (ResM.has_bind q) (fun ds ρ1 q p vs own' B' H' e1 g1 hB hF ho hp r => ?_) fun _ _ x => x)
  split at q
  case h_2 => exact q.elim
  rename_i os hos
  obtain ⟨k1, k2⟩ := good_new (d := .lst ds) g1 hS hfl hos hB hF ho (by rw [hp]; exact fun z => nomatch z) ⟨vs, hp, r⟩
  exact q (.ref p) _ B' H' (e1.trans k1) k2 (.inr ⟨_, p, rfl, rfl, if_pos rfl⟩)
/-- .. frozen -/
theorem mj_frzL {g : Rho → ResM (List D)} (h : NMJ X W G e g) : MJ X W G .fz e (frzL g) := by
  obtain ⟨t, pe, ve⟩ := h
  refine ⟨t, pe, fun F ρ own B σ H Q gd q => ?_⟩
  refine ve F ρ own B σ H Q gd (ResM.has_mono (ResM.has_bind q) (fun ds ρ1 q p vs own' B' H' e1 g1 hB hF ho hp r => ?_) fun _ _ x => x)
  split at q
  case isFalse => exact q.elim
  rename_i hn
  have hx := ext_upd (o := .lst vs) hB
  exact q (.ref p) own' (upd B' p (.lst vs)) H' (e1.trans ⟨hx, fun _ _ h => h⟩) (g1.base1 hB hF ho hp) (Rp.lst upd_same ((r.fz hn).mono hx))
theorem fam_m {f : Rho → ResM D} {md : Mode} (h : ∀ s H C cl fp, MJ (Blk X scope s H C cl fp) W0 G md elt f) : ∃ te, (∀ s H C cl fp, PE (Blk X scope s H C cl fp) elt te) ∧ EvM X W0 G md te f := by
  refine ⟨fun σ H Q => ∀ s H0 C cl fp, (h s H0 C cl fp).choose σ H Q, fun s H0 C cl fp => ⟨fun pins s1 σ H Q I q => ?_⟩, fun F ρ own B σ H Q gd q s H0 C cl fp => ?_⟩
  · exact (h s H0 C cl fp).choose_spec.1.run pins s1 σ H Q I (q s H0 C cl fp)
  · exact (h s H0 C cl fp).choose_spec.2 F ρ own B σ H Q gd q
theorem lcm_heart {own0 : List Nat} {wi : TI} {g : TG} {tt : TT} {te : TE} {f : Rho → ResM D} {src : Rho → Res (List D)} (hi : EvI X W G wi src)
    (hg : ∀ (F : Hp) (own : Own) (B : Hp) (σ : L2.St) (H : Hp) (G : List Mode) (ρ ρ' : Rho) (v : V) (d : T.D) (Q : L2.St → Hp → Prop), Good X.K F G ρ own B σ H → Rp X.K B v d → b d ρ = some ρ' → (∀ i ∈ is, G.getD i .fz = .fz) →
      (∀ σ', Good X.K F G ρ' own B σ' H → OnlyAt is σ σ' → Q σ' H) → g v σ H Q)
    (hsub : ∀ i ∈ is, i ∈ own0) (hG : ∀ i ∈ own0, G.getD i Mode.fz = Mode.fz) (ht : ∀ (σ : L2.St) (H : Hp) (Q : Bool → Hp → Prop), Q true H → tt σ H Q) (he : EvM X W0 G Mode.any te f) : EvNM X W G (tLc wi g tt te own0) (compM src b f own0) := fun F ρ own B σ H Q gd q => by
  have q := ResM.has_bind q
  refine hi F ρ own B σ H _ gd (Res.has_mono (liftM_has q) (fun items q J B1 H1 s1 itr => ?_) fun e x => WMk.ok gd x)
  have g1 := gd.step s1
  have e1 := s1.g
  split at q
  case isFalse => exact q.elim
  rename_i hz
  intro D hD
  have hDb := g1.gr.bfresh hD
  have hDf := g1.gr.ffresh hD
  have hDo := g1.gr.ofresh hD
  refine ⟨fun i m H' => m = items.length - i ∧ i ≤ items.length ∧ ∃ (ρ' : Rho) (own' : Own) (B' : Hp) (vs : List V) (ds : List T.D), Gr own B1 own' B' ∧ Good X.K F G ρ' own' B' σ H' ∧ own' D = none ∧ B' D = none ∧ H' D = some (.lst vs) ∧ AnyA X.K B' own' vs ds ∧ ds.length ≤ i ∧
      ∃ rest ρ3, lcMM b f own0 (items.drop i) ρ' = .ok rest ρ3 ∧ ∀ (p : Addr) (vs : List V) (own2 : Own) (B2 H2 : Hp), Gr own' B' own2 B2 → Good X.K F G ρ3 own2 B2 σ H2 → B2 p = none → F p = none → own2 p = none → H2 p = some (.lst vs) → AnyA X.K B2 own2 vs (ds ++ rest) → Q (.ref p) H2,
    ⟨items.length, by omega, Nat.zero_le _, ρ, own, B1, [], [], .refl, g1.step (.garbage g1.gr _ hD), hDo, hDb, upd_same, .nil, Nat.zero_le _, ?_⟩, fun i m H' hW => ?_⟩
  · cases hl : lcMM b f own0 items ρ with
    | ok ds ρ2 =>
      rw [hl] at q
      exact ⟨ds, ρ2, hl, fun p vs own2 B2 H2 e2 g2 => q p vs own2 B2 H2 (e1.trans e2) g2⟩
    | ex x ρ2 =>
      rw [hl] at q
      exact q.elim
    | no =>
      rw [hl] at q
      exact q.elim
  · obtain ⟨rfl, hile, ρ', own', B', vs, ds, e2, g2, hOD, hBD, hHD, rvs, hlen, rest, ρ3, hrest, hq⟩ := hW
    have grD : Ground F (ownD own' D) B' H' := ⟨fun a o e => ⟨(g2.gr.base a o e).1, by
        rw [ownD_ne (fun z => by rw [z, hBD] at e; cases e)]
        exact (g2.gr.base a o e).2⟩, fun a o e => ⟨(g2.gr.frame a o e).1, by
        rw [ownD_ne (fun z => by rw [z, hDf] at e; cases e)]
        exact (g2.gr.frame a o e).2.1, (g2.gr.frame a o e).2.2⟩, fun a h => by
        by_cases ha : a = D
        · rw [ha, hHD]
          exact fun z => nomatch z
        · rw [ownD_ne ha] at h
          exact g2.gr.live a h⟩
    have itr' := itr (ownD own' D) B' H' e2.ext grD i
    by_cases hi' : i = items.length
    · refine .inl ⟨itr'.1 hi', ?_⟩
      rw [hi', List.drop_length] at hrest
      cases hrest
      rw [List.append_nil] at hq
      exact hq D vs own' B' H' .refl g2 hBD hDf hOD hHD rvs
    · have hlt : i < items.length := by omega
      have hd : items[i]? = some items[i] := List.getElem?_eq_getElem hlt
      obtain ⟨go, yld⟩ := itr'.2 _ hd
      refine .inr ⟨go, _, fun H4 h4 => ⟨items.length - (i + 1), by omega, h4⟩, fun x H3 hy => ?_⟩
      obtain ⟨B3, s3, rx⟩ := yld x H3 hy
      have hD3 := s3.ownd D (by rw [ownD_self]; exact fun z => nomatch z)
      have s3' : Step own' F B' H' B3 H3 := ⟨s3.ext, s3.base, fun a h => s3.ownd a (by
          by_cases ha : a = D
          · rw [ha, ownD_self]
            exact fun z => nomatch z
          · rw [ownD_ne ha]
            exact h), s3.frame⟩
      have g3 := g2.step s3'
      rw [List.drop_eq_getElem_cons hlt] at hrest
      simp only [lcMM] at hrest
      split at hrest
      · cases hrest
      · rename_i ρ4 hb
        split at hrest
        · rename_i y ρ5 hf
          split at hrest
          · rename_i ys ρ6 hys
            cases hrest
            have gF := (g3.frame1 hD3.2 hOD (hD3.1.trans hHD)).wipe own0
            refine hg _ own' B3 (wipe σ own0) H3 G _ ρ4 x _ _ gF rx hb (fun i hi => hG i (hsub i hi)) fun σ' g4 o4 => ⟨wipe_only o4 hsub, ht _ _ _ ?_⟩
            rw [if_pos rfl]
            refine he _ ρ4 own' B3 σ' H3 _ g4 ?_
            rw [hf]
            intro v own5 B5 H5 e5 g5 r5
            obtain ⟨k1, k2, k3⟩ := g5.gr.frame D _ upd_same
            have g6 := (g3.frame1 hD3.2 hOD (hD3.1.trans hHD)).unW g5 o4 hsub e5.ext hG
            have e6 : Gr own' B' own5 B5 := s3'.g.trans e5
            refine ⟨vs, k1, by rw [rvs.1]; omega, rfl, by omega, _, own5, B5, vs ++ [v], ds ++ [y], e2.trans e6, g6.unframe1 hDf, k2, k3, upd_same, (rvs.gr e6).app (.cons r5 .nil), by simp; omega, ys, ρ3, hys, fun p vs2 own6 B6 H6 e7 g7 h1 h2 h3 h4 h5 => ?_⟩
            exact hq p vs2 own6 B6 H6 (e6.trans e7) g7 h1 h2 h3 h4 (by simpa using h5)
          · cases hrest
        · cases hrest
variable {own0 : List (Str × Nat)} {f : Rho → ResM D} {src : Rho → Res (List D)}
theorem nmj_lc (hc : X.calm = true) (hN : X.N.Nodup) (hi : IJ X W G tg iter src) (ok : BlkOk X.N X.env.scope scope own0) (hg : ∀ s H C cl fp, GJ (Blk X scope s H C cl fp) tg b is) (hsub : ∀ i ∈ is, i ∈ own0.map (·.2)) (hG : ∀ i ∈ own0.map (·.2), G.getD i Mode.fz = Mode.fz)
    (he : ∀ s H C cl fp, MJ (Blk X scope s H C cl fp) W0 G Mode.any elt f) (hs : ∀ x, foldedSetIterable iter X.env x = pure x := by intro _; rfl) : NMJ X W G (.ListComp elt [⟨tg, iter, [], 0⟩] scope pos) (compM src b f (own0.map (·.2))) := by
  obtain ⟨wi, pi, vi⟩ := hi
  obtain ⟨te, pe, ve⟩ := fam_m he
  obtain ⟨g, pg, vg⟩ := fam_g hg
  exact ⟨_, pe_lc hc hN pi ok pg (fun _ _ _ _ _ => pts_nil) pe hs, lcm_heart vi vg hsub hG (fun σ H Q q => q) ve⟩
end
/-! ### a plain def that begins a store -/
def runE (n NN : Nat) (f : Rho → Out) : List D → Res D := fun ds => if ds.length = n then match f (startR (NN - 1) ds ++ [some (stoD [])]) with
    | .nx _ => .ok .non
    | .rl d _ => nrR d
    | .ex e _ => .ex e
    | _ => .no
  else .no
theorem runE_len {n NN : Nat} {f : Rho → Out} (ds : List D) (h : ds.length ≠ n) : runE n NN f ds = .no := by
  unfold runE
  rw [if_neg h]
def fzN (n : Nat) (G : List Mode) : Bool := (List.range n).all fun j => decide (G.getD j Mode.fz = .fz)
omit [Mg] in
theorem fzN_at {n : Nat} {G : List Mode} (h : fzN n G = true) {j : Nat} (hj : j < n) : G.getD j Mode.fz = .fz := of_decide_eq_true (List.all_eq_true.mp h j (List.mem_range.mpr hj))
section
variable {P : Program} {w : World} {K : PySem.W.Frag} {mg : Str → Option Value} {base : Heap}
theorem good_startE {F B H : Hp} {G : List Mode} {N : Nat} {vs : List V} {ds : List D} {N' : List Str} (hN : N'.length = N) (hN1 : 1 ≤ N) (hn : ds.length ≤ N - 1) (hz : N < 1000000) (g : Ground F (fun _ => none) B H) (r : RpA K B vs ds)
    (hG : ∀ j, j < ds.length → G.getD j Mode.fz = .fz) (hS : G.getD (N - 1) Mode.fz = .sto) : Good K F G (startR (N - 1) ds ++ [some (stoD [])]) (fun _ => none) B ((L2.start N' vs).set (N - 1) (some (.ref 0))) H := by
  have hl : (startR (N - 1) ds).length = N - 1 := by simp [startR]; omega
  have hσ : (L2.start N' vs).length = N := by simp [L2.start, r.len, hN]; omega
  refine ⟨g, ⟨by rw [List.length_set, hσ, List.length_append, hl]; simp; omega, by rw [List.length_append, hl]; simp; omega⟩, fun i d e => ?_⟩
  by_cases hi : i < N - 1
  · rw [List.getElem?_append_left (by omega)] at e
    unfold startR at e
    rw [List.getElem?_append] at e
    split at e
    · rename_i hd
      rw [List.getElem?_map] at e
      obtain ⟨d', e1, e2⟩ := Option.map_eq_some_iff.mp e
      cases e2
      have hd' : i < ds.length := by simpa using hd
      obtain ⟨v, h1, h2⟩ := r.get e1
      refine ⟨v, ?_, ?_⟩
      · rw [List.getElem?_set_ne (by omega)]
        unfold L2.start
        rw [List.getElem?_append_left (by simpa [r.len] using hd'), List.getElem?_map, h1]
        rfl
      · rw [hG i hd']
        exact h2
    · rw [List.getElem?_replicate] at e
      split at e <;> cases e
  · have hi' : i = N - 1 := by
      have := (List.getElem?_eq_some_iff.mp e).1
      rw [List.length_append, hl] at this
      simp at this
      omega
    subst hi'
    rw [List.getElem?_append_right (by omega), hl, Nat.sub_self] at e
    cases e
    refine ⟨.ref 0, List.getElem?_set_self (by omega), ?_⟩
    rw [hS]
    exact ⟨rfl, [], rfl, ⟨fun n o h => (by simp at h), fun a a' n r h => (nomatch h), fun a n r h => (nomatch h)⟩⟩
theorem fnE_ok {x qual : Str} {st : Stmt} {f : Addr} {fd : FuncData} {N ps : List Str} {k : Nat} {G0 : List Mode} {fm : Rho → Out} (Fn : Fun K x qual st f fd) (Sc : FnScope N ps (defScope st)) (n NN : Nat) (hn : ps.length = n) (hNN : N.length = NN) (hle : n ≤ NN - 1 ∧ 1 ≤ NN ∧ NN < 1000000) (y : Str) (hy : N[NN - 1]? = some y) (hyn : (defScope st).names.lookup y = none)
    (hG : fzN n G0 = true) (hS : G0.getD (NN - 1) Mode.fz = .sto) (GX : List Mode) (hXG : leM GX G0)
    (hbody : ∀ (cdv : Value) (A : Around) (outer : List Env) (s : Shared) (H : Hp) (E : XK), Room k (A.deeper (envOfC qual (defScope st) s.heap.objs.size f cdv)) →
      ∃ G', SsJ (cxOf (L2.CX P w) P w K mg base N qual (defScope st) f cdv A outer s H E) (WE1 E) ⟨[], [], .any, GX, GX⟩ G0 (defBody st) fm G') :
    FnOk P w K mg base (L2.CX P w) (k + 1) f fd ps (spT K mg Mode.fz n (runE n NN fm)) := by
  refine Fn.okX Sc (fun vs H Q E h => ?_) (fun cdv A outer s H vs Q E hroom h => ?_)
  · obtain ⟨ds, F, B, h1, h2, _⟩ := h
    rw [h2.len, h1, hn]
  · obtain ⟨ds, F, B, h1, h2, h3, h5⟩ := h
    obtain ⟨G', ⟨t, p, v⟩⟩ := hbody cdv A outer s H E hroom
    refine ⟨_, pss_unseen (S := NN - 1) (v := .ref 0) p hy hyn, v hXG F (startR (NN - 1) ds ++ [some (stoD [])]) (fun _ => none) B _ H _ (good_startE hNN hle.2.1 (by omega) hle.2.2 h3 h2 (fun j hj => fzN_at hG (by omega)) hS) ?_⟩
    unfold runE at h5
    rw [if_pos h1] at h5
    cases e : fm (startR (NN - 1) ds ++ [some (stoD [])]) with
    | nx ρ' =>
      rw [e] at h5
      simp only at h5
      intro own' B' σ H' e' g'
      exact h5 .non own' B' H' e'.ext g'.gr .non
    | rl d ρ' =>
      rw [e] at h5
      simp only at h5
      intro u own' B' σ H' e' g' r'
      obtain ⟨hn, h5⟩ := nrR_has h5
      have r' : AnyR K B' own' u d := r'
      exact h5 u own' B' H' e'.ext g'.gr (r'.fz hn)
    | ex x ρ' =>
      rw [e] at h5
      simp only at h5
      intro c dx own' B' σ H' e' g' r'
      exact h5 c dx B' H' e'.ext (g'.gr.drop fun a l z => nomatch z) r'
    | _ =>
      rw [e] at h5
      exact h5.elim
end
end T

set_option Elab.async false
set_option linter.all false
set_option maxRecDepth 100000
set_option maxHeartbeats 4000000
/-! S-layer, part M: an attribute takes a list of its own; tuples of things compared. -/
namespace T
open PySem PySem.Spec PyProof.Rows L2
def putFL (tab : FT) (so : Option (List D)) (d : D) (es : List D) : Option (List D) := match refN d, so with
  | some n, some os => match os[n]? with
    | some (.ins c ds) => match tab.lookup c with
      | some (k, .lst) => if k ≤ ds.length then some (os.set n (.ins c (putN k (.lst es) ds))) else none
      | _ => none
    | _ => none
  | _, _ => none
def sFldL (S : Nat) (tab : FT) (i : Nat) (g : Rho → ResM (List D)) : Rho → Out := fun ρ => thenM (g ρ) fun es ρ1 => thenS (getV i ρ1) ρ1 fun d => match putFL tab (stoR S ρ1) d es with
  | some os' => .nx (setS S os' ρ1)
  | none => .no
def nmV (g : Rho → Res (List D)) : Rho → ResM (List D) := fun ρ => (liftM (g ρ) ρ).bind fun ds ρ1 => if ds.all D.nref = true then .ok ds ρ1 else .no
theorem putN_get {α : Type} {xs : List α} {k j : Nat} {y u : α} (hk : k ≤ xs.length) (h : (putN k y xs)[j]? = some u) : (j = k ∧ u = y) ∨ (j ≠ k ∧ xs[j]? = some u) := by
  unfold putN at h
  split at h
  · rename_i hl
    by_cases hj : j = k
    · subst hj
      rw [List.getElem?_set_self hl] at h
      cases h
      exact .inl ⟨rfl, rfl⟩
    · rw [List.getElem?_set_ne (Ne.symm hj)] at h
      exact .inr ⟨hj, h⟩
  · rename_i hl
    have hkl : k = xs.length := by omega
    by_cases hj : j = k
    · rw [hj, hkl, List.getElem?_append_right (Nat.le_refl _), Nat.sub_self] at h
      cases h
      exact .inl ⟨hj, rfl⟩
    · have : j < xs.length := by
        have := (List.getElem?_eq_some_iff.mp h).1
        rw [List.length_append, List.length_singleton] at this
        omega
      rw [List.getElem?_append_left this] at h
      exact .inr ⟨hj, h⟩
theorem putN_len {α β : Type} {xs : List α} {ys : List β} {k : Nat} {x : α} {y : β} (h : xs.length = ys.length) : (putN k x xs).length = (putN k y ys).length := by
  unfold putN
  rw [h]
  split <;> simp [h]
variable [Mg]
section
variable {X : Cx} {W : WX} {L : LM} {G G' : List Mode} {e o : Expr} {f x : Str} {pos pos' px : Pos} {S i : Nat}
theorem nmj_nj {g : Rho → Res (List D)} (h : NJ X W G e g) : NMJ X W G e (nmV g) := by
  obtain ⟨t, pe, ve⟩ := h
  refine ⟨t, pe, fun F ρ own B σ H Q gd q => ?_⟩
  have q := ResM.has_bind q
  refine ve F ρ own B σ H Q gd (Res.has_mono (liftM_has q) (fun ds q p vs B' H' s hB hF ho hp r => ?_) fun e x => WMk.ok gd x)
  split at q
  case isFalse => exact q.elim
  rename_i hn
  exact q p vs own B' H' s.g (gd.step s) hB hF ho hp (anyA_of r hn)
/-- x.f = a new list -/
theorem sj_fsetL {tab : FT} {g : Rho → ResM (List D)} (hf : FldT X.K f tab) (hsm : ∀ c k m, tab.lookup c = some (k, m) → FldS c) (hv : PE X (.Name x px) (tVar i)) (he : NMJ X W G e g) (hm : G.getD i .fz = .any := by rfl) (hS : G.getD S .fz = .sto := by rfl) (hfl : flatG S G = true := by rfl)
    (hs : swapsWith e (some (.Attribute (.Name x px) f pos')) pos.line X.env = pure false := by rfl) : SJ X W L G (.Assign [.Attribute (.Name x px) f pos'] e pos) (sFldL S tab i g) G := by
  obtain ⟨te, pe, ve⟩ := he
  refine ⟨_, ps_fld hv pe hs, fun hx F ρ own B σ H D gd q => ?_⟩
  refine ve F ρ own B σ H _ gd (ResM.has_mono (thenM_has hx q) (fun es ρ1 q p us own1 B1 H1 e1 g1 hB hF ho hp ry => ?_) fun _ _ x => x)
  unfold getV at q
  split at q
  case h_2 => exact q.elim
  rename_i d hd
  obtain ⟨v, hσ, hr⟩ := g1.slots i d hd
  rw [hm] at hr
  have hr : AnyR X.K B1 own1 v d := hr
  refine ⟨v, hσ, ?_⟩
  simp only [thenS_ok] at q
  unfold putFL at q
  split at q
  case h_2 => exact q.elim
  rename_i os' hpf
  split at hpf
  case h_2 => cases hpf
  rename_i n os hn hos
  obtain ⟨a, rfl, rfl, hao⟩ := hr.ref hn
  split at hpf
  case h_2 => cases hpf
  rename_i c ds hc
  split at hpf
  case h_2 => cases hpf
  rename_i k hk
  split at hpf
  case isFalse => cases hpf
  rename_i hkl
  cases hpf
  have st := g1.sto hS hos
  obtain ⟨dx, vs, h1, h2, h3, h4⟩ := st.obj hc hao
  obtain ⟨hF', hM⟩ := hf c k _ hk
  refine ⟨a, _, dx, vs, rfl, h1, hF'.cls, hF'.no, pre_small h2 (hsm c k _ hk), ?_⟩
  obtain ⟨p1, p2⟩ := put_all (y := V.ref p) h2 hF'.at_ hF'.new (i := k) (by omega)
  have hnl : n < os.length := (List.getElem?_eq_some_iff.mp hc).1
  have hap : a ≠ p := fun z => by rw [z, ho] at hao; cases hao
  let own2 : Own := fun b => if b = p then some [SH, n, k] else if own1 b = some [SH, n, k] then none else own1 b
  have o2p : own2 p = some [SH, n, k] := if_pos rfl
  have o2k : ∀ b, own1 b ≠ some [SH, n, k] → b ≠ p → own2 b = own1 b := fun b h1 h2 => by
    show (if b = p then _ else _) = _
    rw [if_neg h2, if_neg h1]
  have o2c : ∀ b l, own2 b = some l → (b = p ∧ l = [SH, n, k]) ∨ (b ≠ p ∧ own1 b = some l ∧ l ≠ [SH, n, k]) := fun b l h => by
    have h : (if b = p then some [SH, n, k] else if own1 b = some [SH, n, k] then none else own1 b) = some l := h
    split at h
    · rename_i hb
      cases h
      exact .inl ⟨hb, rfl⟩
    · rename_i hb
      split at h
      · cases h
      · rename_i hb2
        exact .inr ⟨hb, h, fun z => hb2 (by rw [h, z])⟩
  have o2n : ∀ b, own1 b = none → b ≠ p → own2 b = none := fun b h h2 => by
    rw [o2k b (by rw [h]; exact fun z => nomatch z) h2]
    exact h
  have o2l : ∀ b l, own1 b = some l → l ≠ [SH, n, k] → own2 b = some l := fun b l h h2 => by
    rw [o2k b (fun z => h2 (Option.some.inj (h.symm.trans z))) (fun z => by rw [z, ho] at h; cases h)]
    exact h
  have gr' : Gr own1 B1 own2 B1 := ⟨Same.refl B1, fun b m h => o2l b _ h (by simp)⟩
  have hgr : Ground F own2 B1 (upd H1 a (.ins (Mg.cls c) dx (putF f (.ref p) vs))) := by
    refine ⟨fun b u e => ?_, fun b u e => ?_, fun b h => ?_⟩
    · have ne : b ≠ a := fun z => by have := (g1.gr.base b u e).2; rw [z, hao] at this; cases this
      rw [upd_ne ne]
      exact ⟨(g1.gr.base b u e).1, o2n b (g1.gr.base b u e).2 fun z => by rw [z, hB] at e; cases e⟩
    · obtain ⟨k1, k2, k3⟩ := g1.gr.frame b u e
      have ne : b ≠ a := fun z => by rw [z, hao] at k2; cases k2
      rw [upd_ne ne]
      exact ⟨k1, o2n b k2 (fun z => by rw [z, hF] at e; cases e), k3⟩
    · by_cases hb : b = a
      · rw [hb, upd_same]
        exact fun z => nomatch z
      · rw [upd_ne hb]
        cases hl : own2 b with
        | none => exact absurd hl h
        | some l =>
          rcases o2c b l hl with ⟨z, _⟩ | ⟨_, z, _⟩
          · rw [z, hp]
            exact fun z => nomatch z
          · exact g1.gr.live b (by rw [z]; exact fun z => nomatch z)
  have hst : StoR X.K B1 (upd H1 a (.ins (Mg.cls c) dx (putF f (.ref p) vs))) own2 (os.set n (.ins c (putN k (.lst es) ds))) := by
    refine st.mut hnl (Same.refl B1) (fun l m r hmn => ⟨fun h => o2l l _ h (by simp [hmn]), fun h => ?_⟩) (fun l => ⟨fun h => o2l l _ h (by simp), fun h => ?_⟩) (fun l m r hmn h => upd_ne fun z => ?_) (fun b b' r h h' => ?_) (fun b hb => ?_)
    · rcases o2c l _ h with ⟨_, z⟩ | ⟨_, z, _⟩
      · simp only [List.cons.injEq] at z
        exact absurd z.2.1 hmn
      · exact z
    · rcases o2c l _ h with ⟨_, z⟩ | ⟨_, z, _⟩
      · simp at z
      · exact z
    · rw [z, hao] at h
      simp only [Option.some.injEq, List.cons.injEq] at h
      exact hmn h.2.1.symm
    · rcases o2c b _ h with ⟨z1, z2⟩ | ⟨z1, z2, z3⟩ <;> rcases o2c b' _ h' with ⟨z4, z5⟩ | ⟨z4, z5, z6⟩
      · rw [z1, z4]
      · exact absurd z2 z6
      · exact absurd z5 z3
      · exact st.inj b b' n r z2 z5
    · rcases o2c b _ hb with ⟨_, z⟩ | ⟨_, z, _⟩
      · simp at z
      have := st.inj b a n [] z hao
      subst this
      have hlen : (vs.map (·.2)).length = ds.length := by rw [List.length_map]; exact h3
      refine ⟨dx, _, upd_same, p1, ?_, fun j v d hv hd => ?_⟩
      · have := congrArg List.length p2
        rw [List.length_map] at this
        rw [this]
        exact putN_len hlen
      · rw [p2] at hv
        rcases putN_get (by omega) hv with ⟨j1, rfl⟩ | ⟨j1, hv'⟩ <;> rcases putN_get hkl hd with ⟨j2, rfl⟩ | ⟨j2, hd'⟩
        · subst j1
          rw [hM]
          exact ⟨p, us, es, rfl, rfl, o2p, by rw [upd_ne (Ne.symm hap)]; exact hp, ry.gr gr'⟩
        · exact absurd j1 j2
        · exact absurd j2 j1
        · have h5 := h4 j v d hv' hd'
          cases hm : Mg.fm c j with
          | any =>
            rw [hm] at h5
            exact AnyR.gr h5 gr'
          | lst =>
            rw [hm] at h5
            obtain ⟨l', us', es', k1, k2, k3, k4, k5⟩ := h5
            exact ⟨l', us', es', k1, k2, o2l _ _ k3 (by simp [j1]), by rw [upd_ne fun z => by rw [z, hao] at k3; cases k3]; exact k4, k5.gr gr'⟩
          | dct =>
            rw [hm] at h5
            obtain ⟨l', us', es', k1, k2, k3, k4, k5⟩ := h5
            refine ⟨l', us', es', k1, k2, o2l _ _ k3 (by simp [j1]), by rw [upd_ne fun z => by rw [z, hao] at k3; cases k3]; exact k4, ?_⟩
            rcases k5 with ⟨ps, a1, b1, c1⟩ | ⟨ps, a1, b1, c1⟩
            · exact .inl ⟨ps, a1, b1, fun k p q x y => ⟨(c1 k p q x y).1, (c1 k p q x y).2.gr gr'⟩⟩
            · exact .inr ⟨ps, a1, b1, fun k p q x y => ⟨(c1 k p q x y).1, (c1 k p q x y).2.gr gr'⟩⟩
  refine q own2 B1 σ _ (e1.trans gr') (g1.setS hS hfl hos hgr hst (Same.refl B1) (fun l i r hi h => ⟨o2l l _ h (fun z => ?_), upd_ne fun z => ?_⟩) gr'.le)
  · simp only [List.cons.injEq] at z
    exact hi z.1
  · rw [z, hao] at h
    simp only [Option.some.injEq, List.cons.injEq] at h
    exact hi h.1.symm
end
end T

set_option Elab.async false
set_option linter.all false
set_option maxRecDepth 100000
set_option maxHeartbeats 4000000
/-! S-layer, part N: things that are only read: tuples of them, compared. -/
namespace T
open PySem PySem.Spec PyProof.Rows L2
variable [Mg]
/-- v, read as d for now -/
def Sb (K : PySem.W.Frag) (own : Own) (F B H : Hp) (v : V) (d : D) : Prop := ∃ B2 : Hp, Ext B B2 ∧ (∀ a o, B2 a = some o → H a = some o ∧ (B a = some o ∨ own a ≠ none ∨ F a = some o)) ∧ Rp K B2 v d
def SbA (K : PySem.W.Frag) (own : Own) (F B H : Hp) (vs : List V) (ds : List D) : Prop := ∃ B2 : Hp, Ext B B2 ∧ (∀ a o, B2 a = some o → H a = some o ∧ (B a = some o ∨ own a ≠ none ∨ F a = some o)) ∧ RpA K B2 vs ds
def unB (B C : Hp) : Hp := fun a => match B a with
  | some o => some o
  | none => C a
section
variable {K : PySem.W.Frag} {own : Own} {F F' B B' H H' C : Hp} {v : V} {d : D} {vs : List V} {ds : List D}
omit [Mg] in
theorem unB_l : Ext B (unB B C) := fun a o h => by
  unfold unB
  rw [h]
omit [Mg] in
theorem unB_r (h : ∀ a o, B a = some o → H a = some o) (h' : ∀ a o, C a = some o → H a = some o) : Ext C (unB B C) := fun a o e => by
  unfold unB
  cases hb : B a with
  | none => exact e
  | some u => exact (h a u hb).symm.trans (h' a o e)
omit [Mg] in
theorem unB_of {P : Addr → HO → Prop} (h : ∀ a o, B a = some o → P a o) (h' : ∀ a o, C a = some o → P a o) : ∀ a o, unB B C a = some o → P a o := fun a o e => by
  unfold unB at e
  cases hb : B a with
  | none =>
    rw [hb] at e
    exact h' a o e
  | some u =>
    rw [hb] at e
    cases e
    exact h a _ hb
/-- what is known of the entries, later -/
theorem sb_keep {B2 : Hp} (g : Ground F own B H) (s : Step own F B H B' H') (hF : ∀ a o, F a = some o → F' a = some o) (c : ∀ a o, B2 a = some o → H a = some o ∧ (B a = some o ∨ own a ≠ none ∨ F a = some o)) :
    Ext B' (unB B' B2) ∧ Ext B2 (unB B' B2) ∧ ∀ a o, unB B' B2 a = some o → H' a = some o ∧ (B' a = some o ∨ own a ≠ none ∨ F' a = some o) := by
  have c' : ∀ a o, B2 a = some o → H' a = some o ∧ (B' a = some o ∨ own a ≠ none ∨ F' a = some o) := fun a o e => by
    obtain ⟨h1, h2 | h2 | h2⟩ := c a o e
    · exact ⟨s.base a o (s.ext a o h2), .inl (s.ext a o h2)⟩
    · exact ⟨(s.ownd a h2).1.trans h1, .inr (.inl h2)⟩
    · exact ⟨(s.frame a o h2).1, .inr (.inr (hF a o h2))⟩
  exact ⟨unB_l, unB_r (fun a o e => s.base a o e) (fun a o e => (c' a o e).1), unB_of (fun a o e => ⟨s.base a o e, .inl e⟩) c'⟩
theorem Sb.keep (h : Sb K own F B H v d) (g : Ground F own B H) (s : Step own F B H B' H') (hF : ∀ a o, F a = some o → F' a = some o) : Sb K own F' B' H' v d := by
  obtain ⟨B2, h1, h2, h3⟩ := h
  obtain ⟨k1, k2, k3⟩ := sb_keep g s hF h2
  exact ⟨_, k1, k3, h3.mono k2⟩
theorem Sb.cons (g : Ground F own B H) (h : Sb K own F B H v d) (h' : SbA K own F B H vs ds) : SbA K own F B H (v :: vs) (d :: ds) := by
  obtain ⟨B2, h1, h2, h3⟩ := h
  obtain ⟨B3, h4, h5, h6⟩ := h'
  have e3 : Ext B3 (unB B2 B3) := unB_r (fun a o e => (h2 a o e).1) (fun a o e => (h5 a o e).1)
  exact ⟨unB B2 B3, fun a o e => unB_l a o (h1 a o e), unB_of h2 h5, .cons (h3.mono unB_l) (h6.mono e3)⟩
theorem Sn.sb (g : Ground F own B H) (h : Sn K own B H v d) : Sb K own F B H v d := by
  rcases h with h | ⟨l, vs, ds, rfl, rfl, h1, h2, h3⟩ | ⟨l, o, ds, rfl, rfl, h1, h2, h3⟩
  · exact ⟨B, Same.refl B, fun a o e => ⟨(g.base a o e).1, .inl e⟩, h⟩
  · have hx := ext_upd (o := .lst vs) (g.bnone h1)
    refine ⟨upd B l (.lst vs), hx, fun a o e => ?_, .lst upd_same (h3.mono hx)⟩
    by_cases ha : a = l
    · subst ha
      rw [upd_same] at e
      cases e
      exact ⟨h2, .inr (.inl h1)⟩
    · rw [upd_ne ha] at e
      exact ⟨(g.base a o e).1, .inl e⟩
  · have hx := ext_upd (o := o) (g.bnone h1)
    refine ⟨upd B l o, hx, fun a o' e => ?_, by
      rcases h3 with ⟨ps, rfl, h3⟩ | ⟨ps, rfl, h3⟩
      · exact .dct upd_same (h3.mono hx)
      · exact .dctT upd_same (h3.mono hx)⟩
    by_cases ha : a = l
    · subst ha
      rw [upd_same] at e
      cases e
      exact ⟨h2, .inr (.inl h1)⟩
    · rw [upd_ne ha] at e
      exact ⟨(g.base a o' e).1, .inl e⟩
end
/-! ### the judgement -/
structure StF (own : Own) (F B H F' B' H' : Hp) : Prop where
  s : Step own F B H B' H'
  f : ∀ a o, F a = some o → F' a = some o
def EvR (X : Cx) (W : WX) (G : List Mode) (t : TE) (g : Rho → Res D) : Prop :=
  ∀ (F : Hp) (ρ : Rho) (own : Own) (B : Hp) (σ : L2.St) (H : Hp) (Q : VK), Good X.K F G ρ own B σ H →
    (g ρ).has (fun d => ∀ (v : V) (F' B' H' : Hp), StF own F B H F' B' H' → Good X.K F' G ρ own B' σ H' → Sb X.K own F' B' H' v d → Q v H') (WOk X.K X.mg W own F B H σ) → t σ H Q
def EvRA (X : Cx) (W : WX) (G : List Mode) (t : TA) (g : Rho → Res (List D)) : Prop :=
  ∀ (F : Hp) (ρ : Rho) (own : Own) (B : Hp) (σ : L2.St) (H : Hp) (Q : List V → Hp → Prop), Good X.K F G ρ own B σ H →
    (g ρ).has (fun ds => ∀ (vs : List V) (F' B' H' : Hp), StF own F B H F' B' H' → Good X.K F' G ρ own B' σ H' → SbA X.K own F' B' H' vs ds → Q vs H') (WOk X.K X.mg W own F B H σ) → t σ H Q
def RJ (X : Cx) (W : WX) (G : List Mode) (e : Expr) (g : Rho → Res D) : Prop := ∃ t, PE X e t ∧ EvR X W G t g
def RAJ (X : Cx) (W : WX) (G : List Mode) (es : List Expr) (g : Rho → Res (List D)) : Prop := ∃ t, PA X es t ∧ EvRA X W G t g
section
variable {own : Own} {F B H F' B' H' F2 B2 H2 : Hp}
omit [Mg] in
theorem Step.less (s : Step own F' B H B' H') (hF : ∀ a o, F a = some o → F' a = some o) : Step own F B H B' H' := ⟨s.ext, s.base, s.ownd, fun a o h => s.frame a o (hF a o h)⟩
omit [Mg] in
theorem StF.trans (s : StF own F B H F' B' H') (t : StF own F' B' H' F2 B2 H2) : StF own F B H F2 B2 H2 := ⟨s.s.trans (t.s.less s.f), fun a o h => t.f a o (s.f a o h)⟩
theorem WOk.f {K : PySem.W.Frag} {mg : Str → Option Value} {W : WX} {σ : L2.St} {e : Exn} (w : WOk K mg W own F B H σ e) (s : StF own F B H F' B' H') : WOk K mg W own F' B' H' σ e := fun c dx B2 H2 t x => w c dx B2 H2 (s.s.trans (t.less s.f)) x
end
section
variable {X : Cx} {W : WX} {G : List Mode} {e a b : Expr} {es : List Expr} {pos : Pos}
theorem rj_bj {g : Rho → Res D} (h : BJ X W G e g) : RJ X W G e g := by
  obtain ⟨t, p, v⟩ := h
  exact ⟨t, p, fun F ρ own B σ H Q gd q => v F ρ own B σ H Q gd (Res.has_mono q (fun d q v B' H' s r => q v F B' H' ⟨s, fun _ _ h => h⟩ (gd.step s) (r.sb (gd.step s).gr)) fun _ x => x)⟩
theorem raj_nil : RAJ X W G [] noA := ⟨_, pa_nil, fun F ρ own B σ H Q gd q => q [] F B H ⟨.refl gd.gr, fun _ _ h => h⟩ gd ⟨B, Same.refl B, fun a o e => ⟨(gd.gr.base a o e).1, .inl e⟩, .nil⟩⟩
theorem raj_cons {g : Rho → Res D} {h : Rho → Res (List D)} (he : RJ X W G e g) (hr : RAJ X W G es h) (hs : starEach (e :: es) X.env = (false, eval e X.env) :: starEach es X.env := by rfl) : RAJ X W G (e :: es) (consA g h) := by
  obtain ⟨t, pe, ve⟩ := he
  obtain ⟨u, pu, vu⟩ := hr
  refine ⟨_, pa_cons pe pu hs, fun F ρ own B σ H Q gd q => ?_⟩
  refine ve F ρ own B σ H _ gd (Res.has_mono (Res.has_bind q) (fun d q v F1 B1 H1 s1 g1 r1 => ?_) fun _ x => x)
  refine vu F1 ρ own B1 σ H1 _ g1 (Res.has_mono (Res.has_bind q) (fun ds q vs F2 B2 H2 s2 g2 r2 => ?_) fun _ x => x.f s1)
  exact q (v :: vs) F2 B2 H2 (s1.trans s2) g2 (Sb.cons g2.gr (r1.keep g1.gr s2.s s2.f) r2)
/-- (e, ..), of things that are read -/
theorem rj_tup {x1} {g : Rho → Res (List D)} (h : RAJ X W G es g) : RJ X W G (.Tuple es x1 pos) (tupV g) := by
  obtain ⟨t, p, v⟩ := h
  refine ⟨_, pe_tup p, fun F ρ own B σ H Q gd q => ?_⟩
  refine v F ρ own B σ H _ gd (Res.has_mono (Res.has_bind q) (fun ds q vs F1 B1 H1 s1 g1 r1 => ?_) fun _ x => x)
  split at q
  case isFalse => exact q.elim
  rename_i hz
  obtain ⟨B2, k1, k2, k3⟩ := r1
  refine ⟨by rw [k3.len]; exact hz, fun n hn => ?_⟩
  have st := Step.garbage g1.gr (.tup vs) hn
  have gn := g1.step st
  have hnb := g1.gr.bfresh hn
  have hno := g1.gr.ofresh hn
  have hnf := g1.gr.ffresh hn
  have gF : Good X.K (upd F1 n (.tup vs)) G ρ own B1 σ (upd H1 n (.tup vs)) := gn.frame1 hnb hno upd_same
  have hf : ∀ a o, F1 a = some o → upd F1 n (.tup vs) a = some o := fun a o e => by
    rw [upd_ne fun z => by rw [z, hnf] at e; cases e]
    exact e
  refine q (.ref n) (upd F1 n (.tup vs)) B1 _ ⟨s1.s.trans (st.less s1.f), fun a o e => hf a o (s1.f a o e)⟩ gF ?_
  have h2n : B2 n = none := by
    cases h : B2 n with
    | none => rfl
    | some o =>
      have := (k2 n o h).1
      rw [hn] at this
      cases this
  have hx := ext_upd (o := .tup vs) h2n
  refine ⟨upd B2 n (.tup vs), fun a o e => hx a o (k1 a o e), fun a o e => ?_, .tup (.inl (.inl upd_same)) (k3.mono hx)⟩
  by_cases ha : a = n
  · subst ha
    rw [upd_same] at e ⊢
    cases e
    exact ⟨rfl, .inr (.inr upd_same)⟩
  · rw [upd_ne ha] at e ⊢
    obtain ⟨h1, h2 | h2 | h2⟩ := k2 a o e
    · exact ⟨h1, .inl h2⟩
    · exact ⟨h1, .inr (.inl h2)⟩
    · exact ⟨h1, .inr (.inr (hf a o h2))⟩
/-- a comparison of such -/
theorem ev_cmpR {r : R2} {f : D → D → Res D} {ta tb : TE} {ga gb : Rho → Res D} (ho : OpD X r f) (hc : Calm f) (hb : ∀ x y d, f x y = .ok d → ∃ k, d = .bl k) (va : EvR X W G ta ga) (vb : EvR X W G tb gb) : Ev X W G (tOp r ta tb) (bin f ga gb) := fun F ρ own B σ H Q gd q => by
  refine va F ρ own B σ H _ gd (Res.has_mono (Res.has_bind q) (fun dx q v F1 B1 H1 s1 g1 r1 => ?_) fun _ x => x)
  refine vb F1 ρ own B1 σ H1 _ g1 (Res.has_mono (Res.has_bind q) (fun dy q w F2 B2 H2 s2 g2 r2 => ?_) fun _ x => x.f s1)
  obtain ⟨C, c1, c2, c3⟩ := r1.keep g1.gr s2.s s2.f
  obtain ⟨C', c4, c5, c6⟩ := r2
  have eC' : Ext C' (unB C C') := unB_r (fun a o e => (c2 a o e).1) (fun a o e => (c5 a o e).1)
  have hcc := unB_of c2 c5
  have eB : Ext B2 (unB C C') := fun a o e => unB_l a o (c1 a o e)
  have gr2 : Ground (fun a => if unB C C' a = none then F2 a else none) (fun a => if unB C C' a = none then own a else none) (unB C C') H2 := by
    refine ⟨fun a o e => ⟨(hcc a o e).1, if_neg (by rw [e]; exact fun z => nomatch z)⟩, fun a o e => ?_, fun a h => ?_⟩
    · have e : (if unB C C' a = none then F2 a else none) = some o := e
      split at e
      · rename_i hn
        obtain ⟨h1, h2, h3⟩ := g2.gr.frame a o e
        exact ⟨h1, by simp only [hn, if_true]; exact h2, hn⟩
      · cases e
    · have h : (if unB C C' a = none then own a else none) ≠ none := h
      split at h
      · exact g2.gr.live a h
      · exact absurd rfl h
  refine ho _ _ (unB C C') H2 v w dx dy Q gr2 (.inl (c3.mono unB_l)) (.inl (c6.mono eC')) ?_
  cases hd : f dx dy with
  | ex e => exact absurd hd (hc dx dy e)
  | no =>
    rw [hd] at q
    exact q
  | ok d =>
    rw [hd] at q
    intro u B3 H3 s3 r3
    obtain ⟨k, rfl⟩ := hb _ _ _ hd
    cases r3
    have sF : Step own F2 B2 H2 B2 H3 := by
      refine ⟨Same.refl B2, fun a o e => s3.base a o (s3.ext a o (eB a o e)), fun a h => ⟨?_, g2.gr.bnone h⟩, fun a o e => ⟨?_, (g2.gr.frame a o e).2.2⟩⟩
      · cases hu : unB C C' a with
        | none => exact (s3.ownd a (by simp only [hu, if_true]; exact h)).1
        | some o => exact (s3.base a o (s3.ext a o hu)).trans (hcc a o hu).1.symm
      · cases hu : unB C C' a with
        | none => exact (s3.frame a o (by simp only [hu, if_true]; exact e)).1
        | some o' => exact (s3.base a o' (s3.ext a o' hu)).trans ((hcc a o' hu).1.symm.trans (g2.gr.frame a o e).1)
    exact q (.bl k) B2 H3 (s1.s.trans ((s2.s.trans (sF.less s2.f)).less s1.f)) (.bl _)
theorem ej_cmpR {op : CmpOp} {f : D → D → Res D} {ga gb : Rho → Res D} (ho : ∃ r, OpR X (compareOp op) r ∧ OpD X r f) (hf : Calm f) (hm : behindInMarks op b = false) (hb : ∀ x y d, f x y = .ok d → ∃ k, d = .bl k) (ha : RJ X W G a ga) (hbb : RJ X W G b gb) : EJ X W G (.Compare a [op] [b] pos) (bin f ga gb) := by
  obtain ⟨r, h1, h2⟩ := ho
  obtain ⟨ta, pa, va⟩ := ha
  obtain ⟨tb, pb, vb⟩ := hbb
  exact ⟨_, pe_cmpR h1 pa pb hm, ev_cmpR h2 hf hb va vb⟩
end
theorem tj_cmpR {X : Cx} {W : WX} {G : List Mode} {a b : Expr} {pos : Pos} {op : CmpOp} {f : D → D → Res D} {ga gb : Rho → Res D} (ho : ∃ r, OpR X (compareOp op) r ∧ OpD X r f) (hf : Calm f) (hm : behindInMarks op b = false) (hb : ∀ x y d, f x y = .ok d → ∃ k, d = .bl k) (ha : RJ X W G a ga) (hbb : RJ X W G b gb) : TJ X W G (.Compare a [op] [b] pos) (toB (bin f ga gb)) := by
  obtain ⟨r, h1, h2⟩ := ho
  obtain ⟨ta, pa, va⟩ := ha
  obtain ⟨tb, pb, vb⟩ := hbb
  exact ⟨_, pt_cmpR h1 pa pb hm, ev_test (ev_cmpR h2 hf hb va vb).b⟩
omit [Mg] in
theorem fz_nil {G : List Mode} : ∀ i ∈ ([] : List Nat), G.getD i Mode.fz = Mode.fz := fun i hi => by cases hi
omit [Mg] in
theorem fz_cons {G : List Mode} {j : Nat} {is : List Nat} (h : G.getD j Mode.fz = Mode.fz) (h' : ∀ i ∈ is, G.getD i Mode.fz = Mode.fz) : ∀ i ∈ j :: is, G.getD i Mode.fz = Mode.fz := fun i hi => by
  rcases List.mem_cons.mp hi with rfl | hi
  · exact h
  · exact h' i hi
theorem ft_nil {K : PySem.W.Frag} {f : Str} : FldT K f [] := fun c k m h => by simp at h
theorem ft_cons {K : PySem.W.Frag} {f : Str} {c k : Nat} {m : FM} {tab : FT} (h : Fld K c f k) (e : Mg.fm c k = m) (r : FldT K f tab) : FldT K f ((c, (k, m)) :: tab) := fun c' k' m' h' => by
  rw [List.lookup_cons] at h'
  split at h'
  · rename_i hc
    cases h'
    have := beq_iff_eq.mp hc
    subst this
    exact ⟨h, e⟩
  · exact r c' k' m' h'
omit [Mg] in
theorem dEq_bl : ∀ x y d, dEq x y = .ok d → ∃ k, d = .bl k := fun x y d h => by
  unfold dEq at h
  split at h
  · cases h
    exact ⟨_, rfl⟩
  · cases h
omit [Mg] in
theorem dNe_bl : ∀ x y d, dNe x y = .ok d → ∃ k, d = .bl k := fun x y d h => by
  unfold dNe at h
  split at h
  · cases h
    exact ⟨_, rfl⟩
  · cases h
end T

set_option Elab.async false
set_option linter.all false
set_option maxRecDepth 100000
set_option maxHeartbeats 4000000
/-! Part M: bodies that never end by themselves. -/
namespace T
open PySem PySem.Spec PyProof.Rows L2
section
variable {f g : Rho → Out}
theorem nq_seq (h : ∀ ρ ρ', g ρ ≠ .nx ρ') : ∀ ρ ρ', sSeq f g ρ ≠ .nx ρ' := fun ρ ρ' z => by
  unfold sSeq at z
  cases e : f ρ with
  | nx ρ1 =>
    rw [e] at z
    exact h ρ1 ρ' z
  | _ =>
    rw [e] at z
    cases z
theorem nq_seq0 (h : ∀ ρ ρ', f ρ ≠ .nx ρ') : ∀ ρ ρ', sSeq f g ρ ≠ .nx ρ' := fun ρ ρ' z => by
  unfold sSeq at z
  cases e : f ρ with
  | nx ρ1 => exact h ρ ρ1 e
  | _ =>
    rw [e] at z
    cases z
theorem nq_then {α : Type} {r : Res α} {ρ : Rho} {k : α → Out} (h : ∀ a ρ', k a ≠ .nx ρ') : ∀ ρ', thenS r ρ k ≠ .nx ρ' := fun ρ' z => by
  cases r with
  | ok a => exact h a ρ' z
  | _ => cases z
theorem nq_thenM {α : Type} {r : ResM α} {k : α → Rho → Out} (h : ∀ a ρ ρ', k a ρ ≠ .nx ρ') : ∀ ρ', thenM r k ≠ .nx ρ' := fun ρ' z => by
  cases r with
  | ok a ρ => exact h a ρ ρ' z
  | _ => cases z
theorem nq_if {c : Rho → Res Bool} (h1 : ∀ ρ ρ', f ρ ≠ .nx ρ') (h2 : ∀ ρ ρ', g ρ ≠ .nx ρ') : ∀ ρ ρ', sIf c f g ρ ≠ .nx ρ' := fun ρ => nq_then fun b ρ' z => by
  cases b with
  | true => exact h1 ρ ρ' z
  | false => exact h2 ρ ρ' z
theorem nq_ifM {c : Rho → ResM Bool} (h1 : ∀ ρ ρ', f ρ ≠ .nx ρ') (h2 : ∀ ρ ρ', g ρ ≠ .nx ρ') : ∀ ρ ρ', sIfM c f g ρ ≠ .nx ρ' := fun ρ => nq_thenM fun b ρ1 ρ' z => by
  cases b with
  | true => exact h1 ρ1 ρ' z
  | false => exact h2 ρ1 ρ' z
theorem nq_ret {e : Rho → Res D} : ∀ ρ ρ', sRet e ρ ≠ .nx ρ' := fun ρ => nq_then fun _ _ z => nomatch z
theorem nq_retN {e : Rho → Res (List D)} : ∀ ρ ρ', sRetN e ρ ≠ .nx ρ' := fun ρ => nq_then fun _ _ z => nomatch z
theorem nq_retM {e : Rho → ResM D} : ∀ ρ ρ', sRetM e ρ ≠ .nx ρ' := fun ρ => nq_thenM fun _ _ _ z => nomatch z
theorem nq_raise {c : Str} : ∀ ρ ρ', sRaise c ρ ≠ .nx ρ' := fun _ _ z => nomatch z
theorem nq_raiseA {c : Str} {e : Rho → Res (List D)} : ∀ ρ ρ', sRaiseA c e ρ ≠ .nx ρ' := fun ρ => nq_then fun _ _ z => by
  split at z <;> cases z
theorem nq_never : ∀ ρ ρ', sNever ρ ≠ .nx ρ' := fun _ _ z => nomatch z
end
end T

set_option Elab.async false
set_option linter.all false
set_option maxRecDepth 100000
set_option maxHeartbeats 4000000
/-! O-layer, part N: texts repeated. -/
namespace T
open PySem PySem.Spec PyProof.Rows L2
variable [Mg]
/-- text * int -/
def dRepS : D → D → Res D
  | .str s, .int n => if 1 ≤ n ∧ n ≤ 100000 ∧ s.length ≤ 100 then .ok (.str (Txt.mul s n)) else .no
  | _, _ => .no
omit [Mg] in
theorem calm_repS : Calm dRepS := fun x y e h => by
  unfold dRepS at h
  split at h <;> (try split at h) <;> cases h
section
variable {X : Cx}
omit [Mg] in
theorem op_rep_str : OpR X (binaryOp .Mult) (fun x y H Q => ∃ i n, x = .str i ∧ y = .int n ∧ (1 ≤ n ∧ n ≤ 100000 ∧ i.length ≤ 100) ∧ Q (.str (Txt.mul i n)) H) := by
  intro pins s σ H x y v u Q I rx ry h
  obtain ⟨i, n, rfl, rfl, ⟨h1, h2, h3⟩, q⟩ := h
  obtain ⟨t, rfl⟩ := rx
  obtain ⟨t', rfl⟩ := ry
  refine SB.mul ⟨by simp; omega, fun _ _ => ?_, fun _ _ => ?_⟩ fun t' tk => ⟨.str (Txt.mul i n), H, I.tok _, ⟨_, rfl⟩, q⟩
  · have : (2 ^ 63 - 1 : Int) / n ≥ (2 ^ 63 - 1) / 100000 := Int.le_ediv_of_mul_le (by omega) (by
      have : ((2 ^ 63 - 1 : Int) / 100000) * n ≤ ((2 ^ 63 - 1 : Int) / 100000) * 100000 := Int.mul_le_mul_of_nonneg_left h2 (by decide)
      omega)
    omega
  · unfold Builtin.Str.tooLong
    have : i.length * n.toNat ≤ 100 * 100000 := Nat.mul_le_mul h3 (by omega)
    have e : sizeLine = 16777216 := by decide
    simp only [decide_eq_false_iff_not, e]
    omega
theorem bin_repS : ∃ r, OpR X (binaryOp .Mult) r ∧ OpD X r dRepS := by
  refine ⟨_, op_rep_str, fun F own B H x y dx dy Q g hx hy q => ?_⟩
  unfold dRepS at q
  split at q
  · rename_i s n
    split at q
    · rename_i hz
      cases hx.str
      cases hy.int
      exact ⟨s, n, rfl, rfl, hz, q _ _ _ (.refl g) (.str _)⟩
    · exact q.elim
  · exact q.elim
end
omit [Mg] in
theorem foldl_reps (l : List Nat) : ∀ (m : Nat) (a : Array Nat), ((List.replicate m l.toArray).foldl (· ++ ·) a) = a ++ (List.replicate m l).flatten.toArray
  | 0, a => by simp
  | m + 1, a => by
    rw [List.replicate_succ, List.foldl_cons, foldl_reps l m, List.replicate_succ, List.flatten_cons]
    simp [Array.append_assoc]
omit [Mg] in
theorem dRepS_S {l : List Nat} {n : Int} (h1 : 1 ≤ n) (h2 : n ≤ 100000) (h3 : l.length ≤ 100) : dRepS (dS l) (.int n) = .ok (dS (List.replicate n.toNat l).flatten) := by
  have hl : (SX.S l).length = l.length := S_len' l
  unfold dRepS dS
  simp only
  rw [if_pos ⟨h1, h2, by rw [hl]; exact h3⟩]
  congr 2
  unfold Txt.mul
  rw [if_neg (by omega)]
  split
  · rename_i h
    simp only [Bool.or_eq_true, beq_iff_eq, hl] at h
    rcases h with h | h
    · subst h
      simp
    · cases l with
      | nil => simp
      | cons a l => simp at h
  · show (⟨(List.replicate n.toNat l.toArray).foldl (· ++ ·) #[]⟩ : Str) = _
    rw [foldl_reps]
    simp <;> rfl
end T

set_option Elab.async false
set_option linter.all false
set_option maxRecDepth 100000
set_option maxHeartbeats 4000000
/-! O-layer, part O: comprehensions of two clauses. -/
namespace T
open PySem PySem.Spec PyProof.Rows L2
variable [Mg]
omit [Mg] in
/-- a comprehension's block within another's -/
theorem blkOk_in {X : Cx} {N : List Str} {sc scope0 scope : Scope} {own : List (Str × Nat)} {s : Shared} {H : Hp} {C : Addr} {cl : List (Str × Addr)} {fp : List Addr} (hN : X.N = N) (he : X.env.scope = sc) (h : blkC N (relS scope0 sc) scope own = true) : BlkOk (Blk X scope0 s H C cl fp).N (Blk X scope0 s H C cl fp).env.scope scope own := by
  subst hN he
  exact blkOk_by h
/-- each item gives a list; one behind another -/
def flM (b : Bnd) (c : Rho → Res Bool) (g : Rho → Res (List D)) (ρ : Rho) : List D → Res (List D)
  | [] => .ok []
  | x :: xs => match b x ρ with
    | none => .no
    | some ρ' => (c ρ').calm.bind fun k => if k = true then (g ρ').calm.bind fun ys => (flM b c g ρ xs).bind fun zs => .ok (ys ++ zs) else flM b c g ρ xs
def comp2V (src : Rho → Res (List D)) (b : Bnd) (c : Rho → Res Bool) (g : Rho → Res (List D)) (vs : List Nat) : Rho → Res (List D) := fun ρ => (src ρ).bind fun items => if items.length ≤ sizeLine then (flM b c g (wipeR ρ vs) items).bind fun r => if r.length ≤ sizeLine then .ok r else .no else .no
omit [Mg] in
theorem calm_noex {α : Type} {r : Res α} (e : Exn) : r.calm ≠ .ex e := by
  cases r <;> intro h <;> cases h
omit [Mg] in
theorem flM_noex {b : Bnd} {c : Rho → Res Bool} {g : Rho → Res (List D)} {ρ : Rho} : ∀ (items : List D) (e : Exn), flM b c g ρ items ≠ .ex e
  | [], e, h => by cases h
  | y :: ys, e, h => by
    simp only [flM] at h
    split at h
    · cases h
    · rename_i ρ' _
      cases h1 : (c ρ').calm with
      | ok k =>
        rw [h1] at h
        simp only [Res.bind_ok] at h
        split at h
        · cases h2 : (g ρ').calm with
          | ok y' =>
            rw [h2] at h
            simp only [Res.bind_ok] at h
            cases h3 : flM b c g ρ ys with
            | ok zs =>
              rw [h3] at h
              cases h
            | no =>
              rw [h3] at h
              cases h
            | ex z => exact flM_noex ys z h3
          | ex x => exact calm_noex x h2
          | no =>
            rw [h2] at h
            cases h
        · exact flM_noex ys e h
      | ex x => exact calm_noex x h1
      | no =>
        rw [h1] at h
        cases h
omit [Mg] in
theorem lcM_noex {b : Bnd} {c : Rho → Res Bool} {g : Rho → Res D} {ρ : Rho} : ∀ (items : List D) (e : Exn), lcM b c g ρ items ≠ .ex e
  | [], e, h => by cases h
  | y :: ys, e, h => by
    simp only [lcM] at h
    split at h
    · cases h
    · rename_i ρ' _
      cases h1 : (c ρ').calm with
      | ok k =>
        rw [h1] at h
        simp only [Res.bind_ok] at h
        split at h
        · cases h2 : (g ρ').calm with
          | ok y' =>
            rw [h2] at h
            simp only [Res.bind_ok] at h
            cases h3 : lcM b c g ρ ys with
            | ok zs =>
              rw [h3] at h
              cases h
            | no =>
              rw [h3] at h
              cases h
            | ex z => exact lcM_noex ys z h3
          | ex x => exact calm_noex x h2
          | no =>
            rw [h2] at h
            cases h
        · exact lcM_noex ys e h
      | ex x => exact calm_noex x h1
      | no =>
        rw [h1] at h
        cases h
omit [Mg] in
theorem Res.has_ne {α : Type} {r : Res α} {P : α → Prop} {E E' : Exn → Prop} (n : ∀ e, r ≠ .ex e) (h : r.has P E) : r.has P E' := by
  cases r with
  | ok a => exact h
  | ex e => exact absurd rfl (n e)
  | no => exact h
section
variable {X : Cx} {W : WX} {G : List Mode} {tg iter elt c tg1 iter1 c1 : Expr} {scope : Scope}
theorem fam_i {src : Rho → Res (List D)} (h : ∀ s H C cl fp, IJ (Blk X scope s H C cl fp) W0 G tg1 iter1 src) : ∃ wi, (∀ s H C cl fp, PI (Blk X scope s H C cl fp) tg1 iter1 wi) ∧ EvI X W0 G wi src := by
  refine ⟨fun σ H Q => ∀ s H0 C cl fp, (h s H0 C cl fp).choose σ H Q, fun s H0 C cl fp => ⟨fun pins s1 σ H Q I q => ?_⟩, fun F ρ own B σ H Q gd q s H0 C cl fp => ?_⟩
  · exact (h s H0 C cl fp).choose_spec.1.run pins s1 σ H Q I (q s H0 C cl fp)
  · exact (h s H0 C cl fp).choose_spec.2 F ρ own B σ H Q gd q
/-- D is owned, the slots as before -/
theorem good_D {F B H : Hp} {own : Own} {ρ : Rho} {σ : L2.St} {N : Addr} {vs : List V} (gd : Good X.K F G ρ own B σ H) (h1 : own N = none) (h2 : B N = none) (h3 : F N = none) (h4 : H N = some (.lst vs)) : Good X.K F G ρ (ownD own N) B σ H :=
  ⟨⟨fun a o e => ⟨(gd.gr.base a o e).1, by
      rw [ownD_ne (fun z => by rw [z, h2] at e; cases e)]
      exact (gd.gr.base a o e).2⟩, fun a o e => ⟨(gd.gr.frame a o e).1, by
      rw [ownD_ne (fun z => by rw [z, h3] at e; cases e)]
      exact (gd.gr.frame a o e).2.1, (gd.gr.frame a o e).2.2⟩, fun a h => by
      by_cases ha : a = N
      · rw [ha, h4]
        exact fun z => nomatch z
      · rw [ownD_ne ha] at h
        exact gd.gr.live a h⟩, gd.len, fun j d e => by
      obtain ⟨v, k1, k2⟩ := gd.slots j d e
      exact ⟨v, k1, VRep.more h1 (fun a _ => rfl) k2⟩⟩
theorem lc2_heart {own0 vs1 : List Nat} {wi wi1 : TI} {g g1 : TG} {tt tt1 : TT} {te : TE} {b b1 : Bnd} {fc fc1 : Rho → Res Bool} {f : Rho → Res D} {src src1 : Rho → Res (List D)} {is is1 : List Nat} (hi : EvIB X W G wi src)
    (hg : ∀ (F : Hp) (own : Own) (B : Hp) (σ : L2.St) (H : Hp) (G : List Mode) (ρ ρ' : Rho) (v : V) (d : T.D) (Q : L2.St → Hp → Prop), Good X.K F G ρ own B σ H → Rp X.K B v d → b d ρ = some ρ' → (∀ i ∈ is, G.getD i .fz = .fz) →
      (∀ σ', Good X.K F G ρ' own B σ' H → OnlyAt is σ σ' → Q σ' H) → g v σ H Q)
    (hsub : ∀ i ∈ is, i ∈ own0) (hG : ∀ i ∈ is, G.getD i Mode.fz = Mode.fz) (ht : EvT X W0 G tt fc) (hi1 : EvI X W0 G wi1 src1)
    (hg1 : ∀ (F : Hp) (own : Own) (B : Hp) (σ : L2.St) (H : Hp) (G : List Mode) (ρ ρ' : Rho) (v : V) (d : T.D) (Q : L2.St → Hp → Prop), Good X.K F G ρ own B σ H → Rp X.K B v d → b1 d ρ = some ρ' → (∀ i ∈ is1, G.getD i .fz = .fz) →
      (∀ σ', Good X.K F G ρ' own B σ' H → OnlyAt is1 σ σ' → Q σ' H) → g1 v σ H Q)
    (hsub1 : ∀ i ∈ is1, i ∈ vs1) (hG1 : ∀ i ∈ is1, G.getD i Mode.fz = Mode.fz) (ht1 : EvT X W0 G tt1 fc1)
    (he : Ev X W0 G te f) : EvN X W G (tLc2 wi g tt wi1 g1 tt1 te own0 vs1) (comp2V src b fc (compV src1 b1 fc1 f vs1) own0) := fun F ρ own B σ H Q gd q => by
  refine hi F ρ own B σ H _ gd (Res.has_mono (Res.has_bind q) (fun items q J B1 H1 s1 itr => ?_) fun _ x => x)
  split at q
  case isFalse => exact q.elim
  rename_i hz
  intro D hD
  have g1' := gd.step s1
  have hDo := g1'.gr.ofresh hD
  have hDb := g1'.gr.bfresh hD
  have hDf := g1'.gr.ffresh hD
  let Fin : List T.D → Prop := fun all => all.length ≤ sizeLine ∧ ∀ (p : Addr) (vs : List V) (B' H' : Hp), Step own F B H B' H' → B' p = none → F p = none → own p = none → H' p = some (.lst vs) → RpA X.K B' vs all → Q (.ref p) H'
  have q0 : (flM b fc (compV src1 b1 fc1 f vs1) (wipeR ρ own0) items).has Fin (fun _ => False) := by
    refine Res.has_ne (E := WOk X.K X.mg W own F B H σ) (flM_noex items) (Res.has_mono (Res.has_bind q) (fun r q => ?_) fun _ x => x)
    split at q
    · rename_i hr
      exact ⟨hr, q⟩
    · exact q.elim
  have down : ∀ {Ba Ha Bb Hb : Hp}, Step (ownD own D) F Ba Ha Bb Hb → Step own F Ba Ha Bb Hb := fun {Ba Ha Bb Hb} s => ⟨s.ext, s.base, fun a h => s.ownd a (by
    by_cases ha : a = D
    · rw [ha, ownD_self]
      exact fun z => nomatch z
    · rw [ownD_ne ha]
      exact h), s.frame⟩
  have dn : ∀ {Ba Ha Bb Hb : Hp}, Step (ownD own D) F Ba Ha Bb Hb → Hb D = Ha D ∧ Bb D = none := fun {Ba Ha Bb Hb} s => s.ownd D (by rw [ownD_self]; exact fun z => nomatch z)
  have hown : ∀ (Hx Hy : Hp), (∀ a, own a ≠ none → Hy a = Hx a) → ∀ a, own a ≠ none → ownD own D a ≠ none ∧ Hy a = Hx a := fun Hx Hy e a h => ⟨by
      by_cases ha : a = D
      · rw [ha, ownD_self]
        exact fun z => nomatch z
      · rw [ownD_ne ha]
        exact h, e a h⟩
  refine ⟨fun i m H' => m = items.length - i ∧ i ≤ items.length ∧ ∃ (B' : Hp) (vs : List V) (ds : List T.D), Step own F B1 H1 B' H' ∧ B' D = none ∧ H' D = some (.lst vs) ∧ RpA X.K B' vs ds ∧
      (flM b fc (compV src1 b1 fc1 f vs1) (wipeR ρ own0) (items.drop i)).has (fun rest => Fin (ds ++ rest)) (fun _ => False),
    ⟨items.length, by omega, Nat.zero_le _, B1, [], [], .garbage g1'.gr _ hD, hDb, upd_same, .nil, ?_⟩, fun i m H' hW => ?_⟩
  · simp only [List.drop_zero, List.nil_append]
    exact q0
  · obtain ⟨rfl, hile, B', vs, ds, s2, hBD, hHD, rvs, rest⟩ := hW
    have g2 := g1'.step s2
    have gdD : Good X.K F G (wipeR ρ own0) (ownD own D) B' (wipe σ own0) H' := good_D (g2.wipe own0) hDo hBD hDf hHD
    have itr' := itr (ownD own D) B' H' s2.ext (hown _ _ fun a h => (s2.ownd a h).1) gdD.gr i
    by_cases hi' : i = items.length
    · refine .inl ⟨itr'.1 hi', ?_⟩
      rw [hi', List.drop_length] at rest
      have rest' : Fin (ds ++ []) := rest
      rw [List.append_nil] at rest'
      exact rest'.2 D vs B' H' (s1.trans s2) hBD hDf hDo hHD rvs
    · have hlt : i < items.length := by omega
      have hd : items[i]? = some items[i] := List.getElem?_eq_getElem hlt
      obtain ⟨go, yld⟩ := itr'.2 _ hd
      refine .inr ⟨go, _, fun H4 h4 => ⟨items.length - (i + 1), by omega, h4⟩, fun x H3 hy => ?_⟩
      obtain ⟨B3, s3, rx⟩ := yld x H3 hy
      rw [List.drop_eq_getElem_cons hlt] at rest
      simp only [flM] at rest
      split at rest
      · exact rest.elim
      · rename_i ρ' hb
        have gd3 := gdD.step s3
        refine hg F (ownD own D) B3 (wipe σ own0) H3 G _ ρ' x _ _ gd3 rx hb hG fun σ' gd4 o4 => ⟨wipe_only o4 hsub, ?_⟩
        refine ht F ρ' (ownD own D) B3 σ' H3 _ gd4 (Res.has_mono (Res.has_cb (E' := fun _ => False) rest) (fun k rest B5 H5 s5 => ?_) fun _ x => x.elim)
        have sAll := (s2.trans (down s3)).trans (down s5)
        cases k with
        | false => exact ⟨rfl, by omega, B5, vs, ds, sAll, (dn s5).2, by rw [(dn s5).1, (dn s3).1]; exact hHD, (rvs.mono s3.ext).mono s5.ext, rest⟩
        | true =>
          have gd5 := gd4.step s5
          have rest1 : (compV src1 b1 fc1 f vs1 ρ').has (fun ys => ((flM b fc (compV src1 b1 fc1 f vs1) (wipeR ρ own0) (items.drop (i + 1))).bind fun zs => .ok (ys ++ zs)).has (fun rest => Fin (ds ++ rest)) (fun _ => False)) (fun _ => False) := Res.has_cb (E' := fun _ => False) rest
          refine hi1 F ρ' (ownD own D) B5 σ' H5 _ gd5 (Res.has_mono (Res.has_bind rest1) (fun items1 rest1 J1 B6 H6 s6 itr1 => ?_) fun _ x => x.elim)
          split at rest1
          case isFalse => exact rest1.elim
          rename_i hz1
          have gd6 := gd5.step s6
          have sA6 := sAll.trans (down s6)
          refine ⟨fun j k H' => k = items1.length - j ∧ j ≤ items1.length ∧ ∃ (B' : Hp) (vs : List V) (ds : List T.D), Step own F B6 H6 B' H' ∧ B' D = none ∧ H' D = some (.lst vs) ∧ RpA X.K B' vs ds ∧
            (lcM b1 fc1 f (wipeR ρ' vs1) (items1.drop j)).has (fun ys => ((flM b fc (compV src1 b1 fc1 f vs1) (wipeR ρ own0) (items.drop (i + 1))).bind fun zs => .ok (ys ++ zs)).has (fun rest => Fin (ds ++ rest)) (fun _ => False)) (fun _ => False),
            ⟨items1.length, by omega, Nat.zero_le _, B6, vs, ds, .refl (Ground.mk (fun a o e => ⟨(gd6.gr.base a o e).1, (g1'.gr.step sA6).base a o e |>.2⟩) (g1'.gr.step sA6).frame (g1'.gr.step sA6).live), (dn s6).2, by rw [(dn s6).1, (dn s5).1, (dn s3).1]; exact hHD, ((rvs.mono s3.ext).mono s5.ext).mono s6.ext, ?_⟩, fun j k H' hW => ?_⟩
          · rw [List.drop_zero]
            exact rest1
          · obtain ⟨rfl, hjle, B7, vs7, ds7, s7, hB7, hH7, rvs7, rest7⟩ := hW
            have gr6 : Good X.K F G ρ' own B6 σ' H6 := ⟨g1'.gr.step sA6, gd6.len, fun jj d e => by
              obtain ⟨v, k1, k2⟩ := gd6.slots jj d e
              refine ⟨v, k1, VRep.carry ⟨Same.refl _, fun l r el => ⟨?_, rfl⟩, ⟨fun l n r => ((stk_D (H := H6) (H' := H6) hDo fun _ _ => rfl).lab l n r).symm, fun _ _ _ _ => rfl⟩⟩ k2⟩
              have ne : l ≠ D := fun z => by
                rw [z, ownD_self] at el
                cases el
              rw [ownD_ne ne] at el
              exact el⟩
            have gd7 := gr6.step s7
            have gdD7 : Good X.K F G (wipeR ρ' vs1) (ownD own D) B7 (wipe σ' vs1) H' := good_D (gd7.wipe vs1) hDo hB7 hDf hH7
            have itr7 := itr1 (ownD own D) B7 H' s7.ext gdD7.gr j
            by_cases hj' : j = items1.length
            · refine .inl ⟨itr7.1 hj', rfl, by omega, B7, vs7, ds7, sA6.trans s7, hB7, hH7, rvs7, ?_⟩
              rw [hj', List.drop_length] at rest7
              have rest8 : ((flM b fc (compV src1 b1 fc1 f vs1) (wipeR ρ own0) (items.drop (i + 1))).bind fun zs => .ok ([] ++ zs)).has (fun rest => Fin (ds7 ++ rest)) (fun _ => False) := rest7
              exact Res.has_mono (Res.has_bind rest8) (fun zs q => q) fun _ x => x
            · have hltj : j < items1.length := by omega
              have hdj : items1[j]? = some items1[j] := List.getElem?_eq_getElem hltj
              obtain ⟨go1, yld1⟩ := itr7.2 _ hdj
              refine .inr ⟨go1, _, fun H4 h4 => ⟨items1.length - (j + 1), by omega, h4⟩, fun x1 H8 hy1 => ?_⟩
              obtain ⟨B8, s8, rx1⟩ := yld1 x1 H8 hy1
              rw [List.drop_eq_getElem_cons hltj] at rest7
              simp only [lcM] at rest7
              split at rest7
              · exact rest7.elim
              · rename_i ρ2 hb1
                have gd8 := gdD7.step s8
                refine hg1 F (ownD own D) B8 (wipe σ' vs1) H8 G _ ρ2 x1 _ _ gd8 rx1 hb1 hG1 fun σ2 gd9 o9 => ⟨wipe_only o9 hsub1, ?_⟩
                refine ht1 F ρ2 (ownD own D) B8 σ2 H8 _ gd9 (Res.has_mono (Res.has_cb (E' := fun _ => False) rest7) (fun k rest9 B10 H10 s10 => ?_) fun _ x => x.elim)
                have sA10 := (s7.trans (down s8)).trans (down s10)
                cases k with
                | false => exact ⟨rfl, by omega, B10, vs7, ds7, sA10, (dn s10).2, by rw [(dn s10).1, (dn s8).1]; exact hH7, (rvs7.mono s8.ext).mono s10.ext, rest9⟩
                | true =>
                  refine he F ρ2 (ownD own D) B10 σ2 H10 _ (gd9.step s10) (Res.has_mono (Res.has_cb (E' := fun _ => False) rest9) (fun y rest9 v B11 H11 s11 r11 => ?_) fun _ x => x.elim)
                  have hH11 : H11 D = some (.lst vs7) := by rw [(dn s11).1, (dn s10).1, (dn s8).1]; exact hH7
                  have sA11 := sA10.trans (down s11)
                  have rv11 : RpA X.K B11 vs7 ds7 := ((rvs7.mono s8.ext).mono s10.ext).mono s11.ext
                  have rest10 : (lcM b1 fc1 f (wipeR ρ' vs1) (items1.drop (j + 1))).has (fun ys => ((flM b fc (compV src1 b1 fc1 f vs1) (wipeR ρ own0) (items.drop (i + 1))).bind fun zs => .ok (ys ++ zs)).has (fun rest => Fin (ds7 ++ [y] ++ rest)) (fun _ => False)) (fun _ => False) := by
                    refine Res.has_mono (Res.has_bind rest9) (fun ys q => ?_) fun _ x => x
                    have q' : ((flM b fc (compV src1 b1 fc1 f vs1) (wipeR ρ own0) (items.drop (i + 1))).bind fun zs => .ok ((y :: ys) ++ zs)).has (fun rest => Fin (ds7 ++ rest)) (fun _ => False) := q
                    cases e : flM b fc (compV src1 b1 fc1 f vs1) (wipeR ρ own0) (items.drop (i + 1)) with
                    | ok zs =>
                      rw [e] at q'
                      have q2 : Fin (ds7 ++ ((y :: ys) ++ zs)) := q'
                      show Fin (ds7 ++ [y] ++ (ys ++ zs))
                      simpa using q2
                    | ex x =>
                      rw [e] at q'
                      exact q'.elim
                    | no =>
                      rw [e] at q'
                      exact q'.elim
                  have hlen : ds7.length < sizeLine := by
                    have e1 := rest10
                    cases e2 : lcM b1 fc1 f (wipeR ρ' vs1) (items1.drop (j + 1)) with
                    | ok ys =>
                      rw [e2] at e1
                      have e3 : ((flM b fc (compV src1 b1 fc1 f vs1) (wipeR ρ own0) (items.drop (i + 1))).bind fun zs => .ok (ys ++ zs)).has (fun rest => Fin (ds7 ++ [y] ++ rest)) (fun _ => False) := e1
                      cases e4 : flM b fc (compV src1 b1 fc1 f vs1) (wipeR ρ own0) (items.drop (i + 1)) with
                      | ok zs =>
                        rw [e4] at e3
                        have e5 : Fin (ds7 ++ [y] ++ (ys ++ zs)) := e3
                        have := e5.1
                        simp only [List.length_append, List.length_cons] at this
                        omega
                      | ex x =>
                        rw [e4] at e3
                        exact e3.elim
                      | no =>
                        rw [e4] at e3
                        exact e3.elim
                    | ex x =>
                      rw [e2] at e1
                      exact e1.elim
                    | no =>
                      rw [e2] at e1
                      exact e1.elim
                  refine ⟨vs7, hH11, by rw [rv11.len]; exact hlen, rfl, by omega, B11, vs7 ++ [v], ds7 ++ [y], ?_, (dn s11).2, upd_same, rv11.app (.cons r11 .nil), rest10⟩
                  exact ⟨sA11.ext, fun a o e => by
                      rw [upd_ne (fun z => by rw [z, (dn s11).2] at e; cases e)]
                      exact sA11.base a o e, fun a ho => by
                      have ne : a ≠ D := fun z => ho (by rw [z]; exact hDo)
                      rw [upd_ne ne]
                      exact sA11.ownd a ho, fun a o e => by
                      rw [upd_ne (fun z => by rw [z, hDf] at e; cases e)]
                      exact sA11.frame a o e⟩
variable {own0 : List (Str × Nat)} {vs1 : List Nat} {b b1 : Bnd} {f : Rho → Res D} {fc fc1 : Rho → Res Bool} {src src1 : Rho → Res (List D)} {is is1 : List Nat} {pos spos py : Pos}
/-- [elt for tg in iter for tg1 in iter1] -/
theorem nj_lc2 (hc : X.calm = true) (hN : X.N.Nodup) (hi : IBJ X W G tg iter src) (ok : BlkOk X.N X.env.scope scope own0) (hv : ∀ i ∈ vs1, i ∈ own0.map (·.2)) (hg : ∀ s H C cl fp, GJ (Blk X scope s H C cl fp) tg b is) (hsub : ∀ i ∈ is, i ∈ own0.map (·.2)) (hG : ∀ i ∈ is, G.getD i Mode.fz = Mode.fz)
    (hi1 : ∀ s H C cl fp, IJ (Blk X scope s H C cl fp) W0 G tg1 iter1 src1) (hg1 : ∀ s H C cl fp, GJ (Blk X scope s H C cl fp) tg1 b1 is1) (hsub1 : ∀ i ∈ is1, i ∈ vs1) (hG1 : ∀ i ∈ is1, G.getD i Mode.fz = Mode.fz)
    (he : ∀ s H C cl fp, EJ (Blk X scope s H C cl fp) W0 G elt f) (hs : ∀ x, foldedSetIterable iter X.env x = pure x := by intro _; rfl) (hs1 : ∀ env x, foldedSetIterable iter1 env x = pure x := by intro _ _; rfl) :
    NJ X W G (.ListComp elt [⟨tg, iter, [], 0⟩, ⟨tg1, iter1, [], 0⟩] scope pos) (comp2V src b yesB (compV src1 b1 yesB f vs1) (own0.map (·.2))) := by
  obtain ⟨wi, pi, vi⟩ := hi
  obtain ⟨te, pe, ve⟩ := fam_e he
  obtain ⟨g, pg, vg⟩ := fam_g hg
  obtain ⟨g1, pg1, vg1⟩ := fam_g hg1
  obtain ⟨wi1, pi1, vi1⟩ := fam_i hi1
  have hy : ∀ {W : WX}, EvT X W G _ yesB := fun {W} F ρ own B σ H Q gd q => q B H (.refl gd.gr)
  exact ⟨_, pe_lc2 hc hN pi ok hv pg (fun _ _ _ _ _ => pts_nil) pi1 pg1 (fun _ _ _ _ _ => pts_nil) pe hs hs1, lc2_heart vi vg hsub hG hy vi1 vg1 hsub1 hG1 hy ve⟩
theorem lcj2 {i : Nat} {y : Str} (hc : X.calm = true) (hN : X.N.Nodup) (hy : X.N[i]? = some y) (hyl : X.env.scope.names.lookup y = some .local)
    (hsw : swapsWith (.ListComp elt [⟨tg, iter, [], 0⟩, ⟨tg1, iter1, [], 0⟩] scope pos) (some (.Name y py)) spos.line X.env = pure true) (hi : IBJ X W G tg iter src) (ok : BlkOk X.N X.env.scope scope own0) (hv : ∀ i ∈ vs1, i ∈ own0.map (·.2)) (hg : ∀ s H C cl fp, GJ (Blk X scope s H C cl fp) tg b is) (hsub : ∀ i ∈ is, i ∈ own0.map (·.2)) (hG : ∀ i ∈ is, G.getD i Mode.fz = Mode.fz)
    (hi1 : ∀ s H C cl fp, IJ (Blk X scope s H C cl fp) W0 G tg1 iter1 src1) (hg1 : ∀ s H C cl fp, GJ (Blk X scope s H C cl fp) tg1 b1 is1) (hsub1 : ∀ i ∈ is1, i ∈ vs1) (hG1 : ∀ i ∈ is1, G.getD i Mode.fz = Mode.fz)
    (he : ∀ s H C cl fp, EJ (Blk X scope s H C cl fp) W0 G elt f) (hs : ∀ x, foldedSetIterable iter X.env x = pure x := by intro _; rfl) (hs1 : ∀ env x, foldedSetIterable iter1 env x = pure x := by intro _ _; rfl) :
    LcJ X W G y py i (.ListComp elt [⟨tg, iter, [], 0⟩, ⟨tg1, iter1, [], 0⟩] scope pos) spos (comp2V src b yesB (compV src1 b1 yesB f vs1) (own0.map (·.2))) := by
  obtain ⟨wi, pi, vi⟩ := hi
  obtain ⟨te, pe, ve⟩ := fam_e he
  obtain ⟨g, pg, vg⟩ := fam_g hg
  obtain ⟨g1, pg1, vg1⟩ := fam_g hg1
  obtain ⟨wi1, pi1, vi1⟩ := fam_i hi1
  have hy' : ∀ {W : WX}, EvT X W G _ yesB := fun {W} F ρ own B σ H Q gd q => q B H (.refl gd.gr)
  exact ⟨_, ps_setLc2 hc hN hy hyl hsw pi ok hv pg (fun _ _ _ _ _ => pts_nil) pi1 pg1 (fun _ _ _ _ _ => pts_nil) pe hs hs1, lc2_heart vi vg hsub hG hy' vi1 vg1 hsub1 hG1 hy' ve⟩
end
/-! ### ranges of any step -/
def stepFrom (lo c : Int) (n : Nat) : List D := (List.range n).map fun i => .int (lo + (i : Nat) * c)
theorem iter_rngS {K : PySem.W.Frag} {F : Hp} {lo c : Int} {n : Nat} {B0 : Hp} : IterF K F (Itc lo c n) (stepFrom lo c n) B0 := fun own B H e g i => by
  refine ⟨fun h => ?_, fun d hd => ?_⟩
  · show n ≤ i
    rw [h]
    simp [stepFrom]
  · simp only [stepFrom, List.getElem?_map, Option.map_eq_some_iff] at hd
    obtain ⟨j, h1, rfl⟩ := hd
    obtain ⟨h2, h3⟩ := List.getElem?_eq_some_iff.mp h1
    simp at h3 h2
    subst h3
    refine ⟨h2, fun x H' y => ?_⟩
    obtain ⟨rfl, rfl⟩ := y
    exact ⟨B, .refl g, .int _⟩
def dRng3 : List D → Res (List D)
  | [.int i, .int j, .int c] => if c ≠ 0 ∧ c.natAbs < 1073741824 ∧ Builtin.Range.small i j c = true ∧ 0 ≤ Builtin.Range.rangeSize i j c then .ok (stepFrom i c (Builtin.Range.rangeSize i j c).toNat) else .no
  | _ => .no
section
variable {X : Cx} {W : WX} {G : List Mode} {tg a b c : Expr} {p pos : Pos}
theorem ij_range3 {g : Rho → Res (List D)} (hg : Gl X "range") (hm : X.mg "range" = none) (ha : AJ X W G [a, b, c] g)
    (hs : starEach [a, b, c] X.env = (false, eval a X.env) :: starEach [b, c] X.env := by rfl) (hpl : (backTo pos (starEach [b, c] X.env)).any (·.1) = false := by rfl) :
    IJ X W G tg (.Call (.Name "range" p) [a, b, c] [] pos) (callV dRng3 g) := by
  obtain ⟨t, pe, ve⟩ := ha
  refine ⟨_, pi_range3 hg hm pe hs hpl, fun F ρ own B σ H R gd q => ?_⟩
  refine ve F ρ own B σ H _ gd (Res.has_mono (Res.has_bind q) (fun ds q vs B' H' s r => ?_) fun _ x => x)
  unfold dRng3 at q
  split at q
  · rename_i i j c
    split at q
    · rename_i hz
      cases r with
      | cons r1 r2 =>
        cases r1
        cases r2 with
        | cons r2 r3 =>
          cases r2
          cases r3 with
          | cons r3 r4 =>
            cases r3
            cases r4
            exact ⟨_, _, _, _, rfl, ⟨hz.1, hz.2.1, hz.2.2.1, by omega⟩, q _ B' H' s iter_rngS⟩
    · exact q.elim
  · exact q.elim
end
end T

set_option Elab.async false
set_option linter.all false
set_option maxRecDepth 100000
set_option maxHeartbeats 4000000
/-! O-layer, part P: x[a:] = e. -/
namespace T
open PySem PySem.Spec PyProof.Rows L2
section
variable {prog : Program} {w : World} {A : Around} {E : Value → Shared → Prop} {s : Shared}
theorem bounds_tail {a n : Nat} (h : a ≤ n) : sliceBounds (some (a : Int)) none none n = ((a : Int), (n : Int), 1) := by
  have h1 : ¬ ((a : Int) < 0) := by omega
  simp only [sliceBounds, Option.getD_none, h1, if_false, show (1 : Int) > 0 by decide, if_true]
  congr 1
  omega
set_option maxRecDepth 100000 in
theorem setItem_tail {p q r : Addr} {old nw : Array Value} {k1 k2 : Nat} {lo hi : Value} {a : Nat} {R : Unit → Shared → Prop}
    (g1 : s.heap.get? p = some { cls := .type "list", data := .seq old k1 }) (g2 : s.heap.get? q = some { cls := .type "list", data := .seq nw k2 }) (ne : p ≠ q)
    (gs : s.heap.IsSliceOf r lo hi .none) (p1 : IsPart lo (some (a : Int))) (p2 : IsPart hi none) (ha : a ≤ old.size)
    (size : old.size + nw.size ≤ sizeLine) (goal : R () { s with heap := s.heap.update p (Obj.mapSeq fun xs => xs.extract 0 a ++ nw ++ xs.extract old.size xs.size) }) :
    wpAny (model prog w) A (setItem (.ref p) (.ref r) (.ref q)) R E s := by
  have L1 : s.heap.IsList p old := PySem.IsL.isList g1
  have L2' : s.heap.IsList q nw := PySem.IsL.isList g2
  obtain ⟨so, so1, so2, so3⟩ := id gs
  have ty : s.TypeIs (.ref r) "slice" := ⟨so, so1, so2⟩
  have st0 : ¬ ((rawPart none == rawInt 0) = true) := Bool.false_ne_true
  have nsame : Builtin.List.listSameRef (.ref p) (.ref q) = false := by
    unfold Builtin.List.listSameRef
    simpa using ne
  have mx : (max (a : Int) (old.size : Int)).toNat = old.size := by omega
  have sz : ((fun xs : Array Value => xs.extract 0 a ++ nw ++ xs.extract old.size xs.size) old).size ≤ sizeLine + 1 := by
    simp only [Array.size_append, Array.size_extract]; omega
  unfold setItem
  try with_reducible refine wpAny_holding ?_
  first | refine wpAny_bind (wpAny_pure ?_) | skip
  refine wpAny_bind (wpAny_sequenceKey L1.typeIs (by decide) ?_)
  refine wpAny_bind (wpAny_callSpecial?_slot (name := Str.ofString "__setitem__") L1.typeIs slot_list_setitem (wpAny_call_entry slot_list_setitem L1.typeIs entry_list_setitem ?_ (args_list_setitem _ _ _)))
  show wpAny _ _ (Builtin.List.listSubscript? (.ref r) >>= _) _ _ s
  refine wpAny_bind ?_
  unfold Builtin.List.listSubscript?
  refine wpAny_bind (wpAny_specialOf ty slice_no_index ?_)
  simp only [Option.isNone_none, if_true]
  refine wpAny_pure ?_
  show wpAny _ _ (typeOf (.ref r) >>= _) _ _ s
  refine wpAny_bind (wpAny_typeOf ty ?_)
  first | rw [if_neg (by decide)] | refine PySem.W.KFB.if_not (by decide) ?_
  rw [listSliceParts_eq]
  refine wpAny_bind (wpAny_bind (wpAny_field so1 so3 (x := .none) rfl (wpAny_bind (wpAny_listPart .none ?_))))
  rw [if_neg st0]
  refine wpAny_bind (wpAny_field so1 so3 (x := lo) rfl (wpAny_bind (wpAny_listPart p1 ?_)))
  refine wpAny_bind (wpAny_field so1 so3 (x := hi) rfl (wpAny_bind (wpAny_listPart p2 (wpAny_pure ?_))))
  first | simp only [nsame, Bool.false_eq_true, if_false] | refine PySem.W.KFB.if_not nsame ?_ | (dsimp only; rw [if_neg (by rw [nsame]; exact Bool.false_ne_true)])
  refine wpAny_bind (m := Builtin.List.listAllItems (.ref q) "must assign iterable to extended slice") ?_
  unfold Builtin.List.listAllItems
  refine wpAny_bind (wpAny_typeOf L2'.typeIs ?_)
  first | refine PySem.W.KFB.if_so (by decide) ?_ | rw [if_pos (by decide)] | simp only [beq_self_eq_true, Bool.true_or, if_true]
  unfold Builtin.List.listItems
  refine wpAny_bind (wpAny_seqItems g2 rfl (wpAny_pure ?_))
  refine wpAny_bind (wpAny_bind (wpAny_seqItems g1 rfl (wpAny_pure ?_)))
  have eqs : sliceIndices (rawPart (some (a : Int))) (rawPart none) (rawPart none) old.size = pure ((a : Int), (old.size : Int), 1) := (sliceIndices_raw (some (a : Int)) none none old.size (by simp)).trans (by rw [bounds_tail ha])
  refine wpAny_bind (wpAny_of_eq eqs ?_)
  show wpAny _ _ (if ((1 : Int) == 1) = true then _ else _) _ _ s
  rw [if_pos (by decide)]
  refine wpAny_bind (wpAny_rule ?_)
  first | simp only [notLongL size, Bool.false_eq_true, if_false] | refine PySem.W.KFB.if_not (notLongL size) ?_
  first | refine wpAny_bind (wpAny_pure ?_) | skip
  show wpAny _ _ (updateSeq p (fun xs => xs.extract 0 ((a : Int)).toNat ++ nw ++ xs.extract (max (a : Int) (old.size : Int)).toNat xs.size) >>= _) _ _ s
  rw [mx, Int.toNat_natCast]
  refine wpAny_bind (wpAny_updateSeq (hz := Nat.le_trans (Nat.le_add_right _ _) size) (_hz' := sz) g1 rfl ?_)
  refine wpAny_bind (wpAny_letGo ?_)
  first | exact wpAny_bind (wpAny_pure (wpAny_pure ⟨.none, rfl, wpAny_pure goal⟩)) | exact wpAny_pure ⟨.none, rfl, wpAny_pure goal⟩
end
section
variable {X : Cx}
theorem set_tail {pins : List (Addr × Obj)} {s : Shared} {σ : L2.St} {H : Hp} {p q r : Addr} {xs ys : List V} {a : Int} {lo hi : Value} {R : Unit → Shared → Prop} (I : Inv X pins σ H s) (hp : H p = some (.lst xs)) (hq : H q = some (.lst ys)) (ne : p ≠ q)
    (gs : s.heap.IsSliceOf r lo hi .none) (ra : IsPart lo (some a)) (rh : IsPart hi none) (h0 : 0 ≤ a) (hc : a ≤ xs.length) (hz : xs.length + ys.length ≤ sizeLine)
    (h : ∀ s', Inv X pins σ (upd H p (.lst (xs.take a.toNat ++ ys))) s' → R () s') : wpAny (model X.prog X.w) X.A (setItem (.ref p) (.ref r) (.ref q)) R X.xe s := by
  obtain ⟨z, its, n, rr, hl, e⟩ := I.lstM hp
  obtain ⟨z2, its2, n2, r2, hl2, e2⟩ := I.lstM hq
  obtain ⟨a', rfl⟩ := Int.eq_ofNat_of_zero_le h0
  simp only [Int.toNat_natCast] at h
  have hsz : its.toArray.size = xs.length := by rw [List.size_toArray]; omega
  refine setItem_tail (a := a') e e2 ne gs ra rh (by rw [hsz]; omega) (by rw [hsz, List.size_toArray]; omega) (h _ ?_)
  refine I.lset (its' := its.take a' ++ its2 ++ its.drop its.length) (t' := s.toks) hp e ?_ ?_ ?_
  · have := splice_eq its its2 a' its.length
    simpa using this
  · rw [List.drop_length, List.append_nil]
    exact Vals.append (rr.take _) r2
  · have h1 : (List.take a' xs).length ≤ xs.length := by rw [List.length_take]; exact Nat.min_le_right _ _
    simp only [List.length_append] at *
    omega
end
variable [Mg]
def gSlcE (to : TE) (tl th : TO) : TG := fun v σ H Q => to σ H fun x H1 => tl σ H1 fun l H2 => th σ H2 fun u H3 => ∃ (p b : Addr) (xs ys : List V) (a : Int), x = .ref p ∧ v = .ref b ∧ l = some a ∧ u = none ∧ H3 p = some (.lst xs) ∧ H3 b = some (.lst ys) ∧ p ≠ b ∧ 0 ≤ a ∧ a ≤ xs.length ∧ xs.length + ys.length ≤ sizeLine ∧
  Q σ (upd H3 p (.lst (xs.take a.toNat ++ ys)))
section
variable {X : Cx} {W : WX} {L : LM} {G G' : List Mode} {o e : Expr} {lo hi : Option Expr} {x : Str} {px p2 pos sp : Pos} {i : Nat} {to : TE} {tl th : TO}
omit [Mg] in
theorem pg_slsetE (ho : PE X o to) (hl : PO X lo tl) (hu : PO X hi th)
    (ha : ∀ v, assign (.Subscript o (.Slice lo hi none p2) sp) X.env v = (do
      let ov ← holding [v] (eval o X.env)
      let iv ← holding [v, ov] (eval (.Slice lo hi none p2) X.env)
      standAt sp
      holding [v, ov, iv] (setItem ov iv v)
      release [iv, v, ov] []) := by intro _; rfl) : PG X (.Subscript o (.Slice lo hi none p2) sp) (gSlcE to tl th) := by
  refine ⟨fun pins s σ H v u Q I r h => ?_⟩
  rw [ha]
  refine wpAny_bind (wpAny_holding (thn (ho.run pins s σ H _ I h) fun ov s1 ⟨x, H1, I1, r1, q1⟩ => ?_))
  refine wpAny_bind (wpAny_holding ?_)
  refine wpAny_Slice (thn (hl.run pins s1 σ H1 _ I1 q1) fun vl s2 ⟨l, H2, I2, pl, q2⟩ => thn (hu.run pins s2 σ H2 _ I2 q2) fun vu s3 ⟨w, H3, I3, pu, q3⟩ => ?_)
  rw [evalPart_none]
  refine wpAny_pure ?_
  obtain ⟨p, b, xs, ys, a, rfl, rfl, rfl, rfl, hp, hb, hne, h0, hc, hz, q⟩ := q3
  have I4 : Inv X pins σ H3 { s3 with heap := s3.heap.push { cls := .type "slice", data := .fields #[vl, vu, .none] } } := I3.kept (t' := s3.toks) fun b ob q => Heap.get?_push_of_some _ q
  cases r1
  cases r
  refine wpAny_bind (wpAny_standAt (wpAny_bind (wpAny_holding ?_)))
  refine set_tail I4 hp hb hne (Heap.IsSliceOf.new ..) pl pu h0 hc hz fun s5 I5 => ?_
  exact wpAny_release ⟨σ, _, I5, q⟩
/-- x[a:] = e -/
def sSetSlE (i : Nat) (gl gh : Rho → Res (Option Int)) (g : Rho → Res D) : Rho → Out := fun ρ => thenS (g ρ) ρ fun d => atL i ρ fun xs => thenS (gl ρ) ρ fun l => thenS (gh ρ) ρ fun u => match d, l, u with
  | .lst ys, some a, none => if 0 ≤ a ∧ a ≤ xs.length ∧ xs.length + ys.length ≤ sizeLine then .nx (ρ.set i (some (.lst (xs.take a.toNat ++ ys)))) else .no
  | _, _, _ => .no
theorem sj_setSlE {g : Rho → Res D} {gl gh : Rho → Res (Option Int)} (hv : PE X (.Name x px) (tVar i)) (hm : G.getD i Mode.fz = Mode.own Mode.fz) (he : EJ X W G e g) (hl : OJ X W G lo gl) (hh : OJ X W G hi gh)
    (hg : ∀ {to : TE} {tl th : TO}, PE X (.Name x px) to → PO X lo tl → PO X hi th → PG X (.Subscript (.Name x px) (.Slice lo hi none p2) sp) (gSlcE to tl th)) (h1 : (assignEach [.Subscript (.Name x px) (.Slice lo hi none p2) sp] X.env).map (·.2) = [assign (.Subscript (.Name x px) (.Slice lo hi none p2) sp) X.env] := by rfl) (hs : swapsWithSole [.Subscript (.Name x px) (.Slice lo hi none p2) sp] e pos.line X.env = pure false := by rfl) (hw : swappedStores [.Subscript (.Name x px) (.Slice lo hi none p2) sp] e X.env = pure none := by rfl) :
    SJ X W L G (.Assign [.Subscript (.Name x px) (.Slice lo hi none p2) sp] e pos) (sSetSlE i gl gh g) G := by
  obtain ⟨te, pe, ve⟩ := he
  obtain ⟨tl, pl, vl⟩ := hl
  obtain ⟨th, ph, vh⟩ := hh
  refine ⟨_, ps_asg pe (hg hv pl ph) hs hw h1, fun hX F ρ own B σ H D gd q => ?_⟩
  refine ve F ρ own B σ H _ gd (Res.has_mono (thenS_has hX gd q) (fun d q u B' H' s r => ?_) fun _ x => x)
  have g1 := gd.step s
  obtain ⟨l, vs, ds, k1, k2, k3, k4, k5, q⟩ := atL_has g1 hm (q.ext s.g)
  refine ⟨.ref l, k1, ?_⟩
  refine vl F ρ own B' σ H' _ g1 (Res.has_mono (thenS_has hX g1 q) (fun la q B2 H2 s2 => ?_) fun _ x => x)
  have g2 := g1.step s2
  refine vh F ρ own B2 σ H2 _ g2 (Res.has_mono (thenS_has hX g2 (q.ext s2.g)) (fun ua q B3 H3 s3 => ?_) fun _ x => x)
  have g3 := g2.step s3
  have q := q.ext s3.g
  cases d with
  | lst ys =>
    cases la with
    | none => exact q.elim
    | some a =>
      cases ua with
      | some c => exact q.elim
      | none =>
        simp only at q
        split at q
        · rename_i hz
          have hlo : own l ≠ none := by rw [k3]; exact fun z => nomatch z
          have hl3 : H3 l = some (.lst vs) := ((s3.ownd l hlo).1.trans (s2.ownd l hlo).1).trans k4
          have r3 := (r.mono s2.ext).mono s3.ext
          cases r3 with
          | lst hb rb =>
            rename_i b us
            have hbo : own b = none := (g3.gr.base _ _ hb).2
            refine ⟨l, b, vs, us, a, rfl, rfl, rfl, rfl, hl3, (g3.gr.base _ _ hb).1, fun z => hlo (by rw [z]; exact hbo), hz.1, by rw [k5.len]; exact hz.2.1, by rw [k5.len, rb.len]; exact hz.2.2, ?_⟩
            have k6 := (k5.mono s2.ext).mono s3.ext
            exact q own B3 σ _ Gr.refl (g3.mut hm k1 k3 ((k6.take _).app rb))
        · exact q.elim
  | _ => exact q.elim
end
end T

set_option Elab.async false
set_option linter.all false
set_option maxRecDepth 100000
set_option maxHeartbeats 4000000
/-! P-layer, part A: plain programs (no slots) that a mirror keeps. -/
namespace T
open PySem L2
/-! ### plain programs -/
/-- how a block ends: by itself, by continue, by break, by return -/
inductive Fl (S R : Type) where
  | nx (s : S) | ct (s : S) | bk (s : S) | rt (r : R)
def Fl.all {S R β : Type} (f : Fl S R) (nx : S → β) (ct : S → β) (bk : S → β) (rt : R → β) : β := match f with
  | .nx s => nx s
  | .ct s => ct s
  | .bk s => bk s
  | .rt r => rt r
@[simp] theorem Fl.all_nx {S R β : Type} {s : S} {nx ct bk : S → β} {rt : R → β} : (Fl.nx s : Fl S R).all nx ct bk rt = nx s := mk_eq rfl
@[simp] theorem Fl.all_ct {S R β : Type} {s : S} {nx ct bk : S → β} {rt : R → β} : (Fl.ct s : Fl S R).all nx ct bk rt = ct s := mk_eq rfl
@[simp] theorem Fl.all_bk {S R β : Type} {s : S} {nx ct bk : S → β} {rt : R → β} : (Fl.bk s : Fl S R).all nx ct bk rt = bk s := mk_eq rfl
@[simp] theorem Fl.all_rt {S R β : Type} {r : R} {nx ct bk : S → β} {rt : R → β} : (Fl.rt r : Fl S R).all nx ct bk rt = rt r := mk_eq rfl
def foldR {S γ : Type} (f : S → γ → Res S) : List γ → S → Res S
  | [], s => .ok s
  | x :: xs, s => (f s x).bind fun s' => foldR f xs s'
/-- a loop that may break or return -/
def foldF {S R γ : Type} (f : S → γ → Res (Fl S R)) : List γ → S → Res (Fl S R)
  | [], s => .ok (.nx s)
  | x :: xs, s => (f s x).bind fun r => r.all (fun s' => foldF f xs s') (fun s' => foldF f xs s') (fun s' => .ok (.nx s')) (fun d => .ok (.rt d))
def whileR {S : Type} (c : S → Res Bool) (f : S → Res S) : Nat → S → Res S
  | 0, _ => .no
  | n + 1, s => (c s).bind fun k => if k = true then (f s).bind fun s' => whileR c f n s' else .ok s
def whileF {S R : Type} (c : S → Res Bool) (f : S → Res (Fl S R)) : Nat → S → Res (Fl S R)
  | 0, _ => .no
  | n + 1, s => (c s).bind fun k => if k = true then (f s).bind fun r => r.all (fun s' => whileF c f n s') (fun s' => whileF c f n s') (fun s' => .ok (.nx s')) (fun d => .ok (.rt d)) else .ok (.nx s)
/-- a comprehension -/
def mapR {α γ : Type} (f : γ → Res α) : List γ → Res (List α)
  | [] => .ok []
  | x :: xs => (f x).calm.bind fun y => (mapR f xs).bind fun ys => .ok (y :: ys)
def filR {γ α : Type} (c : γ → Res Bool) (f : γ → Res α) : List γ → Res (List α)
  | [] => .ok []
  | x :: xs => (c x).calm.bind fun k => if k = true then (f x).calm.bind fun y => (filR c f xs).bind fun ys => .ok (y :: ys) else filR c f xs
/-- at most as long as may be -/
def szR {α : Type} (xs : List α) : Res (List α) := if xs.length ≤ sizeLine then .ok xs else .no
def asB : D → Res Bool
  | .bl b => .ok b
  | _ => .no
def asI : D → Res (Option Int)
  | .int i => .ok (some i)
  | _ => .no
def asLs : D → Res (List D)
  | .lst xs => .ok xs
  | _ => .no
def asS : D → Res Str
  | .str s => .ok s
  | _ => .no
def un1 {α : Type} (x : D) (k : D → Res α) : Res α := match x with
  | .tup [a] => k a
  | .lst [a] => k a
  | _ => .no
def un2 {α : Type} (x : D) (k : D → D → Res α) : Res α := match x with
  | .tup [a, b] => k a b
  | .lst [a, b] => k a b
  | _ => .no
def un3 {α : Type} (x : D) (k : D → D → D → Res α) : Res α := match x with
  | .tup [a, b, c] => k a b c
  | .lst [a, b, c] => k a b c
  | _ => .no
def un4 {α : Type} (x : D) (k : D → D → D → D → Res α) : Res α := match x with
  | .tup [a, b, c, d] => k a b c d
  | .lst [a, b, c, d] => k a b c d
  | _ => .no
def un5 {α : Type} (x : D) (k : D → D → D → D → D → Res α) : Res α := match x with
  | .tup [a, b, c, d, e] => k a b c d e
  | .lst [a, b, c, d, e] => k a b c d e
  | _ => .no
def un6 {α : Type} (x : D) (k : D → D → D → D → D → D → Res α) : Res α := match x with
  | .tup [a, b, c, d, e, f] => k a b c d e f
  | .lst [a, b, c, d, e, f] => k a b c d e f
  | _ => .no
def un7 {α : Type} (x : D) (k : D → D → D → D → D → D → D → Res α) : Res α := match x with
  | .tup [a, b, c, d, e, f, g] => k a b c d e f g
  | .lst [a, b, c, d, e, f, g] => k a b c d e f g
  | _ => .no
@[simp] theorem un1_t {α : Type} {a : D} {k : D → Res α} : un1 (.tup [a]) k = k a := mk_eq rfl
@[simp] theorem un1_l {α : Type} {a : D} {k : D → Res α} : un1 (.lst [a]) k = k a := mk_eq rfl
@[simp] theorem un2_t {α : Type} {a b : D} {k : D → D → Res α} : un2 (.tup [a, b]) k = k a b := mk_eq rfl
@[simp] theorem un2_l {α : Type} {a b : D} {k : D → D → Res α} : un2 (.lst [a, b]) k = k a b := mk_eq rfl
@[simp] theorem un3_t {α : Type} {a b c : D} {k : D → D → D → Res α} : un3 (.tup [a, b, c]) k = k a b c := mk_eq rfl
@[simp] theorem un3_l {α : Type} {a b c : D} {k : D → D → D → Res α} : un3 (.lst [a, b, c]) k = k a b c := mk_eq rfl
@[simp] theorem un4_t {α : Type} {a b c d : D} {k : D → D → D → D → Res α} : un4 (.tup [a, b, c, d]) k = k a b c d := mk_eq rfl
@[simp] theorem un5_t {α : Type} {a b c d e : D} {k : D → D → D → D → D → Res α} : un5 (.tup [a, b, c, d, e]) k = k a b c d e := mk_eq rfl
@[simp] theorem un6_t {α : Type} {a b c d e f : D} {k : D → D → D → D → D → D → Res α} : un6 (.tup [a, b, c, d, e, f]) k = k a b c d e f := mk_eq rfl
@[simp] theorem un7_t {α : Type} {a b c d e f g : D} {k : D → D → D → D → D → D → D → Res α} : un7 (.tup [a, b, c, d, e, f, g]) k = k a b c d e f g := mk_eq rfl
@[simp] theorem asB_b {b : Bool} : asB (.bl b) = .ok b := mk_eq rfl
@[simp] theorem asI_i {i : Int} : asI (.int i) = .ok (some i) := mk_eq rfl
@[simp] theorem asLs_l {xs : List D} : asLs (.lst xs) = .ok xs := mk_eq rfl
@[simp] theorem asS_s {s : Str} : asS (.str s) = .ok s := mk_eq rfl
/-! store operations on lists -/
def pushR (xs : List D) (d : D) : Res D := if xs.length < sizeLine then .ok (.lst (xs ++ [d])) else .no
def extR (xs : List D) (d : D) : Res D := match d with
  | .lst ys => if xs.length + ys.length ≤ sizeLine then .ok (.lst (xs ++ ys)) else .no
  | _ => .no
def putR (xs : List D) (k d : D) : Res D := match k with
  | .int k => match ixN xs.length k with
    | some j => .ok (.lst (xs.set j d))
    | none => .no
  | _ => .no
/-- the row that a place is in -/
def rowR (xs : List D) (a : D) : Res (Nat × List D) := match a with
  | .int a => match ixN xs.length a with
    | some j => match xs[j]? with
      | some (.lst row) => .ok (j, row)
      | _ => .no
    | none => .no
  | _ => .no
def putRR (xs : List D) (p : Nat × List D) (b d : D) : Res D := match b with
  | .int b => match ixN p.2.length b with
    | some k => .ok (.lst (xs.set p.1 (.lst (p.2.set k d))))
    | none => .no
  | _ => .no
def cutR (xs : List D) (l u : Option Int) (d : D) : Res D := match d, l, u with
  | .lst ys, some a, some c => if 0 ≤ a ∧ a ≤ c ∧ c ≤ xs.length ∧ xs.length + ys.length ≤ sizeLine then .ok (.lst (xs.take a.toNat ++ ys ++ xs.drop c.toNat)) else .no
  | _, _, _ => .no
def asN : D → Res Int
  | .int i => .ok i
  | _ => .no
@[simp] theorem asN_i {i : Int} : asN (.int i) = .ok i := mk_eq rfl
def asIns : D → Res (Nat × List D)
  | .ins c es => .ok (c, es)
  | _ => .no
@[simp] theorem asIns_i {c : Nat} {es : List D} : asIns (.ins c es) = .ok (c, es) := mk_eq rfl
def elR (es : List D) (k : Nat) : Res D := match es[k]? with
  | some d => .ok d
  | none => .no
def lkR (tab : List (Str × D)) (k : Str) : Res D := match tab.lookup k with
  | some d => .ok d
  | none => .no
/-- texts one behind the other -/
def fjR : List (Res D) → Str → Res Str
  | [], acc => .ok acc
  | g :: r, acc => g.bind fun d => (asS d).bind fun y => if (acc ++ y).length ≤ sizeLine then fjR r (acc ++ y) else .no
/-- what is borrowed is not in the result -/
def noLR : Res D → Res D
  | .ok d => if d.noL = true then .ok d else .no
  | .ex e => if e.fs.isEmpty = true then .ex e else .no
  | .no => .no
/-- a try: the classes, what is tried, the suites -/
def tryR {α : Type} (cl : List Str) (P : Res α) (h : Exn → Res α) : Res α := match P with
  | .ex e => if e.cls ∈ cl then h e else .no
  | r => r
@[simp] theorem tryR_ok {α : Type} {cl : List Str} {a : α} {h : Exn → Res α} : tryR cl (.ok a) h = .ok a := mk_eq rfl
@[simp] theorem tryR_ex {α : Type} {cl : List Str} {e : Exn} {h : Exn → Res α} : tryR cl (.ex e : Res α) h = if e.cls ∈ cl then h e else .no := mk_eq rfl

/-! ### what a mirror keeps -/
abbrev Gb := Nat → Option D
def nth : Rho → Gb
  | [], _ => none
  | a :: _, 0 => a
  | _ :: l, n + 1 => nth l n
section
variable {α β S R : Type} {X : Rho → Prop} {C : α → Out → Prop} {ρ : Rho} {i : Nat}
def SatD (X : Rho → Prop) (C : α → Out → Prop) (P : Res α) (o : Out) : Prop := match P with
  | .no => True
  | .ex e => ∃ ρ, o = .ex e ρ ∧ X ρ
  | .ok a => C a o
/-- (a structure: so it is not evaluated) -/
structure Sat (X : Rho → Prop) (C : α → Out → Prop) (P : Res α) (o : Out) : Prop where
  val : SatD X C P o
theorem sat_then {γ : Type} {e E : Res γ} {k : γ → Res α} {K : γ → Out} (he : e = E) (hx : X ρ) (h : ∀ d, Sat X C (k d) (K d)) : Sat X C (E.bind k) (thenS e ρ K) := by
  subst he
  cases e with
  | ok a => exact h a
  | ex e => exact ⟨⟨ρ, rfl, hx⟩⟩
  | no => exact ⟨trivial⟩
/-- the ends of a def -/
def CT (d : D) (o : Out) : Prop := o = .rt d ∨ (d = .non ∧ ∃ ρ, o = .nx ρ)
/-- the ends of a def that is lent its first parameter -/
def CTL (Γ : D → Gb → Rho) (r : D × D) (o : Out) : Prop := (∃ g, o = .rl r.1 (Γ r.2 g)) ∨ (r.1 = .non ∧ ∃ g, o = .nx (Γ r.2 g))
def CN (Γ : S → Gb → Rho) (s : S) (o : Out) : Prop := ∃ g, o = .nx (Γ s g)
def CL (Γ : S → Gb → Rho) (s : S) (o : Out) : Prop := ∃ g, o = .nx (Γ s g) ∨ o = .ct (Γ s g)
def CF (Γ : S → Gb → Rho) (RC : R → Out → Prop) (f : Fl S R) (o : Out) : Prop := match f with
  | .nx s => ∃ g, o = .nx (Γ s g)
  | .ct s => ∃ g, o = .ct (Γ s g)
  | .bk s => ∃ g, o = .bk (Γ s g)
  | .rt r => RC r o
/-- what a return is, apart from the slots -/
def RT (d : D) (o : Out) : Prop := o = .rt d
def RTL (Γ : D → Gb → Rho) (r : D × D) (o : Out) : Prop := ∃ g, o = .rl r.1 (Γ r.2 g)
theorem sat_last {s : Rho → Out} {P : Res α} (h : Sat X C P (sSeq s sSkip ρ)) : Sat X C P (s ρ) := by
  have e : sSeq s sSkip ρ = s ρ := by
    unfold sSeq sSkip
    cases s ρ <;> rfl
  rwa [e] at h
theorem sat_assoc {a b c : Rho → Out} {P : Res α} (h : Sat X C P (sSeq a (sSeq b c) ρ)) : Sat X C P (sSeq (sSeq a b) c ρ) := by
  have e : sSeq (sSeq a b) c ρ = sSeq a (sSeq b c) ρ := by
    unfold sSeq
    cases a ρ <;> rfl
  rwa [e]
theorem sat_skip {b : Rho → Out} {P : Res α} (h : Sat X C P (b ρ)) : Sat X C P (sSeq sSkip b ρ) := h
variable {b f g : Rho → Out}
theorem seq_then {γ : Type} {r : Res γ} {K : γ → Out} {s : Rho → Out} (h : s ρ = thenS r ρ K) : sSeq s b ρ = thenS r ρ fun d => match K d with
    | .nx ρ' => b ρ'
    | o => o := by
  unfold sSeq
  rw [h]
  cases r <;> rfl

theorem thenS_bind {γ δ : Type} {A : Res γ} {h : γ → Res δ} {K : δ → Out} : thenS (A.bind h) ρ K = thenS A ρ fun a => thenS (h a) ρ K := by cases A <;> rfl
theorem bind_assoc {γ δ ε : Type} {A : Res γ} {h : γ → Res δ} {k : δ → Res ε} : (A.bind h).bind k = A.bind fun a => (h a).bind k := by cases A <;> rfl
/-- a statement that stores -/
theorem sat_stmt {γ : Type} {s : Rho → Out} {E : Res γ} {F : γ → Rho} {k : γ → Res α} (hs : s ρ = thenS E ρ fun d => .nx (F d)) (hx : X ρ) (h : ∀ d, Sat X C (k d) (b (F d))) : Sat X C (E.bind k) (sSeq s b ρ) := by
  rw [seq_then hs]
  exact sat_then rfl hx h
theorem nth_get {d : D} : ∀ {ρ : Rho} {i : Nat}, nth ρ i = some d → ρ[i]? = some (some d)
  | [], i, h => by cases h
  | a :: l, 0, h => by
    have h : a = some d := h
    subst h
    rfl
  | a :: l, i + 1, h => nth_get (ρ := l) (i := i) h
section
variable {d : D} {e gk ga : Rho → Res D} {E EK EA : Res D} {en : Rho → Res (List D)} {EN : Res (List D)}
theorem s_set (he : e ρ = E) : sSet i e ρ = thenS E ρ fun d => .nx (ρ.set i (some d)) := by rw [← he]; rfl
theorem s_setN (he : en ρ = EN) : sSetN i en ρ = thenS EN ρ fun d => .nx (ρ.set i (some (.lst d))) := by rw [← he]; rfl
theorem s_setNN {en : Rho → Res (List (List D))} {EN : Res (List (List D))} (he : en ρ = EN) : sSetNN i en ρ = thenS EN ρ fun d => .nx (ρ.set i (some (.lst (lsts d)))) := by rw [← he]; rfl
theorem s_drop (he : e ρ = E) : sDrop e ρ = thenS E ρ fun _ => .nx ρ := by rw [← he]; rfl
theorem s_aug {h : Int → Int → Int} (ha : nth ρ i = some d) (he : e ρ = E) : sAug h i e ρ = thenS ((asN d).bind fun n => E.bind fun y => (asN y).bind fun m => .ok (.int (h n m))) ρ fun d => .nx (ρ.set i (some d)) := by
  subst he
  unfold sAug
  rw [nth_get ha]
  cases d with
  | int n =>
    cases e ρ with
    | ok y => cases y <;> rfl
    | _ => rfl
  | _ => rfl
theorem atL_n {k : List D → Out} (ha : nth ρ i = some d) : atL i ρ k = thenS (asLs d) ρ k := by
  unfold atL
  rw [nth_get ha]
  cases d <;> rfl
theorem s_app (ha : nth ρ i = some d) (he : e ρ = E) : sApp i e ρ = thenS ((asLs d).bind fun xs => E.bind fun y => pushR xs y) ρ fun d => .nx (ρ.set i (some d)) := by
  subst he
  unfold sApp
  rw [atL_n ha, thenS_bind]
  congr 1
  funext xs
  rw [thenS_bind]
  congr 1
  funext y
  unfold pushR
  split <;> rfl
theorem s_ext (ha : nth ρ i = some d) (he : e ρ = E) : sExt i e ρ = thenS ((asLs d).bind fun xs => E.bind fun y => extR xs y) ρ fun d => .nx (ρ.set i (some d)) := by
  subst he
  unfold sExt
  rw [atL_n ha, thenS_bind]
  congr 1
  funext xs
  rw [thenS_bind]
  congr 1
  funext y
  cases y with
  | lst ys =>
    simp only [extR]
    split <;> rfl
  | _ => rfl
theorem s_setI (ha : nth ρ i = some d) (he : e ρ = E) (hk : gk ρ = EK) : sSetI i gk e ρ = thenS (E.bind fun y => (asLs d).bind fun xs => EK.bind fun k => putR xs k y) ρ fun d => .nx (ρ.set i (some d)) := by
  subst he hk
  unfold sSetI
  rw [thenS_bind]
  congr 1
  funext y
  rw [atL_n ha, thenS_bind]
  congr 1
  funext xs
  rw [thenS_bind]
  congr 1
  funext k
  cases k with
  | int k =>
    simp only [putR]
    cases ixN xs.length k <;> rfl
  | _ => rfl
theorem s_setII {gb : Rho → Res D} {EB : Res D} (ha : nth ρ i = some d) (he : e ρ = E) (h1 : ga ρ = EA) (h2 : gb ρ = EB) : sSetII i ga gb e ρ = thenS (E.bind fun y => (asLs d).bind fun xs => EA.bind fun a => (rowR xs a).bind fun p => EB.bind fun b => putRR xs p b y) ρ fun d => .nx (ρ.set i (some d)) := by
  subst he h1 h2
  unfold sSetII
  rw [thenS_bind]
  congr 1
  funext y
  rw [atL_n ha, thenS_bind]
  congr 1
  funext xs
  rw [thenS_bind]
  congr 1
  funext a
  cases a with
  | int a =>
    simp only [rowR]
    cases ixN xs.length a with
    | none => rfl
    | some j =>
      simp only
      cases xs[j]? with
      | none => rfl
      | some r =>
        cases r with
        | lst row =>
          simp only [Res.bind_ok, thenS_bind]
          congr 1
          funext b
          cases b with
          | int b =>
            simp only [putRR]
            cases ixN row.length b <;> rfl
          | _ => rfl
        | _ => rfl
  | _ => rfl
theorem s_setSl {gl gh : Rho → Res (Option Int)} {L U : Res (Option Int)} (ha : nth ρ i = some d) (he : e ρ = E) (hl : gl ρ = L) (hh : gh ρ = U) : sSetSl i gl gh e ρ = thenS (E.bind fun y => (asLs d).bind fun xs => L.bind fun l => U.bind fun u => cutR xs l u y) ρ fun d => .nx (ρ.set i (some d)) := by
  subst he hl hh
  unfold sSetSl
  rw [thenS_bind]
  congr 1
  funext y
  rw [atL_n ha, thenS_bind]
  congr 1
  funext xs
  rw [thenS_bind]
  congr 1
  funext l
  rw [thenS_bind]
  congr 1
  funext u
  cases y with
  | lst ys =>
    cases l with
    | none => rfl
    | some l =>
      cases u with
      | none => rfl
      | some u =>
        simp only [cutR]
        split <;> rfl
  | _ => rfl
end
/-! ends -/
theorem sat_retT {e : Rho → Res D} {E : Res D} (he : e ρ = E) (hx : X ρ) : Sat X CT E (sRet e ρ) := by
  subst he
  unfold sRet
  cases e ρ with
  | ok d => exact ⟨.inl rfl⟩
  | ex e => exact ⟨⟨ρ, rfl, hx⟩⟩
  | no => exact ⟨trivial⟩
theorem sat_retNT {e : Rho → Res (List D)} {E : Res (List D)} (he : e ρ = E) (hx : X ρ) : Sat X CT (E.bind fun l => .ok (.lst l)) (sRetN e ρ) := by
  subst he
  unfold sRetN
  cases e ρ with
  | ok d => exact ⟨.inl rfl⟩
  | ex e => exact ⟨⟨ρ, rfl, hx⟩⟩
  | no => exact ⟨trivial⟩
theorem sat_retF {Γ : S → Gb → Rho} {e : Rho → Res D} {E : Res D} (he : e ρ = E) (hx : X ρ) : Sat X (CF Γ RT) (E.bind fun d => .ok (.rt d)) (sRet e ρ) := by
  subst he
  unfold sRet
  cases e ρ with
  | ok d => exact ⟨rfl⟩
  | ex e => exact ⟨⟨ρ, rfl, hx⟩⟩
  | no => exact ⟨trivial⟩
theorem sat_retNF {Γ : S → Gb → Rho} {e : Rho → Res (List D)} {E : Res (List D)} (he : e ρ = E) (hx : X ρ) : Sat X (CF Γ RT) (E.bind fun l => .ok (.rt (.lst l))) (sRetN e ρ) := by
  subst he
  unfold sRetN
  cases e ρ with
  | ok d => exact ⟨rfl⟩
  | ex e => exact ⟨⟨ρ, rfl, hx⟩⟩
  | no => exact ⟨trivial⟩
theorem sat_endT : Sat X CT (.ok .non) (sSkip ρ) := ⟨.inr ⟨rfl, ρ, rfl⟩⟩
theorem sat_endN {Γ : S → Gb → Rho} {s : S} (h : ρ = Γ s (nth ρ)) : Sat X (CN Γ) (.ok s) (sSkip ρ) := ⟨⟨nth ρ, congrArg Out.nx h⟩⟩
theorem sat_endL {Γ : S → Gb → Rho} {s : S} (h : ρ = Γ s (nth ρ)) : Sat X (CL Γ) (.ok s) (sSkip ρ) := ⟨⟨nth ρ, .inl (congrArg Out.nx h)⟩⟩
theorem sat_ctL {Γ : S → Gb → Rho} {s : S} (h : ρ = Γ s (nth ρ)) : Sat X (CL Γ) (.ok s) (Out.ct ρ) := ⟨⟨nth ρ, .inr (congrArg Out.ct h)⟩⟩
theorem sat_endF {Γ : S → Gb → Rho} {RC : R → Out → Prop} {s : S} (h : ρ = Γ s (nth ρ)) : Sat X (CF Γ RC) (.ok (.nx s)) (sSkip ρ) := ⟨⟨nth ρ, congrArg Out.nx h⟩⟩
theorem sat_ctF {Γ : S → Gb → Rho} {RC : R → Out → Prop} {s : S} (h : ρ = Γ s (nth ρ)) : Sat X (CF Γ RC) (.ok (.ct s)) (Out.ct ρ) := ⟨⟨nth ρ, congrArg Out.ct h⟩⟩
theorem sat_bkF {Γ : S → Gb → Rho} {RC : R → Out → Prop} {s : S} (h : ρ = Γ s (nth ρ)) : Sat X (CF Γ RC) (.ok (.bk s)) (Out.bk ρ) := ⟨⟨nth ρ, congrArg Out.bk h⟩⟩
theorem sat_raise {c : Str} (hx : X ρ) : Sat X C (.ex ⟨c, []⟩) (sRaise c ρ) := ⟨⟨ρ, rfl, hx⟩⟩
theorem sat_raiseA {c : Str} {e : Rho → Res (List D)} {E : Res (List D)} (he : e ρ = E) (hx : X ρ) : Sat X C (E.bind fun ds => (szR ds).bind fun _ => .ex ⟨c, []⟩) (sRaiseA c e ρ) := by
  subst he
  unfold sRaiseA
  refine sat_then rfl hx fun ds => ?_
  unfold szR
  split
  · exact ⟨⟨ρ, rfl, hx⟩⟩
  · exact ⟨trivial⟩
theorem sat_never {P : Res α} (h : P = .no) : Sat X C P (sNever ρ) := by subst h; exact ⟨trivial⟩
/-! tests -/
theorem sat_if {c : Rho → Res Bool} {E : Res Bool} {P Q : Res α} (hc : c ρ = E) (hx : X ρ) (h1 : Sat X C P (f ρ)) (h2 : Sat X C Q (g ρ)) : Sat X C (E.bind fun k => if k = true then P else Q) (sIf c f g ρ) := by
  unfold sIf
  refine sat_then hc hx fun k => ?_
  cases k <;> assumption
/-- a test, and what follows behind each arm -/
theorem sat_ifS {c : Rho → Res Bool} {E : Res Bool} {P Q : Res α} (hc : c ρ = E) (hx : X ρ) (h1 : Sat X C P (sSeq f b ρ)) (h2 : Sat X C Q (sSeq g b ρ)) : Sat X C (E.bind fun k => if k = true then P else Q) (sSeq (sIf c f g) b ρ) := by
  subst hc
  unfold sSeq sIf at *
  cases c ρ with
  | ok k => cases k <;> assumption
  | ex e => exact ⟨⟨ρ, rfl, hx⟩⟩
  | no => exact ⟨trivial⟩
/-- an arm that never ends by itself -/
theorem sat_cut {P : Res α} {s : Rho → Out} (h : Sat X C P (s ρ)) (n : ∀ ρ', s ρ ≠ .nx ρ') : Sat X C P (sSeq s b ρ) := by
  have e : sSeq s b ρ = s ρ := by
    unfold sSeq
    cases h : s ρ with
    | nx ρ' => exact absurd h (n ρ')
    | _ => rfl
  rwa [e]
/-- a block, and what follows -/
theorem sat_seq {Γ : S → Gb → Rho} {P : Res S} {k : S → Res α} {s : Rho → Out} (h : Sat X (CN Γ) P (s ρ)) (h2 : ∀ s g, Sat X C (k s) (b (Γ s g))) : Sat X C (P.bind k) (sSeq s b ρ) := by
  unfold sSeq
  cases P with
  | ok a =>
    obtain ⟨g, e⟩ := h.val
    rw [e]
    exact h2 a g
  | ex e =>
    obtain ⟨ρ', e, hx⟩ := h.val
    rw [e]
    exact ⟨⟨ρ', rfl, hx⟩⟩
  | no => exact ⟨trivial⟩
/-- a block with ways out, and what follows; its ways out are those of the whole -/
theorem sat_seqF {Γ : S → Gb → Rho} {RC : R → Out → Prop} {P : Res (Fl S R)} {k : S → Res α} {kc kb : S → Res α} {kr : R → Res α} {s : Rho → Out} (h : Sat X (CF Γ RC) P (s ρ)) (h2 : ∀ s g, Sat X C (k s) (b (Γ s g)))
    (hc : ∀ s g, Sat X C (kc s) (.ct (Γ s g))) (hb : ∀ s g, Sat X C (kb s) (.bk (Γ s g))) (hr : ∀ r o, RC r o → Sat X C (kr r) o ∧ ∀ ρ', o ≠ .nx ρ') : Sat X C (P.bind fun r => r.all k kc kb kr) (sSeq s b ρ) := by
  unfold sSeq
  cases P with
  | ok a =>
    cases a with
    | nx a =>
      obtain ⟨g, e⟩ := h.val
      rw [e]
      exact h2 a g
    | ct a =>
      obtain ⟨g, e⟩ := h.val
      rw [e]
      exact hc a g
    | bk a =>
      obtain ⟨g, e⟩ := h.val
      rw [e]
      exact hb a g
    | rt r =>
      obtain ⟨q, n⟩ := hr r _ h.val
      cases e : s ρ with
      | nx ρ' => exact absurd e (n ρ')
      | _ =>
        rw [e] at q
        exact q
  | ex e =>
    obtain ⟨ρ', e, hx⟩ := h.val
    rw [e]
    exact ⟨⟨ρ', rfl, hx⟩⟩
  | no => exact ⟨trivial⟩
theorem rt_T {d : D} {o : Out} (h : RT d o) : Sat X CT (.ok d) o ∧ ∀ ρ', o ≠ .nx ρ' := by
  unfold RT at h
  subst h
  exact ⟨⟨.inl rfl⟩, fun ρ' z => nomatch z⟩
theorem rt_F {Γ : S → Gb → Rho} {d : D} {o : Out} (h : RT d o) : Sat X (CF Γ RT) (.ok (.rt d)) o ∧ ∀ ρ', o ≠ .nx ρ' := by
  unfold RT at h
  subst h
  exact ⟨⟨rfl⟩, fun ρ' z => nomatch z⟩
/-! nothing follows these -/
theorem nn_then {γ : Type} {r : Res γ} {K : γ → Out} (h : ∀ a ρ', K a ≠ .nx ρ') : ∀ ρ', thenS r ρ K ≠ .nx ρ' := fun ρ' z => by
  cases r with
  | ok a => exact h a ρ' z
  | ex e => cases z
  | no => cases z
theorem nn_ret {e : Rho → Res D} : ∀ ρ', sRet e ρ ≠ .nx ρ' := nn_then fun _ _ z => nomatch z
theorem nn_retN {e : Rho → Res (List D)} : ∀ ρ', sRetN e ρ ≠ .nx ρ' := nn_then fun _ _ z => nomatch z
theorem nn_raise {c : Str} : ∀ ρ', sRaise c ρ ≠ .nx ρ' := fun _ z => nomatch z
theorem nn_raiseA {c : Str} {e : Rho → Res (List D)} : ∀ ρ', sRaiseA c e ρ ≠ .nx ρ' := nn_then fun _ _ z => by
  split at z <;> cases z
theorem nn_bk : ∀ ρ', Out.bk ρ ≠ .nx ρ' := fun _ z => nomatch z
theorem nn_ct : ∀ ρ', Out.ct ρ ≠ .nx ρ' := fun _ z => nomatch z
theorem nn_never : ∀ ρ', sNever ρ ≠ .nx ρ' := fun _ z => nomatch z
/-- what follows a test, named -/
theorem sat_join {σ : Type} {J : σ → Res α} {Γ : σ → Gb → Rho} {P : Res α} {s : Rho → Out} (hJ : ∀ s g, Sat X C (J s) (b (Γ s g))) (h : (∀ s ρ', ρ' = Γ s (nth ρ') → Sat X C (J s) (b ρ')) → Sat X C P (sSeq s b ρ)) : Sat X C P (sSeq s b ρ) :=
  h fun s ρ' e => by
    have q := hJ s (nth ρ')
    rwa [← e] at q
theorem hx_of {Γ : Gb → Rho} (h : ρ = Γ (nth ρ)) : ∃ g, ρ = Γ g := ⟨nth ρ, h⟩
/-! ### loops -/
def bodyB (b : Bnd) (body : Rho → Out) (x : D) (ρ : Rho) : Out := match b x ρ with
  | some ρ1 => body ρ1
  | none => .no
def bodyE {α : Type} (b : Bnd) (f : Rho → Res α) (x : D) (ρ : Rho) : Res α := match b x ρ with
  | some ρ1 => f ρ1
  | none => .no
theorem forM_cons {bn : Bnd} {body : Rho → Out} {x : D} {xs : List D} : forM bn body (x :: xs) ρ = match bodyB bn body x ρ with
    | .nx ρ2 => forM bn body xs ρ2
    | .ct ρ2 => forM bn body xs ρ2
    | .bk ρ2 => .nx ρ2
    | o => o := by
  unfold bodyB
  rw [forM]
  cases bn x ρ <;> rfl
theorem forM_sat {Γ : S → Gb → Rho} {bn : Bnd} {body : Rho → Out} {f : S → D → Res S} (h : ∀ s x g, Sat X (CL Γ) (f s x) (bodyB bn body x (Γ s g))) : ∀ (xs : List D) (s : S) (g : Gb), Sat X (CN Γ) (foldR f xs s) (forM bn body xs (Γ s g))
  | [], s, g => ⟨⟨g, rfl⟩⟩
  | x :: xs, s, g => by
    rw [forM_cons, foldR]
    have h1 := h s x g
    cases e : f s x with
    | ok s' =>
      rw [e] at h1
      obtain ⟨g', e' | e'⟩ := h1 <;> rw [e'] <;> exact forM_sat h xs s' g'
    | ex z =>
      rw [e] at h1
      obtain ⟨ρ', e', hx⟩ := h1.val
      rw [e']
      exact ⟨⟨ρ', rfl, hx⟩⟩
    | no => exact ⟨trivial⟩
theorem sat_for {Γ : S → Gb → Rho} {src : Rho → Res (List D)} {E : Res (List D)} {bn : Bnd} {body : Rho → Out} {fp : S → D → Res S} {s0 : S} {k : S → Res α} (he : src ρ = E) (hx : X ρ) (h0 : ρ = Γ s0 (nth ρ)) (h : ∀ s x g, Sat X (CL Γ) (fp s x) (bodyB bn body x (Γ s g))) (h2 : ∀ s g, Sat X C (k s) (b (Γ s g))) :
    Sat X C ((E.bind fun xs => foldR fp xs s0).bind k) (sSeq (sFor src bn body) b ρ) := by
  refine sat_seq (Γ := Γ) ?_ h2
  unfold sFor
  refine sat_then he hx fun xs => ?_
  have q := forM_sat h xs s0 (nth ρ)
  rwa [← h0] at q
theorem forM_satF {Γ : S → Gb → Rho} {RC : R → Out → Prop} {bn : Bnd} {body : Rho → Out} {f : S → D → Res (Fl S R)} (hr : ∀ r o, RC r o → (∃ d, o = .rt d) ∨ ∃ d ρ, o = .rl d ρ) (h : ∀ s x g, Sat X (CF Γ RC) (f s x) (bodyB bn body x (Γ s g))) : ∀ (xs : List D) (s : S) (g : Gb), Sat X (CF Γ RC) (foldF f xs s) (forM bn body xs (Γ s g))
  | [], s, g => ⟨⟨g, rfl⟩⟩
  | x :: xs, s, g => by
    rw [forM_cons, foldF]
    have h1 := h s x g
    cases e : f s x with
    | ok r =>
      rw [e] at h1
      cases r with
      | nx s' =>
        obtain ⟨g', e'⟩ := h1.val
        rw [e']
        exact forM_satF hr h xs s' g'
      | ct s' =>
        obtain ⟨g', e'⟩ := h1.val
        rw [e']
        exact forM_satF hr h xs s' g'
      | bk s' =>
        obtain ⟨g', e'⟩ := h1.val
        rw [e']
        exact ⟨⟨g', rfl⟩⟩
      | rt r =>
        have h1 : RC r _ := h1.val
        rcases hr r _ h1 with ⟨d, e2⟩ | ⟨d, ρ2, e2⟩ <;> rw [e2] at h1 ⊢ <;> exact ⟨h1⟩
    | ex z =>
      rw [e] at h1
      obtain ⟨ρ', e', hx⟩ := h1.val
      rw [e']
      exact ⟨⟨ρ', rfl, hx⟩⟩
    | no => exact ⟨trivial⟩
theorem sat_forF {Γ : S → Gb → Rho} {RC : R → Out → Prop} {src : Rho → Res (List D)} {E : Res (List D)} {bn : Bnd} {body : Rho → Out} {fp : S → D → Res (Fl S R)} {s0 : S} (hr : ∀ r o, RC r o → (∃ d, o = .rt d) ∨ ∃ d ρ, o = .rl d ρ) (he : src ρ = E) (hx : X ρ) (h0 : ρ = Γ s0 (nth ρ)) (h : ∀ s x g, Sat X (CF Γ RC) (fp s x) (bodyB bn body x (Γ s g))) :
    Sat X (CF Γ RC) (E.bind fun xs => foldF fp xs s0) (sFor src bn body ρ) := by
  unfold sFor
  refine sat_then he hx fun xs => ?_
  have q := forM_satF hr h xs s0 (nth ρ)
  rwa [← h0] at q
theorem rc_T : ∀ (r : D) o, RT r o → (∃ d, o = .rt d) ∨ ∃ d ρ, o = .rl d ρ := fun r o h => .inl ⟨r, h⟩
theorem rc_L {Γ : D → Gb → Rho} : ∀ (r : D × D) o, RTL Γ r o → (∃ d, o = .rt d) ∨ ∃ d ρ, o = .rl d ρ := fun r o ⟨g, h⟩ => .inr ⟨_, _, h⟩
theorem whileM_sat {Γ : S → Gb → Rho} {c : Rho → Res Bool} {body : Rho → Out} {cp : S → Res Bool} {fp : S → Res S} (hc : ∀ s g, c (Γ s g) = cp s) (hx : ∀ s g, X (Γ s g)) (h : ∀ s g, Sat X (CL Γ) (fp s) (body (Γ s g))) : ∀ (n : Nat) (s : S) (g : Gb), Sat X (CN Γ) (whileR cp fp n s) (whileM c body n (Γ s g))
  | 0, s, g => ⟨trivial⟩
  | n + 1, s, g => by
    rw [whileM, whileR]
    refine sat_then (hc s g) (hx s g) fun k => ?_
    cases k with
    | false => exact ⟨⟨g, rfl⟩⟩
    | true =>
      rw [if_pos rfl, if_pos rfl]
      have h1 := h s g
      cases e : fp s with
      | ok s' =>
        rw [e] at h1
        obtain ⟨g', e' | e'⟩ := h1 <;> rw [e'] <;> exact whileM_sat hc hx h n s' g'
      | ex z =>
        rw [e] at h1
        obtain ⟨ρ', e', hx⟩ := h1.val
        rw [e']
        exact ⟨⟨ρ', rfl, hx⟩⟩
      | no => exact ⟨trivial⟩
theorem sat_while {Γ : S → Gb → Rho} {c : Rho → Res Bool} {body : Rho → Out} {cp : S → Res Bool} {fp : S → Res S} {n : Nat} {s0 : S} {k : S → Res α} (h0 : ρ = Γ s0 (nth ρ)) (hc : ∀ s g, c (Γ s g) = cp s) (hx : ∀ s g, X (Γ s g)) (h : ∀ s g, Sat X (CL Γ) (fp s) (body (Γ s g))) (h2 : ∀ s g, Sat X C (k s) (b (Γ s g))) :
    Sat X C ((whileR cp fp n s0).bind k) (sSeq (whileM c body n) b ρ) := by
  refine sat_seq (Γ := Γ) ?_ h2
  have q := whileM_sat hc hx h n s0 (nth ρ)
  rwa [← h0] at q
theorem whileM_satF {Γ : S → Gb → Rho} {RC : R → Out → Prop} {c : Rho → Res Bool} {body : Rho → Out} {cp : S → Res Bool} {fp : S → Res (Fl S R)} (hr : ∀ r o, RC r o → (∃ d, o = .rt d) ∨ ∃ d ρ, o = .rl d ρ) (hc : ∀ s g, c (Γ s g) = cp s) (hx : ∀ s g, X (Γ s g)) (h : ∀ s g, Sat X (CF Γ RC) (fp s) (body (Γ s g))) : ∀ (n : Nat) (s : S) (g : Gb), Sat X (CF Γ RC) (whileF cp fp n s) (whileM c body n (Γ s g))
  | 0, s, g => ⟨trivial⟩
  | n + 1, s, g => by
    rw [whileM, whileF]
    refine sat_then (hc s g) (hx s g) fun k => ?_
    cases k with
    | false => exact ⟨⟨g, rfl⟩⟩
    | true =>
      rw [if_pos rfl, if_pos rfl]
      have h1 := h s g
      cases e : fp s with
      | ok r =>
        rw [e] at h1
        cases r with
        | nx s' =>
          obtain ⟨g', e'⟩ := h1.val
          rw [e']
          exact whileM_satF hr hc hx h n s' g'
        | ct s' =>
          obtain ⟨g', e'⟩ := h1.val
          rw [e']
          exact whileM_satF hr hc hx h n s' g'
        | bk s' =>
          obtain ⟨g', e'⟩ := h1.val
          rw [e']
          exact ⟨⟨g', rfl⟩⟩
        | rt r =>
          have h1 : RC r _ := h1.val
          rcases hr r _ h1 with ⟨d, e2⟩ | ⟨d, ρ2, e2⟩ <;> rw [e2] at h1 ⊢ <;> exact ⟨h1⟩
      | ex z =>
        rw [e] at h1
        obtain ⟨ρ', e', hx⟩ := h1.val
        rw [e']
        exact ⟨⟨ρ', rfl, hx⟩⟩
      | no => exact ⟨trivial⟩
theorem sat_whileF {Γ : S → Gb → Rho} {RC : R → Out → Prop} {c : Rho → Res Bool} {body : Rho → Out} {cp : S → Res Bool} {fp : S → Res (Fl S R)} {n : Nat} {s0 : S} (hr : ∀ r o, RC r o → (∃ d, o = .rt d) ∨ ∃ d ρ, o = .rl d ρ) (h0 : ρ = Γ s0 (nth ρ)) (hc : ∀ s g, c (Γ s g) = cp s) (hx : ∀ s g, X (Γ s g)) (h : ∀ s g, Sat X (CF Γ RC) (fp s) (body (Γ s g))) :
    Sat X (CF Γ RC) (whileF cp fp n s0) (whileM c body n ρ) := by
  have q := whileM_satF hr hc hx h n s0 (nth ρ)
  rwa [← h0] at q
/-! ### targets -/
theorem sat_unp {bn : Bnd} {e : Rho → Res D} {E : Res D} {k : D → Res α} (he : e ρ = E) (hx : X ρ) (h : ∀ x, Sat X C (k x) (bodyB bn b x ρ)) : Sat X C (E.bind k) (sSeq (sUnp bn e) b ρ) := by
  have e1 : sSeq (sUnp bn e) b ρ = thenS (e ρ) ρ fun d => bodyB bn b d ρ := by
    unfold sSeq sUnp bodyB
    cases e ρ with
    | ok d =>
      simp only [thenS_ok]
      cases bn d ρ <;> rfl
    | _ => rfl
  rw [e1]
  exact sat_then he hx h
theorem bodyB_nm {body : Rho → Out} {x : D} : bodyB (bNm i) body x ρ = body (ρ.set i (some x)) := rfl
theorem bodyE_nm {f : Rho → Res α} {x : D} : bodyE (bNm i) f x ρ = f (ρ.set i (some x)) := rfl
end
end T

set_option Elab.async false
set_option linter.all false
set_option maxRecDepth 100000
set_option maxHeartbeats 4000000
/-! P-layer, part B: unpacking, expressions. -/
namespace T
open PySem L2
section
variable {α β S R : Type} {X : Rho → Prop} {C : α → Out → Prop} {ρ : Rho} {i : Nat}
def bodyBA (c : BndA) (body : Rho → Out) (ds : List D) (ρ : Rho) : Out := match c ds ρ with
  | some ρ1 => body ρ1
  | none => .no
def bodyEA (c : BndA) (f : Rho → Res α) (ds : List D) (ρ : Rho) : Res α := match c ds ρ with
  | some ρ1 => f ρ1
  | none => .no
theorem bodyBA_cons {b : Bnd} {c : BndA} {ff : Rho → Out} {d : D} {ds : List D} : bodyBA (bCons b c) ff (d :: ds) ρ = bodyB b (fun ρ1 => bodyBA c ff ds ρ1) d ρ := by
  show (match (b d ρ).bind fun ρ' => c ds ρ' with | some ρ1 => ff ρ1 | none => Out.no) = match b d ρ with | some ρ1 => bodyBA c ff ds ρ1 | none => Out.no
  cases b d ρ <;> rfl
theorem bodyEA_cons {b : Bnd} {c : BndA} {ff : Rho → Res α} {d : D} {ds : List D} : bodyEA (bCons b c) ff (d :: ds) ρ = bodyE b (fun ρ1 => bodyEA c ff ds ρ1) d ρ := by
  show (match (b d ρ).bind fun ρ' => c ds ρ' with | some ρ1 => ff ρ1 | none => Res.no) = match b d ρ with | some ρ1 => bodyEA c ff ds ρ1 | none => Res.no
  cases b d ρ <;> rfl
theorem unB1 {ff : Rho → Out} {x : D} {b0 : Bnd} {k : D → Res α} (h : ∀ x1, Sat X C (k x1) (bodyB b0 ff x1 ρ)) : Sat X C (un1 x k) (bodyB (bTp 1 (bCons b0 bNil)) ff x ρ) := by
  cases x with
  | tup ds =>
    cases ds with
    | nil => exact ⟨trivial⟩
    | cons x1 r0 =>
      cases r0 with
      | cons z zs =>
        exact ⟨trivial⟩
      | nil =>
        have h := h x1
        have e : bodyB (bTp 1 (bCons b0 bNil)) ff (.tup [x1]) ρ = bodyB b0 ff x1 ρ := by
          rw [show bodyB (bTp 1 (bCons b0 bNil)) ff (.tup [x1]) ρ = bodyBA (bCons b0 bNil) ff [x1] ρ from rfl, bodyBA_cons]
          rfl
        rw [e]
        exact h
  | lst ds =>
    cases ds with
    | nil => exact ⟨trivial⟩
    | cons x1 r0 =>
      cases r0 with
      | cons z zs =>
        exact ⟨trivial⟩
      | nil =>
        have h := h x1
        have e : bodyB (bTp 1 (bCons b0 bNil)) ff (.lst [x1]) ρ = bodyB b0 ff x1 ρ := by
          rw [show bodyB (bTp 1 (bCons b0 bNil)) ff (.lst [x1]) ρ = bodyBA (bCons b0 bNil) ff [x1] ρ from rfl, bodyBA_cons]
          rfl
        rw [e]
        exact h
  | _ => exact ⟨trivial⟩
theorem unE1 {ff : Rho → Res α} {x : D} {b0 : Bnd} {k : D → Res α} (h : ∀ x1, bodyE b0 ff x1 ρ = k x1) : bodyE (bTp 1 (bCons b0 bNil)) ff x ρ = un1 x k := by
  cases x with
  | tup ds =>
    cases ds with
    | nil => rfl
    | cons x1 r0 =>
      cases r0 with
      | cons z zs =>
        simp [bodyE, bTp, un1]
      | nil =>
        have h := h x1
        have e : bodyE (bTp 1 (bCons b0 bNil)) ff (.tup [x1]) ρ = bodyE b0 ff x1 ρ := by
          rw [show bodyE (bTp 1 (bCons b0 bNil)) ff (.tup [x1]) ρ = bodyEA (bCons b0 bNil) ff [x1] ρ from rfl, bodyEA_cons]
          rfl
        rw [e, h]
        rfl
  | lst ds =>
    cases ds with
    | nil => rfl
    | cons x1 r0 =>
      cases r0 with
      | cons z zs =>
        simp [bodyE, bTp, un1]
      | nil =>
        have h := h x1
        have e : bodyE (bTp 1 (bCons b0 bNil)) ff (.lst [x1]) ρ = bodyE b0 ff x1 ρ := by
          rw [show bodyE (bTp 1 (bCons b0 bNil)) ff (.lst [x1]) ρ = bodyEA (bCons b0 bNil) ff [x1] ρ from rfl, bodyEA_cons]
          rfl
        rw [e, h]
        rfl
  | _ => rfl
theorem unB2 {ff : Rho → Out} {x : D} {b0 b1 : Bnd} {k : D → D → Res α} (h : ∀ x1 x2, Sat X C (k x1 x2) (bodyB b0 (fun ρ1 => bodyB b1 ff x2 ρ1) x1 ρ)) : Sat X C (un2 x k) (bodyB (bTp 2 (bCons b0 (bCons b1 bNil))) ff x ρ) := by
  cases x with
  | tup ds =>
    cases ds with
    | nil => exact ⟨trivial⟩
    | cons x1 r0 =>
      cases r0 with
      | nil => exact ⟨trivial⟩
      | cons x2 r1 =>
        cases r1 with
        | cons z zs =>
          exact ⟨trivial⟩
        | nil =>
          have h := h x1 x2
          have e : bodyB (bTp 2 (bCons b0 (bCons b1 bNil))) ff (.tup [x1, x2]) ρ = bodyB b0 (fun ρ1 => bodyB b1 ff x2 ρ1) x1 ρ := by
            rw [show bodyB (bTp 2 (bCons b0 (bCons b1 bNil))) ff (.tup [x1, x2]) ρ = bodyBA (bCons b0 (bCons b1 bNil)) ff [x1, x2] ρ from rfl, bodyBA_cons]
            simp only [bodyBA_cons]
            rfl
          rw [e]
          exact h
  | lst ds =>
    cases ds with
    | nil => exact ⟨trivial⟩
    | cons x1 r0 =>
      cases r0 with
      | nil => exact ⟨trivial⟩
      | cons x2 r1 =>
        cases r1 with
        | cons z zs =>
          exact ⟨trivial⟩
        | nil =>
          have h := h x1 x2
          have e : bodyB (bTp 2 (bCons b0 (bCons b1 bNil))) ff (.lst [x1, x2]) ρ = bodyB b0 (fun ρ1 => bodyB b1 ff x2 ρ1) x1 ρ := by
            rw [show bodyB (bTp 2 (bCons b0 (bCons b1 bNil))) ff (.lst [x1, x2]) ρ = bodyBA (bCons b0 (bCons b1 bNil)) ff [x1, x2] ρ from rfl, bodyBA_cons]
            simp only [bodyBA_cons]
            rfl
          rw [e]
          exact h
  | _ => exact ⟨trivial⟩
theorem unE2 {ff : Rho → Res α} {x : D} {b0 b1 : Bnd} {k : D → D → Res α} (h : ∀ x1 x2, bodyE b0 (fun ρ1 => bodyE b1 ff x2 ρ1) x1 ρ = k x1 x2) : bodyE (bTp 2 (bCons b0 (bCons b1 bNil))) ff x ρ = un2 x k := by
  cases x with
  | tup ds =>
    cases ds with
    | nil => rfl
    | cons x1 r0 =>
      cases r0 with
      | nil => rfl
      | cons x2 r1 =>
        cases r1 with
        | cons z zs =>
          simp [bodyE, bTp, un2]
        | nil =>
          have h := h x1 x2
          have e : bodyE (bTp 2 (bCons b0 (bCons b1 bNil))) ff (.tup [x1, x2]) ρ = bodyE b0 (fun ρ1 => bodyE b1 ff x2 ρ1) x1 ρ := by
            rw [show bodyE (bTp 2 (bCons b0 (bCons b1 bNil))) ff (.tup [x1, x2]) ρ = bodyEA (bCons b0 (bCons b1 bNil)) ff [x1, x2] ρ from rfl, bodyEA_cons]
            simp only [bodyEA_cons]
            rfl
          rw [e, h]
          rfl
  | lst ds =>
    cases ds with
    | nil => rfl
    | cons x1 r0 =>
      cases r0 with
      | nil => rfl
      | cons x2 r1 =>
        cases r1 with
        | cons z zs =>
          simp [bodyE, bTp, un2]
        | nil =>
          have h := h x1 x2
          have e : bodyE (bTp 2 (bCons b0 (bCons b1 bNil))) ff (.lst [x1, x2]) ρ = bodyE b0 (fun ρ1 => bodyE b1 ff x2 ρ1) x1 ρ := by
            rw [show bodyE (bTp 2 (bCons b0 (bCons b1 bNil))) ff (.lst [x1, x2]) ρ = bodyEA (bCons b0 (bCons b1 bNil)) ff [x1, x2] ρ from rfl, bodyEA_cons]
            simp only [bodyEA_cons]
            rfl
          rw [e, h]
          rfl
  | _ => rfl
theorem unB3 {ff : Rho → Out} {x : D} {b0 b1 b2 : Bnd} {k : D → D → D → Res α} (h : ∀ x1 x2 x3, Sat X C (k x1 x2 x3) (bodyB b0 (fun ρ1 => bodyB b1 (fun ρ2 => bodyB b2 ff x3 ρ2) x2 ρ1) x1 ρ)) : Sat X C (un3 x k) (bodyB (bTp 3 (bCons b0 (bCons b1 (bCons b2 bNil)))) ff x ρ) := by
  cases x with
  | tup ds =>
    cases ds with
    | nil => exact ⟨trivial⟩
    | cons x1 r0 =>
      cases r0 with
      | nil => exact ⟨trivial⟩
      | cons x2 r1 =>
        cases r1 with
        | nil => exact ⟨trivial⟩
        | cons x3 r2 =>
          cases r2 with
          | cons z zs =>
            exact ⟨trivial⟩
          | nil =>
            have h := h x1 x2 x3
            have e : bodyB (bTp 3 (bCons b0 (bCons b1 (bCons b2 bNil)))) ff (.tup [x1, x2, x3]) ρ = bodyB b0 (fun ρ1 => bodyB b1 (fun ρ2 => bodyB b2 ff x3 ρ2) x2 ρ1) x1 ρ := by
              rw [show bodyB (bTp 3 (bCons b0 (bCons b1 (bCons b2 bNil)))) ff (.tup [x1, x2, x3]) ρ = bodyBA (bCons b0 (bCons b1 (bCons b2 bNil))) ff [x1, x2, x3] ρ from rfl, bodyBA_cons]
              simp only [bodyBA_cons]
              rfl
            rw [e]
            exact h
  | lst ds =>
    cases ds with
    | nil => exact ⟨trivial⟩
    | cons x1 r0 =>
      cases r0 with
      | nil => exact ⟨trivial⟩
      | cons x2 r1 =>
        cases r1 with
        | nil => exact ⟨trivial⟩
        | cons x3 r2 =>
          cases r2 with
          | cons z zs =>
            exact ⟨trivial⟩
          | nil =>
            have h := h x1 x2 x3
            have e : bodyB (bTp 3 (bCons b0 (bCons b1 (bCons b2 bNil)))) ff (.lst [x1, x2, x3]) ρ = bodyB b0 (fun ρ1 => bodyB b1 (fun ρ2 => bodyB b2 ff x3 ρ2) x2 ρ1) x1 ρ := by
              rw [show bodyB (bTp 3 (bCons b0 (bCons b1 (bCons b2 bNil)))) ff (.lst [x1, x2, x3]) ρ = bodyBA (bCons b0 (bCons b1 (bCons b2 bNil))) ff [x1, x2, x3] ρ from rfl, bodyBA_cons]
              simp only [bodyBA_cons]
              rfl
            rw [e]
            exact h
  | _ => exact ⟨trivial⟩
theorem unE3 {ff : Rho → Res α} {x : D} {b0 b1 b2 : Bnd} {k : D → D → D → Res α} (h : ∀ x1 x2 x3, bodyE b0 (fun ρ1 => bodyE b1 (fun ρ2 => bodyE b2 ff x3 ρ2) x2 ρ1) x1 ρ = k x1 x2 x3) : bodyE (bTp 3 (bCons b0 (bCons b1 (bCons b2 bNil)))) ff x ρ = un3 x k := by
  cases x with
  | tup ds =>
    cases ds with
    | nil => rfl
    | cons x1 r0 =>
      cases r0 with
      | nil => rfl
      | cons x2 r1 =>
        cases r1 with
        | nil => rfl
        | cons x3 r2 =>
          cases r2 with
          | cons z zs =>
            simp [bodyE, bTp, un3]
          | nil =>
            have h := h x1 x2 x3
            have e : bodyE (bTp 3 (bCons b0 (bCons b1 (bCons b2 bNil)))) ff (.tup [x1, x2, x3]) ρ = bodyE b0 (fun ρ1 => bodyE b1 (fun ρ2 => bodyE b2 ff x3 ρ2) x2 ρ1) x1 ρ := by
              rw [show bodyE (bTp 3 (bCons b0 (bCons b1 (bCons b2 bNil)))) ff (.tup [x1, x2, x3]) ρ = bodyEA (bCons b0 (bCons b1 (bCons b2 bNil))) ff [x1, x2, x3] ρ from rfl, bodyEA_cons]
              simp only [bodyEA_cons]
              rfl
            rw [e, h]
            rfl
  | lst ds =>
    cases ds with
    | nil => rfl
    | cons x1 r0 =>
      cases r0 with
      | nil => rfl
      | cons x2 r1 =>
        cases r1 with
        | nil => rfl
        | cons x3 r2 =>
          cases r2 with
          | cons z zs =>
            simp [bodyE, bTp, un3]
          | nil =>
            have h := h x1 x2 x3
            have e : bodyE (bTp 3 (bCons b0 (bCons b1 (bCons b2 bNil)))) ff (.lst [x1, x2, x3]) ρ = bodyE b0 (fun ρ1 => bodyE b1 (fun ρ2 => bodyE b2 ff x3 ρ2) x2 ρ1) x1 ρ := by
              rw [show bodyE (bTp 3 (bCons b0 (bCons b1 (bCons b2 bNil)))) ff (.lst [x1, x2, x3]) ρ = bodyEA (bCons b0 (bCons b1 (bCons b2 bNil))) ff [x1, x2, x3] ρ from rfl, bodyEA_cons]
              simp only [bodyEA_cons]
              rfl
            rw [e, h]
            rfl
  | _ => rfl
theorem unB4 {ff : Rho → Out} {x : D} {b0 b1 b2 b3 : Bnd} {k : D → D → D → D → Res α} (h : ∀ x1 x2 x3 x4, Sat X C (k x1 x2 x3 x4) (bodyB b0 (fun ρ1 => bodyB b1 (fun ρ2 => bodyB b2 (fun ρ3 => bodyB b3 ff x4 ρ3) x3 ρ2) x2 ρ1) x1 ρ)) : Sat X C (un4 x k) (bodyB (bTp 4 (bCons b0 (bCons b1 (bCons b2 (bCons b3 bNil))))) ff x ρ) := by
  cases x with
  | tup ds =>
    cases ds with
    | nil => exact ⟨trivial⟩
    | cons x1 r0 =>
      cases r0 with
      | nil => exact ⟨trivial⟩
      | cons x2 r1 =>
        cases r1 with
        | nil => exact ⟨trivial⟩
        | cons x3 r2 =>
          cases r2 with
          | nil => exact ⟨trivial⟩
          | cons x4 r3 =>
            cases r3 with
            | cons z zs =>
              exact ⟨trivial⟩
            | nil =>
              have h := h x1 x2 x3 x4
              have e : bodyB (bTp 4 (bCons b0 (bCons b1 (bCons b2 (bCons b3 bNil))))) ff (.tup [x1, x2, x3, x4]) ρ = bodyB b0 (fun ρ1 => bodyB b1 (fun ρ2 => bodyB b2 (fun ρ3 => bodyB b3 ff x4 ρ3) x3 ρ2) x2 ρ1) x1 ρ := by
                rw [show bodyB (bTp 4 (bCons b0 (bCons b1 (bCons b2 (bCons b3 bNil))))) ff (.tup [x1, x2, x3, x4]) ρ = bodyBA (bCons b0 (bCons b1 (bCons b2 (bCons b3 bNil)))) ff [x1, x2, x3, x4] ρ from rfl, bodyBA_cons]
                simp only [bodyBA_cons]
                rfl
              rw [e]
              exact h
  | lst ds =>
    cases ds with
    | nil => exact ⟨trivial⟩
    | cons x1 r0 =>
      cases r0 with
      | nil => exact ⟨trivial⟩
      | cons x2 r1 =>
        cases r1 with
        | nil => exact ⟨trivial⟩
        | cons x3 r2 =>
          cases r2 with
          | nil => exact ⟨trivial⟩
          | cons x4 r3 =>
            cases r3 with
            | cons z zs =>
              exact ⟨trivial⟩
            | nil =>
              have h := h x1 x2 x3 x4
              have e : bodyB (bTp 4 (bCons b0 (bCons b1 (bCons b2 (bCons b3 bNil))))) ff (.lst [x1, x2, x3, x4]) ρ = bodyB b0 (fun ρ1 => bodyB b1 (fun ρ2 => bodyB b2 (fun ρ3 => bodyB b3 ff x4 ρ3) x3 ρ2) x2 ρ1) x1 ρ := by
                rw [show bodyB (bTp 4 (bCons b0 (bCons b1 (bCons b2 (bCons b3 bNil))))) ff (.lst [x1, x2, x3, x4]) ρ = bodyBA (bCons b0 (bCons b1 (bCons b2 (bCons b3 bNil)))) ff [x1, x2, x3, x4] ρ from rfl, bodyBA_cons]
                simp only [bodyBA_cons]
                rfl
              rw [e]
              exact h
  | _ => exact ⟨trivial⟩
theorem unE4 {ff : Rho → Res α} {x : D} {b0 b1 b2 b3 : Bnd} {k : D → D → D → D → Res α} (h : ∀ x1 x2 x3 x4, bodyE b0 (fun ρ1 => bodyE b1 (fun ρ2 => bodyE b2 (fun ρ3 => bodyE b3 ff x4 ρ3) x3 ρ2) x2 ρ1) x1 ρ = k x1 x2 x3 x4) : bodyE (bTp 4 (bCons b0 (bCons b1 (bCons b2 (bCons b3 bNil))))) ff x ρ = un4 x k := by
  cases x with
  | tup ds =>
    cases ds with
    | nil => rfl
    | cons x1 r0 =>
      cases r0 with
      | nil => rfl
      | cons x2 r1 =>
        cases r1 with
        | nil => rfl
        | cons x3 r2 =>
          cases r2 with
          | nil => rfl
          | cons x4 r3 =>
            cases r3 with
            | cons z zs =>
              simp [bodyE, bTp, un4]
            | nil =>
              have h := h x1 x2 x3 x4
              have e : bodyE (bTp 4 (bCons b0 (bCons b1 (bCons b2 (bCons b3 bNil))))) ff (.tup [x1, x2, x3, x4]) ρ = bodyE b0 (fun ρ1 => bodyE b1 (fun ρ2 => bodyE b2 (fun ρ3 => bodyE b3 ff x4 ρ3) x3 ρ2) x2 ρ1) x1 ρ := by
                rw [show bodyE (bTp 4 (bCons b0 (bCons b1 (bCons b2 (bCons b3 bNil))))) ff (.tup [x1, x2, x3, x4]) ρ = bodyEA (bCons b0 (bCons b1 (bCons b2 (bCons b3 bNil)))) ff [x1, x2, x3, x4] ρ from rfl, bodyEA_cons]
                simp only [bodyEA_cons]
                rfl
              rw [e, h]
              rfl
  | lst ds =>
    cases ds with
    | nil => rfl
    | cons x1 r0 =>
      cases r0 with
      | nil => rfl
      | cons x2 r1 =>
        cases r1 with
        | nil => rfl
        | cons x3 r2 =>
          cases r2 with
          | nil => rfl
          | cons x4 r3 =>
            cases r3 with
            | cons z zs =>
              simp [bodyE, bTp, un4]
            | nil =>
              have h := h x1 x2 x3 x4
              have e : bodyE (bTp 4 (bCons b0 (bCons b1 (bCons b2 (bCons b3 bNil))))) ff (.lst [x1, x2, x3, x4]) ρ = bodyE b0 (fun ρ1 => bodyE b1 (fun ρ2 => bodyE b2 (fun ρ3 => bodyE b3 ff x4 ρ3) x3 ρ2) x2 ρ1) x1 ρ := by
                rw [show bodyE (bTp 4 (bCons b0 (bCons b1 (bCons b2 (bCons b3 bNil))))) ff (.lst [x1, x2, x3, x4]) ρ = bodyEA (bCons b0 (bCons b1 (bCons b2 (bCons b3 bNil)))) ff [x1, x2, x3, x4] ρ from rfl, bodyEA_cons]
                simp only [bodyEA_cons]
                rfl
              rw [e, h]
              rfl
  | _ => rfl
theorem unB5 {ff : Rho → Out} {x : D} {b0 b1 b2 b3 b4 : Bnd} {k : D → D → D → D → D → Res α} (h : ∀ x1 x2 x3 x4 x5, Sat X C (k x1 x2 x3 x4 x5) (bodyB b0 (fun ρ1 => bodyB b1 (fun ρ2 => bodyB b2 (fun ρ3 => bodyB b3 (fun ρ4 => bodyB b4 ff x5 ρ4) x4 ρ3) x3 ρ2) x2 ρ1) x1 ρ)) : Sat X C (un5 x k) (bodyB (bTp 5 (bCons b0 (bCons b1 (bCons b2 (bCons b3 (bCons b4 bNil)))))) ff x ρ) := by
  cases x with
  | tup ds =>
    cases ds with
    | nil => exact ⟨trivial⟩
    | cons x1 r0 =>
      cases r0 with
      | nil => exact ⟨trivial⟩
      | cons x2 r1 =>
        cases r1 with
        | nil => exact ⟨trivial⟩
        | cons x3 r2 =>
          cases r2 with
          | nil => exact ⟨trivial⟩
          | cons x4 r3 =>
            cases r3 with
            | nil => exact ⟨trivial⟩
            | cons x5 r4 =>
              cases r4 with
              | cons z zs =>
                exact ⟨trivial⟩
              | nil =>
                have h := h x1 x2 x3 x4 x5
                have e : bodyB (bTp 5 (bCons b0 (bCons b1 (bCons b2 (bCons b3 (bCons b4 bNil)))))) ff (.tup [x1, x2, x3, x4, x5]) ρ = bodyB b0 (fun ρ1 => bodyB b1 (fun ρ2 => bodyB b2 (fun ρ3 => bodyB b3 (fun ρ4 => bodyB b4 ff x5 ρ4) x4 ρ3) x3 ρ2) x2 ρ1) x1 ρ := by
                  rw [show bodyB (bTp 5 (bCons b0 (bCons b1 (bCons b2 (bCons b3 (bCons b4 bNil)))))) ff (.tup [x1, x2, x3, x4, x5]) ρ = bodyBA (bCons b0 (bCons b1 (bCons b2 (bCons b3 (bCons b4 bNil))))) ff [x1, x2, x3, x4, x5] ρ from rfl, bodyBA_cons]
                  simp only [bodyBA_cons]
                  rfl
                rw [e]
                exact h
  | lst ds =>
    cases ds with
    | nil => exact ⟨trivial⟩
    | cons x1 r0 =>
      cases r0 with
      | nil => exact ⟨trivial⟩
      | cons x2 r1 =>
        cases r1 with
        | nil => exact ⟨trivial⟩
        | cons x3 r2 =>
          cases r2 with
          | nil => exact ⟨trivial⟩
          | cons x4 r3 =>
            cases r3 with
            | nil => exact ⟨trivial⟩
            | cons x5 r4 =>
              cases r4 with
              | cons z zs =>
                exact ⟨trivial⟩
              | nil =>
                have h := h x1 x2 x3 x4 x5
                have e : bodyB (bTp 5 (bCons b0 (bCons b1 (bCons b2 (bCons b3 (bCons b4 bNil)))))) ff (.lst [x1, x2, x3, x4, x5]) ρ = bodyB b0 (fun ρ1 => bodyB b1 (fun ρ2 => bodyB b2 (fun ρ3 => bodyB b3 (fun ρ4 => bodyB b4 ff x5 ρ4) x4 ρ3) x3 ρ2) x2 ρ1) x1 ρ := by
                  rw [show bodyB (bTp 5 (bCons b0 (bCons b1 (bCons b2 (bCons b3 (bCons b4 bNil)))))) ff (.lst [x1, x2, x3, x4, x5]) ρ = bodyBA (bCons b0 (bCons b1 (bCons b2 (bCons b3 (bCons b4 bNil))))) ff [x1, x2, x3, x4, x5] ρ from rfl, bodyBA_cons]
                  simp only [bodyBA_cons]
                  rfl
                rw [e]
                exact h
  | _ => exact ⟨trivial⟩
theorem unE5 {ff : Rho → Res α} {x : D} {b0 b1 b2 b3 b4 : Bnd} {k : D → D → D → D → D → Res α} (h : ∀ x1 x2 x3 x4 x5, bodyE b0 (fun ρ1 => bodyE b1 (fun ρ2 => bodyE b2 (fun ρ3 => bodyE b3 (fun ρ4 => bodyE b4 ff x5 ρ4) x4 ρ3) x3 ρ2) x2 ρ1) x1 ρ = k x1 x2 x3 x4 x5) : bodyE (bTp 5 (bCons b0 (bCons b1 (bCons b2 (bCons b3 (bCons b4 bNil)))))) ff x ρ = un5 x k := by
  cases x with
  | tup ds =>
    cases ds with
    | nil => rfl
    | cons x1 r0 =>
      cases r0 with
      | nil => rfl
      | cons x2 r1 =>
        cases r1 with
        | nil => rfl
        | cons x3 r2 =>
          cases r2 with
          | nil => rfl
          | cons x4 r3 =>
            cases r3 with
            | nil => rfl
            | cons x5 r4 =>
              cases r4 with
              | cons z zs =>
                simp [bodyE, bTp, un5]
              | nil =>
                have h := h x1 x2 x3 x4 x5
                have e : bodyE (bTp 5 (bCons b0 (bCons b1 (bCons b2 (bCons b3 (bCons b4 bNil)))))) ff (.tup [x1, x2, x3, x4, x5]) ρ = bodyE b0 (fun ρ1 => bodyE b1 (fun ρ2 => bodyE b2 (fun ρ3 => bodyE b3 (fun ρ4 => bodyE b4 ff x5 ρ4) x4 ρ3) x3 ρ2) x2 ρ1) x1 ρ := by
                  rw [show bodyE (bTp 5 (bCons b0 (bCons b1 (bCons b2 (bCons b3 (bCons b4 bNil)))))) ff (.tup [x1, x2, x3, x4, x5]) ρ = bodyEA (bCons b0 (bCons b1 (bCons b2 (bCons b3 (bCons b4 bNil))))) ff [x1, x2, x3, x4, x5] ρ from rfl, bodyEA_cons]
                  simp only [bodyEA_cons]
                  rfl
                rw [e, h]
                rfl
  | lst ds =>
    cases ds with
    | nil => rfl
    | cons x1 r0 =>
      cases r0 with
      | nil => rfl
      | cons x2 r1 =>
        cases r1 with
        | nil => rfl
        | cons x3 r2 =>
          cases r2 with
          | nil => rfl
          | cons x4 r3 =>
            cases r3 with
            | nil => rfl
            | cons x5 r4 =>
              cases r4 with
              | cons z zs =>
                simp [bodyE, bTp, un5]
              | nil =>
                have h := h x1 x2 x3 x4 x5
                have e : bodyE (bTp 5 (bCons b0 (bCons b1 (bCons b2 (bCons b3 (bCons b4 bNil)))))) ff (.lst [x1, x2, x3, x4, x5]) ρ = bodyE b0 (fun ρ1 => bodyE b1 (fun ρ2 => bodyE b2 (fun ρ3 => bodyE b3 (fun ρ4 => bodyE b4 ff x5 ρ4) x4 ρ3) x3 ρ2) x2 ρ1) x1 ρ := by
                  rw [show bodyE (bTp 5 (bCons b0 (bCons b1 (bCons b2 (bCons b3 (bCons b4 bNil)))))) ff (.lst [x1, x2, x3, x4, x5]) ρ = bodyEA (bCons b0 (bCons b1 (bCons b2 (bCons b3 (bCons b4 bNil))))) ff [x1, x2, x3, x4, x5] ρ from rfl, bodyEA_cons]
                  simp only [bodyEA_cons]
                  rfl
                rw [e, h]
                rfl
  | _ => rfl
theorem unB6 {ff : Rho → Out} {x : D} {b0 b1 b2 b3 b4 b5 : Bnd} {k : D → D → D → D → D → D → Res α} (h : ∀ x1 x2 x3 x4 x5 x6, Sat X C (k x1 x2 x3 x4 x5 x6) (bodyB b0 (fun ρ1 => bodyB b1 (fun ρ2 => bodyB b2 (fun ρ3 => bodyB b3 (fun ρ4 => bodyB b4 (fun ρ5 => bodyB b5 ff x6 ρ5) x5 ρ4) x4 ρ3) x3 ρ2) x2 ρ1) x1 ρ)) : Sat X C (un6 x k) (bodyB (bTp 6 (bCons b0 (bCons b1 (bCons b2 (bCons b3 (bCons b4 (bCons b5 bNil))))))) ff x ρ) := by
  cases x with
  | tup ds =>
    cases ds with
    | nil => exact ⟨trivial⟩
    | cons x1 r0 =>
      cases r0 with
      | nil => exact ⟨trivial⟩
      | cons x2 r1 =>
        cases r1 with
        | nil => exact ⟨trivial⟩
        | cons x3 r2 =>
          cases r2 with
          | nil => exact ⟨trivial⟩
          | cons x4 r3 =>
            cases r3 with
            | nil => exact ⟨trivial⟩
            | cons x5 r4 =>
              cases r4 with
              | nil => exact ⟨trivial⟩
              | cons x6 r5 =>
                cases r5 with
                | cons z zs =>
                  exact ⟨trivial⟩
                | nil =>
                  have h := h x1 x2 x3 x4 x5 x6
                  have e : bodyB (bTp 6 (bCons b0 (bCons b1 (bCons b2 (bCons b3 (bCons b4 (bCons b5 bNil))))))) ff (.tup [x1, x2, x3, x4, x5, x6]) ρ = bodyB b0 (fun ρ1 => bodyB b1 (fun ρ2 => bodyB b2 (fun ρ3 => bodyB b3 (fun ρ4 => bodyB b4 (fun ρ5 => bodyB b5 ff x6 ρ5) x5 ρ4) x4 ρ3) x3 ρ2) x2 ρ1) x1 ρ := by
                    rw [show bodyB (bTp 6 (bCons b0 (bCons b1 (bCons b2 (bCons b3 (bCons b4 (bCons b5 bNil))))))) ff (.tup [x1, x2, x3, x4, x5, x6]) ρ = bodyBA (bCons b0 (bCons b1 (bCons b2 (bCons b3 (bCons b4 (bCons b5 bNil)))))) ff [x1, x2, x3, x4, x5, x6] ρ from rfl, bodyBA_cons]
                    simp only [bodyBA_cons]
                    rfl
                  rw [e]
                  exact h
  | lst ds =>
    cases ds with
    | nil => exact ⟨trivial⟩
    | cons x1 r0 =>
      cases r0 with
      | nil => exact ⟨trivial⟩
      | cons x2 r1 =>
        cases r1 with
        | nil => exact ⟨trivial⟩
        | cons x3 r2 =>
          cases r2 with
          | nil => exact ⟨trivial⟩
          | cons x4 r3 =>
            cases r3 with
            | nil => exact ⟨trivial⟩
            | cons x5 r4 =>
              cases r4 with
              | nil => exact ⟨trivial⟩
              | cons x6 r5 =>
                cases r5 with
                | cons z zs =>
                  exact ⟨trivial⟩
                | nil =>
                  have h := h x1 x2 x3 x4 x5 x6
                  have e : bodyB (bTp 6 (bCons b0 (bCons b1 (bCons b2 (bCons b3 (bCons b4 (bCons b5 bNil))))))) ff (.lst [x1, x2, x3, x4, x5, x6]) ρ = bodyB b0 (fun ρ1 => bodyB b1 (fun ρ2 => bodyB b2 (fun ρ3 => bodyB b3 (fun ρ4 => bodyB b4 (fun ρ5 => bodyB b5 ff x6 ρ5) x5 ρ4) x4 ρ3) x3 ρ2) x2 ρ1) x1 ρ := by
                    rw [show bodyB (bTp 6 (bCons b0 (bCons b1 (bCons b2 (bCons b3 (bCons b4 (bCons b5 bNil))))))) ff (.lst [x1, x2, x3, x4, x5, x6]) ρ = bodyBA (bCons b0 (bCons b1 (bCons b2 (bCons b3 (bCons b4 (bCons b5 bNil)))))) ff [x1, x2, x3, x4, x5, x6] ρ from rfl, bodyBA_cons]
                    simp only [bodyBA_cons]
                    rfl
                  rw [e]
                  exact h
  | _ => exact ⟨trivial⟩
theorem unE6 {ff : Rho → Res α} {x : D} {b0 b1 b2 b3 b4 b5 : Bnd} {k : D → D → D → D → D → D → Res α} (h : ∀ x1 x2 x3 x4 x5 x6, bodyE b0 (fun ρ1 => bodyE b1 (fun ρ2 => bodyE b2 (fun ρ3 => bodyE b3 (fun ρ4 => bodyE b4 (fun ρ5 => bodyE b5 ff x6 ρ5) x5 ρ4) x4 ρ3) x3 ρ2) x2 ρ1) x1 ρ = k x1 x2 x3 x4 x5 x6) : bodyE (bTp 6 (bCons b0 (bCons b1 (bCons b2 (bCons b3 (bCons b4 (bCons b5 bNil))))))) ff x ρ = un6 x k := by
  cases x with
  | tup ds =>
    cases ds with
    | nil => rfl
    | cons x1 r0 =>
      cases r0 with
      | nil => rfl
      | cons x2 r1 =>
        cases r1 with
        | nil => rfl
        | cons x3 r2 =>
          cases r2 with
          | nil => rfl
          | cons x4 r3 =>
            cases r3 with
            | nil => rfl
            | cons x5 r4 =>
              cases r4 with
              | nil => rfl
              | cons x6 r5 =>
                cases r5 with
                | cons z zs =>
                  simp [bodyE, bTp, un6]
                | nil =>
                  have h := h x1 x2 x3 x4 x5 x6
                  have e : bodyE (bTp 6 (bCons b0 (bCons b1 (bCons b2 (bCons b3 (bCons b4 (bCons b5 bNil))))))) ff (.tup [x1, x2, x3, x4, x5, x6]) ρ = bodyE b0 (fun ρ1 => bodyE b1 (fun ρ2 => bodyE b2 (fun ρ3 => bodyE b3 (fun ρ4 => bodyE b4 (fun ρ5 => bodyE b5 ff x6 ρ5) x5 ρ4) x4 ρ3) x3 ρ2) x2 ρ1) x1 ρ := by
                    rw [show bodyE (bTp 6 (bCons b0 (bCons b1 (bCons b2 (bCons b3 (bCons b4 (bCons b5 bNil))))))) ff (.tup [x1, x2, x3, x4, x5, x6]) ρ = bodyEA (bCons b0 (bCons b1 (bCons b2 (bCons b3 (bCons b4 (bCons b5 bNil)))))) ff [x1, x2, x3, x4, x5, x6] ρ from rfl, bodyEA_cons]
                    simp only [bodyEA_cons]
                    rfl
                  rw [e, h]
                  rfl
  | lst ds =>
    cases ds with
    | nil => rfl
    | cons x1 r0 =>
      cases r0 with
      | nil => rfl
      | cons x2 r1 =>
        cases r1 with
        | nil => rfl
        | cons x3 r2 =>
          cases r2 with
          | nil => rfl
          | cons x4 r3 =>
            cases r3 with
            | nil => rfl
            | cons x5 r4 =>
              cases r4 with
              | nil => rfl
              | cons x6 r5 =>
                cases r5 with
                | cons z zs =>
                  simp [bodyE, bTp, un6]
                | nil =>
                  have h := h x1 x2 x3 x4 x5 x6
                  have e : bodyE (bTp 6 (bCons b0 (bCons b1 (bCons b2 (bCons b3 (bCons b4 (bCons b5 bNil))))))) ff (.lst [x1, x2, x3, x4, x5, x6]) ρ = bodyE b0 (fun ρ1 => bodyE b1 (fun ρ2 => bodyE b2 (fun ρ3 => bodyE b3 (fun ρ4 => bodyE b4 (fun ρ5 => bodyE b5 ff x6 ρ5) x5 ρ4) x4 ρ3) x3 ρ2) x2 ρ1) x1 ρ := by
                    rw [show bodyE (bTp 6 (bCons b0 (bCons b1 (bCons b2 (bCons b3 (bCons b4 (bCons b5 bNil))))))) ff (.lst [x1, x2, x3, x4, x5, x6]) ρ = bodyEA (bCons b0 (bCons b1 (bCons b2 (bCons b3 (bCons b4 (bCons b5 bNil)))))) ff [x1, x2, x3, x4, x5, x6] ρ from rfl, bodyEA_cons]
                    simp only [bodyEA_cons]
                    rfl
                  rw [e, h]
                  rfl
  | _ => rfl
theorem unB7 {ff : Rho → Out} {x : D} {b0 b1 b2 b3 b4 b5 b6 : Bnd} {k : D → D → D → D → D → D → D → Res α} (h : ∀ x1 x2 x3 x4 x5 x6 x7, Sat X C (k x1 x2 x3 x4 x5 x6 x7) (bodyB b0 (fun ρ1 => bodyB b1 (fun ρ2 => bodyB b2 (fun ρ3 => bodyB b3 (fun ρ4 => bodyB b4 (fun ρ5 => bodyB b5 (fun ρ6 => bodyB b6 ff x7 ρ6) x6 ρ5) x5 ρ4) x4 ρ3) x3 ρ2) x2 ρ1) x1 ρ)) : Sat X C (un7 x k) (bodyB (bTp 7 (bCons b0 (bCons b1 (bCons b2 (bCons b3 (bCons b4 (bCons b5 (bCons b6 bNil)))))))) ff x ρ) := by
  cases x with
  | tup ds =>
    cases ds with
    | nil => exact ⟨trivial⟩
    | cons x1 r0 =>
      cases r0 with
      | nil => exact ⟨trivial⟩
      | cons x2 r1 =>
        cases r1 with
        | nil => exact ⟨trivial⟩
        | cons x3 r2 =>
          cases r2 with
          | nil => exact ⟨trivial⟩
          | cons x4 r3 =>
            cases r3 with
            | nil => exact ⟨trivial⟩
            | cons x5 r4 =>
              cases r4 with
              | nil => exact ⟨trivial⟩
              | cons x6 r5 =>
                cases r5 with
                | nil => exact ⟨trivial⟩
                | cons x7 r6 =>
                  cases r6 with
                  | cons z zs =>
                    exact ⟨trivial⟩
                  | nil =>
                    have h := h x1 x2 x3 x4 x5 x6 x7
                    have e : bodyB (bTp 7 (bCons b0 (bCons b1 (bCons b2 (bCons b3 (bCons b4 (bCons b5 (bCons b6 bNil)))))))) ff (.tup [x1, x2, x3, x4, x5, x6, x7]) ρ = bodyB b0 (fun ρ1 => bodyB b1 (fun ρ2 => bodyB b2 (fun ρ3 => bodyB b3 (fun ρ4 => bodyB b4 (fun ρ5 => bodyB b5 (fun ρ6 => bodyB b6 ff x7 ρ6) x6 ρ5) x5 ρ4) x4 ρ3) x3 ρ2) x2 ρ1) x1 ρ := by
                      rw [show bodyB (bTp 7 (bCons b0 (bCons b1 (bCons b2 (bCons b3 (bCons b4 (bCons b5 (bCons b6 bNil)))))))) ff (.tup [x1, x2, x3, x4, x5, x6, x7]) ρ = bodyBA (bCons b0 (bCons b1 (bCons b2 (bCons b3 (bCons b4 (bCons b5 (bCons b6 bNil))))))) ff [x1, x2, x3, x4, x5, x6, x7] ρ from rfl, bodyBA_cons]
                      simp only [bodyBA_cons]
                      rfl
                    rw [e]
                    exact h
  | lst ds =>
    cases ds with
    | nil => exact ⟨trivial⟩
    | cons x1 r0 =>
      cases r0 with
      | nil => exact ⟨trivial⟩
      | cons x2 r1 =>
        cases r1 with
        | nil => exact ⟨trivial⟩
        | cons x3 r2 =>
          cases r2 with
          | nil => exact ⟨trivial⟩
          | cons x4 r3 =>
            cases r3 with
            | nil => exact ⟨trivial⟩
            | cons x5 r4 =>
              cases r4 with
              | nil => exact ⟨trivial⟩
              | cons x6 r5 =>
                cases r5 with
                | nil => exact ⟨trivial⟩
                | cons x7 r6 =>
                  cases r6 with
                  | cons z zs =>
                    exact ⟨trivial⟩
                  | nil =>
                    have h := h x1 x2 x3 x4 x5 x6 x7
                    have e : bodyB (bTp 7 (bCons b0 (bCons b1 (bCons b2 (bCons b3 (bCons b4 (bCons b5 (bCons b6 bNil)))))))) ff (.lst [x1, x2, x3, x4, x5, x6, x7]) ρ = bodyB b0 (fun ρ1 => bodyB b1 (fun ρ2 => bodyB b2 (fun ρ3 => bodyB b3 (fun ρ4 => bodyB b4 (fun ρ5 => bodyB b5 (fun ρ6 => bodyB b6 ff x7 ρ6) x6 ρ5) x5 ρ4) x4 ρ3) x3 ρ2) x2 ρ1) x1 ρ := by
                      rw [show bodyB (bTp 7 (bCons b0 (bCons b1 (bCons b2 (bCons b3 (bCons b4 (bCons b5 (bCons b6 bNil)))))))) ff (.lst [x1, x2, x3, x4, x5, x6, x7]) ρ = bodyBA (bCons b0 (bCons b1 (bCons b2 (bCons b3 (bCons b4 (bCons b5 (bCons b6 bNil))))))) ff [x1, x2, x3, x4, x5, x6, x7] ρ from rfl, bodyBA_cons]
                      simp only [bodyBA_cons]
                      rfl
                    rw [e]
                    exact h
  | _ => exact ⟨trivial⟩
theorem unE7 {ff : Rho → Res α} {x : D} {b0 b1 b2 b3 b4 b5 b6 : Bnd} {k : D → D → D → D → D → D → D → Res α} (h : ∀ x1 x2 x3 x4 x5 x6 x7, bodyE b0 (fun ρ1 => bodyE b1 (fun ρ2 => bodyE b2 (fun ρ3 => bodyE b3 (fun ρ4 => bodyE b4 (fun ρ5 => bodyE b5 (fun ρ6 => bodyE b6 ff x7 ρ6) x6 ρ5) x5 ρ4) x4 ρ3) x3 ρ2) x2 ρ1) x1 ρ = k x1 x2 x3 x4 x5 x6 x7) : bodyE (bTp 7 (bCons b0 (bCons b1 (bCons b2 (bCons b3 (bCons b4 (bCons b5 (bCons b6 bNil)))))))) ff x ρ = un7 x k := by
  cases x with
  | tup ds =>
    cases ds with
    | nil => rfl
    | cons x1 r0 =>
      cases r0 with
      | nil => rfl
      | cons x2 r1 =>
        cases r1 with
        | nil => rfl
        | cons x3 r2 =>
          cases r2 with
          | nil => rfl
          | cons x4 r3 =>
            cases r3 with
            | nil => rfl
            | cons x5 r4 =>
              cases r4 with
              | nil => rfl
              | cons x6 r5 =>
                cases r5 with
                | nil => rfl
                | cons x7 r6 =>
                  cases r6 with
                  | cons z zs =>
                    simp [bodyE, bTp, un7]
                  | nil =>
                    have h := h x1 x2 x3 x4 x5 x6 x7
                    have e : bodyE (bTp 7 (bCons b0 (bCons b1 (bCons b2 (bCons b3 (bCons b4 (bCons b5 (bCons b6 bNil)))))))) ff (.tup [x1, x2, x3, x4, x5, x6, x7]) ρ = bodyE b0 (fun ρ1 => bodyE b1 (fun ρ2 => bodyE b2 (fun ρ3 => bodyE b3 (fun ρ4 => bodyE b4 (fun ρ5 => bodyE b5 (fun ρ6 => bodyE b6 ff x7 ρ6) x6 ρ5) x5 ρ4) x4 ρ3) x3 ρ2) x2 ρ1) x1 ρ := by
                      rw [show bodyE (bTp 7 (bCons b0 (bCons b1 (bCons b2 (bCons b3 (bCons b4 (bCons b5 (bCons b6 bNil)))))))) ff (.tup [x1, x2, x3, x4, x5, x6, x7]) ρ = bodyEA (bCons b0 (bCons b1 (bCons b2 (bCons b3 (bCons b4 (bCons b5 (bCons b6 bNil))))))) ff [x1, x2, x3, x4, x5, x6, x7] ρ from rfl, bodyEA_cons]
                      simp only [bodyEA_cons]
                      rfl
                    rw [e, h]
                    rfl
  | lst ds =>
    cases ds with
    | nil => rfl
    | cons x1 r0 =>
      cases r0 with
      | nil => rfl
      | cons x2 r1 =>
        cases r1 with
        | nil => rfl
        | cons x3 r2 =>
          cases r2 with
          | nil => rfl
          | cons x4 r3 =>
            cases r3 with
            | nil => rfl
            | cons x5 r4 =>
              cases r4 with
              | nil => rfl
              | cons x6 r5 =>
                cases r5 with
                | nil => rfl
                | cons x7 r6 =>
                  cases r6 with
                  | cons z zs =>
                    simp [bodyE, bTp, un7]
                  | nil =>
                    have h := h x1 x2 x3 x4 x5 x6 x7
                    have e : bodyE (bTp 7 (bCons b0 (bCons b1 (bCons b2 (bCons b3 (bCons b4 (bCons b5 (bCons b6 bNil)))))))) ff (.lst [x1, x2, x3, x4, x5, x6, x7]) ρ = bodyE b0 (fun ρ1 => bodyE b1 (fun ρ2 => bodyE b2 (fun ρ3 => bodyE b3 (fun ρ4 => bodyE b4 (fun ρ5 => bodyE b5 (fun ρ6 => bodyE b6 ff x7 ρ6) x6 ρ5) x5 ρ4) x4 ρ3) x3 ρ2) x2 ρ1) x1 ρ := by
                      rw [show bodyE (bTp 7 (bCons b0 (bCons b1 (bCons b2 (bCons b3 (bCons b4 (bCons b5 (bCons b6 bNil)))))))) ff (.lst [x1, x2, x3, x4, x5, x6, x7]) ρ = bodyEA (bCons b0 (bCons b1 (bCons b2 (bCons b3 (bCons b4 (bCons b5 (bCons b6 bNil))))))) ff [x1, x2, x3, x4, x5, x6, x7] ρ from rfl, bodyEA_cons]
                      simp only [bodyEA_cons]
                      rfl
                    rw [e, h]
                    rfl
  | _ => rfl
/-! ### expressions -/
section
variable {a b c : Rho → Res D} {A B Cc : Res D} {p q : Rho → Res Bool} {P Q : Res Bool} {as bs : Rho → Res (List D)} {AS BS : Res (List D)} {l h : Rho → Res (Option Int)} {L H : Res (Option Int)} {γ : Type}
theorem e_get {d : D} (h : nth ρ i = some d) : getV i ρ = .ok d := by
  unfold getV
  rw [nth_get h]
theorem e_con {d : D} : conD d ρ = .ok d := rfl
theorem e_bin {f : D → D → Res γ} (ha : a ρ = A) (hb : b ρ = B) : bin f a b ρ = A.bind fun x => B.bind fun y => f x y := by rw [← ha, ← hb]; rfl
theorem e_toB (ha : a ρ = A) : toB a ρ = A.bind asB := by
  rw [← ha]
  unfold toB
  congr 1
theorem e_tru (ha : a ρ = A) : truV a ρ = A.bind dTru := by rw [← ha]; rfl
theorem e_neg (ha : a ρ = A) : negV a ρ = A.bind dNeg := by rw [← ha]; rfl
theorem e_notV (ha : a ρ = A) : notV a ρ = A.bind dNotB := by rw [← ha]; rfl
theorem e_items (ha : a ρ = A) : itemsV a ρ = A.bind dItems := by rw [← ha]; rfl
theorem e_fmt (ha : a ρ = A) : fmtV a ρ = A.bind dFmt := by rw [← ha]; rfl
theorem e_rev (ha : a ρ = A) : revV a ρ = A.bind dRev := by rw [← ha]; rfl
theorem e_own (ha : a ρ = A) : ownItems a ρ = A.bind asLs := by
  rw [← ha]
  unfold ownItems
  congr 1
theorem e_and (hp : p ρ = P) (hq : q ρ = Q) : andB p q ρ = P.bind fun k => if k = true then Q else .ok false := by rw [← hp, ← hq]; rfl
theorem e_or (hp : p ρ = P) (hq : q ρ = Q) : orB p q ρ = P.bind fun k => if k = true then .ok true else Q := by rw [← hp, ← hq]; rfl
theorem e_not (hp : p ρ = P) : notB p ρ = P.bind fun k => .ok (!k) := by rw [← hp]; rfl
theorem e_andV (ha : a ρ = A) (hb : b ρ = B) : andV a b ρ = A.bind fun d => (asB d).bind fun k => if k = true then B else .ok (.bl false) := by
  rw [← ha, ← hb]
  unfold andV
  congr 1
  funext d
  cases d <;> rfl
theorem e_orV (ha : a ρ = A) (hb : b ρ = B) : orV a b ρ = A.bind fun d => (asB d).bind fun k => if k = true then .ok (.bl true) else B := by
  rw [← ha, ← hb]
  unfold orV
  congr 1
  funext d
  cases d <;> rfl
theorem e_if (hp : p ρ = P) (ha : a ρ = A) (hb : b ρ = B) : ifV p a b ρ = P.bind fun k => if k = true then A else B := by rw [← hp, ← ha, ← hb]; rfl
theorem e_chain {f g : D → D → Res D} (ha : a ρ = A) (hb : b ρ = B) (hc : c ρ = Cc) : chainV f g a b c ρ = A.bind fun x => B.bind fun y => (f x y).bind fun z => (asB z).bind fun k => if k = true then Cc.bind fun w => g y w else .ok (.bl false) := by
  rw [← ha, ← hb, ← hc]
  unfold chainV
  congr 1
  funext x
  congr 1
  funext y
  congr 1
  funext z
  cases z <;> rfl
theorem e_noA : noA ρ = .ok [] := rfl
theorem e_consA (ha : a ρ = A) (hs : as ρ = AS) : consA a as ρ = A.bind fun d => AS.bind fun ds => .ok (d :: ds) := by rw [← ha, ← hs]; rfl
theorem e_call {f : List D → Res γ} (hs : as ρ = AS) : callV f as ρ = AS.bind f := by rw [← hs]; rfl
theorem e_callN {f : List D → Res D} (hs : as ρ = AS) : callN f as ρ = AS.bind fun ds => (f ds).bind asLs := by
  rw [← hs]
  unfold callN
  congr 1
  funext ds
  cases f ds with
  | ok d => cases d <;> rfl
  | _ => rfl
theorem e_callB {f : List D → Res D} (hs : as ρ = AS) : callB f as ρ = AS.bind fun ds => noLR (f ds) := by rw [← hs]; rfl
theorem e_lstD (hs : as ρ = AS) : lstD as ρ = AS.bind fun ds => .ok (.lst ds) := by rw [← hs]; rfl
theorem e_lstV (hs : as ρ = AS) : lstV as ρ = AS.bind szR := by rw [← hs]; rfl
theorem e_tup (hs : as ρ = AS) : tupV as ρ = AS.bind fun ds => (szR ds).bind fun ds => .ok (.tup ds) := by
  rw [← hs]
  unfold tupV szR
  congr 1
  funext ds
  split <;> rfl
theorem e_noPart : noPart ρ = .ok none := rfl
theorem e_part (ha : a ρ = A) : toPart a ρ = A.bind asI := by
  rw [← ha]
  unfold toPart
  congr 1
theorem e_sl {f : D → Option Int → Option Int → Res γ} (ha : a ρ = A) (hl : l ρ = L) (hh : h ρ = H) : slV f a l h ρ = A.bind fun x => L.bind fun l => H.bind fun u => f x l u := by rw [← ha, ← hl, ← hh]; rfl
theorem e_meth {n : String} {f : D → List D → Res γ} (ha : a ρ = A) (hs : as ρ = AS) : methV n f a as ρ = A.bind fun d => if d.isTy n = true then AS.bind fun ds => f d ds else .no := by rw [← ha, ← hs]; rfl
theorem e_kd {tab : List (Str × D)} (ha : a ρ = A) : kdV tab a ρ = A.bind fun d => (asS d).bind fun k => lkR tab k := by
  rw [← ha]
  unfold kdV
  congr 1
  funext d
  cases d <;> rfl
theorem e_fsNil : ∀ acc, fsNil acc ρ = fjR [] acc := fun _ => rfl
theorem e_fsCons {r : Str → Rho → Res Str} {G : List (Res D)} (ha : a ρ = A) (hr : ∀ acc, r acc ρ = fjR G acc) : ∀ acc, fsCons a r acc ρ = fjR (A :: G) acc := fun acc => by
  rw [← ha]
  unfold fsCons fjR
  congr 1
  funext d
  cases d with
  | str y =>
    simp only [asS_s, Res.bind_ok]
    split
    · exact hr _
    · rfl
  | _ => rfl
theorem e_fs {r : Str → Rho → Res Str} {G : List (Res D)} (hr : ∀ acc, r acc ρ = fjR G acc) : fsV r ρ = (fjR G Str.empty).bind fun s => .ok (.str s) := by
  unfold fsV
  rw [hr]
theorem e_yes : yesB ρ = .ok true := rfl
theorem lcM_eq {bn : Bnd} {f : Rho → Res D} {F : D → Res D} (hf : ∀ x, bodyE bn f x ρ = F x) : ∀ xs : List D, lcM bn yesB f ρ xs = mapR F xs
  | [] => rfl
  | x :: xs => by
    rw [mapR, ← hf x, ← lcM_eq hf xs, lcM]
    unfold bodyE
    cases bn x ρ <;> rfl
theorem e_comp {bn : Bnd} {f : Rho → Res D} {vs : List Nat} {F : D → Res D} (hs : as ρ = AS) (hf : ∀ x, bodyE bn f x (wipeR ρ vs) = F x) : compV as bn yesB f vs ρ = AS.bind fun xs => (szR xs).bind fun xs => mapR F xs := by
  rw [← hs]
  unfold compV szR
  congr 1
  funext xs
  rw [lcM_eq hf]
  split <;> rfl
theorem lcM_eqF {bn : Bnd} {c : Rho → Res Bool} {f : Rho → Res D} {Cd : D → Res Bool} {F : D → Res D} (hc : ∀ x, bodyE bn c x ρ = Cd x) (hf : ∀ x, bodyE bn f x ρ = F x) : ∀ xs : List D, lcM bn c f ρ xs = filR Cd F xs
  | [] => rfl
  | x :: xs => by
    rw [filR, ← hc x, ← hf x, ← lcM_eqF hc hf xs, lcM]
    unfold bodyE
    cases bn x ρ <;> rfl
theorem e_compF {bn : Bnd} {c : Rho → Res Bool} {f : Rho → Res D} {vs : List Nat} {Cd : D → Res Bool} {F : D → Res D} (hs : as ρ = AS) (hc : ∀ x, bodyE bn c x (wipeR ρ vs) = Cd x) (hf : ∀ x, bodyE bn f x (wipeR ρ vs) = F x) : compV as bn c f vs ρ = AS.bind fun xs => (szR xs).bind fun xs => filR Cd F xs := by
  rw [← hs]
  unfold compV szR
  congr 1
  funext xs
  rw [lcM_eqF hc hf]
  split <;> rfl
theorem lcNM_eq {bn : Bnd} {f : Rho → Res (List D)} {F : D → Res (List D)} (hf : ∀ x, bodyE bn f x ρ = F x) : ∀ xs : List D, lcNM bn f ρ xs = mapR F xs
  | [] => rfl
  | x :: xs => by
    rw [mapR, ← hf x, ← lcNM_eq hf xs, lcNM]
    unfold bodyE
    cases bn x ρ <;> rfl
theorem e_compN {bn : Bnd} {f : Rho → Res (List D)} {vs : List Nat} {F : D → Res (List D)} (hs : as ρ = AS) (hf : ∀ x, bodyE bn f x (wipeR ρ vs) = F x) : compNV as bn f vs ρ = AS.bind fun xs => (szR xs).bind fun xs => mapR F xs := by
  rw [← hs]
  unfold compNV szR
  congr 1
  funext xs
  rw [lcNM_eq hf]
  split <;> rfl
def excR (sub : Str → Str → Bool) (e : Exn) (c : Str) (d : D) : Res D := match d with
  | .exc [] => .ok (.bl (sub e.cls c))
  | _ => .no
@[simp] theorem excR_n {sub : Str → Str → Bool} {e : Exn} {c : Str} : excR sub e c (.exc []) = .ok (.bl (sub e.cls c)) := mk_eq rfl
theorem e_isE {sub : Str → Str → Bool} {e : Exn} {cn : Str} (ha : a ρ = A) : isE sub e cn a ρ = A.bind (excR sub e cn) := by
  rw [← ha]
  unfold isE
  congr 1
end
/-! ### tries -/
theorem sat_calm {P : Res α} {o : Out} {X' : Rho → Prop} (h : Sat X' C P o) (hn : ∀ a o, C a o → noEx o = o) : Sat X C P.calm (noEx o) := by
  cases P with
  | ok a =>
    have h : C a o := h.val
    refine ⟨?_⟩
    show C a (noEx o)
    rw [hn a o h]
    exact h
  | _ => exact ⟨trivial⟩
/-- which suite -/
theorem sat_pick0 {sub : Str → Str → Bool} {e : Exn} (hx : X ρ) : Sat X C (.ex e) (pickS sub e [] ρ) := ⟨ρ, rfl, hx⟩
theorem sat_pick {sub : Str → Str → Bool} {e : Exn} {cn : Str} {g : Exn → Rho → Out} {r : List (Str × (Exn → Rho → Out))} {P Q : Res α} {X' : Rho → Prop} (hn : ∀ a o, C a o → noEx o = o) (h : Sat X' C P (g e ρ)) (h2 : Sat X C Q (pickS sub e r ρ)) : Sat X C (if sub e.cls cn = true then P.calm else Q) (pickS sub e ((cn, g) :: r) ρ) := by
  unfold pickS
  split
  · exact sat_calm h hn
  · exact h2
theorem sat_try {Xt : Rho → Prop} {cl : List Str} {sub : Str → Str → Bool} {f : Rho → Out} {hs : List (Str × (Exn → Rho → Out))} {P : Res α} {H : Exn → Res α} (h : Sat Xt C P (f ρ)) (hn : ∀ a o, C a o → noEx o = o) (hh : ∀ e ρ', Xt ρ' → Sat X C (H e) (pickS sub e hs ρ')) : Sat X C (tryR cl P H) (sTry cl sub f hs ρ) := by
  unfold sTry
  cases P with
  | ok a =>
    have h : C a (f ρ) := h.val
    refine ⟨?_⟩
    show C a _
    have n := hn a _ h
    cases e : f ρ with
    | ex x ρ' =>
      rw [e] at n
      cases n
    | _ =>
      rw [e] at h
      exact h
  | ex e =>
    obtain ⟨ρ', e1, hx⟩ := h.val
    rw [e1]
    show Sat X C (if e.cls ∈ cl then H e else .no) (if e.cls ∈ cl then _ else _)
    split
    · exact hh e ρ' hx
    · exact ⟨trivial⟩
  | no => exact ⟨trivial⟩
theorem sat_tryAs {Xt : Rho → Prop} {cl : List Str} {sub : Str → Str → Bool} {f : Rho → Out} {cn : Str} {g : Exn → Rho → Out} {P : Res α} {H : Exn → Res α} (h : Sat Xt C P (f ρ)) (hn : ∀ a o, C a o → noEx o = o) (hd : ∀ a o, C a o → C a (dropO i o)) (hx : ∀ ρ', Xt ρ' → X ρ') (hh : ∀ e ρ', Xt ρ' → Sat (fun _ => True) C (H e) (g e (ρ'.set i (some (.exc e.fs))))) :
    Sat X C (tryR cl P fun e => if sub e.cls cn = true then (H e).calm else .ex e) (sTryAs cl sub f i cn g ρ) := by
  unfold sTryAs
  cases P with
  | ok a =>
    have h : C a (f ρ) := h.val
    refine ⟨?_⟩
    show C a _
    have n := hn a _ h
    cases e : f ρ with
    | ex x ρ' =>
      rw [e] at n
      cases n
    | _ =>
      rw [e] at h
      exact h
  | ex e =>
    obtain ⟨ρ', e1, hx'⟩ := h.val
    rw [e1]
    show Sat X C (if e.cls ∈ cl then _ else .no) (if e.cls ∈ cl then _ else _)
    split
    · split
      · have h1 := sat_calm (X := X) (hh e ρ' hx') hn
        cases e2 : H e with
        | ok a =>
          rw [e2] at h1
          exact ⟨hd a _ h1.val⟩
        | _ => exact ⟨trivial⟩
      · exact ⟨⟨ρ', rfl, hx _ hx'⟩⟩
    · exact ⟨trivial⟩
  | no => exact ⟨trivial⟩
theorem n_T : ∀ (a : D) o, CT a o → noEx o = o := fun a o h => by
  rcases h with h | ⟨_, ρ, h⟩ <;> rw [h] <;> rfl
theorem n_N {Γ : S → Gb → Rho} : ∀ a o, CN Γ a o → noEx o = o := fun a o ⟨g, h⟩ => by rw [h]; rfl
theorem n_L {Γ : S → Gb → Rho} : ∀ a o, CL Γ a o → noEx o = o := fun a o ⟨g, h⟩ => by rcases h with h | h <;> rw [h] <;> rfl
theorem n_F {Γ : S → Gb → Rho} : ∀ (a : Fl S D) o, CF Γ RT a o → noEx o = o := fun a o h => by
  cases a with
  | nx s => obtain ⟨g, h⟩ := h; rw [h]; rfl
  | ct s => obtain ⟨g, h⟩ := h; rw [h]; rfl
  | bk s => obtain ⟨g, h⟩ := h; rw [h]; rfl
  | rt s => rw [show o = .rt s from h]; rfl
theorem d_T : ∀ (a : D) o, CT a o → CT a (dropO i o) := fun a o h => by
  rcases h with h | ⟨h1, ρ, h⟩
  · rw [h]
    exact .inl rfl
  · rw [h]
    exact .inr ⟨h1, _, rfl⟩
theorem d_N {Γ : S → Gb → Rho} (hi : ∀ s g, ∃ g', (Γ s g).set i none = Γ s g') : ∀ a o, CN Γ a o → CN Γ a (dropO i o) := fun a o ⟨g, h⟩ => by
  rw [h]
  obtain ⟨g', h'⟩ := hi a g
  exact ⟨g', congrArg Out.nx h'⟩
theorem d_L {Γ : S → Gb → Rho} (hi : ∀ s g, ∃ g', (Γ s g).set i none = Γ s g') : ∀ a o, CL Γ a o → CL Γ a (dropO i o) := fun a o ⟨g, h⟩ => by
  obtain ⟨g', h'⟩ := hi a g
  rcases h with h | h <;> rw [h]
  · exact ⟨g', .inl (congrArg Out.nx h')⟩
  · exact ⟨g', .inr (congrArg Out.ct h')⟩
theorem d_F {Γ : S → Gb → Rho} (hi : ∀ s g, ∃ g', (Γ s g).set i none = Γ s g') : ∀ (a : Fl S D) o, CF Γ RT a o → CF Γ RT a (dropO i o) := fun a o h => by
  cases a with
  | nx s => obtain ⟨g, h⟩ := h; obtain ⟨g', h'⟩ := hi s g; rw [h]; exact ⟨g', congrArg Out.nx h'⟩
  | ct s => obtain ⟨g, h⟩ := h; obtain ⟨g', h'⟩ := hi s g; rw [h]; exact ⟨g', congrArg Out.ct h'⟩
  | bk s => obtain ⟨g, h⟩ := h; obtain ⟨g', h'⟩ := hi s g; rw [h]; exact ⟨g', congrArg Out.bk h'⟩
  | rt s => rw [show o = .rt s from h]; exact rfl
/-! ### defs -/
theorem runF_sat {n N : Nat} {m : Rho → Out} {ds : List D} {P : Res D} (hn : ds.length = n) (h : Sat (fun _ => True) CT P (m (startR N ds))) : P = .no ∨ runF n N m ds = P := by
  unfold runF
  rw [if_pos hn]
  cases P with
  | no => exact .inl rfl
  | ok d =>
    rcases h.val with h | ⟨h1, ρ, h⟩
    · rw [h]
      exact .inr rfl
    · rw [h, h1]
      exact .inr rfl
  | ex e =>
    obtain ⟨ρ, h, _⟩ := h.val
    rw [h]
    exact .inr rfl
theorem of_sat {P r : Res D} {d : D} (h : P = .no ∨ r = P) (e : P = .ok d) : r = .ok d := by
  rcases h with h | h
  · rw [h] at e
    cases e
  · rw [h, e]
theorem of_satX {P r : Res D} {x : Exn} (h : P = .no ∨ r = P) (e : P = .ex x) : r = .ex x := by
  rcases h with h | h
  · rw [h] at e
    cases e
  · rw [h, e]
end
end T

set_option Elab.async false
set_option linter.all false
set_option maxRecDepth 100000
set_option maxHeartbeats 4000000
/-! P-layer, part C: more rules; evaluation of plain programs. -/
namespace T
open PySem L2
section
variable {α β S R : Type} {X : Rho → Prop} {C : α → Out → Prop} {ρ : Rho} {i : Nat} {b : Rho → Out}
theorem sat_nm {body : Rho → Out} {x : D} {P : Res α} (h : Sat X C P (body (ρ.set i (some x)))) : Sat X C P (bodyB (bNm i) body x ρ) := h
theorem rt_TL {ΓL : D → Gb → Rho} {r : D × D} {o : Out} (h : RTL ΓL r o) : Sat X (CTL ΓL) (.ok r) o ∧ ∀ ρ', o ≠ .nx ρ' := by
  obtain ⟨g, rfl⟩ := h
  exact ⟨⟨.inl ⟨g, rfl⟩⟩, fun ρ' z => nomatch z⟩
theorem rt_FL {Γ : S → Gb → Rho} {ΓL : D → Gb → Rho} {r : D × D} {o : Out} (h : RTL ΓL r o) : Sat X (CF Γ (RTL ΓL)) (.ok (.rt r)) o ∧ ∀ ρ', o ≠ .nx ρ' := by
  obtain ⟨g, rfl⟩ := h
  exact ⟨⟨⟨g, rfl⟩⟩, fun ρ' z => nomatch z⟩
theorem rt_no {RC : R → Out → Prop} {r : R} {o : Out} (hr : ∀ r o, RC r o → (∃ d, o = .rt d) ∨ ∃ d ρ, o = .rl d ρ) (h : RC r o) : Sat X C (.no : Res α) o ∧ ∀ ρ', o ≠ .nx ρ' := by
  refine ⟨⟨trivial⟩, fun ρ' z => ?_⟩
  rcases hr r o h with ⟨d, e⟩ | ⟨d, ρ, e⟩ <;> rw [e] at z <;> cases z
end
end T

set_option Elab.async false
set_option linter.all false
set_option maxRecDepth 100000
set_option maxHeartbeats 4000000
/-! P-layer, part D: evaluation of plain programs by simp. -/
namespace T
open PySem L2
section
variable {α β γ δ S R : Type} {x y : Int} {a b c d e f : D} {xs ys : List D} {l : List D}
@[simp] theorem rbind_assoc {A : Res α} {h : α → Res β} {k : β → Res γ} : (A.bind h).bind k = A.bind fun a => (h a).bind k := bind_assoc
@[simp] theorem rite_ok {p : Prop} [Decidable p] {a b : α} : (if p then Res.ok a else Res.ok b) = Res.ok (if p then a else b) := by split <;> rfl
@[simp] theorem ite_int {p : Prop} [Decidable p] : (if p then D.int x else D.int y) = D.int (if p then x else y) := by split <;> rfl
@[simp] theorem ite_bl {p : Prop} [Decidable p] {x y : Bool} : (if p then D.bl x else D.bl y) = D.bl (if p then x else y) := by split <;> rfl
@[simp] theorem ite_str {p : Prop} [Decidable p] {x y : Str} : (if p then D.str x else D.str y) = D.str (if p then x else y) := by split <;> rfl
theorem bind_ite {p : Prop} [Decidable p] {A B : Res α} {k : α → Res β} : (if p then A else B).bind k = if p then A.bind k else B.bind k := by split <;> rfl
/-! sizes -/
theorem size_line : sizeLine = 16777216 := by decide
@[simp] theorem ite_size {n : Nat} {A B : α} (h : n ≤ 16777216) : (if n ≤ sizeLine then A else B) = A := if_pos (by rw [size_line]; exact h)
@[simp] theorem ite_sizeL {n : Nat} {A B : α} (h : n < 16777216) : (if n < sizeLine then A else B) = A := if_pos (by rw [size_line]; exact h)
@[simp] theorem szR_ok {xs : List α} (h : xs.length ≤ 16777216) : szR xs = .ok xs := by unfold szR; rw [ite_size h]
@[simp] theorem pushR_ok (h : xs.length < 16777216) : pushR xs d = .ok (.lst (xs ++ [d])) := by unfold pushR; rw [ite_sizeL h]
@[simp] theorem extR_ok (h : xs.length + ys.length ≤ 16777216) : extR xs (.lst ys) = .ok (.lst (xs ++ ys)) := by unfold extR; simp only; rw [ite_size h]
/-! arithmetic -/
@[simp] theorem dMod_k (h : 0 < y) : dMod (.int x) (.int y) = .ok (.int (x % y)) := dMod_ok h
theorem pos_log {k : Int} (h : 0 < k) (h' : k ≤ 1000000000000) : 0 < k ∧ k.natAbs.log2 < 9000 := ⟨h, by
  have h2 : k.natAbs < 2 ^ 9000 := Nat.lt_of_le_of_lt (m := 1000000000000) (by omega) (Nat.lt_of_lt_of_le (by decide : 1000000000000 < 2 ^ 40) (Nat.pow_le_pow_right (by decide) (by decide)))
  exact (Nat.log2_lt (by omega)).mpr h2⟩
@[simp] theorem dDiv_k (h : 0 < y) (h' : y ≤ 1000000000000) : dDiv (.int x) (.int y) = .ok (.int (x / y)) := dDiv_ok (pos_log h h')
theorem cm_ss (h1 : -(2 ^ 64) < x) (h2 : x < 2 ^ 64) (h3 : -(2 ^ 64) < y) (h4 : y < 2 ^ 64) : CMulX x y := T.Fits.mul (fits_small h1 h2) (fits_small h3 h4) (by decide)
/-- at most some millions of bits -/
def Wd (x : Int) : Prop := Fits 2000000 x
theorem Wd.small (h1 : -(2 ^ 64) < x) (h2 : x < 2 ^ 64) : Wd x := (fits_small h1 h2).mono (by decide)
theorem Wd.of {n : Nat} (h : Fits n x) (hn : n ≤ 2000000) : Wd x := h.mono hn
theorem Wd.div (h : Wd x) (h0 : 0 ≤ x) (k : Int) (hk : 0 < k) : Wd (x / k) := by
  unfold Wd T.Fits at *
  have h1 : x / k ≤ x := Int.ediv_le_self k h0
  have h2 : 0 ≤ x / k := Int.ediv_nonneg h0 (by omega)
  omega
theorem cm_ww (h : Wd x) (h' : Wd y) : CMulX x y := T.Fits.mul h h' (by decide)
theorem cm_sw (h1 : -(2 ^ 64) < x) (h2 : x < 2 ^ 64) (h : Wd y) : CMulX x y := cm_ww (.small h1 h2) h
theorem cm_ws (h : Wd x) (h1 : -(2 ^ 64) < y) (h2 : y < 2 ^ 64) : CMulX x y := cm_ww h (.small h1 h2)
@[simp] theorem dMul_k (h : CMulX x y) : dMul (.int x) (.int y) = .ok (.int (x * y)) := dMul_ok h
@[simp] theorem dInt_b {p : Bool} : dInt [.bl p] = .ok (.int (if p then 1 else 0)) := mk_eq rfl
/-! None -/
@[simp] theorem isNon_n : D.non.isNon = true := mk_eq rfl
@[simp] theorem isNon_i : (D.int x).isNon = false := mk_eq rfl
@[simp] theorem isNon_b {p : Bool} : (D.bl p).isNon = false := mk_eq rfl
@[simp] theorem isNon_s {s : Str} : (D.str s).isNon = false := mk_eq rfl
@[simp] theorem isNon_l : (D.lst xs).isNon = false := mk_eq rfl
@[simp] theorem isNon_t : (D.tup xs).isNon = false := mk_eq rfl
@[simp] theorem isNon_d {kvs : List (D × D)} : (D.dct kvs).isNon = false := mk_eq rfl
@[simp] theorem isNon_o {n : Nat} : (D.ins n xs).isNon = false := mk_eq rfl
/-! subscripts -/
theorem atI_nat {xs : List α} {i : Nat} {x : α} (h : xs[i]? = some x) : atI xs (i : Int) = some x := by
  have hl := (List.getElem?_eq_some_iff.mp h).1
  unfold atI ixN
  rw [if_pos (by omega), if_pos (by omega)]
  simpa using h
theorem atI_z {xs : List α} {z : Int} {i : Nat} {x : α} (e : z = (i : Int)) (h : xs[i]? = some x) : atI xs z = some x := by rw [e]; exact atI_nat h
@[simp] theorem dIx_t0 {a0 : D} : dIx (.tup (a0 :: l)) (.int 0) = .ok a0 := dIx_t (atI_nat (i := 0) rfl)
@[simp] theorem dIx_t1 {a0 a1 : D} : dIx (.tup (a0 :: a1 :: l)) (.int 1) = .ok a1 := dIx_t (atI_nat (i := 1) rfl)
@[simp] theorem dIx_t2 {a0 a1 a2 : D} : dIx (.tup (a0 :: a1 :: a2 :: l)) (.int 2) = .ok a2 := dIx_t (atI_nat (i := 2) rfl)
@[simp] theorem dIx_t3 {a0 a1 a2 a3 : D} : dIx (.tup (a0 :: a1 :: a2 :: a3 :: l)) (.int 3) = .ok a3 := dIx_t (atI_nat (i := 3) rfl)
@[simp] theorem dIx_t4 {a0 a1 a2 a3 a4 : D} : dIx (.tup (a0 :: a1 :: a2 :: a3 :: a4 :: l)) (.int 4) = .ok a4 := dIx_t (atI_nat (i := 4) rfl)
@[simp] theorem dIx_t5 {a0 a1 a2 a3 a4 a5 : D} : dIx (.tup (a0 :: a1 :: a2 :: a3 :: a4 :: a5 :: l)) (.int 5) = .ok a5 := dIx_t (atI_nat (i := 5) rfl)
@[simp] theorem dIx_t6 {a0 a1 a2 a3 a4 a5 a6 : D} : dIx (.tup (a0 :: a1 :: a2 :: a3 :: a4 :: a5 :: a6 :: l)) (.int 6) = .ok a6 := dIx_t (atI_nat (i := 6) rfl)
@[simp] theorem dIx_t7 {a0 a1 a2 a3 a4 a5 a6 a7 : D} : dIx (.tup (a0 :: a1 :: a2 :: a3 :: a4 :: a5 :: a6 :: a7 :: l)) (.int 7) = .ok a7 := dIx_t (atI_nat (i := 7) rfl)
@[simp] theorem dIx_t8 {a0 a1 a2 a3 a4 a5 a6 a7 a8 : D} : dIx (.tup (a0 :: a1 :: a2 :: a3 :: a4 :: a5 :: a6 :: a7 :: a8 :: l)) (.int 8) = .ok a8 := dIx_t (atI_nat (i := 8) rfl)
@[simp] theorem dIx_t9 {a0 a1 a2 a3 a4 a5 a6 a7 a8 a9 : D} : dIx (.tup (a0 :: a1 :: a2 :: a3 :: a4 :: a5 :: a6 :: a7 :: a8 :: a9 :: l)) (.int 9) = .ok a9 := dIx_t (atI_nat (i := 9) rfl)
@[simp] theorem dIx_l0 {a0 : D} : dIx (.lst (a0 :: l)) (.int 0) = .ok a0 := dIx_l (atI_nat (i := 0) rfl)
@[simp] theorem dIx_l1 {a0 a1 : D} : dIx (.lst (a0 :: a1 :: l)) (.int 1) = .ok a1 := dIx_l (atI_nat (i := 1) rfl)
@[simp] theorem dIx_l2 {a0 a1 a2 : D} : dIx (.lst (a0 :: a1 :: a2 :: l)) (.int 2) = .ok a2 := dIx_l (atI_nat (i := 2) rfl)
@[simp] theorem dIx_l3 {a0 a1 a2 a3 : D} : dIx (.lst (a0 :: a1 :: a2 :: a3 :: l)) (.int 3) = .ok a3 := dIx_l (atI_nat (i := 3) rfl)
@[simp] theorem dIx_l4 {a0 a1 a2 a3 a4 : D} : dIx (.lst (a0 :: a1 :: a2 :: a3 :: a4 :: l)) (.int 4) = .ok a4 := dIx_l (atI_nat (i := 4) rfl)
@[simp] theorem dIx_l5 {a0 a1 a2 a3 a4 a5 : D} : dIx (.lst (a0 :: a1 :: a2 :: a3 :: a4 :: a5 :: l)) (.int 5) = .ok a5 := dIx_l (atI_nat (i := 5) rfl)
@[simp] theorem dIx_l6 {a0 a1 a2 a3 a4 a5 a6 : D} : dIx (.lst (a0 :: a1 :: a2 :: a3 :: a4 :: a5 :: a6 :: l)) (.int 6) = .ok a6 := dIx_l (atI_nat (i := 6) rfl)
@[simp] theorem dIx_l7 {a0 a1 a2 a3 a4 a5 a6 a7 : D} : dIx (.lst (a0 :: a1 :: a2 :: a3 :: a4 :: a5 :: a6 :: a7 :: l)) (.int 7) = .ok a7 := dIx_l (atI_nat (i := 7) rfl)
@[simp] theorem dIx_l8 {a0 a1 a2 a3 a4 a5 a6 a7 a8 : D} : dIx (.lst (a0 :: a1 :: a2 :: a3 :: a4 :: a5 :: a6 :: a7 :: a8 :: l)) (.int 8) = .ok a8 := dIx_l (atI_nat (i := 8) rfl)
@[simp] theorem dIx_l9 {a0 a1 a2 a3 a4 a5 a6 a7 a8 a9 : D} : dIx (.lst (a0 :: a1 :: a2 :: a3 :: a4 :: a5 :: a6 :: a7 :: a8 :: a9 :: l)) (.int 9) = .ok a9 := dIx_l (atI_nat (i := 9) rfl)
/-- of a list of one kind, at a place that is told -/
theorem dIx_lz {h : α → D} {xs : List α} {z : Int} {i : Nat} {v : α} (e : z = (i : Int)) (hv : xs[i]? = some v) : dIx (.lst (xs.map h)) (.int z) = .ok (h v) := dIx_l (atI_z e (by rw [List.getElem?_map, hv]; rfl))
theorem dIx_tz {h : α → D} {xs : List α} {z : Int} {i : Nat} {v : α} (e : z = (i : Int)) (hv : xs[i]? = some v) : dIx (.tup (xs.map h)) (.int z) = .ok (h v) := dIx_t (atI_z e (by rw [List.getElem?_map, hv]; rfl))
@[simp] theorem dIx_ln {h : α → D} {xs : List α} {i : Nat} (hi : i < xs.length) : dIx (.lst (xs.map h)) (.int (i : Int)) = .ok (h (xs[i]'hi)) := dIx_lz rfl (List.getElem?_eq_getElem hi)
@[simp] theorem dIx_tn {h : α → D} {xs : List α} {i : Nat} (hi : i < xs.length) : dIx (.tup (xs.map h)) (.int (i : Int)) = .ok (h (xs[i]'hi)) := dIx_tz rfl (List.getElem?_eq_getElem hi)
@[simp] theorem dIx_li {h : Int → D} {xs : List Int} {z : Int} (h0 : 0 ≤ z) (h1 : z < xs.length) : dIx (.lst (xs.map h)) (.int z) = .ok (h (xs.getD z.toNat 0)) := dIx_lz (i := z.toNat) (by omega) (by
  rw [List.getD_eq_getElem?_getD, List.getElem?_eq_getElem (by omega)]
  rfl)
/-! cuts -/
theorem cut_01 {x : α} {xs : List α} : cutL (x :: xs) (some 1) none = xs := (cut_from (x :: xs) 1 1 rfl (by simp)).trans rfl
@[simp] theorem dSl_t1 : dSl (.tup (a :: l)) (some 1) none = .ok (.tup l) := by rw [dSl_t, cut_01]
@[simp] theorem dSl_l1 : dSl (.lst (a :: l)) (some 1) none = .ok (.lst l) := by rw [dSl_l, cut_01]
/-! folds, comprehensions -/
@[simp] theorem foldR_nil {f : S → γ → Res S} {s : S} : foldR f [] s = .ok s := mk_eq rfl
@[simp] theorem foldR_cons {f : S → γ → Res S} {s : S} {x : γ} {xs : List γ} : foldR f (x :: xs) s = (f s x).bind fun s' => foldR f xs s' := mk_eq rfl
@[simp] theorem foldR_map {f : S → γ → Res S} {h : δ → γ} : ∀ {xs : List δ} {s : S}, foldR f (xs.map h) s = foldR (fun s x => f s (h x)) xs s
  | [], _ => rfl
  | x :: xs, s => by
    simp only [List.map_cons, foldR_cons]
    congr 1
    funext s'
    exact foldR_map
theorem foldR_append {f : S → γ → Res S} : ∀ {xs ys : List γ} {s : S}, foldR f (xs ++ ys) s = (foldR f xs s).bind fun s' => foldR f ys s'
  | [], _, _ => rfl
  | x :: xs, ys, s => by
    simp only [List.cons_append, foldR_cons, rbind_assoc]
    congr 1
    funext s'
    exact foldR_append
/-- E: how a state of the model is kept -/
theorem foldR_enc {σ : Type} {f : S → γ → Res S} {E : σ → S} {g : σ → γ → σ} : ∀ {xs : List γ} {s : σ}, (∀ s x, x ∈ xs → f (E s) x = .ok (E (g s x))) → foldR f xs (E s) = .ok (E (xs.foldl g s))
  | [], _, _ => rfl
  | x :: xs, s, h => by
    rw [foldR_cons, h s x List.mem_cons_self, Res.bind_ok, foldR_enc (fun s y hy => h s y (List.mem_cons_of_mem _ hy)), List.foldl_cons]
theorem foldR_inv {f : S → γ → Res S} (I : Nat → S → Prop) : ∀ {xs : List γ} {s : S} {k : Nat}, (∀ (i : Nat) s x, xs[i]? = some x → I (k + i) s → ∃ s', f s x = .ok s' ∧ I (k + i + 1) s') → I k s → ∃ s', foldR f xs s = .ok s' ∧ I (k + xs.length) s'
  | [], s, k, _, h0 => ⟨s, rfl, h0⟩
  | x :: xs, s, k, h, h0 => by
    obtain ⟨s1, e1, h1⟩ := h 0 s x rfl h0
    obtain ⟨s2, e2, h2⟩ := foldR_inv I (xs := xs) (s := s1) (k := k + 1) (fun i s y hy hi => by
      have := h (i + 1) s y (by simpa using hy) (by rw [show k + (i + 1) = k + 1 + i by omega]; exact hi)
      rw [show k + (i + 1) + 1 = k + 1 + i + 1 by omega] at this
      exact this) h1
    exact ⟨s2, by rw [foldR_cons, e1, Res.bind_ok, e2], by rw [List.length_cons, show k + (xs.length + 1) = k + 1 + xs.length by omega]; exact h2⟩
/-- by an invariant over the turn -/
theorem foldR_I {f : S → γ → Res S} (I : Nat → S → Prop) {xs : List γ} {s : S} (h : ∀ (i : Nat) s x, xs[i]? = some x → I i s → ∃ s', f s x = .ok s' ∧ I (i + 1) s') (h0 : I 0 s) : ∃ s', foldR f xs s = .ok s' ∧ I xs.length s' := by
  have := foldR_inv I (xs := xs) (s := s) (k := 0) (fun i s x hx hi => by
    rw [Nat.zero_add] at hi ⊢
    exact h i s x hx hi) h0
  rwa [Nat.zero_add] at this
/-- a loop that makes a list longer -/
theorem fold_app {f : D → γ → Res D} {row : γ → List D} (N : Nat) (hf : ∀ (acc : List D) (x : γ), acc.length + (row x).length ≤ N → f (.lst acc) x = .ok (.lst (acc ++ row x))) : ∀ (xs : List γ) (acc : List D), acc.length + ((xs.map row).flatten).length ≤ N → foldR f xs (.lst acc) = .ok (.lst (acc ++ (xs.map row).flatten))
  | [], acc, _ => by simp
  | x :: xs, acc, h => by
    rw [List.map_cons, List.flatten_cons, List.length_append] at h
    rw [foldR_cons, hf acc x (by omega), Res.bind_ok, fold_app N hf xs (acc ++ row x) (by rw [List.length_append]; omega)]
    simp
theorem fold_push {f : D → γ → Res D} {g : γ → D} (N : Nat) (hf : ∀ (acc : List D) (x : γ), acc.length < N → f (.lst acc) x = .ok (.lst (acc ++ [g x]))) : ∀ (xs : List γ) (acc : List D), acc.length + xs.length ≤ N → foldR f xs (.lst acc) = .ok (.lst (acc ++ xs.map g))
  | [], acc, _ => by simp
  | x :: xs, acc, h => by
    rw [List.length_cons] at h
    rw [foldR_cons, hf acc x (by omega), Res.bind_ok, fold_push N hf xs (acc ++ [g x]) (by rw [List.length_append, List.length_singleton]; omega)]
    simp
@[simp] theorem foldF_nil {f : S → γ → Res (Fl S R)} {s : S} : foldF f [] s = .ok (.nx s) := mk_eq rfl
@[simp] theorem foldF_cons {f : S → γ → Res (Fl S R)} {s : S} {x : γ} {xs : List γ} : foldF f (x :: xs) s = (f s x).bind fun r => r.all (fun s' => foldF f xs s') (fun s' => foldF f xs s') (fun s' => .ok (.nx s')) (fun d => .ok (.rt d)) := mk_eq rfl
@[simp] theorem foldF_map {f : S → γ → Res (Fl S R)} {h : δ → γ} : ∀ {xs : List δ} {s : S}, foldF f (xs.map h) s = foldF (fun s x => f s (h x)) xs s
  | [], _ => rfl
  | x :: xs, s => by
    simp only [List.map_cons, foldF_cons]
    congr 1
    funext r
    cases r with
    | nx s' => exact foldF_map
    | ct s' => exact foldF_map
    | _ => rfl
@[simp] theorem mapR_nil {f : γ → Res α} : mapR f [] = .ok [] := mk_eq rfl
theorem mapR_cons {f : γ → Res α} {x : γ} {xs : List γ} : mapR f (x :: xs) = (f x).calm.bind fun y => (mapR f xs).bind fun ys => .ok (y :: ys) := mk_eq rfl
@[simp] theorem mapR_map {f : γ → Res α} {h : δ → γ} : ∀ {xs : List δ}, mapR f (xs.map h) = mapR (fun x => f (h x)) xs
  | [] => rfl
  | x :: xs => by simp only [List.map_cons, mapR_cons, mapR_map]
theorem mapR_ok {f : γ → Res α} {g : γ → α} : ∀ {xs : List γ}, (∀ x ∈ xs, f x = .ok (g x)) → mapR f xs = .ok (xs.map g)
  | [], _ => rfl
  | x :: xs, h => by rw [mapR_cons, h x List.mem_cons_self, Res.calm_ok, Res.bind_ok, mapR_ok fun y hy => h y (List.mem_cons_of_mem _ hy)]; rfl
@[simp] theorem mapR_pure {g : γ → α} {xs : List γ} : mapR (fun x => .ok (g x)) xs = .ok (xs.map g) := mapR_ok fun _ _ => rfl
/-- each element is some P -/
theorem mapR_ex {f : γ → Res α} {h : β → α} {P : γ → β → Prop} : ∀ {xs : List γ}, (∀ x ∈ xs, ∃ y, P x y ∧ f x = .ok (h y)) → ∃ ys : List β, ys.length = xs.length ∧ (∀ y ∈ ys, ∃ x ∈ xs, P x y) ∧ (∀ (i : Nat) (x : γ) (y : β), xs[i]? = some x → ys[i]? = some y → P x y) ∧ mapR f xs = .ok (ys.map h)
  | [], _ => ⟨[], rfl, by simp, by simp, rfl⟩
  | x :: xs, H => by
    obtain ⟨y, hp, e⟩ := H x List.mem_cons_self
    obtain ⟨ys, h1, h2, h3, h4⟩ := mapR_ex fun z hz => H z (List.mem_cons_of_mem _ hz)
    refine ⟨y :: ys, by simp [h1], fun z hz => ?_, fun i a b ha hb => ?_, ?_⟩
    · rcases List.mem_cons.mp hz with rfl | hz
      · exact ⟨x, List.mem_cons_self, hp⟩
      · obtain ⟨w, hw, p⟩ := h2 z hz
        exact ⟨w, List.mem_cons_of_mem _ hw, p⟩
    · cases i with
      | zero =>
        cases ha
        cases hb
        exact hp
      | succ i => exact h3 i a b (by simpa using ha) (by simpa using hb)
    · rw [mapR_cons, e, Res.calm_ok, Res.bind_ok, h4]
      rfl
theorem filR_cons {c : γ → Res Bool} {f : γ → Res α} {x : γ} {xs : List γ} : filR c f (x :: xs) = (c x).calm.bind fun k => if k = true then (f x).calm.bind fun y => (filR c f xs).bind fun ys => .ok (y :: ys) else filR c f xs := mk_eq rfl
@[simp] theorem filR_map {c : γ → Res Bool} {f : γ → Res α} {h : δ → γ} : ∀ {xs : List δ}, filR c f (xs.map h) = filR (fun x => c (h x)) (fun x => f (h x)) xs
  | [] => rfl
  | x :: xs => by simp only [List.map_cons, filR_cons, filR_map]
theorem filR_ok {c : γ → Res Bool} {f : γ → Res α} {p : γ → Bool} {g : γ → α} : ∀ {xs : List γ}, (∀ x ∈ xs, c x = .ok (p x)) → (∀ x ∈ xs, p x = true → f x = .ok (g x)) → filR c f xs = .ok ((xs.filter p).map g)
  | [], _, _ => rfl
  | x :: xs, h, h2 => by
    rw [filR_cons, h x List.mem_cons_self, Res.calm_ok, Res.bind_ok, filR_ok (fun y hy => h y (List.mem_cons_of_mem _ hy)) fun y hy => h2 y (List.mem_cons_of_mem _ hy)]
    cases e : p x with
    | true =>
      rw [if_pos rfl, h2 x List.mem_cons_self e, List.filter_cons_of_pos e]
      rfl
    | false => rw [if_neg Bool.false_ne_true, List.filter_cons_of_neg (by simp [e])]
@[simp] theorem filR_pure {p : γ → Bool} {g : γ → α} {xs : List γ} : filR (fun x => .ok (p x)) (fun x => .ok (g x)) xs = .ok ((xs.filter p).map g) := filR_ok (fun _ _ => rfl) fun _ _ _ => rfl
theorem whileR_s {c : S → Res Bool} {f : S → Res S} {n : Nat} {s : S} : whileR c f (n + 1) s = (c s).bind fun k => if k = true then (f s).bind fun s' => whileR c f n s' else .ok s := mk_eq rfl
theorem whileF_s {c : S → Res Bool} {f : S → Res (Fl S R)} {n : Nat} {s : S} : whileF c f (n + 1) s = (c s).bind fun k => if k = true then (f s).bind fun r => r.all (fun s' => whileF c f n s') (fun s' => whileF c f n s') (fun s' => .ok (.nx s')) (fun d => .ok (.rt d)) else .ok (.nx s) := mk_eq rfl
/-- a while by a measure: P what holds behind it -/
theorem whileR_I {c : S → Res Bool} {f : S → Res S} (I : S → Prop) (m : S → Nat) (h : ∀ s, I s → c s = .ok false ∨ (c s = .ok true ∧ ∃ s', f s = .ok s' ∧ I s' ∧ m s' < m s)) : ∀ (n : Nat) (s : S), I s → m s < n → ∃ s', whileR c f n s = .ok s' ∧ I s' ∧ c s' = .ok false
  | 0, _, _, hn => by omega
  | n + 1, s, hI, hn => by
    rw [whileR_s]
    rcases h s hI with e | ⟨e, s', e2, h1, h2⟩
    · exact ⟨s, by rw [e]; rfl, hI, e⟩
    · obtain ⟨s2, h3, h4, h5⟩ := whileR_I I m h n s' h1 (by omega)
      exact ⟨s2, by rw [e, Res.bind_ok, if_pos rfl, e2, Res.bind_ok, h3], h4, h5⟩
/-! ranges -/
theorem rng1 {n : Nat} (h : n ≤ 1000000000) : dRng1 [.int (n : Int)] = .ok ((List.range n).map fun (i : Nat) => D.int i) := by
  unfold dRng1
  simp only
  rw [if_pos (by omega)]
  simp [upFrom]
@[simp] theorem rng1_z {z : Int} (h : 0 ≤ z) (h' : z ≤ 1000000000) : dRng1 [.int z] = .ok ((List.range z.toNat).map fun (i : Nat) => D.int i) := by
  have := rng1 (n := z.toNat) (by omega)
  rwa [Int.toNat_of_nonneg h] at this
@[simp] theorem rng2_z {z w : Int} (h : -1000000000 ≤ z) (h1 : z ≤ 1000000000) (h2 : -1000000000 ≤ w) (h' : w ≤ 1000000000) : dRng2 [.int z, .int w] = .ok ((List.range (w - z).toNat).map fun (i : Nat) => D.int (z + i)) := by
  unfold dRng2
  simp only
  rw [if_pos (by omega)]
  rfl
/-! all, any, sum -/
theorem bools_of {p : α → Bool} (xs : List α) : D.bools (xs.map fun x => D.bl (p x)) = some (xs.map p) := by
  have := bools_map (xs.map p)
  rwa [List.map_map] at this
theorem ints_of {p : α → Int} (xs : List α) : D.ints (xs.map fun x => D.int (p x)) = some (xs.map p) := by
  have := ints_map (xs.map p)
  rwa [List.map_map] at this
theorem strs_of {p : α → Str} (xs : List α) : D.strs (xs.map fun x => D.str (p x)) = some (xs.map p) := by
  have := strs_map (xs.map p)
  rwa [List.map_map] at this
@[simp] theorem dAll_p {p : α → Bool} {xs : List α} : dAll [.lst (xs.map fun x => D.bl (p x))] = .ok (.bl (xs.all p)) := by
  show (match D.bools (xs.map fun x => D.bl (p x)) with | some bs => Res.ok (D.bl (bs.all id)) | none => .no) = _
  rw [bools_of]
  simp [List.all_map]
@[simp] theorem dAny_p {p : α → Bool} {xs : List α} : dAny [.lst (xs.map fun x => D.bl (p x))] = .ok (.bl (xs.any p)) := by
  show (match D.bools (xs.map fun x => D.bl (p x)) with | some bs => Res.ok (D.bl (bs.any id)) | none => .no) = _
  rw [bools_of]
  simp [List.any_map]
@[simp] theorem dSum_p {p : α → Int} {xs : List α} : dSum [.lst (xs.map fun x => D.int (p x))] = .ok (.int (xs.map p).sum) := by
  show (match D.ints (xs.map fun x => D.int (p x)) with | some bs => Res.ok (D.int bs.sum) | none => .no) = _
  rw [ints_of]
@[simp] theorem dSum_i {xs : List Int} : dSum [.lst (xs.map D.int)] = .ok (.int xs.sum) := by
  show (match D.ints (xs.map D.int) with | some bs => Res.ok (D.int bs.sum) | none => .no) = _
  rw [ints_map]
/-! texts -/
theorem ofString_inj {s t : String} (h : Str.ofString s = Str.ofString t) : s = t := by
  rw [Str.ofString_eq_toList, Str.ofString_eq_toList] at h
  have h1 := congrArg (fun x : Str => x.cps.toList) h
  simp only [List.toList_toArray] at h1
  have h2 := List.map_inj_right (f := Char.toNat) (fun a b hab => Char.ext (UInt32.toNat_inj.mp hab)) |>.mp h1
  exact String.toList_inj.mp h2
@[simp] theorem str_lit {s t : String} : ((s : Str) = (t : Str)) = (s = t) := propext ⟨ofString_inj, fun h => by rw [h]⟩
/-! equality -/
theorem dEq_enc {h : α → D} [DecidableEq α] (hd : ∀ a, D.dat 60 (h a) = true) (he : ∀ a b, (h a).eqb (h b) = decide (a = b)) (a b : α) : dEq (h a) (h b) = .ok (.bl (decide (a = b))) := by rw [dEq_d (hd a) (hd b), he]
theorem dNe_enc {h : α → D} [DecidableEq α] (hd : ∀ a, D.dat 60 (h a) = true) (he : ∀ a b, (h a).eqb (h b) = decide (a = b)) (a b : α) : dNe (h a) (h b) = .ok (.bl (!decide (a = b))) := by rw [dNe_d (hd a) (hd b), he]
theorem dEq_ints {xs ys : List Int} : dEq (.lst (xs.map D.int)) (.lst (ys.map D.int)) = .ok (.bl (decide (xs = ys))) := by
  rw [dEq_d (by simp) (by simp)]
  show Res.ok (D.bl (D.eqbA _ _)) = _
  rw [eqbA_ints]
theorem dNe_ints {xs ys : List Int} : dNe (.lst (xs.map D.int)) (.lst (ys.map D.int)) = .ok (.bl (!decide (xs = ys))) := by
  rw [dNe_d (by simp) (by simp)]
  show Res.ok (D.bl (!D.eqbA _ _)) = _
  rw [eqbA_ints]
@[simp] theorem dEq_same (h : D.dat 60 d = true) : dEq d d = .ok (.bl true) := dEq_self h
@[simp] theorem dNe_same (h : D.dat 60 d = true) : dNe d d = .ok (.bl false) := dNe_self h
@[simp] theorem dEq_tt {xs ys : List D} (h : D.datA 59 xs = true) (h' : D.datA 59 ys = true) : dEq (.tup xs) (.tup ys) = .ok (.bl (D.eqbA xs ys)) := (dEq_d (by simpa using h) (by simpa using h')).trans rfl
@[simp] theorem dNe_tt {xs ys : List D} (h : D.datA 59 xs = true) (h' : D.datA 59 ys = true) : dNe (.tup xs) (.tup ys) = .ok (.bl (!D.eqbA xs ys)) := (dNe_d (by simpa using h) (by simpa using h')).trans rfl
@[simp] theorem dEq_ll {xs ys : List D} (h : D.datA 59 xs = true) (h' : D.datA 59 ys = true) : dEq (.lst xs) (.lst ys) = .ok (.bl (D.eqbA xs ys)) := (dEq_d (by simpa using h) (by simpa using h')).trans rfl
@[simp] theorem dNe_ll {xs ys : List D} (h : D.datA 59 xs = true) (h' : D.datA 59 ys = true) : dNe (.lst xs) (.lst ys) = .ok (.bl (!D.eqbA xs ys)) := (dNe_d (by simpa using h) (by simpa using h')).trans rfl
@[simp] theorem dEq_nt {xs : List D} (h : D.datA 59 xs = true) : dEq .non (.tup xs) = .ok (.bl false) := (dEq_d (by simp) (by simpa using h)).trans rfl
@[simp] theorem dEq_tn {xs : List D} (h : D.datA 59 xs = true) : dEq (.tup xs) .non = .ok (.bl false) := (dEq_d (by simpa using h) (by simp)).trans rfl
@[simp] theorem dNe_nt {xs : List D} (h : D.datA 59 xs = true) : dNe .non (.tup xs) = .ok (.bl true) := (dNe_d (by simp) (by simpa using h)).trans rfl
@[simp] theorem dNe_tn {xs : List D} (h : D.datA 59 xs = true) : dNe (.tup xs) .non = .ok (.bl true) := (dNe_d (by simpa using h) (by simp)).trans rfl
@[simp] theorem eqbA_nn : D.eqbA [] [] = true := by simp [D.eqbA]
@[simp] theorem eqbA_cn {x : D} {xs : List D} : D.eqbA (x :: xs) [] = false := by simp [D.eqbA]
@[simp] theorem eqbA_nc {x : D} {xs : List D} : D.eqbA [] (x :: xs) = false := by simp [D.eqbA]
@[simp] theorem eqbA_cc {x y : D} {xs ys : List D} : D.eqbA (x :: xs) (y :: ys) = (x.eqb y && D.eqbA xs ys) := by simp [D.eqbA]
@[simp] theorem eqbA_ii {xs ys : List Int} : D.eqbA (xs.map D.int) (ys.map D.int) = decide (xs = ys) := eqbA_ints xs ys
@[simp] theorem eqb_ii : (D.int x).eqb (.int y) = decide (x = y) := eqb_int x y
@[simp] theorem eqb_ss {s t : Str} : (D.str s).eqb (.str t) = decide (s = t) := eqb_str s t
@[simp] theorem eqb_tt {xs ys : List D} : (D.tup xs).eqb (.tup ys) = D.eqbA xs ys := mk_eq rfl
@[simp] theorem eqb_ll {xs ys : List D} : (D.lst xs).eqb (.lst ys) = D.eqbA xs ys := mk_eq rfl
@[simp] theorem eqb_nn : D.non.eqb .non = true := mk_eq rfl
@[simp] theorem eqb_ni : D.non.eqb (.int x) = false := mk_eq rfl
@[simp] theorem eqb_in : (D.int x).eqb .non = false := mk_eq rfl
@[simp] theorem eqb_ns {s : Str} : D.non.eqb (.str s) = false := mk_eq rfl
@[simp] theorem eqb_sn {s : Str} : (D.str s).eqb .non = false := mk_eq rfl
@[simp] theorem eqb_nt {xs : List D} : D.non.eqb (.tup xs) = false := mk_eq rfl
@[simp] theorem eqb_tn {xs : List D} : (D.tup xs).eqb .non = false := mk_eq rfl
@[simp] theorem eqb_is {s : Str} : (D.int x).eqb (.str s) = false := mk_eq rfl
@[simp] theorem eqb_si {s : Str} : (D.str s).eqb (.int x) = false := mk_eq rfl
@[simp] theorem eqb_it {xs : List D} : (D.int x).eqb (.tup xs) = false := mk_eq rfl
@[simp] theorem eqb_ti {xs : List D} : (D.tup xs).eqb (.int x) = false := mk_eq rfl
@[simp] theorem eqb_st {s : Str} {xs : List D} : (D.str s).eqb (.tup xs) = false := mk_eq rfl
@[simp] theorem eqb_ts {s : Str} {xs : List D} : (D.tup xs).eqb (.str s) = false := mk_eq rfl
@[simp] theorem eqb_bb {p q : Bool} : (D.bl p).eqb (.bl q) = decide (p = q) := by
  show (p == q) = _
  rw [Bool.eq_iff_iff]
  simp
/-! cuts that are stored -/
theorem cutR_mid {A B Cc Y : List D} {i j : Int} (hi : i = (A.length : Int)) (hj : j = ((A.length + B.length : Nat) : Int)) (hs : (A ++ B ++ Cc).length + Y.length ≤ 16777216) : cutR (A ++ B ++ Cc) (some i) (some j) (.lst Y) = .ok (.lst (A ++ Y ++ Cc)) := by
  unfold cutR
  simp only
  subst hi hj
  rw [if_pos ⟨by omega, by omega, by simp; omega, by rw [size_line]; exact hs⟩]
  simp only [Int.toNat_natCast]
  congr 3
  · rw [List.append_assoc, List.take_left']
    rfl
  · rw [List.drop_left']
    simp
/-! cuts, at places -/
theorem cutL_nn {xs : List α} {i j : Nat} {y z : Int} (hy : y = (i : Int)) (hz : z = (j : Int)) : cutL xs (some y) (some z) = (xs.drop i).take (j - i) := by
  subst hy hz
  unfold cutL
  rw [HT.sIx_nat, HT.sIx_nat]
  by_cases h : i ≤ xs.length
  · rw [Nat.min_eq_left h]
    by_cases h2 : j ≤ xs.length
    · rw [Nat.min_eq_left h2]
    · have e : min j xs.length = xs.length := by omega
      rw [e, List.take_of_length_le (by simp), List.take_of_length_le (by simp; omega)]
  · have e : min i xs.length = xs.length := by omega
    rw [e, List.drop_eq_nil_of_le (Nat.le_refl _), List.drop_eq_nil_of_le (by omega)]
    simp
theorem cutL_n_ {xs : List α} {i : Nat} {y : Int} (hy : y = (i : Int)) : cutL xs (some y) none = xs.drop i := by
  subst hy
  unfold cutL
  rw [HT.sIx_nat, HT.sIx_none]
  by_cases h : i ≤ xs.length
  · rw [Nat.min_eq_left h, List.take_of_length_le (by simp)]
  · rw [Nat.min_eq_right (by omega), List.drop_eq_nil_of_le (by omega), List.drop_eq_nil_of_le (by omega)]
    simp
theorem cutL__n {xs : List α} {i : Nat} {y : Int} (hy : y = (i : Int)) : cutL xs none (some y) = xs.take i := by
  subst hy
  unfold cutL
  rw [HT.sIx_nat, HT.sIx_none]
  by_cases h : i ≤ xs.length
  · rw [Nat.min_eq_left h]
    simp
  · rw [Nat.min_eq_right (by omega), List.take_of_length_le (by simp), List.take_of_length_le (by omega)]
    simp
@[simp] theorem cutL_zz {xs : List α} {y z : Int} (hy : 0 ≤ y) (hz : 0 ≤ z) : cutL xs (some y) (some z) = (xs.drop y.toNat).take (z.toNat - y.toNat) := cutL_nn (by omega) (by omega)
@[simp] theorem cutL_z_ {xs : List α} {y : Int} (hy : 0 ≤ y) : cutL xs (some y) none = xs.drop y.toNat := cutL_n_ (by omega)
@[simp] theorem cutL__z {xs : List α} {z : Int} (hz : 0 ≤ z) : cutL xs none (some z) = xs.take z.toNat := cutL__n (by omega)
@[simp] theorem dRep_1 {x : D} {z : Int} (h : -1000000000 ≤ z) (h' : z ≤ 16777216) : dRep (.lst [x]) (.int z) = .ok (List.replicate z.toNat x) := by
  unfold dRep
  simp only [List.length_singleton, Nat.one_mul]
  rw [if_pos ⟨by omega, by omega, by rw [size_line]; omega⟩, rep_flat]
@[simp] theorem rbind_pure {A : Res α} : (A.bind fun x => .ok x) = A := by cases A <;> rfl
@[simp] theorem cutR_ok {xs ys : List D} {i j : Int} (h0 : 0 ≤ i) (h1 : i ≤ j) (h2 : j ≤ xs.length) (h3 : xs.length + ys.length ≤ 16777216) : cutR xs (some i) (some j) (.lst ys) = .ok (.lst (xs.take i.toNat ++ ys ++ xs.drop j.toNat)) := by
  unfold cutR
  simp only
  rw [if_pos ⟨h0, h1, h2, by rw [size_line]; exact h3⟩]
@[simp] theorem putR_ok {xs : List D} {z : Int} (h0 : 0 ≤ z) (h1 : z < xs.length) : putR xs (.int z) d = .ok (.lst (xs.set z.toNat d)) := by
  unfold putR ixN
  simp only [if_pos h0, if_pos h1]
@[simp] theorem lkR_nil {k : Str} : lkR [] k = .no := mk_eq rfl
@[simp] theorem lkR_cons {k x : Str} {d : D} {tab : List (Str × D)} : lkR ((k, d) :: tab) x = if x = k then .ok d else lkR tab x := by
  unfold lkR
  rw [List.lookup_cons]
  by_cases h : x = k
  · rw [if_pos h, beq_iff_eq.mpr h]
  · have e : (x == k) = false := by simpa using h
    rw [if_neg h, e]
@[simp] theorem noLR_ok {d : D} (h : d.noL = true) : noLR (.ok d) = .ok d := if_pos h
@[simp] theorem noL_i {x : Int} : (D.int x).noL = true := by simp [D.noL]
@[simp] theorem noL_b {x : Bool} : (D.bl x).noL = true := by simp [D.noL]
@[simp] theorem noL_s {x : Str} : (D.str x).noL = true := by simp [D.noL]
@[simp] theorem noL_n : D.non.noL = true := by simp [D.noL]
@[simp] theorem noL_t {xs : List D} : (D.tup xs).noL = D.noLA xs := by simp [D.noL]
@[simp] theorem noLA_n : D.noLA [] = true := by simp [D.noLA]
@[simp] theorem noLA_c {x : D} {xs : List D} : D.noLA (x :: xs) = (x.noL && D.noLA xs) := by simp [D.noLA]
/-! attributes -/
@[simp] theorem putN_0 {a y : α} {l : List α} : putN 0 y (a :: l) = y :: l := mk_eq rfl
@[simp] theorem putN_n {y : α} : putN 0 y ([] : List α) = [y] := mk_eq rfl
@[simp] theorem putN_s {a y : α} {l : List α} {n : Nat} : putN (n + 1) y (a :: l) = a :: putN n y l := by
  unfold putN
  by_cases h : n < l.length
  · rw [if_pos (by simpa using h), if_pos h]
    rfl
  · rw [if_neg (by simpa using h), if_neg h]
    rfl
end
end T

set_option Elab.async false
set_option linter.all false
set_option maxRecDepth 100000
set_option maxHeartbeats 4000000
/-! P-layer, part E: comprehensions of two clauses. -/
namespace T
open PySem L2
theorem e_nm {α : Type} {ρ : Rho} {i : Nat} {f : Rho → Res α} {x : D} {A : Res α} (h : f (ρ.set i (some x)) = A) : bodyE (bNm i) f x ρ = A := h
def flR {α γ : Type} (f : γ → Res (List α)) : List γ → Res (List α)
  | [] => .ok []
  | x :: xs => (f x).calm.bind fun y => (flR f xs).bind fun ys => .ok (y ++ ys)
theorem flM_eq {ρ : Rho} {bn : Bnd} {f : Rho → Res (List D)} {F : D → Res (List D)} (hf : ∀ x, bodyE bn f x ρ = F x) : ∀ xs : List D, flM bn yesB f ρ xs = flR F xs
  | [] => rfl
  | x :: xs => by
    rw [flR, ← hf x, ← flM_eq hf xs, flM]
    unfold bodyE
    cases bn x ρ <;> rfl
theorem e_comp2 {ρ : Rho} {as : Rho → Res (List D)} {AS : Res (List D)} {bn : Bnd} {f : Rho → Res (List D)} {vs : List Nat} {F : D → Res (List D)} (hs : as ρ = AS) (hf : ∀ x, bodyE bn f x (wipeR ρ vs) = F x) : comp2V as bn yesB f vs ρ = AS.bind fun xs => (szR xs).bind fun xs => (flR F xs).bind szR := by
  rw [← hs]
  unfold comp2V szR
  congr 1
  funext xs
  rw [flM_eq hf]
  split <;> rfl
theorem flR_ok {α γ : Type} {f : γ → Res (List α)} {g : γ → List α} : ∀ {xs : List γ}, (∀ x ∈ xs, f x = .ok (g x)) → flR f xs = .ok (xs.flatMap g)
  | [], _ => rfl
  | x :: xs, h => by
    rw [flR, h x List.mem_cons_self, flR_ok fun y hy => h y (List.mem_cons_of_mem _ hy)]
    simp
def cutE (xs : List D) (l u : Option Int) (d : D) : Res D := match d, l, u with
  | .lst ys, some a, none => if 0 ≤ a ∧ a ≤ xs.length ∧ xs.length + ys.length ≤ sizeLine then .ok (.lst (xs.take a.toNat ++ ys)) else .no
  | _, _, _ => .no
@[simp] theorem cutE_ok {xs ys : List D} {i : Int} (h0 : 0 ≤ i) (h2 : i ≤ xs.length) (h3 : xs.length + ys.length ≤ 16777216) : cutE xs (some i) none (.lst ys) = .ok (.lst (xs.take i.toNat ++ ys)) := by
  unfold cutE
  simp only
  rw [if_pos ⟨h0, h2, by rw [size_line]; exact h3⟩]
theorem s_setSlE {ρ : Rho} {i : Nat} {d : D} {e : Rho → Res D} {E : Res D} {gl gh : Rho → Res (Option Int)} {L U : Res (Option Int)} (ha : nth ρ i = some d) (he : e ρ = E) (hl : gl ρ = L) (hh : gh ρ = U) : sSetSlE i gl gh e ρ = thenS (E.bind fun y => (asLs d).bind fun xs => L.bind fun l => U.bind fun u => cutE xs l u y) ρ fun d => .nx (ρ.set i (some d)) := by
  subst he hl hh
  unfold sSetSlE
  rw [thenS_bind]
  congr 1
  funext y
  rw [atL_n ha, thenS_bind]
  congr 1
  funext xs
  rw [thenS_bind]
  congr 1
  funext l
  rw [thenS_bind]
  congr 1
  funext u
  unfold cutE
  cases y with
  | lst ys =>
    cases l with
    | none => rfl
    | some a =>
      cases u with
      | some c => rfl
      | none =>
        simp only
        split <;> rfl
  | _ => rfl
end T

set_option Elab.async false
set_option linter.all false
set_option maxRecDepth 100000
set_option maxHeartbeats 4000000
/-! Evaluation of mirrors over a store. -/
namespace T
open PySem L2
section
variable {α β : Type} {ρ ρ' : Rho} {f g : Rho → Out} {d x y : D} {os ds es : List D} {S i k n c : Nat} {tab : FT} {e : Exn}
/-! statements -/
def Out.sq (o : Out) (g : Rho → Out) : Out := match o with
  | .nx ρ => g ρ
  | o => o
@[simp] theorem sq_nx : (Out.nx ρ).sq g = g ρ := mk_eq rfl
@[simp] theorem sq_rl : (Out.rl d ρ).sq g = .rl d ρ := mk_eq rfl
@[simp] theorem sq_rt : (Out.rt d).sq g = .rt d := mk_eq rfl
@[simp] theorem sq_ex : (Out.ex e ρ).sq g = .ex e ρ := mk_eq rfl
@[simp] theorem sq_ct : (Out.ct ρ).sq g = .ct ρ := mk_eq rfl
@[simp] theorem sq_bk : (Out.bk ρ).sq g = .bk ρ := mk_eq rfl
@[simp] theorem sq_no : Out.no.sq g = .no := mk_eq rfl
@[simp] theorem sSeq_q : sSeq f g ρ = (f ρ).sq g := by
  unfold sSeq Out.sq
  cases f ρ <;> rfl
/-! changes -/
@[simp] theorem mbind_ok {a : α} {h : α → Rho → ResM β} : (ResM.ok a ρ).bind h = h a ρ := mk_eq rfl
@[simp] theorem mbind_ex {h : α → Rho → ResM β} : (ResM.ex e ρ : ResM α).bind h = .ex e ρ := mk_eq rfl
@[simp] theorem mbind_no {h : α → Rho → ResM β} : (ResM.no : ResM α).bind h = .no := mk_eq rfl
@[simp] theorem liftM_ok {a : α} : liftM (.ok a) ρ = .ok a ρ := mk_eq rfl
@[simp] theorem liftM_ex : liftM (.ex e : Res α) ρ = .ex e ρ := mk_eq rfl
@[simp] theorem liftM_no : liftM (.no : Res α) ρ = .no := mk_eq rfl
@[simp] theorem thenM_ok {a : α} {h : α → Rho → Out} : thenM (.ok a ρ) h = h a ρ := mk_eq rfl
@[simp] theorem thenM_ex {h : α → Rho → Out} : thenM (.ex e ρ : ResM α) h = .ex e ρ := mk_eq rfl
@[simp] theorem thenM_no {h : α → Rho → Out} : thenM (.no : ResM α) h = .no := mk_eq rfl
@[simp] theorem pureM_ap {a : Rho → Res α} : pureM a ρ = liftM (a ρ) ρ := mk_eq rfl
@[simp] theorem nrV_ap {a : Rho → Res D} : nrV a ρ = (a ρ).bind nrR := mk_eq rfl
@[simp] theorem nrM_ap {a : Rho → ResM D} : nrM a ρ = (a ρ).bind fun d ρ1 => liftM (nrR d) ρ1 := mk_eq rfl
@[simp] theorem noM_ap : noM ρ = .ok [] ρ := mk_eq rfl
@[simp] theorem consM_ap {a : Rho → ResM D} {b : Rho → ResM (List D)} : consM a b ρ = (a ρ).bind fun d ρ1 => (b ρ1).bind fun ds ρ2 => .ok (d :: ds) ρ2 := mk_eq rfl
@[simp] theorem binM_ap {h : D → D → Res D} {a b : Rho → ResM D} : binM h a b ρ = (a ρ).bind fun x ρ1 => (b ρ1).bind fun y ρ2 => liftM (h x y) ρ2 := mk_eq rfl
def allNr (ds : List D) : Res (List D) := if ds.all D.nref = true then .ok ds else .no
@[simp] theorem tupM_ap {a : Rho → ResM (List D)} : tupM a ρ = (a ρ).bind fun ds ρ1 => liftM ((allNr ds).bind fun ds => (szR ds).bind fun ds => .ok (.tup ds)) ρ1 := by
  unfold tupM
  congr 1
  funext ds ρ1
  unfold allNr szR
  by_cases h1 : ds.all D.nref = true <;> by_cases h2 : ds.length ≤ sizeLine <;> simp [h1, h2]
@[simp] theorem callP_ap {h : List D → Res D} {a : Rho → ResM (List D)} : callP h a ρ = (a ρ).bind fun ds ρ1 => liftM ((allNr ds).bind h) ρ1 := by
  unfold callP
  congr 1
  funext ds ρ1
  unfold allNr
  by_cases h1 : ds.all D.nref = true <;> simp [h1]
@[simp] theorem nmV_ap {a : Rho → Res (List D)} : nmV a ρ = (liftM (a ρ) ρ).bind fun ds ρ1 => liftM (allNr ds) ρ1 := by
  unfold nmV
  congr 1
  funext ds ρ1
  unfold allNr
  by_cases h1 : ds.all D.nref = true <;> simp [h1]
@[simp] theorem frzL_ap {a : Rho → ResM (List D)} : frzL a ρ = (a ρ).bind fun ds ρ1 => liftM ((allNr ds).bind fun ds => .ok (.lst ds)) ρ1 := by
  unfold frzL
  congr 1
  funext ds ρ1
  unfold allNr
  by_cases h1 : ds.all D.nref = true <;> simp [h1]
@[simp] theorem andVM_ap {a b : Rho → ResM D} : andVM a b ρ = (a ρ).bind fun d ρ1 => (liftM (asB d) ρ1).bind fun k ρ1 => if k = true then b ρ1 else .ok (.bl false) ρ1 := by
  unfold andVM
  congr 1
  funext d ρ1
  cases d <;> rfl
@[simp] theorem orVM_ap {a b : Rho → ResM D} : orVM a b ρ = (a ρ).bind fun d ρ1 => (liftM (asB d) ρ1).bind fun k ρ1 => if k = true then .ok (.bl true) ρ1 else b ρ1 := by
  unfold orVM
  congr 1
  funext d ρ1
  cases d <;> rfl
@[simp] theorem toBM_ap {a : Rho → ResM D} : toBM a ρ = (a ρ).bind fun d ρ1 => liftM (asB d) ρ1 := by
  unfold toBM
  congr 1
  funext d ρ1
  cases d <;> rfl
theorem toB_ap2 {a : Rho → Res D} : toB a ρ = (a ρ).bind asB := by
  unfold toB
  congr 1
@[simp] theorem notM_ap {a : Rho → ResM Bool} : notM a ρ = (a ρ).bind fun b ρ1 => .ok (!b) ρ1 := mk_eq rfl
@[simp] theorem andM_ap {a b : Rho → ResM Bool} : andM a b ρ = (a ρ).bind fun k ρ1 => if k = true then b ρ1 else .ok false ρ1 := mk_eq rfl
@[simp] theorem orM_ap {a b : Rho → ResM Bool} : orM a b ρ = (a ρ).bind fun k ρ1 => if k = true then .ok true ρ1 else b ρ1 := mk_eq rfl
@[simp] theorem sIfM_ap {a : Rho → ResM Bool} : sIfM a f g ρ = thenM (a ρ) fun b ρ1 => if b = true then f ρ1 else g ρ1 := mk_eq rfl
@[simp] theorem sSetA_ap {a : Rho → ResM D} : sSetA i a ρ = thenM (a ρ) fun d ρ1 => .nx (ρ1.set i (some d)) := mk_eq rfl
@[simp] theorem sSetP_ap {a : Rho → Res D} : sSetP i a ρ = thenS (a ρ) ρ fun d => .nx (ρ.set i (some d)) := mk_eq rfl
@[simp] theorem sDropM_ap {a : Rho → ResM D} : sDropM a ρ = thenM (a ρ) fun _ ρ1 => .nx ρ1 := mk_eq rfl
@[simp] theorem sRetM_ap {a : Rho → ResM D} : sRetM a ρ = thenM (a ρ) fun d ρ1 => .rl d ρ1 := mk_eq rfl
@[simp] theorem sRet0_ap : sRet0 ρ = .rl .non ρ := mk_eq rfl
@[simp] theorem sRaiseA_ap {s : Str} {a : Rho → Res (List D)} : sRaiseA s a ρ = thenS ((a ρ).bind szR) ρ fun _ => .ex ⟨s, []⟩ ρ := by
  unfold sRaiseA
  rw [thenS_bind]
  congr 1
  funext ds
  unfold szR
  split <;> rfl
@[simp] theorem sRaise_ap {s : Str} : sRaise s ρ = .ex ⟨s, []⟩ ρ := mk_eq rfl
/-! frozen -/
@[simp] theorem nref_n : D.non.nref = true := mk_eq rfl
@[simp] theorem nref_i {z : Int} : (D.int z).nref = true := mk_eq rfl
@[simp] theorem nref_b {b : Bool} : (D.bl b).nref = true := mk_eq rfl
@[simp] theorem nref_s {s : Str} : (D.str s).nref = true := mk_eq rfl
@[simp] theorem nref_l {xs : List D} : (D.lst xs).nref = true := mk_eq rfl
@[simp] theorem nref_t {xs : List D} : (D.tup xs).nref = true := mk_eq rfl
@[simp] theorem nref_d {xs : List (D × D)} : (D.dct xs).nref = true := mk_eq rfl
@[simp] theorem nref_o {xs : List D} : (D.ins c xs).nref = true := mk_eq rfl
@[simp] theorem nrR_ok (h : d.nref = true) : nrR d = .ok d := if_pos h
@[simp] theorem allNr_ok (h : ds.all D.nref = true) : allNr ds = .ok ds := if_pos h
@[simp] theorem allNr_nil : allNr [] = .ok [] := mk_eq rfl
@[simp] theorem nr_ints {xs : List Int} : (xs.map D.int).all D.nref = true := by
  rw [List.all_eq_true]
  intro d hd
  obtain ⟨a, _, rfl⟩ := List.mem_map.mp hd
  rfl
/-! the store -/
@[simp] theorem stoR_0 {r : Rho} : stoR 0 (some (stoD os) :: r) = some os := stoOf_stoD os
@[simp] theorem stoR_s {a : Option D} {r : Rho} : stoR (i + 1) (a :: r) = stoR i r := mk_eq rfl
@[simp] theorem setS_ap : setS S os ρ = ρ.set S (some (stoD os)) := mk_eq rfl
def ResS.toM (S : Nat) (r : ResS) (ρ : Rho) : ResM D := match r with
  | .ok d os' => .ok d (setS S os' ρ)
  | .ex e os' => .ex e (setS S os' ρ)
  | .no => .no
@[simp] theorem toM_ok : (ResS.ok d os).toM S ρ = .ok d (setS S os ρ) := mk_eq rfl
@[simp] theorem toM_ex : (ResS.ex e os).toM S ρ = .ex e (setS S os ρ) := mk_eq rfl
@[simp] theorem toM_no : ResS.no.toM S ρ = .no := mk_eq rfl
def onS {α : Type} (o : Option (List D)) (z : α) (k : List D → α) : α := match o with
  | some os => k os
  | none => z
@[simp] theorem onS_some {z : α} {h : List D → α} : onS (some os) z h = h os := mk_eq rfl
variable {m : List D → List D → ResS} {gA : Rho → ResM (List D)} {gm gm' : Rho → ResM D} {go gi : Rho → Res D} {gp : Rho → Res (Pl × D)}
@[simp] theorem callR_ap : callR m S ds ρ = onS (stoR S ρ) .no fun os => (m os ds).toM S ρ := by
  unfold callR onS
  cases stoR S ρ with
  | none => rfl
  | some os => cases h : m os ds <;> simp only [h, ResS.toM]
@[simp] theorem callS_ap : callS m S gA ρ = (gA ρ).bind fun ds ρ1 => callR m S ds ρ1 := mk_eq rfl
@[simp] theorem methS_ap : methS c m S go gA ρ = (liftM (go ρ) ρ).bind fun d ρ1 => if isClsS c (stoR S ρ1) d = true then (gA ρ1).bind fun ds ρ2 => callR m S (d :: ds) ρ2 else .no := mk_eq rfl
def ResS.toN (S n : Nat) (r : ResS) (ρ : Rho) : ResM D := match r with
  | .ok .non os' => .ok (refD n) (setS S os' ρ)
  | .ex e os' => .ex e (setS S os' ρ)
  | _ => .no
@[simp] theorem toN_ok : (ResS.ok .non os).toN S n ρ = .ok (refD n) (setS S os ρ) := mk_eq rfl
@[simp] theorem toN_ex : (ResS.ex e os).toN S n ρ = .ex e (setS S os ρ) := mk_eq rfl
@[simp] theorem makeS_ap : makeS c m S gA ρ = (gA ρ).bind fun ds ρ1 => onS (stoR S ρ1) .no fun os => (m (os ++ [.ins c []]) (refD os.length :: ds)).toN S os.length ρ1 := by
  unfold makeS
  congr 1
@[simp] theorem isClsS_ref : isClsS c (some os) (refD n) = (match os[n]? with | some (.ins c' _) => c' == c | _ => false) := by
  unfold isClsS
  rw [refN_ref]
  try rfl
/-! attributes -/
@[simp] theorem fldS_ap : fldS S tab go ρ = (go ρ).bind fun d => fldD tab (stoR S ρ) d := mk_eq rfl
@[simp] theorem fldM_ap : fldM S tab gm ρ = (gm ρ).bind fun d ρ1 => liftM (fldD tab (stoR S ρ1) d) ρ1 := mk_eq rfl
@[simp] theorem conS_ap : conS S tab go ρ = (go ρ).bind fun d => conD2 tab (stoR S ρ) d := mk_eq rfl
@[simp] theorem derS_ap : derS S go ρ = (go ρ).bind fun d => derD (stoR S ρ) d := mk_eq rfl
@[simp] theorem plR_ap : plR S go ρ = (go ρ).bind fun d => plD (stoR S ρ) d := mk_eq rfl
@[simp] theorem plF_ap : plF S tab go ρ = (go ρ).bind fun d => plFD tab (stoR S ρ) d := mk_eq rfl
@[simp] theorem plFM_ap : plFM S tab gm ρ = (gm ρ).bind fun d ρ1 => liftM (plFD tab (stoR S ρ1) d) ρ1 := mk_eq rfl
@[simp] theorem plVM_ap : plVM S gm ρ = (gm ρ).bind fun d ρ1 => liftM (plD (stoR S ρ1) d) ρ1 := mk_eq rfl
@[simp] theorem fldD_ref : fldD tab (some os) (refD n) = (match os[n]? with
      | some (.ins c ds) => match tab.lookup c with
        | some (k, .any) => match ds[k]? with
          | some x => .ok x
          | none => .no
        | _ => .no
      | _ => .no) := by
  unfold fldD
  rw [refN_ref]
  try rfl
@[simp] theorem conD2_ref : conD2 tab (some os) (refD n) = (match os[n]? with
      | some (.ins c ds) => match tab.lookup c with
        | some (k, .any) => .no
        | some (k, _) => match ds[k]? with
          | some x => cntR x
          | none => .no
        | none => .no
      | _ => .no) := by
  unfold conD2
  rw [refN_ref]
  try rfl
@[simp] theorem plFD_ref : plFD tab (some os) (refD n) = (match os[n]? with
      | some (.ins c ds) => match tab.lookup c with
        | some (k, .any) => .no
        | some (k, _) => match ds[k]? with
          | some x => if isCt x = true then .ok ((n, some k), x) else .no
          | none => .no
        | none => .no
      | _ => .no) := by
  unfold plFD
  rw [refN_ref]
  try rfl
@[simp] theorem plD_ref : plD (some os) (refD n) = (match os[n]? with
    | some x => if isCt x = true then .ok ((n, none), x) else .no
    | none => .no) := by
  unfold plD
  rw [refN_ref]
  try rfl
@[simp] theorem putF2_ref : putF2 tab (some os) (refD n) y = (match os[n]? with
    | some (.ins c ds) => match tab.lookup c with
      | some (k, .any) => if k ≤ ds.length then some (os.set n (.ins c (putN k y ds))) else none
      | _ => none
    | _ => none) := by
  unfold putF2
  rw [refN_ref]
  try rfl
@[simp] theorem putFL_ref : putFL tab (some os) (refD n) es = (match os[n]? with
    | some (.ins c ds) => match tab.lookup c with
      | some (k, .lst) => if k ≤ ds.length then some (os.set n (.ins c (putN k (.lst es) ds))) else none
      | _ => none
    | _ => none) := by
  unfold putFL
  rw [refN_ref]
  try rfl
@[simp] theorem derD_nr {so : Option (List D)} (h : d.nref = true) : derD so d = .ok d := by
  unfold derD
  rw [nref_refN h]
  exact nrR_ok h
@[simp] theorem derD_ref : derD (some os) (refD n) = (match os[n]? with
      | some x => cntR x
      | none => .no) := by
  unfold derD
  rw [refN_ref]
  try rfl
@[simp] theorem cntR_l : cntR (.lst ds) = .ok (.lst ds) := mk_eq rfl
@[simp] theorem cntR_d {xs : List (D × D)} : cntR (.dct xs) = .ok (.dct xs) := mk_eq rfl
@[simp] theorem isCt_l : isCt (.lst ds) = true := mk_eq rfl
@[simp] theorem isCt_d {xs : List (D × D)} : isCt (.dct xs) = true := mk_eq rfl
@[simp] theorem sFldS_ap : sFldS S tab go gm ρ = thenM (gm ρ) fun y ρ1 => thenS (go ρ1) ρ1 fun d => (match putF2 tab (stoR S ρ1) d y with
  | some os' => .nx (setS S os' ρ1)
  | none => .no) := rfl
@[simp] theorem sFldL_ap : sFldL S tab i gA ρ = thenM (gA ρ) fun es ρ1 => thenS (getV i ρ1) ρ1 fun d => (match putFL tab (stoR S ρ1) d es with
  | some os' => .nx (setS S os' ρ1)
  | none => .no) := rfl
/-! lists -/
def atR (r : Pl × D) (k : D) : Res D := match r.2, k with
  | .lst ds, .int j => match atI ds j with
    | some d => .ok d
    | none => .no
  | _, _ => .no
theorem atR_ok {p : Pl} {z : Int} (h : atI ds z = some d) : atR (p, .lst ds) (.int z) = .ok d := by
  unfold atR
  simp only [h]
@[simp] theorem ixC_ap : ixC S gp gi ρ = (gp ρ).bind fun r => (gi ρ).bind fun k => atR r k := by
  unfold ixC
  congr 1
@[simp] theorem ixCM_ap {gq : Rho → ResM (Pl × D)} : ixCM S gq gi ρ = (gq ρ).bind fun r ρ1 => (liftM (gi ρ1) ρ1).bind fun k ρ2 => liftM (atR r k) ρ2 := by
  unfold ixCM
  congr 1
  funext r ρ1
  congr 1
  funext k ρ2
  unfold atR
  obtain ⟨p, d⟩ := r
  cases d with
  | lst ds =>
    cases k with
    | int j =>
      simp only
      cases atI ds j <;> rfl
    | _ => rfl
  | _ => rfl
@[simp] theorem rootN_ap {ga : Rho → Res (List D)} : rootN S ga ρ = (liftM (ga ρ) ρ).bind fun ds ρ1 => (liftM (allNr ds) ρ1).bind fun ds ρ1 => onS (stoR S ρ1) .no fun os => .ok (refD os.length) (setS S (os ++ [.lst ds]) ρ1) := by
  unfold rootN
  congr 1
  funext ds ρ1
  unfold allNr onS
  cases hh : stoR S ρ1 <;> by_cases h : ds.all D.nref = true <;> simp [h, hh]
@[simp] theorem rootL_ap : rootL S gA ρ = (gA ρ).bind fun ds ρ1 => onS (stoR S ρ1) .no fun os => .ok (refD os.length) (setS S (os ++ [.lst ds]) ρ1) := by
  unfold rootL
  congr 1
@[simp] theorem atC_ap {k : List D → Pl → List D → Out} : atC S gp ρ k = thenS (gp ρ) ρ fun r => onS (stoR S ρ) .no fun os => thenS (asLs r.2) ρ fun ds => k os r.1 ds := by
  unfold atC
  congr 1
  funext r
  unfold onS
  cases stoR S ρ with
  | none => rfl
  | some os =>
    obtain ⟨p, d⟩ := r
    cases d <;> rfl
@[simp] theorem sAppC_ap : sAppC S gp go ρ = atC S gp ρ fun os p ds => thenS (go ρ) ρ fun y => if ds.length < sizeLine then .nx (setS S (putC os p (.lst (ds ++ [y]))) ρ) else .no := mk_eq rfl
def stR (os : List D) (p : Pl) (ds : List D) (k y : D) : Res (List D) := match k with
  | .int k => match ixN ds.length k with
    | some j => .ok (putC os p (.lst (ds.set j y)))
    | none => .no
  | _ => .no
@[simp] theorem sSetIC_ap {gk : Rho → Res D} : sSetIC S gp gk go ρ = thenS (go ρ) ρ fun y => atC S gp ρ fun os p ds => thenS ((gk ρ).bind fun k => stR os p ds k y) ρ fun os => .nx (setS S os ρ) := by
  unfold sSetIC
  congr 1
  funext y
  congr 1
  funext os p ds
  rw [thenS_bind]
  congr 1
  funext k
  unfold stR
  cases k with
  | int k =>
    simp only
    cases ixN ds.length k <;> rfl
  | _ => rfl
@[simp] theorem putC_n : putC os (n, none) d = os.set n d := mk_eq rfl
@[simp] theorem putC_k : putC os (n, some k) d = (match os[n]? with
  | some (.ins c ds) => os.set n (.ins c (ds.set k d))
  | _ => os) := mk_eq rfl
/-! comprehensions over changes -/
theorem lcMM_iter {b : Bnd} {h : Rho → ResM D} {is : List Nat} {R : Nat → Rho} {v : Nat → D} (N : Nat) (hs : ∀ j x, j < N → ∃ ρ1 ρ2, b x (wipeR (R j) is) = some ρ1 ∧ h ρ1 = .ok (v j) ρ2 ∧ unW is (R j) ρ2 = R (j + 1)) : ∀ (xs : List D) (k : Nat), k + xs.length ≤ N → lcMM b h is xs (R k) = .ok ((List.range xs.length).map fun i => v (k + i)) (R (k + xs.length))
  | [], k, _ => rfl
  | x :: xs, k, hk => by
    rw [List.length_cons] at hk
    obtain ⟨ρ1, ρ2, h1, h2, h3⟩ := hs k x (by omega)
    rw [lcMM]
    simp only [h1, h2, h3, lcMM_iter N hs xs (k + 1) (by omega)]
    congr 1
    · rw [List.length_cons, List.range_succ_eq_map, List.map_cons, List.map_map]
      congr 1
      refine List.map_congr_left fun i _ => ?_
      show v (k + 1 + i) = v (k + (i + 1))
      rw [show k + 1 + i = k + (i + 1) by omega]
    · rw [List.length_cons, show k + 1 + xs.length = k + (xs.length + 1) by omega]
@[simp] theorem compM_ap {src : Rho → Res (List D)} {b : Bnd} {h : Rho → ResM D} {is : List Nat} : compM src b h is ρ = (liftM (src ρ) ρ).bind fun items ρ1 => (liftM (szR items) ρ1).bind fun items ρ1 => (match lcMM b h is items ρ1 with | .ok ds ρ2 => .ok ds ρ2 | _ => .no) := by
  unfold compM
  congr 1
  funext items ρ1
  unfold szR
  split <;> rfl
/-! defs -/
def Out.fin (S : Nat) (o : Out) : ResS := match o with
  | .nx ρ => onS (stoR S ρ) .no fun os => .ok .non os
  | .rl d ρ => onS (stoR S ρ) .no fun os => .ok d os
  | .ex e ρ => onS (stoR S ρ) .no fun os => .ex e os
  | _ => .no
@[simp] theorem fin_nx : (Out.nx ρ).fin S = onS (stoR S ρ) .no fun os => .ok .non os := mk_eq rfl
@[simp] theorem fin_rl : (Out.rl d ρ).fin S = onS (stoR S ρ) .no fun os => .ok d os := mk_eq rfl
@[simp] theorem fin_ex : (Out.ex e ρ).fin S = onS (stoR S ρ) .no fun os => .ex e os := mk_eq rfl
theorem runS_ap {NN : Nat} (h : ds.length = n) : runS n NN f os ds = (f (startR (NN - 1) ds ++ [some (stoD os)])).fin (NN - 1) := by
  unfold runS
  rw [if_pos h]
  unfold Out.fin onS
  cases f (startR (NN - 1) ds ++ [some (stoD os)]) with
  | nx ρ => cases h : stoR (NN - 1) ρ <;> simp only [h]
  | rl d ρ => cases h : stoR (NN - 1) ρ <;> simp only [h]
  | ex e ρ => cases h : stoR (NN - 1) ρ <;> simp only [h]
  | _ => rfl
def Out.finE (o : Out) : Res D := match o with
  | .nx _ => .ok .non
  | .rl d _ => nrR d
  | .ex e _ => .ex e
  | _ => .no
@[simp] theorem finE_nx : (Out.nx ρ).finE = .ok .non := mk_eq rfl
@[simp] theorem finE_rl : (Out.rl d ρ).finE = nrR d := mk_eq rfl
@[simp] theorem finE_ex : (Out.ex e ρ).finE = .ex e := mk_eq rfl
theorem runE_ap {NN : Nat} (h : ds.length = n) : runE n NN f ds = (f (startR (NN - 1) ds ++ [some (stoD [])])).finE := by
  unfold runE
  rw [if_pos h]
  unfold Out.finE
  cases f (startR (NN - 1) ds ++ [some (stoD [])]) <;> rfl
@[simp] theorem runS_1 {NN : Nat} {x0 : D} : runS 1 NN f os [x0] = (f (startR (NN - 1) [x0] ++ [some (stoD os)])).fin (NN - 1) := runS_ap rfl
@[simp] theorem runE_1 {NN : Nat} {x0 : D} : runE 1 NN f [x0] = (f (startR (NN - 1) [x0] ++ [some (stoD [])])).finE := runE_ap rfl
@[simp] theorem runS_2 {NN : Nat} {x0 x1 : D} : runS 2 NN f os [x0, x1] = (f (startR (NN - 1) [x0, x1] ++ [some (stoD os)])).fin (NN - 1) := runS_ap rfl
@[simp] theorem runE_2 {NN : Nat} {x0 x1 : D} : runE 2 NN f [x0, x1] = (f (startR (NN - 1) [x0, x1] ++ [some (stoD [])])).finE := runE_ap rfl
@[simp] theorem runS_3 {NN : Nat} {x0 x1 x2 : D} : runS 3 NN f os [x0, x1, x2] = (f (startR (NN - 1) [x0, x1, x2] ++ [some (stoD os)])).fin (NN - 1) := runS_ap rfl
@[simp] theorem runE_3 {NN : Nat} {x0 x1 x2 : D} : runE 3 NN f [x0, x1, x2] = (f (startR (NN - 1) [x0, x1, x2] ++ [some (stoD [])])).finE := runE_ap rfl
@[simp] theorem runS_4 {NN : Nat} {x0 x1 x2 x3 : D} : runS 4 NN f os [x0, x1, x2, x3] = (f (startR (NN - 1) [x0, x1, x2, x3] ++ [some (stoD os)])).fin (NN - 1) := runS_ap rfl
@[simp] theorem runS_5 {NN : Nat} {x0 x1 x2 x3 x4 : D} : runS 5 NN f os [x0, x1, x2, x3, x4] = (f (startR (NN - 1) [x0, x1, x2, x3, x4] ++ [some (stoD os)])).fin (NN - 1) := runS_ap rfl
@[simp] theorem runS_6 {NN : Nat} {x0 x1 x2 x3 x4 x5 : D} : runS 6 NN f os [x0, x1, x2, x3, x4, x5] = (f (startR (NN - 1) [x0, x1, x2, x3, x4, x5] ++ [some (stoD os)])).fin (NN - 1) := runS_ap rfl
/-! tries -/
def Out.tr (o : Out) (cl : List Str) (h : Exn → Rho → Out) : Out := match o with
  | .ex e ρ => if e.cls ∈ cl then h e ρ else .no
  | o => o
@[simp] theorem sTry_ap {cl : List Str} {sub : Str → Str → Bool} {hs : List (Str × (Exn → Rho → Out))} : sTry cl sub f hs ρ = (f ρ).tr cl fun e ρ' => pickS sub e hs ρ' := by
  unfold sTry Out.tr
  cases f ρ <;> rfl
@[simp] theorem tr_nx {cl : List Str} {h : Exn → Rho → Out} : (Out.nx ρ).tr cl h = .nx ρ := mk_eq rfl
@[simp] theorem tr_rl {cl : List Str} {h : Exn → Rho → Out} : (Out.rl d ρ).tr cl h = .rl d ρ := mk_eq rfl
@[simp] theorem tr_ex {cl : List Str} {h : Exn → Rho → Out} : (Out.ex e ρ).tr cl h = if e.cls ∈ cl then h e ρ else .no := mk_eq rfl
@[simp] theorem pickS_nil {sub : Str → Str → Bool} : pickS sub e [] ρ = .ex e ρ := rfl
@[simp] theorem pickS_cons {sub : Str → Str → Bool} {s : Str} {h : Exn → Rho → Out} {r : List (Str × (Exn → Rho → Out))} : pickS sub e ((s, h) :: r) ρ = if sub e.cls s = true then noEx (h e ρ) else pickS sub e r ρ := rfl
@[simp] theorem noEx_nx : noEx (.nx ρ) = .nx ρ := mk_eq rfl
@[simp] theorem noEx_rl : noEx (.rl d ρ) = .rl d ρ := mk_eq rfl
/-! stores by place -/
@[simp] theorem get_mid {A B : List D} : (A ++ x :: B)[A.length]? = some x := by simp
@[simp] theorem set_mid {A B : List D} : (A ++ x :: B).set A.length y = A ++ y :: B := by simp
end
end T

set_option Elab.async false
set_option linter.all false
set_option maxRecDepth 100000
set_option maxHeartbeats 4000000
namespace Law
open PySem PySem.Spec PyProof.Rows L2 T
def topS (i : Nat) : Stmt := PySem.Challenge.pw_tideland_k00_new_chips_and_plans_of_chip.main.body.getD i (.Pass ⟨0, 0, 0, 0⟩)
abbrev d_FATES : D := .tup [.str "ok", .str "fail", .str "before", .str "during"]
abbrev d_PLAN_LIMIT : D := (.int 200)
def d_classes : List Str := ["InvalidFates", "InvalidLooks", "InvalidSize", "NoSuchBlock", "NoSuchPage"]
def d_sub (a c : Str) : Bool := (a == "InvalidFates" && c == "InvalidFates") || (a == "InvalidLooks" && c == "InvalidLooks") || (a == "InvalidSize" && c == "InvalidSize") || (a == "NoSuchBlock" && c == "NoSuchBlock") || (a == "NoSuchPage" && c == "NoSuchPage")
def layG : Nat → List Str
  | 0 => ["states", "erased", "alive"]
  | 1 => ["shape", "powered", "refused", "generation", "_blocks", "_fates", "_looks"]
  | _ => []
def fmG : Nat → Nat → FM
  | 0, 0 => .lst
  | 1, 4 => .lst
  | 1, 5 => .lst
  | 1, 6 => .lst
  | _, _ => .any
def tab_states : FT := [(0, 0, .lst)]
def tab_erased : FT := [(0, 1, .any)]
def tab_alive : FT := [(0, 2, .any)]
def tab_shape : FT := [(1, 0, .any)]
def tab_powered : FT := [(1, 1, .any)]
def tab_refused : FT := [(1, 2, .any)]
def tab_generation : FT := [(1, 3, .any)]
def tab__blocks : FT := [(1, 4, .lst)]
def tab__fates : FT := [(1, 5, .lst)]
def tab__looks : FT := [(1, 6, .lst)]
abbrev s_Block___init__ : Stmt := inClass (topS 11) 0
abbrev N_Block___init__ : List Str := ["self", "pages", "$"]
theorem sc_Block___init__ : FnScope N_Block___init__ ["self", "pages"] (defScope s_Block___init__) := ⟨rfl, rfl, rfl, by decide +kernel, rfl, by decide +kernel, by decide +kernel⟩
def m_Block___init__ : Rho → Out := (sSeq (sFldL 2 tab_states 0 (nmV (bin dRep (lstD (lstV (consA (tupV (consA (conD (.str "blank")) noA)) noA))) (derS 2 (getV 1))))) (sSeq (sFldS 2 tab_erased (getV 0) (pureM (nrV (conD (.int 0))))) (sFldS 2 tab_alive (getV 0) (pureM (nrV (conD (.bl true)))))))
def f_Block___init__ : List D → List D → ResS := runS 2 3 m_Block___init__
abbrev s_Chip___init__ : Stmt := inClass (topS 12) 0
abbrev N_Chip___init__ : List Str := ["self", "blocks", "pages", "_", "$"]
theorem sc_Chip___init__ : FnScope N_Chip___init__ ["self", "blocks", "pages"] (defScope s_Chip___init__) := ⟨rfl, rfl, rfl, by decide +kernel, rfl, by decide +kernel, by decide +kernel⟩
def m_Chip___init__ : Rho → Out := (sSeq (sIf (orB (notB (toB (chainV dLe dLe (conD (.int 24)) (derS 4 (getV 1)) (conD (.int 48))))) (notB (toB (chainV dLe dLe (conD (.int 16)) (derS 4 (getV 2)) (conD (.int 32)))))) (sRaiseA "InvalidSize" (consA (fsV (fsCons (fmtV (derS 4 (getV 1))) (fsCons (conD (.str " blocks of ")) (fsCons (fmtV (derS 4 (getV 2))) (fsCons (conD (.str " pages")) fsNil))))) noA)) sSkip) (sSeq (sFldS 4 tab_shape (getV 0) (pureM (nrV (tupV (consA (nrV (getV 1)) (consA (nrV (getV 2)) noA)))))) (sSeq (sFldS 4 tab_powered (getV 0) (pureM (nrV (conD (.bl true))))) (sSeq (sFldS 4 tab_refused (getV 0) (pureM (nrV (conD (.int 0))))) (sSeq (sFldS 4 tab_generation (getV 0) (pureM (nrV (conD (.int 0))))) (sSeq (sFldL 4 tab__blocks 0 (compM (callV dRng1 (consA (nrV (getV 1)) noA)) (bNm 3) (makeS 0 f_Block___init__ 4 (consM (pureM (getV 2)) noM)) [3])) (sSeq (sFldL 4 tab__fates 0 (nmV (lstV noA))) (sFldL 4 tab__looks 0 (nmV (lstV noA))))))))))
def f_Chip___init__ : List D → List D → ResS := runS 3 5 m_Chip___init__
abbrev s_Chip_plan : Stmt := inClass (topS 12) 1
abbrev N_Chip_plan : List Str := ["self", "fates", "looks", "fate", "$"]
theorem sc_Chip_plan : FnScope N_Chip_plan ["self", "fates", "looks"] (defScope s_Chip_plan) := ⟨rfl, rfl, rfl, by decide +kernel, rfl, by decide +kernel, by decide +kernel⟩
def m_Chip_plan : Rho → Out := (sSeq (sIf (orB (toB (bin dGt (callV dLen (consA (derS 4 (getV 1)) noA)) (conD d_PLAN_LIMIT))) (notB (truV (callV dAll (consA (lstD (compV (ownItems (derS 4 (getV 1))) (bNm 3) yesB (bin dIn (getV 3) (conD d_FATES)) [3])) noA))))) (sRaiseA "InvalidFates" (consA (conD (.str "the fates are invalid")) noA)) sSkip) (sSeq (sIf (toB (bin dGt (callV dLen (consA (derS 4 (getV 2)) noA)) (conD d_PLAN_LIMIT))) (sRaiseA "InvalidLooks" (consA (conD (.str "there are too many looks")) noA)) sSkip) (sSeq (sFldL 4 tab__fates 0 (nmV (callV dList (consA (derS 4 (getV 1)) noA)))) (sFldL 4 tab__looks 0 (nmV (callV dList (consA (derS 4 (getV 2)) noA)))))))
def f_Chip_plan : List D → List D → ResS := runS 3 5 m_Chip_plan
abbrev s_Chip_fates_left : Stmt := inClass (topS 12) 2
abbrev N_Chip_fates_left : List Str := ["self", "$"]
theorem sc_Chip_fates_left : FnScope N_Chip_fates_left ["self"] (defScope s_Chip_fates_left) := ⟨rfl, rfl, rfl, by decide +kernel, rfl, by decide +kernel, by decide +kernel⟩
def m_Chip_fates_left : Rho → Out := (sRetM (pureM (nrV (lstD (callV dList (consA (conS 1 tab__fates (getV 0)) noA))))))
def f_Chip_fates_left : List D → List D → ResS := runS 1 2 m_Chip_fates_left
abbrev s_Chip_looks_left : Stmt := inClass (topS 12) 3
abbrev N_Chip_looks_left : List Str := ["self", "$"]
theorem sc_Chip_looks_left : FnScope N_Chip_looks_left ["self"] (defScope s_Chip_looks_left) := ⟨rfl, rfl, rfl, by decide +kernel, rfl, by decide +kernel, by decide +kernel⟩
def m_Chip_looks_left : Rho → Out := (sRetM (pureM (nrV (lstD (callV dList (consA (conS 1 tab__looks (getV 0)) noA))))))
def f_Chip_looks_left : List D → List D → ResS := runS 1 2 m_Chip_looks_left
abbrev s_Chip__block_at : Stmt := inClass (topS 12) 4
abbrev N_Chip__block_at : List Str := ["self", "block", "$"]
theorem sc_Chip__block_at : FnScope N_Chip__block_at ["self", "block"] (defScope s_Chip__block_at) := ⟨rfl, rfl, rfl, by decide +kernel, rfl, by decide +kernel, by decide +kernel⟩
def m_Chip__block_at : Rho → Out := (sSeq (sIf (notB (toB (chainV dLe dLt (conD (.int 0)) (derS 2 (getV 1)) (callV dLen (consA (conS 2 tab__blocks (getV 0)) noA))))) (sRaiseA "NoSuchBlock" (consA (fsV (fsCons (conD (.str "block ")) (fsCons (fmtV (derS 2 (getV 1))) fsNil))) noA)) sSkip) (sRetM (pureM (ixC 2 (plF 2 tab__blocks (getV 0)) (derS 2 (getV 1))))))
def f_Chip__block_at : List D → List D → ResS := runS 2 3 m_Chip__block_at
abbrev s_Chip__page_at : Stmt := inClass (topS 12) 5
abbrev N_Chip__page_at : List Str := ["self", "block", "page", "found", "$"]
theorem sc_Chip__page_at : FnScope N_Chip__page_at ["self", "block", "page"] (defScope s_Chip__page_at) := ⟨rfl, rfl, rfl, by decide +kernel, rfl, by decide +kernel, by decide +kernel⟩
def m_Chip__page_at : Rho → Out := (sSeq (sSetA 3 (methS 1 f_Chip__block_at 4 (getV 0) (consM (pureM (getV 1)) noM))) (sSeq (sIf (notB (toB (chainV dLe dLt (conD (.int 0)) (derS 4 (getV 2)) (callV dLen (consA (conS 4 tab_states (getV 3)) noA))))) (sRaiseA "NoSuchPage" (consA (fsV (fsCons (conD (.str "page ")) (fsCons (fmtV (derS 4 (getV 2))) fsNil))) noA)) sSkip) (sRetM (pureM (getV 3)))))
def f_Chip__page_at : List D → List D → ResS := runS 3 5 m_Chip__page_at
abbrev s_Chip_state : Stmt := inClass (topS 12) 13
abbrev N_Chip_state : List Str := ["self", "block", "page", "$"]
theorem sc_Chip_state : FnScope N_Chip_state ["self", "block", "page"] (defScope s_Chip_state) := ⟨rfl, rfl, rfl, by decide +kernel, rfl, by decide +kernel, by decide +kernel⟩
def m_Chip_state : Rho → Out := (sRetM (ixCM 3 (plFM 3 tab_states (methS 1 f_Chip__page_at 3 (getV 0) (consM (pureM (getV 1)) (consM (pureM (getV 2)) noM)))) (derS 3 (getV 2))))
def f_Chip_state : List D → List D → ResS := runS 3 4 m_Chip_state
abbrev s_Chip_erases : Stmt := inClass (topS 12) 14
abbrev N_Chip_erases : List Str := ["self", "block", "$"]
theorem sc_Chip_erases : FnScope N_Chip_erases ["self", "block"] (defScope s_Chip_erases) := ⟨rfl, rfl, rfl, by decide +kernel, rfl, by decide +kernel, by decide +kernel⟩
def m_Chip_erases : Rho → Out := (sRetM (fldM 2 tab_erased (methS 1 f_Chip__block_at 2 (getV 0) (consM (pureM (getV 1)) noM))))
def f_Chip_erases : List D → List D → ResS := runS 2 3 m_Chip_erases
abbrev s_Chip_is_alive : Stmt := inClass (topS 12) 15
abbrev N_Chip_is_alive : List Str := ["self", "block", "$"]
theorem sc_Chip_is_alive : FnScope N_Chip_is_alive ["self", "block"] (defScope s_Chip_is_alive) := ⟨rfl, rfl, rfl, by decide +kernel, rfl, by decide +kernel, by decide +kernel⟩
def m_Chip_is_alive : Rho → Out := (sRetM (fldM 2 tab_alive (methS 1 f_Chip__block_at 2 (getV 0) (consM (pureM (getV 1)) noM))))
def f_Chip_is_alive : List D → List D → ResS := runS 2 3 m_Chip_is_alive
abbrev s__law_draws : Stmt := topS 14
abbrev N__law_draws : List Str := ["script", "count", "draws", "k", "cell"]
theorem sc__law_draws : FnScope N__law_draws ["script", "count"] (defScope s__law_draws) := ⟨rfl, rfl, rfl, by decide +kernel, rfl, by decide +kernel, by decide +kernel⟩
def m__law_draws_b1 : Rho → Out := (sSeq (sSet 4 (conD (.int 0))) (sSeq (sIf (toB (bin dGt (callV dLen (consA (getV 0) noA)) (conD (.int 0)))) (sSet 4 (callV dInt (consA (bin dIx (getV 0) (bin dMod (getV 3) (callV dLen (consA (getV 0) noA)))) noA))) sSkip) (sSeq (sIf (toB (bin dLt (getV 4) (conD (.int 0)))) (sSet 4 (bin dSub (conD (.int 1)) (bin dMul (conD (.int 2)) (getV 4)))) sSkip) (sSeq (sIf (orB (toB (bin dLt (getV 4) (conD (.int 1000000000)))) (toB (bin dGe (getV 3) (callV dLen (consA (getV 0) noA))))) (sSeq (sSet 4 (bin dMod (callV dInt (consA (bin dAdd (bin dMul (getV 4) (conD (.int 6364136223846793005))) (bin dMul (conD (.int 1442695040888963407)) (bin dAdd (getV 3) (conD (.int 1))))) noA)) (conD (.int 9223372036854775783)))) (sSet 4 (bin dMod (callV dInt (consA (bin dAdd (bin dAdd (bin dMul (getV 4) (conD (.int 2862933555777941757))) (conD (.int 3037000493))) (getV 3)) noA)) (conD (.int 18446744073709551557))))) sSkip) (sApp 2 (getV 4))))))
def m__law_draws : Rho → Out := (sSeq (sSetN 2 (lstV noA)) (sSeq (sFor (callV dRng1 (consA (getV 1) noA)) (bNm 3) m__law_draws_b1) (sRet (getV 2))))
def f__law_draws : List D → Res D := runF 2 5 m__law_draws
abbrev s__law_is_new : Stmt := topS 15
abbrev N__law_is_new : List Str := ["chip", "blocks", "pages", "block", "page", "$"]
theorem sc__law_is_new : FnScope N__law_is_new ["chip", "blocks", "pages"] (defScope s__law_is_new) := ⟨rfl, rfl, rfl, by decide +kernel, rfl, by decide +kernel, by decide +kernel⟩
def m__law_is_new_b2 : Rho → Out := (sIfM (toBM (binM dNe (nrM (methS 1 f_Chip_state 5 (getV 0) (consM (pureM (nrV (getV 3))) (consM (pureM (nrV (getV 4))) noM)))) (pureM (tupV (consA (conD (.str "blank")) noA))))) (sRetM (pureM (nrV (conD (.bl false))))) sSkip)
def m__law_is_new_b1 : Rho → Out := (sSeq (sIfM (orM (toBM (binM dNe (nrM (methS 1 f_Chip_erases 5 (getV 0) (consM (pureM (nrV (getV 3))) noM))) (pureM (conD (.int 0))))) (toBM (binM dIsNot (nrM (methS 1 f_Chip_is_alive 5 (getV 0) (consM (pureM (nrV (getV 3))) noM))) (pureM (conD (.bl true)))))) (sRetM (pureM (nrV (conD (.bl false))))) sSkip) (sFor (callV dRng1 (consA (nrV (getV 2)) noA)) (bNm 4) m__law_is_new_b2))
def m__law_is_new : Rho → Out := (sSeq (sIf (orB (toB (bin dNe (derS 5 (fldS 5 tab_shape (getV 0))) (tupV (consA (nrV (getV 1)) (consA (nrV (getV 2)) noA))))) (orB (toB (bin dIsNot (derS 5 (fldS 5 tab_powered (getV 0))) (conD (.bl true)))) (orB (toB (bin dNe (derS 5 (fldS 5 tab_refused (getV 0))) (conD (.int 0)))) (toB (bin dNe (derS 5 (fldS 5 tab_generation (getV 0))) (conD (.int 0))))))) (sRetM (pureM (nrV (conD (.bl false))))) sSkip) (sSeq (sFor (callV dRng1 (consA (nrV (getV 1)) noA)) (bNm 3) m__law_is_new_b1) (sRetM (nrM (andVM (binM dEq (nrM (methS 1 f_Chip_fates_left 5 (getV 0) noM)) (pureM (lstD (lstV noA)))) (binM dEq (nrM (methS 1 f_Chip_looks_left 5 (getV 0) noM)) (pureM (lstD (lstV noA)))))))))
def f__law_is_new : List D → List D → ResS := runS 3 6 m__law_is_new
abbrev s__law_asks_first : Stmt := topS 16
abbrev N__law_asks_first : List Str := ["script", "draws", "blocks", "pages", "fits", "chip", "$"]
theorem sc__law_asks_first : FnScope N__law_asks_first ["script"] (defScope s__law_asks_first) := ⟨rfl, rfl, rfl, by decide +kernel, rfl, by decide +kernel, by decide +kernel⟩
def m__law_asks_first : Rho → Out := (sSeq (sSet 1 (callV f__law_draws (consA (getV 0) (consA (conD (.int 3)) noA)))) (sSeq (sSet 2 (bin dMod (bin dIx (getV 1) (conD (.int 0))) (conD (.int 60)))) (sSeq (sSet 3 (bin dMod (bin dIx (getV 1) (conD (.int 1))) (conD (.int 45)))) (sSeq (sIf (toB (bin dGt (bin dMod (bin dIx (getV 1) (conD (.int 2))) (conD (.int 3))) (conD (.int 0)))) (sSeq (sSet 2 (bin dAdd (conD (.int 23)) (bin dMod (bin dIx (getV 1) (conD (.int 0))) (conD (.int 27))))) (sSet 3 (bin dAdd (conD (.int 15)) (bin dMod (bin dIx (getV 1) (conD (.int 1))) (conD (.int 19)))))) sSkip) (sSeq (sSet 4 (andV (chainV dLe dLe (conD (.int 24)) (getV 2) (conD (.int 48))) (chainV dLe dLe (conD (.int 16)) (getV 3) (conD (.int 32))))) (sSeq (sTry d_classes d_sub (sSetA 5 (makeS 1 f_Chip___init__ 6 (consM (pureM (nrV (getV 2))) (consM (pureM (nrV (getV 3))) noM)))) [("InvalidSize", fun _ => (sRetM (pureM (nrV (notV (getV 4))))))]) (sRetM (nrM (andVM (pureM (getV 4)) (nrM (callS f__law_is_new 6 (consM (pureM (getV 5)) (consM (pureM (nrV (getV 2))) (consM (pureM (nrV (getV 3))) noM))))))))))))))
def f__law_asks_first : List D → Res D := runE 1 7 m__law_asks_first
abbrev s__law_fates : Stmt := topS 17
abbrev N__law_fates : List Str := ["draw", "count", "words", "k"]
theorem sc__law_fates : FnScope N__law_fates ["draw", "count"] (defScope s__law_fates) := ⟨rfl, rfl, rfl, by decide +kernel, rfl, by decide +kernel, by decide +kernel⟩
def m__law_fates : Rho → Out := (sSeq (sSet 2 (tupV (consA (conD (.str "ok")) (consA (conD (.str "fail")) (consA (conD (.str "before")) (consA (conD (.str "during")) noA)))))) (sRetN (compV (callV dRng1 (consA (getV 1) noA)) (bNm 3) yesB (bin dIx (getV 2) (bin dMod (callV dInt (consA (bin dDiv (getV 0) (bin dAdd (getV 3) (conD (.int 1)))) noA)) (conD (.int 4)))) [3])))
def f__law_fates : List D → Res D := runF 2 4 m__law_fates
theorem nx__law_fates (ρ : Rho) : ∀ ρ', m__law_fates ρ ≠ .nx ρ' := (nq_seq nq_retN) ρ
abbrev s__law_count : Stmt := topS 18
abbrev N__law_count : List Str := ["draw", "few"]
theorem sc__law_count : FnScope N__law_count ["draw", "few"] (defScope s__law_count) := ⟨rfl, rfl, rfl, by decide +kernel, rfl, by decide +kernel, by decide +kernel⟩
def m__law_count : Rho → Out := (sSeq (sIf (toB (bin dEq (bin dMod (getV 0) (conD (.int 4))) (conD (.int 3)))) (sRet (bin dAdd (conD (.int 198)) (bin dMod (bin dDiv (getV 0) (conD (.int 4))) (conD (.int 6))))) sSkip) (sRet (bin dMod (bin dDiv (getV 0) (conD (.int 4))) (getV 1))))
def f__law_count : List D → Res D := runF 2 2 m__law_count
abbrev s__law_asks_second : Stmt := topS 19
abbrev N__law_asks_second : List Str := ["script", "draws", "chip", "first", "fates", "looks", "known", "given", "word", "$"]
theorem sc__law_asks_second : FnScope N__law_asks_second ["script"] (defScope s__law_asks_second) := ⟨rfl, rfl, rfl, by decide +kernel, rfl, by decide +kernel, by decide +kernel⟩
def m__law_asks_second : Rho → Out := (sSeq (sSet 1 (callV f__law_draws (consA (getV 0) (consA (conD (.int 5)) noA)))) (sSeq (sSetA 2 (makeS 1 f_Chip___init__ 9 (consM (pureM (nrV (conD (.int 24)))) (consM (pureM (nrV (conD (.int 16)))) noM)))) (sSeq (sSet 3 (tupV (consA (lstD (callN f__law_fates (consA (bin dIx (getV 1) (conD (.int 0))) (consA (bin dMod (bin dIx (getV 1) (conD (.int 0))) (conD (.int 7))) noA)))) (consA (lstD (bin dRep (lstD (lstV (consA (bin dEq (bin dMod (bin dIx (getV 1) (conD (.int 1))) (conD (.int 3))) (conD (.int 0))) noA))) (bin dMod (bin dIx (getV 1) (conD (.int 1))) (conD (.int 6))))) noA)))) (sSeq (sDropM (methS 1 f_Chip_plan 9 (getV 2) (consM (pureM (nrV (lstD (callV dList (consA (bin dIx (getV 3) (conD (.int 0))) noA))))) (consM (pureM (nrV (lstD (callV dList (consA (bin dIx (getV 3) (conD (.int 1))) noA))))) noM)))) (sSeq (sSetA 4 (rootN 9 (callN f__law_fates (consA (bin dIx (getV 1) (conD (.int 2))) (consA (callV f__law_count (consA (bin dIx (getV 1) (conD (.int 2))) (consA (conD (.int 5)) noA))) noA))))) (sSeq (sSetA 5 (rootN 9 (bin dRep (lstD (lstV (consA (bin dEq (bin dMod (bin dIx (getV 1) (conD (.int 3))) (conD (.int 5))) (conD (.int 0))) noA))) (callV f__law_count (consA (bin dIx (getV 1) (conD (.int 3))) (consA (conD (.int 4)) noA)))))) (sSeq (sSet 6 (conD (.bl true))) (sSeq (sIf (andB (toB (bin dEq (bin dMod (bin dIx (getV 1) (conD (.int 4))) (conD (.int 5))) (conD (.int 0)))) (toB (bin dGt (callV dLen (consA (derS 9 (getV 4)) noA)) (conD (.int 0))))) (sSeq (sSetIC 9 (plR 9 (getV 4)) (bin dMod (bin dDiv (bin dIx (getV 1) (conD (.int 4))) (conD (.int 5))) (callV dLen (consA (derS 9 (getV 4)) noA))) (nrV (conD (.str "after")))) (sSet 6 (conD (.bl false)))) sSkip) (sSeq (sSet 7 (tupV (consA (lstD (callV dList (consA (derS 9 (getV 4)) noA))) (consA (lstD (callV dList (consA (derS 9 (getV 5)) noA))) noA)))) (sSeq (sSet 8 (conD (.str "done"))) (sSeq (sTry d_classes d_sub (sDropM (methS 1 f_Chip_plan 9 (getV 2) (consM (pureM (getV 4)) (consM (pureM (getV 5)) noM)))) [("InvalidFates", fun _ => (sSet 8 (conD (.str "fates")))), ("InvalidLooks", fun _ => (sSet 8 (conD (.str "looks"))))]) (sSeq (sIf (toB (bin dNe (tupV (consA (derS 9 (getV 4)) (consA (derS 9 (getV 5)) noA))) (getV 7))) (sRetM (pureM (nrV (conD (.bl false))))) sSkip) (sSeq (sAppC 9 (plR 9 (getV 4)) (nrV (conD (.str "fail")))) (sSeq (sAppC 9 (plR 9 (getV 5)) (nrV (conD (.bl false)))) (sSeq (sIf (orB (notB (truV (getV 6))) (toB (bin dGt (callV dLen (consA (bin dIx (getV 7) (conD (.int 0))) noA)) (conD (.int 200))))) (sRetM (nrM (andVM (pureM (bin dEq (getV 8) (conD (.str "fates")))) (binM dEq (tupM (consM (methS 1 f_Chip_fates_left 9 (getV 2) noM) (consM (methS 1 f_Chip_looks_left 9 (getV 2) noM) noM))) (pureM (getV 3)))))) sSkip) (sSeq (sIf (toB (bin dGt (callV dLen (consA (bin dIx (getV 7) (conD (.int 1))) noA)) (conD (.int 200)))) (sRetM (nrM (andVM (pureM (bin dEq (getV 8) (conD (.str "looks")))) (binM dEq (tupM (consM (methS 1 f_Chip_fates_left 9 (getV 2) noM) (consM (methS 1 f_Chip_looks_left 9 (getV 2) noM) noM))) (pureM (getV 3)))))) sSkip) (sRetM (nrM (andVM (pureM (bin dEq (getV 8) (conD (.str "done")))) (binM dEq (tupM (consM (methS 1 f_Chip_fates_left 9 (getV 2) noM) (consM (methS 1 f_Chip_looks_left 9 (getV 2) noM) noM))) (pureM (getV 7))))))))))))))))))))))
def f__law_asks_second : List D → Res D := runE 1 10 m__law_asks_second
abbrev s_law : Stmt := topS 20
abbrev N_law : List Str := ["script"]
theorem sc_law : FnScope N_law ["script"] (defScope s_law) := ⟨rfl, rfl, rfl, by decide +kernel, rfl, by decide +kernel, by decide +kernel⟩
def m_law : Rho → Out := (sRet (andV (callV f__law_asks_first (consA (getV 0) noA)) (callV f__law_asks_second (consA (getV 0) noA))))
def f_law : List D → Res D := runF 1 1 m_law
/-! the facts of the text -/
structure Txt [Mg] (K : PySem.W.Frag) (mg : Str → Option Value) (w : World) where
  a_Block___init__ : Addr
  fd_Block___init__ : FuncData
  F_Block___init__ : Fun K "__init__" "Block.__init__" s_Block___init__ a_Block___init__ fd_Block___init__
  b_Block___init__ : Binds K fd_Block___init__ ["self", "pages"] []
  k_Block : Mk K (Mg.cls 0) a_Block___init__
  a_Chip___init__ : Addr
  fd_Chip___init__ : FuncData
  F_Chip___init__ : Fun K "__init__" "Chip.__init__" s_Chip___init__ a_Chip___init__ fd_Chip___init__
  b_Chip___init__ : Binds K fd_Chip___init__ ["self", "blocks", "pages"] []
  k_Chip : Mk K (Mg.cls 1) a_Chip___init__
  a_Chip_plan : Addr
  fd_Chip_plan : FuncData
  F_Chip_plan : Fun K "plan" "Chip.plan" s_Chip_plan a_Chip_plan fd_Chip_plan
  b_Chip_plan : Binds K fd_Chip_plan ["self", "fates", "looks"] []
  m_Chip_plan : MethC K 1 "plan" a_Chip_plan
  a_Chip_fates_left : Addr
  fd_Chip_fates_left : FuncData
  F_Chip_fates_left : Fun K "fates_left" "Chip.fates_left" s_Chip_fates_left a_Chip_fates_left fd_Chip_fates_left
  b_Chip_fates_left : Binds K fd_Chip_fates_left ["self"] []
  m_Chip_fates_left : MethC K 1 "fates_left" a_Chip_fates_left
  a_Chip_looks_left : Addr
  fd_Chip_looks_left : FuncData
  F_Chip_looks_left : Fun K "looks_left" "Chip.looks_left" s_Chip_looks_left a_Chip_looks_left fd_Chip_looks_left
  b_Chip_looks_left : Binds K fd_Chip_looks_left ["self"] []
  m_Chip_looks_left : MethC K 1 "looks_left" a_Chip_looks_left
  a_Chip__block_at : Addr
  fd_Chip__block_at : FuncData
  F_Chip__block_at : Fun K "_block_at" "Chip._block_at" s_Chip__block_at a_Chip__block_at fd_Chip__block_at
  b_Chip__block_at : Binds K fd_Chip__block_at ["self", "block"] []
  m_Chip__block_at : MethC K 1 "_block_at" a_Chip__block_at
  a_Chip__page_at : Addr
  fd_Chip__page_at : FuncData
  F_Chip__page_at : Fun K "_page_at" "Chip._page_at" s_Chip__page_at a_Chip__page_at fd_Chip__page_at
  b_Chip__page_at : Binds K fd_Chip__page_at ["self", "block", "page"] []
  m_Chip__page_at : MethC K 1 "_page_at" a_Chip__page_at
  a_Chip_state : Addr
  fd_Chip_state : FuncData
  F_Chip_state : Fun K "state" "Chip.state" s_Chip_state a_Chip_state fd_Chip_state
  b_Chip_state : Binds K fd_Chip_state ["self", "block", "page"] []
  m_Chip_state : MethC K 1 "state" a_Chip_state
  a_Chip_erases : Addr
  fd_Chip_erases : FuncData
  F_Chip_erases : Fun K "erases" "Chip.erases" s_Chip_erases a_Chip_erases fd_Chip_erases
  b_Chip_erases : Binds K fd_Chip_erases ["self", "block"] []
  m_Chip_erases : MethC K 1 "erases" a_Chip_erases
  a_Chip_is_alive : Addr
  fd_Chip_is_alive : FuncData
  F_Chip_is_alive : Fun K "is_alive" "Chip.is_alive" s_Chip_is_alive a_Chip_is_alive fd_Chip_is_alive
  b_Chip_is_alive : Binds K fd_Chip_is_alive ["self", "block"] []
  m_Chip_is_alive : MethC K 1 "is_alive" a_Chip_is_alive
  a__law_draws : Addr
  fd__law_draws : FuncData
  F__law_draws : Fun K "_law_draws" "_law_draws" s__law_draws a__law_draws fd__law_draws
  g__law_draws : mg "_law_draws" = some (.ref a__law_draws)
  b__law_draws : Binds K fd__law_draws ["script", "count"] []
  a__law_is_new : Addr
  fd__law_is_new : FuncData
  F__law_is_new : Fun K "_law_is_new" "_law_is_new" s__law_is_new a__law_is_new fd__law_is_new
  g__law_is_new : mg "_law_is_new" = some (.ref a__law_is_new)
  b__law_is_new : Binds K fd__law_is_new ["chip", "blocks", "pages"] []
  a__law_asks_first : Addr
  fd__law_asks_first : FuncData
  F__law_asks_first : Fun K "_law_asks_first" "_law_asks_first" s__law_asks_first a__law_asks_first fd__law_asks_first
  g__law_asks_first : mg "_law_asks_first" = some (.ref a__law_asks_first)
  b__law_asks_first : Binds K fd__law_asks_first ["script"] []
  a__law_fates : Addr
  fd__law_fates : FuncData
  F__law_fates : Fun K "_law_fates" "_law_fates" s__law_fates a__law_fates fd__law_fates
  g__law_fates : mg "_law_fates" = some (.ref a__law_fates)
  b__law_fates : Binds K fd__law_fates ["draw", "count"] []
  a__law_count : Addr
  fd__law_count : FuncData
  F__law_count : Fun K "_law_count" "_law_count" s__law_count a__law_count fd__law_count
  g__law_count : mg "_law_count" = some (.ref a__law_count)
  b__law_count : Binds K fd__law_count ["draw", "few"] []
  a__law_asks_second : Addr
  fd__law_asks_second : FuncData
  F__law_asks_second : Fun K "_law_asks_second" "_law_asks_second" s__law_asks_second a__law_asks_second fd__law_asks_second
  g__law_asks_second : mg "_law_asks_second" = some (.ref a__law_asks_second)
  b__law_asks_second : Binds K fd__law_asks_second ["script"] []
  a_law : Addr
  fd_law : FuncData
  F_law : Fun K "law" "law" s_law a_law fd_law
  g_law : mg "law" = some (.ref a_law)
  b_law : Binds K fd_law ["script"] []
  c_FATES : ∃ u, mg "FATES" = some u ∧ ∃ v, RelV v u ∧ ∀ B, Rp K B v d_FATES
  c_PLAN_LIMIT : ∃ u, mg "PLAN_LIMIT" = some u ∧ ∃ v, RelV v u ∧ ∀ B, Rp K B v d_PLAN_LIMIT
  g_Block : mg "Block" = some (.ref (Mg.cls 0))
  g_Chip : mg "Chip" = some (.ref (Mg.cls 1))
  fsA : ∀ c, FldS c
  ft_states : FldT K "states" tab_states
  ft_erased : FldT K "erased" tab_erased
  ft_alive : FldT K "alive" tab_alive
  ft_shape : FldT K "shape" tab_shape
  ft_powered : FldT K "powered" tab_powered
  ft_refused : FldT K "refused" tab_refused
  ft_generation : FldT K "generation" tab_generation
  ft__blocks : FldT K "_blocks" tab__blocks
  ft__fates : FldT K "_fates" tab__fates
  ft__looks : FldT K "_looks" tab__looks
  A_InvalidFates : Addr
  x_InvalidFates : XCls K mg "InvalidFates" A_InvalidFates
  y_InvalidFates : XNew K A_InvalidFates "ValueError" "ValueError.__new__" "ValueError.__init__" [.type "ValueError", .type "Exception", .type "BaseException", .type "object"]
  A_InvalidLooks : Addr
  x_InvalidLooks : XCls K mg "InvalidLooks" A_InvalidLooks
  y_InvalidLooks : XNew K A_InvalidLooks "ValueError" "ValueError.__new__" "ValueError.__init__" [.type "ValueError", .type "Exception", .type "BaseException", .type "object"]
  A_InvalidSize : Addr
  x_InvalidSize : XCls K mg "InvalidSize" A_InvalidSize
  y_InvalidSize : XNew K A_InvalidSize "ValueError" "ValueError.__new__" "ValueError.__init__" [.type "ValueError", .type "Exception", .type "BaseException", .type "object"]
  A_NoSuchBlock : Addr
  x_NoSuchBlock : XCls K mg "NoSuchBlock" A_NoSuchBlock
  y_NoSuchBlock : XNew K A_NoSuchBlock "ValueError" "ValueError.__new__" "ValueError.__init__" [.type "ValueError", .type "Exception", .type "BaseException", .type "object"]
  A_NoSuchPage : Addr
  x_NoSuchPage : XCls K mg "NoSuchPage" A_NoSuchPage
  y_NoSuchPage : XNew K A_NoSuchPage "ValueError" "ValueError.__new__" "ValueError.__init__" [.type "ValueError", .type "Exception", .type "BaseException", .type "object"]
  subs : Subs K mg d_classes d_sub
  n_all : mg "all" = none
  n_int : mg "int" = none
  n_len : mg "len" = none
  n_list : mg "list" = none
  n_range : mg "range" = none
section
variable [Mg] {K : PySem.W.Frag} {mg : Str → Option Value}
theorem Txt.e_FATES {w : World} (T : Txt K mg w) {X : Cx} {W : WX} {G : List Mode} {pos : Pos} (hg : Gl X "FATES") (hK : X.K = K := by rfl) (hm : X.mg = mg := by rfl) : EJ X W G (.Name "FATES" pos) (conD d_FATES) := by
  subst hK hm
  obtain ⟨u, h1, v, h2, h3⟩ := T.c_FATES
  exact ej_glob hg h1 h2 h3
theorem Txt.e_PLAN_LIMIT {w : World} (T : Txt K mg w) {X : Cx} {W : WX} {G : List Mode} {pos : Pos} (hg : Gl X "PLAN_LIMIT") (hK : X.K = K := by rfl) (hm : X.mg = mg := by rfl) : EJ X W G (.Name "PLAN_LIMIT" pos) (conD d_PLAN_LIMIT) := by
  subst hK hm
  obtain ⟨u, h1, v, h2, h3⟩ := T.c_PLAN_LIMIT
  exact ej_glob hg h1 h2 h3
theorem ok_Block___init__ {w : World} (T : Txt K mg w) {P : Program} {base : Heap} : FnOk P w K mg base (L2.CX P w) 1 T.a_Block___init__ T.fd_Block___init__ ["self", "pages"] (spS K mg 2 f_Block___init__) := by
  refine fnS_ok (G0 := [Mode.any, Mode.any, Mode.sto]) T.F_Block___init__ sc_Block___init__ 2 3 rfl rfl (by decide) "$" rfl (by decide +kernel) rfl rfl [Mode.fz, Mode.fz, Mode.sto] rfl (leM_p (by first | exact True.intro | (repeat (first | exact True.intro | refine And.intro (Or.inl rfl) ?_ | refine And.intro (Or.inr rfl) ?_ | refine And.intro rfl ?_)))) fun cdv A outer s H E hr => ?_
  have tk : Takes (cxOf (L2.CX P w) P w K mg base N_Block___init__ "Block.__init__" (defScope s_Block___init__) T.a_Block___init__ cdv A outer s H E) (WE1 E) := takes_of rfl rfl rfl rfl
  exact ⟨[Mode.any, Mode.any, Mode.sto], (ssj_cons (sj_fsetL (S := 2) (i := 0) T.ft_states (fun c _ _ _ => T.fsA c) (pv 0) (nmj_nj (nj_bin bin_rep calm_rep (EJ.bj (NJ.ej (nj_lst (aj_cons (ej_tup (aj_cons ej_str aj_nil)) aj_nil)))) (bj_der (S := 2) (pj_var (i := 1) (pv 1)))))) (ssj_cons (sj_fsetS (S := 2) T.ft_erased (fun c _ _ _ => T.fsA c) (pj_var (i := 0) (pv 0)) (mj_pj (pj_ej ej_int))) (ssj_one (sj_fsetS (S := 2) T.ft_alive (fun c _ _ _ => T.fsA c) (pj_var (i := 0) (pv 0)) (mj_pj (pj_ej ej_bl)))))), rfl⟩
theorem ok_Chip___init__ {w : World} (T : Txt K mg w) {P : Program} {base : Heap} : FnOk P w K mg base (L2.CX P w) 3 T.a_Chip___init__ T.fd_Chip___init__ ["self", "blocks", "pages"] (spS K mg 3 f_Chip___init__) := by
  refine fnS_ok (G0 := [Mode.any, Mode.any, Mode.any, Mode.fz, Mode.sto]) T.F_Chip___init__ sc_Chip___init__ 3 5 rfl rfl (by decide) "$" rfl (by decide +kernel) rfl rfl [Mode.fz, Mode.fz, Mode.fz, Mode.fz, Mode.sto] rfl (leM_p (by first | exact True.intro | (repeat (first | exact True.intro | refine And.intro (Or.inl rfl) ?_ | refine And.intro (Or.inr rfl) ?_ | refine And.intro rfl ?_)))) fun cdv A outer s H E hr => ?_
  have tk : Takes (cxOf (L2.CX P w) P w K mg base N_Chip___init__ "Chip.__init__" (defScope s_Chip___init__) T.a_Chip___init__ cdv A outer s H E) (WE1 E) := takes_of rfl rfl rfl rfl
  exact ⟨[Mode.any, Mode.any, Mode.any, Mode.fz, Mode.sto], (ssj_cons (sj_if (WJ.tj (wj_or (tj_not (tj_chain cmp_le calm_le cmp_le calm_le (EJ.bj ej_int) (bj_der (S := 4) (pj_var (i := 1) (pv 1))) (EJ.bj ej_int))) (wj_or1 (tj_not (tj_chain cmp_le calm_le cmp_le calm_le (EJ.bj ej_int) (bj_der (S := 4) (pj_var (i := 2) (pv 2))) (EJ.bj ej_int)))))) (ssj_one (sj_raiseA rfl tk T.y_InvalidSize T.x_InvalidSize (by rfl) (baj_cons (EJ.bj (ej_fs (fj_cons (ej_fmt (bj_der (S := 4) (pj_var (i := 1) (pv 1)))) (fj_cons ej_str (fj_cons (ej_fmt (bj_der (S := 4) (pj_var (i := 2) (pv 2)))) (fj_cons ej_str fj_nil)))))) baj_nil))) ssj_nil) (ssj_cons (sj_fsetS (S := 4) T.ft_shape (fun c _ _ _ => T.fsA c) (pj_var (i := 0) (pv 0)) (mj_pj (pj_ej (ej_tup (aj_cons (ej_pj (pj_var (i := 1) (pv 1))) (aj_cons (ej_pj (pj_var (i := 2) (pv 2))) aj_nil)))))) (ssj_cons (sj_fsetS (S := 4) T.ft_powered (fun c _ _ _ => T.fsA c) (pj_var (i := 0) (pv 0)) (mj_pj (pj_ej ej_bl))) (ssj_cons (sj_fsetS (S := 4) T.ft_refused (fun c _ _ _ => T.fsA c) (pj_var (i := 0) (pv 0)) (mj_pj (pj_ej ej_int))) (ssj_cons (sj_fsetS (S := 4) T.ft_generation (fun c _ _ _ => T.fsA c) (pj_var (i := 0) (pv 0)) (mj_pj (pj_ej ej_int))) (ssj_cons (sj_fsetL (S := 4) (i := 0) T.ft__blocks (fun c _ _ _ => T.fsA c) (pv 0) (nmj_lc (own0 := [("_", 3)]) rfl sc_Chip___init__.nd (ij_range1 (by rfl) T.n_range (aj_cons (ej_pj (pj_var (i := 1) (pv 1))) aj_nil)) (blkOk_by (N := N_Chip___init__) (sc := defScope s_Chip___init__) (by decide +kernel)) (fun _ _ _ _ _ => (gj_nm (pg_name (i := 3) sc_Chip___init__.nd rfl (by first | exact .inl rfl | exact .inr rfl)))) (by decide) (fz_cons rfl fz_nil) (fun _ _ _ _ _ => (mj_makeS (S := 4) (c := 0) T.k_Block runS_len (ok_Block___init__ T) (hr.mono (by decide : 2 ≤ 2)) (by rfl) T.g_Block T.b_Block___init__ takes0 (maj_cons (mj_pj (pj_var (i := 2) (pv 2))) maj_nil))))) (ssj_cons (sj_fsetL (S := 4) (i := 0) T.ft__fates (fun c _ _ _ => T.fsA c) (pv 0) (nmj_nj (nj_lst aj_nil))) (ssj_one (sj_fsetL (S := 4) (i := 0) T.ft__looks (fun c _ _ _ => T.fsA c) (pv 0) (nmj_nj (nj_lst aj_nil))))))))))), rfl⟩
theorem ok_Chip_plan {w : World} (T : Txt K mg w) {P : Program} {base : Heap} : FnOk P w K mg base (L2.CX P w) 1 T.a_Chip_plan T.fd_Chip_plan ["self", "fates", "looks"] (spS K mg 3 f_Chip_plan) := by
  refine fnS_ok (G0 := [Mode.any, Mode.any, Mode.any, Mode.fz, Mode.sto]) T.F_Chip_plan sc_Chip_plan 3 5 rfl rfl (by decide) "$" rfl (by decide +kernel) rfl rfl [Mode.fz, Mode.fz, Mode.fz, Mode.fz, Mode.sto] rfl (leM_p (by first | exact True.intro | (repeat (first | exact True.intro | refine And.intro (Or.inl rfl) ?_ | refine And.intro (Or.inr rfl) ?_ | refine And.intro rfl ?_)))) fun cdv A outer s H E hr => ?_
  have tk : Takes (cxOf (L2.CX P w) P w K mg base N_Chip_plan "Chip.plan" (defScope s_Chip_plan) T.a_Chip_plan cdv A outer s H E) (WE1 E) := takes_of rfl rfl rfl rfl
  exact ⟨[Mode.any, Mode.any, Mode.any, Mode.fz, Mode.sto], (ssj_cons (sj_if (WJ.tj (wj_or (tj_cmp cmp_gt calm_gt (nomark _) (EJ.bj (ej_B fn_len (by rfl) T.n_len PySem.boot_len (baj_cons (bj_der (S := 4) (pj_var (i := 1) (pv 1))) baj_nil))) (EJ.bj (T.e_PLAN_LIMIT rfl))) (wj_or1 (tj_not (tj_tru (EJ.bj (ej_B (fn_all rfl) (by rfl) T.n_all boot_all (baj_cons (EJ.bj (NJ.ej (nj_lc (own0 := [("fate", 3)]) rfl sc_Chip_plan.nd (ibj_own (bj_der (S := 4) (pj_var (i := 1) (pv 1)))) (blkOk_by (N := N_Chip_plan) (sc := defScope s_Chip_plan) (by decide +kernel)) (fun _ _ _ _ _ => (gj_nm (pg_name (i := 3) sc_Chip_plan.nd rfl (by first | exact .inl rfl | exact .inr rfl)))) (by decide) (fz_cons rfl fz_nil) (fun _ _ _ _ _ => (ej_cmp (cmp_in hr.units) calm_in (by rfl) (EJ.bj (ej_var 3 (pv 3))) (EJ.bj (T.e_FATES rfl))))))) baj_nil)))))))) (ssj_one (sj_raiseA rfl tk T.y_InvalidFates T.x_InvalidFates (by rfl) (baj_cons (EJ.bj ej_str) baj_nil))) ssj_nil) (ssj_cons (sj_if (tj_cmp cmp_gt calm_gt (nomark _) (EJ.bj (ej_B fn_len (by rfl) T.n_len PySem.boot_len (baj_cons (bj_der (S := 4) (pj_var (i := 2) (pv 2))) baj_nil))) (EJ.bj (T.e_PLAN_LIMIT rfl))) (ssj_one (sj_raiseA rfl tk T.y_InvalidLooks T.x_InvalidLooks (by rfl) (baj_cons (EJ.bj ej_str) baj_nil))) ssj_nil) (ssj_cons (sj_fsetL (S := 4) (i := 0) T.ft__fates (fun c _ _ _ => T.fsA c) (pv 0) (nmj_nj (nj_Ty fn_list (by rfl) T.n_list PyProof.Rows.boot_list (baj_cons (bj_der (S := 4) (pj_var (i := 1) (pv 1))) baj_nil)))) (ssj_one (sj_fsetL (S := 4) (i := 0) T.ft__looks (fun c _ _ _ => T.fsA c) (pv 0) (nmj_nj (nj_Ty fn_list (by rfl) T.n_list PyProof.Rows.boot_list (baj_cons (bj_der (S := 4) (pj_var (i := 2) (pv 2))) baj_nil)))))))), rfl⟩
theorem ok_Chip_fates_left {w : World} (T : Txt K mg w) {P : Program} {base : Heap} : FnOk P w K mg base (L2.CX P w) 1 T.a_Chip_fates_left T.fd_Chip_fates_left ["self"] (spS K mg 1 f_Chip_fates_left) := by
  refine fnS_ok (G0 := [Mode.any, Mode.sto]) T.F_Chip_fates_left sc_Chip_fates_left 1 2 rfl rfl (by decide) "$" rfl (by decide +kernel) rfl rfl [Mode.fz, Mode.sto] rfl (leM_p (by first | exact True.intro | (repeat (first | exact True.intro | refine And.intro (Or.inl rfl) ?_ | refine And.intro (Or.inr rfl) ?_ | refine And.intro rfl ?_)))) fun cdv A outer s H E hr => ?_
  have tk : Takes (cxOf (L2.CX P w) P w K mg base N_Chip_fates_left "Chip.fates_left" (defScope s_Chip_fates_left) T.a_Chip_fates_left cdv A outer s H E) (WE1 E) := takes_of rfl rfl rfl rfl
  exact ⟨[Mode.any, Mode.sto], (ssj_one (sj_retM (mj_pj (pj_ej (NJ.ej (nj_Ty fn_list (by rfl) T.n_list PyProof.Rows.boot_list (baj_cons (bj_con (S := 1) T.ft__fates (pj_var (i := 0) (pv 0))) baj_nil))))))), rfl⟩
theorem ok_Chip_looks_left {w : World} (T : Txt K mg w) {P : Program} {base : Heap} : FnOk P w K mg base (L2.CX P w) 1 T.a_Chip_looks_left T.fd_Chip_looks_left ["self"] (spS K mg 1 f_Chip_looks_left) := by
  refine fnS_ok (G0 := [Mode.any, Mode.sto]) T.F_Chip_looks_left sc_Chip_looks_left 1 2 rfl rfl (by decide) "$" rfl (by decide +kernel) rfl rfl [Mode.fz, Mode.sto] rfl (leM_p (by first | exact True.intro | (repeat (first | exact True.intro | refine And.intro (Or.inl rfl) ?_ | refine And.intro (Or.inr rfl) ?_ | refine And.intro rfl ?_)))) fun cdv A outer s H E hr => ?_
  have tk : Takes (cxOf (L2.CX P w) P w K mg base N_Chip_looks_left "Chip.looks_left" (defScope s_Chip_looks_left) T.a_Chip_looks_left cdv A outer s H E) (WE1 E) := takes_of rfl rfl rfl rfl
  exact ⟨[Mode.any, Mode.sto], (ssj_one (sj_retM (mj_pj (pj_ej (NJ.ej (nj_Ty fn_list (by rfl) T.n_list PyProof.Rows.boot_list (baj_cons (bj_con (S := 1) T.ft__looks (pj_var (i := 0) (pv 0))) baj_nil))))))), rfl⟩
theorem ok_Chip__block_at {w : World} (T : Txt K mg w) {P : Program} {base : Heap} : FnOk P w K mg base (L2.CX P w) 1 T.a_Chip__block_at T.fd_Chip__block_at ["self", "block"] (spS K mg 2 f_Chip__block_at) := by
  refine fnS_ok (G0 := [Mode.any, Mode.any, Mode.sto]) T.F_Chip__block_at sc_Chip__block_at 2 3 rfl rfl (by decide) "$" rfl (by decide +kernel) rfl rfl [Mode.fz, Mode.fz, Mode.sto] rfl (leM_p (by first | exact True.intro | (repeat (first | exact True.intro | refine And.intro (Or.inl rfl) ?_ | refine And.intro (Or.inr rfl) ?_ | refine And.intro rfl ?_)))) fun cdv A outer s H E hr => ?_
  have tk : Takes (cxOf (L2.CX P w) P w K mg base N_Chip__block_at "Chip._block_at" (defScope s_Chip__block_at) T.a_Chip__block_at cdv A outer s H E) (WE1 E) := takes_of rfl rfl rfl rfl
  exact ⟨[Mode.any, Mode.any, Mode.sto], (ssj_cons (sj_if (tj_not (tj_chain cmp_le calm_le cmp_lt calm_lt (EJ.bj ej_int) (bj_der (S := 2) (pj_var (i := 1) (pv 1))) (EJ.bj (ej_B fn_len (by rfl) T.n_len PySem.boot_len (baj_cons (bj_con (S := 2) T.ft__blocks (pj_var (i := 0) (pv 0))) baj_nil))))) (ssj_one (sj_raiseA rfl tk T.y_NoSuchBlock T.x_NoSuchBlock (by rfl) (baj_cons (EJ.bj (ej_fs (fj_cons ej_str (fj_cons (ej_fmt (bj_der (S := 2) (pj_var (i := 1) (pv 1)))) fj_nil)))) baj_nil))) ssj_nil) (ssj_one (sj_retM (mj_pj (pj_ixC (S := 2) (cj_fld (S := 2) T.ft__blocks (pj_var (i := 0) (pv 0))) (bj_der (S := 2) (pj_var (i := 1) (pv 1)))))))), rfl⟩
theorem ok_Chip__page_at {w : World} (T : Txt K mg w) {P : Program} {base : Heap} : FnOk P w K mg base (L2.CX P w) 2 T.a_Chip__page_at T.fd_Chip__page_at ["self", "block", "page"] (spS K mg 3 f_Chip__page_at) := by
  refine fnS_ok (G0 := [Mode.any, Mode.any, Mode.any, Mode.any, Mode.sto]) T.F_Chip__page_at sc_Chip__page_at 3 5 rfl rfl (by decide) "$" rfl (by decide +kernel) rfl rfl [Mode.fz, Mode.fz, Mode.fz, Mode.fz, Mode.sto] rfl (leM_p (by first | exact True.intro | (repeat (first | exact True.intro | refine And.intro (Or.inl rfl) ?_ | refine And.intro (Or.inr rfl) ?_ | refine And.intro rfl ?_)))) fun cdv A outer s H E hr => ?_
  have tk : Takes (cxOf (L2.CX P w) P w K mg base N_Chip__page_at "Chip._page_at" (defScope s_Chip__page_at) T.a_Chip__page_at cdv A outer s H E) (WE1 E) := takes_of rfl rfl rfl rfl
  exact ⟨[Mode.any, Mode.any, Mode.any, Mode.any, Mode.sto], (ssj_cons (sj_setA (i := 3) sc_Chip__page_at.nd rfl (by first | exact .inl rfl | exact .inr rfl) (mj_methS (S := 4) T.m_Chip__block_at runS_len (ok_Chip__block_at T) (hr.mono (by decide : 1 ≤ 1)) T.b_Chip__block_at tk (pj_var (i := 0) (pv 0)) (maj_cons (mj_pj (pj_var (i := 1) (pv 1))) maj_nil))) (ssj_cons (sj_if (tj_not (tj_chain cmp_le calm_le cmp_lt calm_lt (EJ.bj ej_int) (bj_der (S := 4) (pj_var (i := 2) (pv 2))) (EJ.bj (ej_B fn_len (by rfl) T.n_len PySem.boot_len (baj_cons (bj_con (S := 4) T.ft_states (pj_var (i := 3) (pv 3))) baj_nil))))) (ssj_one (sj_raiseA rfl tk T.y_NoSuchPage T.x_NoSuchPage (by rfl) (baj_cons (EJ.bj (ej_fs (fj_cons ej_str (fj_cons (ej_fmt (bj_der (S := 4) (pj_var (i := 2) (pv 2)))) fj_nil)))) baj_nil))) ssj_nil) (ssj_one (sj_retM (mj_pj (pj_var (i := 3) (pv 3))))))), rfl⟩
theorem ok_Chip_state {w : World} (T : Txt K mg w) {P : Program} {base : Heap} : FnOk P w K mg base (L2.CX P w) 3 T.a_Chip_state T.fd_Chip_state ["self", "block", "page"] (spS K mg 3 f_Chip_state) := by
  refine fnS_ok (G0 := [Mode.any, Mode.any, Mode.any, Mode.sto]) T.F_Chip_state sc_Chip_state 3 4 rfl rfl (by decide) "$" rfl (by decide +kernel) rfl rfl [Mode.fz, Mode.fz, Mode.fz, Mode.sto] rfl (leM_p (by first | exact True.intro | (repeat (first | exact True.intro | refine And.intro (Or.inl rfl) ?_ | refine And.intro (Or.inr rfl) ?_ | refine And.intro rfl ?_)))) fun cdv A outer s H E hr => ?_
  have tk : Takes (cxOf (L2.CX P w) P w K mg base N_Chip_state "Chip.state" (defScope s_Chip_state) T.a_Chip_state cdv A outer s H E) (WE1 E) := takes_of rfl rfl rfl rfl
  exact ⟨[Mode.any, Mode.any, Mode.any, Mode.sto], (ssj_one (sj_retM (mj_ixC (cm_fld (S := 3) T.ft_states (mj_methS (S := 3) T.m_Chip__page_at runS_len (ok_Chip__page_at T) (hr.mono (by decide : 2 ≤ 2)) T.b_Chip__page_at tk (pj_var (i := 0) (pv 0)) (maj_cons (mj_pj (pj_var (i := 1) (pv 1))) (maj_cons (mj_pj (pj_var (i := 2) (pv 2))) maj_nil)))) (bj_der (S := 3) (pj_var (i := 2) (pv 2)))))), rfl⟩
theorem ok_Chip_erases {w : World} (T : Txt K mg w) {P : Program} {base : Heap} : FnOk P w K mg base (L2.CX P w) 2 T.a_Chip_erases T.fd_Chip_erases ["self", "block"] (spS K mg 2 f_Chip_erases) := by
  refine fnS_ok (G0 := [Mode.any, Mode.any, Mode.sto]) T.F_Chip_erases sc_Chip_erases 2 3 rfl rfl (by decide) "$" rfl (by decide +kernel) rfl rfl [Mode.fz, Mode.fz, Mode.sto] rfl (leM_p (by first | exact True.intro | (repeat (first | exact True.intro | refine And.intro (Or.inl rfl) ?_ | refine And.intro (Or.inr rfl) ?_ | refine And.intro rfl ?_)))) fun cdv A outer s H E hr => ?_
  have tk : Takes (cxOf (L2.CX P w) P w K mg base N_Chip_erases "Chip.erases" (defScope s_Chip_erases) T.a_Chip_erases cdv A outer s H E) (WE1 E) := takes_of rfl rfl rfl rfl
  exact ⟨[Mode.any, Mode.any, Mode.sto], (ssj_one (sj_retM (mj_fld (S := 2) T.ft_erased (mj_methS (S := 2) T.m_Chip__block_at runS_len (ok_Chip__block_at T) (hr.mono (by decide : 1 ≤ 1)) T.b_Chip__block_at tk (pj_var (i := 0) (pv 0)) (maj_cons (mj_pj (pj_var (i := 1) (pv 1))) maj_nil))))), rfl⟩
theorem ok_Chip_is_alive {w : World} (T : Txt K mg w) {P : Program} {base : Heap} : FnOk P w K mg base (L2.CX P w) 2 T.a_Chip_is_alive T.fd_Chip_is_alive ["self", "block"] (spS K mg 2 f_Chip_is_alive) := by
  refine fnS_ok (G0 := [Mode.any, Mode.any, Mode.sto]) T.F_Chip_is_alive sc_Chip_is_alive 2 3 rfl rfl (by decide) "$" rfl (by decide +kernel) rfl rfl [Mode.fz, Mode.fz, Mode.sto] rfl (leM_p (by first | exact True.intro | (repeat (first | exact True.intro | refine And.intro (Or.inl rfl) ?_ | refine And.intro (Or.inr rfl) ?_ | refine And.intro rfl ?_)))) fun cdv A outer s H E hr => ?_
  have tk : Takes (cxOf (L2.CX P w) P w K mg base N_Chip_is_alive "Chip.is_alive" (defScope s_Chip_is_alive) T.a_Chip_is_alive cdv A outer s H E) (WE1 E) := takes_of rfl rfl rfl rfl
  exact ⟨[Mode.any, Mode.any, Mode.sto], (ssj_one (sj_retM (mj_fld (S := 2) T.ft_alive (mj_methS (S := 2) T.m_Chip__block_at runS_len (ok_Chip__block_at T) (hr.mono (by decide : 1 ≤ 1)) T.b_Chip__block_at tk (pj_var (i := 0) (pv 0)) (maj_cons (mj_pj (pj_var (i := 1) (pv 1))) maj_nil))))), rfl⟩
theorem ok__law_draws {w : World} (T : Txt K mg w) {P : Program} {base : Heap} : FnOk P w K mg base (L2.CX P w) 1 T.a__law_draws T.fd__law_draws ["script", "count"] (spT K mg (Mode.fz) 2 f__law_draws) := by
  refine fn_ok (md := Mode.fz) (G := [Mode.fz, Mode.fz, Mode.fz, Mode.fz, Mode.fz]) T.F__law_draws sc__law_draws 2 5 rfl rfl rfl (by decide) (fun ρ => .inl rfl) fun cdv A outer s H E hr => ⟨[], ?_⟩
  have tk : Takes (cxOf (L2.CX P w) P w K mg base N__law_draws "_law_draws" (defScope s__law_draws) T.a__law_draws cdv A outer s H E) (WE1 E) := takes_of rfl rfl rfl rfl
  exact (ssj_cons (sj_setN (i := 2) sc__law_draws.nd rfl (by first | exact .inl rfl | exact .inr rfl) (nj_lst aj_nil)) (ssj_cons (sj_for (passes_of rfl) rfl (ij_range1 (by rfl) T.n_range (aj_cons (ej_var 1 (pv 1)) aj_nil)) (gj_nm (pg_name (i := 3) sc__law_draws.nd rfl (by first | exact .inl rfl | exact .inr rfl))) (fz_cons rfl fz_nil) (ssj_cons (sj_set (i := 4) sc__law_draws.nd rfl (by first | exact .inl rfl | exact .inr rfl) ej_int) (ssj_cons (sj_if (tj_cmp cmp_gt calm_gt (nomark _) (EJ.bj (ej_B fn_len (by rfl) T.n_len PySem.boot_len (baj_cons (EJ.bj (ej_var 0 (pv 0))) baj_nil))) (EJ.bj ej_int)) (ssj_one (sj_set (i := 4) sc__law_draws.nd rfl (by first | exact .inl rfl | exact .inr rfl) (ej_Ty fn_int (by rfl) T.n_int PyProof.Rows.boot_int (baj_cons (EJ.bj (ej_ix (EJ.bj (ej_var 0 (pv 0))) (EJ.bj (ej_bin bin_mod calm_mod (EJ.bj (ej_var 3 (pv 3))) (EJ.bj (ej_B fn_len (by rfl) T.n_len PySem.boot_len (baj_cons (EJ.bj (ej_var 0 (pv 0))) baj_nil))))))) baj_nil)))) ssj_nil) (ssj_cons (sj_if (tj_cmp cmp_lt calm_lt (nomark _) (EJ.bj (ej_var 4 (pv 4))) (EJ.bj ej_int)) (ssj_one (sj_set (i := 4) sc__law_draws.nd rfl (by first | exact .inl rfl | exact .inr rfl) (ej_bin bin_sub calm_sub (EJ.bj ej_int) (EJ.bj (ej_bin bin_mul calm_mul (EJ.bj ej_int) (EJ.bj (ej_var 4 (pv 4)))))))) ssj_nil) (ssj_cons (sj_if (WJ.tj (wj_or (tj_cmp cmp_lt calm_lt (nomark _) (EJ.bj (ej_var 4 (pv 4))) (EJ.bj ej_int)) (wj_or1 (tj_cmp cmp_ge calm_ge (nomark _) (EJ.bj (ej_var 3 (pv 3))) (EJ.bj (ej_B fn_len (by rfl) T.n_len PySem.boot_len (baj_cons (EJ.bj (ej_var 0 (pv 0))) baj_nil))))))) (ssj_cons (sj_set (i := 4) sc__law_draws.nd rfl (by first | exact .inl rfl | exact .inr rfl) (ej_bin bin_mod calm_mod (EJ.bj (ej_Ty fn_int (by rfl) T.n_int PyProof.Rows.boot_int (baj_cons (EJ.bj (ej_bin bin_add calm_add (EJ.bj (ej_bin bin_mul calm_mul (EJ.bj (ej_var 4 (pv 4))) (EJ.bj ej_int))) (EJ.bj (ej_bin bin_mul calm_mul (EJ.bj ej_int) (EJ.bj (ej_bin bin_add calm_add (EJ.bj (ej_var 3 (pv 3))) (EJ.bj ej_int))))))) baj_nil))) (EJ.bj ej_int))) (ssj_one (sj_set (i := 4) sc__law_draws.nd rfl (by first | exact .inl rfl | exact .inr rfl) (ej_bin bin_mod calm_mod (EJ.bj (ej_Ty fn_int (by rfl) T.n_int PyProof.Rows.boot_int (baj_cons (EJ.bj (ej_bin bin_add calm_add (EJ.bj (ej_bin bin_add calm_add (EJ.bj (ej_bin bin_mul calm_mul (EJ.bj (ej_var 4 (pv 4))) (EJ.bj ej_int))) (EJ.bj ej_int))) (EJ.bj (ej_var 3 (pv 3))))) baj_nil))) (EJ.bj ej_int))))) ssj_nil) (ssj_one (sj_app (i := 2) (pv 2) rfl (ej_var 4 (pv 4))))))))) (ssj_to (G2 := [Mode.fz, Mode.fz, Mode.fz, Mode.fz, Mode.fz]) (ssj_one (sj_ret (ej_var 2 (pv 2)))) (by first | exact True.intro | (repeat (first | exact True.intro | refine And.intro (Or.inl rfl) ?_ | refine And.intro (Or.inr rfl) ?_ | refine And.intro rfl ?_))))))
theorem ok__law_is_new {w : World} (T : Txt K mg w) {P : Program} {base : Heap} : FnOk P w K mg base (L2.CX P w) 4 T.a__law_is_new T.fd__law_is_new ["chip", "blocks", "pages"] (spS K mg 3 f__law_is_new) := by
  refine fnS_ok (G0 := [Mode.any, Mode.any, Mode.any, Mode.fz, Mode.fz, Mode.sto]) T.F__law_is_new sc__law_is_new 3 6 rfl rfl (by decide) "$" rfl (by decide +kernel) rfl rfl [Mode.fz, Mode.fz, Mode.fz, Mode.fz, Mode.fz, Mode.sto] rfl (leM_p (by first | exact True.intro | (repeat (first | exact True.intro | refine And.intro (Or.inl rfl) ?_ | refine And.intro (Or.inr rfl) ?_ | refine And.intro rfl ?_)))) fun cdv A outer s H E hr => ?_
  have tk : Takes (cxOf (L2.CX P w) P w K mg base N__law_is_new "_law_is_new" (defScope s__law_is_new) T.a__law_is_new cdv A outer s H E) (WE1 E) := takes_of rfl rfl rfl rfl
  exact ⟨[Mode.any, Mode.any, Mode.any, Mode.fz, Mode.fz, Mode.sto], (ssj_cons (sj_if (WJ.tj (wj_or (tj_cmp (cmp_ne hr.units) calm_ne (nomark _) (bj_der (S := 5) (pj_fld (S := 5) T.ft_shape (pj_var (i := 0) (pv 0)))) (EJ.bj (ej_tup (aj_cons (ej_pj (pj_var (i := 1) (pv 1))) (aj_cons (ej_pj (pj_var (i := 2) (pv 2))) aj_nil))))) (wj_or (tj_cmp cmp_isNot calm_isNot (nomark _) (bj_der (S := 5) (pj_fld (S := 5) T.ft_powered (pj_var (i := 0) (pv 0)))) (EJ.bj ej_bl)) (wj_or (tj_cmp (cmp_ne hr.units) calm_ne (nomark _) (bj_der (S := 5) (pj_fld (S := 5) T.ft_refused (pj_var (i := 0) (pv 0)))) (EJ.bj ej_int)) (wj_or1 (tj_cmp (cmp_ne hr.units) calm_ne (nomark _) (bj_der (S := 5) (pj_fld (S := 5) T.ft_generation (pj_var (i := 0) (pv 0)))) (EJ.bj ej_int))))))) (ssj_one (sj_retM (mj_pj (pj_ej ej_bl)))) ssj_nil) (ssj_cons (sj_for (passes_of rfl) rfl (ij_range1 (by rfl) T.n_range (aj_cons (ej_pj (pj_var (i := 1) (pv 1))) aj_nil)) (gj_nm (pg_name (i := 3) sc__law_is_new.nd rfl (by first | exact .inl rfl | exact .inr rfl))) (fz_cons rfl fz_nil) (ssj_cons (sj_ifM (WMJ.tmj (wmj_or (tmj_cmp (cmp_ne hr.units) calm_ne (nomark _) (mj_fz (mj_methS (S := 5) T.m_Chip_erases runS_len (ok_Chip_erases T) (hr.mono (by decide : 2 ≤ 3)) T.b_Chip_erases tk (pj_var (i := 0) (pv 0)) (maj_cons (mj_pj (pj_ej (ej_var 3 (pv 3)))) maj_nil))) (mj_ej ej_int)) (wmj_or1 (tmj_cmp cmp_isNot calm_isNot (nomark _) (mj_fz (mj_methS (S := 5) T.m_Chip_is_alive runS_len (ok_Chip_is_alive T) (hr.mono (by decide : 2 ≤ 3)) T.b_Chip_is_alive tk (pj_var (i := 0) (pv 0)) (maj_cons (mj_pj (pj_ej (ej_var 3 (pv 3)))) maj_nil))) (mj_ej ej_bl))))) (ssj_one (sj_retM (mj_pj (pj_ej ej_bl)))) ssj_nil) (ssj_one (sj_for (passes_of rfl) rfl (ij_range1 (by rfl) T.n_range (aj_cons (ej_pj (pj_var (i := 2) (pv 2))) aj_nil)) (gj_nm (pg_name (i := 4) sc__law_is_new.nd rfl (by first | exact .inl rfl | exact .inr rfl))) (fz_cons rfl fz_nil) (ssj_one (sj_ifM (tmj_cmp (cmp_ne hr.units) calm_ne (nomark _) (mj_fz (mj_methS (S := 5) T.m_Chip_state runS_len (ok_Chip_state T) (hr.mono (by decide : 3 ≤ 3)) T.b_Chip_state tk (pj_var (i := 0) (pv 0)) (maj_cons (mj_pj (pj_ej (ej_var 3 (pv 3)))) (maj_cons (mj_pj (pj_ej (ej_var 4 (pv 4)))) maj_nil)))) (mj_ej (ej_tup (aj_cons ej_str aj_nil)))) (ssj_one (sj_retM (mj_pj (pj_ej ej_bl)))) ssj_nil)))))) (ssj_one (sj_retM (mj_any (mj_andV (mj_cmp (cmp_eq hr.units) calm_eq (nomark _) (mj_fz (mj_methS0 (S := 5) T.m_Chip_fates_left runS_len (ok_Chip_fates_left T) (hr.mono (by decide : 1 ≤ 3)) T.b_Chip_fates_left tk (pj_var (i := 0) (pv 0)))) (mj_ej (NJ.ej (nj_lst aj_nil)))) (mj_one (mj_cmp (cmp_eq hr.units) calm_eq (nomark _) (mj_fz (mj_methS0 (S := 5) T.m_Chip_looks_left runS_len (ok_Chip_looks_left T) (hr.mono (by decide : 1 ≤ 3)) T.b_Chip_looks_left tk (pj_var (i := 0) (pv 0)))) (mj_ej (NJ.ej (nj_lst aj_nil))))))))))), rfl⟩
theorem ok__law_asks_first {w : World} (T : Txt K mg w) {P : Program} {base : Heap} : FnOk P w K mg base (L2.CX P w) 5 T.a__law_asks_first T.fd__law_asks_first ["script"] (spT K mg Mode.fz 1 f__law_asks_first) := by
  refine fnE_ok (G0 := [Mode.fz, Mode.fz, Mode.fz, Mode.fz, Mode.fz, Mode.any, Mode.sto]) T.F__law_asks_first sc__law_asks_first 1 7 rfl rfl (by decide) "$" rfl (by decide +kernel) rfl rfl [Mode.fz, Mode.fz, Mode.fz, Mode.fz, Mode.fz, Mode.fz, Mode.sto] (leM_p (by first | exact True.intro | (repeat (first | exact True.intro | refine And.intro (Or.inl rfl) ?_ | refine And.intro (Or.inr rfl) ?_ | refine And.intro rfl ?_)))) fun cdv A outer s H E hr => ?_
  have tk : Takes (cxOf (L2.CX P w) P w K mg base N__law_asks_first "_law_asks_first" (defScope s__law_asks_first) T.a__law_asks_first cdv A outer s H E) (WE1 E) := takes_of rfl rfl rfl rfl
  exact ⟨[Mode.fz, Mode.fz, Mode.fz, Mode.fz, Mode.fz, Mode.any, Mode.sto], (ssj_cons (sj_set (i := 1) sc__law_asks_first.nd rfl (by first | exact .inl rfl | exact .inr rfl) (ej_call (k := 1) runF_len (ok__law_draws T) (hr.mono (by decide : 1 ≤ 4)) (by rfl) T.g__law_draws T.F__law_draws.kp T.b__law_draws tk (aj_cons (ej_var 0 (pv 0)) (aj_cons ej_int aj_nil)))) (ssj_cons (sj_set (i := 2) sc__law_asks_first.nd rfl (by first | exact .inl rfl | exact .inr rfl) (ej_bin bin_mod calm_mod (EJ.bj (ej_ix (EJ.bj (ej_var 1 (pv 1))) (EJ.bj ej_int))) (EJ.bj ej_int))) (ssj_cons (sj_set (i := 3) sc__law_asks_first.nd rfl (by first | exact .inl rfl | exact .inr rfl) (ej_bin bin_mod calm_mod (EJ.bj (ej_ix (EJ.bj (ej_var 1 (pv 1))) (EJ.bj ej_int))) (EJ.bj ej_int))) (ssj_cons (sj_if (tj_cmp cmp_gt calm_gt (nomark _) (EJ.bj (ej_bin bin_mod calm_mod (EJ.bj (ej_ix (EJ.bj (ej_var 1 (pv 1))) (EJ.bj ej_int))) (EJ.bj ej_int))) (EJ.bj ej_int)) (ssj_cons (sj_set (i := 2) sc__law_asks_first.nd rfl (by first | exact .inl rfl | exact .inr rfl) (ej_bin bin_add calm_add (EJ.bj ej_int) (EJ.bj (ej_bin bin_mod calm_mod (EJ.bj (ej_ix (EJ.bj (ej_var 1 (pv 1))) (EJ.bj ej_int))) (EJ.bj ej_int))))) (ssj_one (sj_set (i := 3) sc__law_asks_first.nd rfl (by first | exact .inl rfl | exact .inr rfl) (ej_bin bin_add calm_add (EJ.bj ej_int) (EJ.bj (ej_bin bin_mod calm_mod (EJ.bj (ej_ix (EJ.bj (ej_var 1 (pv 1))) (EJ.bj ej_int))) (EJ.bj ej_int))))))) ssj_nil) (ssj_cons (sj_set (i := 4) sc__law_asks_first.nd rfl (by first | exact .inl rfl | exact .inr rfl) (ej_andV (EJ.bj (ej_chain cmp_le calm_le cmp_le calm_le (EJ.bj ej_int) (EJ.bj (ej_var 2 (pv 2))) (EJ.bj ej_int))) (ej_one (ej_chain cmp_le calm_le cmp_le calm_le (EJ.bj ej_int) (EJ.bj (ej_var 3 (pv 3))) (EJ.bj ej_int))))) (ssj_cons (sj_try (G' := [Mode.fz, Mode.fz, Mode.fz, Mode.fz, Mode.fz, Mode.any, Mode.sto]) (Gx := [Mode.fz, Mode.fz, Mode.fz, Mode.fz, Mode.fz, Mode.any, Mode.sto]) rfl rfl tk T.subs (fun W pn xe tk hp => (ssj_one (sj_setA (i := 5) sc__law_asks_first.nd rfl (by first | exact .inl rfl | exact .inr rfl) (mj_makeS (S := 6) (c := 1) T.k_Chip runS_len (ok_Chip___init__ T) (hr.mono (by decide : 4 ≤ 4)) (by rfl) T.g_Chip T.b_Chip___init__ tk (maj_cons (mj_pj (pj_ej (ej_var 2 (pv 2)))) (maj_cons (mj_pj (pj_ej (ej_var 3 (pv 3)))) maj_nil)))))) (.cons (by decide) T.x_InvalidSize (by rfl) (by decide) (fun a oe cls d pn e hz hf => (ssj_to (G2 := [Mode.fz, Mode.fz, Mode.fz, Mode.fz, Mode.fz, Mode.any, Mode.sto]) (ssj_one (sj_retM (mj_pj (pj_ej (ej_notV (EJ.bj (ej_var 4 (pv 4)))))))) (by first | exact True.intro | (repeat (first | exact True.intro | refine And.intro (Or.inl rfl) ?_ | refine And.intro (Or.inr rfl) ?_ | refine And.intro rfl ?_))))) .nil)) (ssj_one (sj_retM (mj_any (mj_andV (mj_ej (ej_var 4 (pv 4))) (mj_one (mj_fz (mj_callS (S := 6) runS_len (ok__law_is_new T) (hr.mono (by decide : 4 ≤ 4)) (by rfl) T.g__law_is_new T.F__law_is_new.kp T.b__law_is_new tk (maj_cons (mj_pj (pj_var (i := 5) (pv 5))) (maj_cons (mj_pj (pj_ej (ej_var 2 (pv 2)))) (maj_cons (mj_pj (pj_ej (ej_var 3 (pv 3)))) maj_nil))))))))))))))))⟩
theorem ok__law_fates {w : World} (T : Txt K mg w) {P : Program} {base : Heap} : FnOk P w K mg base (L2.CX P w) 1 T.a__law_fates T.fd__law_fates ["draw", "count"] (spT K mg (Mode.own Mode.fz) 2 f__law_fates) := by
  refine fn_ok (md := Mode.own Mode.fz) (G := [Mode.fz, Mode.fz, Mode.fz, Mode.fz]) T.F__law_fates sc__law_fates 2 4 rfl rfl rfl (by decide) (fun ρ => .inr (nx__law_fates ρ)) fun cdv A outer s H E hr => ⟨[], ?_⟩
  have tk : Takes (cxOf (L2.CX P w) P w K mg base N__law_fates "_law_fates" (defScope s__law_fates) T.a__law_fates cdv A outer s H E) (WE1 E) := takes_of rfl rfl rfl rfl
  exact (ssj_cons (sj_set (i := 2) sc__law_fates.nd rfl (by first | exact .inl rfl | exact .inr rfl) (ej_tup (aj_cons ej_str (aj_cons ej_str (aj_cons ej_str (aj_cons ej_str aj_nil)))))) (ssj_one (sj_retN (nj_lc (own0 := [("k", 3)]) rfl sc__law_fates.nd (IJ.b (ij_range1 (by rfl) T.n_range (aj_cons (ej_var 1 (pv 1)) aj_nil))) (blkOk_by (N := N__law_fates) (sc := defScope s__law_fates) (by decide +kernel)) (fun _ _ _ _ _ => (gj_nm (pg_name (i := 3) sc__law_fates.nd rfl (by first | exact .inl rfl | exact .inr rfl)))) (by decide) (fz_cons rfl fz_nil) (fun _ _ _ _ _ => (ej_ix (EJ.bj (ej_var 2 (pv 2))) (EJ.bj (ej_bin bin_mod calm_mod (EJ.bj (ej_Ty fn_int (by rfl) T.n_int PyProof.Rows.boot_int (baj_cons (EJ.bj (ej_bin bin_div calm_div (EJ.bj (ej_var 0 (pv 0))) (EJ.bj (ej_bin bin_add calm_add (EJ.bj (ej_var 3 (pv 3))) (EJ.bj ej_int))))) baj_nil))) (EJ.bj ej_int)))))))))
theorem ok__law_count {w : World} (T : Txt K mg w) {P : Program} {base : Heap} : FnOk P w K mg base (L2.CX P w) 1 T.a__law_count T.fd__law_count ["draw", "few"] (spT K mg (Mode.fz) 2 f__law_count) := by
  refine fn_ok (md := Mode.fz) (G := [Mode.fz, Mode.fz]) T.F__law_count sc__law_count 2 2 rfl rfl rfl (by decide) (fun ρ => .inl rfl) fun cdv A outer s H E hr => ⟨[], ?_⟩
  have tk : Takes (cxOf (L2.CX P w) P w K mg base N__law_count "_law_count" (defScope s__law_count) T.a__law_count cdv A outer s H E) (WE1 E) := takes_of rfl rfl rfl rfl
  exact (ssj_cons (sj_if (tj_cmp (cmp_eq hr.units) calm_eq (nomark _) (EJ.bj (ej_bin bin_mod calm_mod (EJ.bj (ej_var 0 (pv 0))) (EJ.bj ej_int))) (EJ.bj ej_int)) (ssj_one (sj_ret (ej_bin bin_add calm_add (EJ.bj ej_int) (EJ.bj (ej_bin bin_mod calm_mod (EJ.bj (ej_bin bin_div calm_div (EJ.bj (ej_var 0 (pv 0))) (EJ.bj ej_int))) (EJ.bj ej_int)))))) ssj_nil) (ssj_one (sj_ret (ej_bin bin_mod calm_mod (EJ.bj (ej_bin bin_div calm_div (EJ.bj (ej_var 0 (pv 0))) (EJ.bj ej_int))) (EJ.bj (ej_var 1 (pv 1)))))))
theorem ok__law_asks_second {w : World} (T : Txt K mg w) {P : Program} {base : Heap} : FnOk P w K mg base (L2.CX P w) 5 T.a__law_asks_second T.fd__law_asks_second ["script"] (spT K mg Mode.fz 1 f__law_asks_second) := by
  refine fnE_ok (G0 := [Mode.fz, Mode.fz, Mode.any, Mode.fz, Mode.any, Mode.any, Mode.fz, Mode.fz, Mode.fz, Mode.sto]) T.F__law_asks_second sc__law_asks_second 1 10 rfl rfl (by decide) "$" rfl (by decide +kernel) rfl rfl [Mode.fz, Mode.fz, Mode.fz, Mode.fz, Mode.fz, Mode.fz, Mode.fz, Mode.fz, Mode.fz, Mode.sto] (leM_p (by first | exact True.intro | (repeat (first | exact True.intro | refine And.intro (Or.inl rfl) ?_ | refine And.intro (Or.inr rfl) ?_ | refine And.intro rfl ?_)))) fun cdv A outer s H E hr => ?_
  have tk : Takes (cxOf (L2.CX P w) P w K mg base N__law_asks_second "_law_asks_second" (defScope s__law_asks_second) T.a__law_asks_second cdv A outer s H E) (WE1 E) := takes_of rfl rfl rfl rfl
  exact ⟨[Mode.fz, Mode.fz, Mode.any, Mode.fz, Mode.any, Mode.any, Mode.fz, Mode.fz, Mode.fz, Mode.sto], (ssj_cons (sj_set (i := 1) sc__law_asks_second.nd rfl (by first | exact .inl rfl | exact .inr rfl) (ej_call (k := 1) runF_len (ok__law_draws T) (hr.mono (by decide : 1 ≤ 4)) (by rfl) T.g__law_draws T.F__law_draws.kp T.b__law_draws tk (aj_cons (ej_var 0 (pv 0)) (aj_cons ej_int aj_nil)))) (ssj_cons (sj_setA (i := 2) sc__law_asks_second.nd rfl (by first | exact .inl rfl | exact .inr rfl) (mj_makeS (S := 9) (c := 1) T.k_Chip runS_len (ok_Chip___init__ T) (hr.mono (by decide : 4 ≤ 4)) (by rfl) T.g_Chip T.b_Chip___init__ tk (maj_cons (mj_pj (pj_ej ej_int)) (maj_cons (mj_pj (pj_ej ej_int)) maj_nil)))) (ssj_cons (sj_set (i := 3) sc__law_asks_second.nd rfl (by first | exact .inl rfl | exact .inr rfl) (ej_tup (aj_cons (NJ.ej (nj_call (k := 1) runF_len (ok__law_fates T) (hr.mono (by decide : 1 ≤ 4)) (by rfl) T.g__law_fates T.F__law_fates.kp T.b__law_fates tk (aj_cons (ej_ix (EJ.bj (ej_var 1 (pv 1))) (EJ.bj ej_int)) (aj_cons (ej_bin bin_mod calm_mod (EJ.bj (ej_ix (EJ.bj (ej_var 1 (pv 1))) (EJ.bj ej_int))) (EJ.bj ej_int)) aj_nil)))) (aj_cons (NJ.ej (nj_bin bin_rep calm_rep (EJ.bj (NJ.ej (nj_lst (aj_cons (ej_cmp (cmp_eq hr.units) calm_eq (nomark _) (EJ.bj (ej_bin bin_mod calm_mod (EJ.bj (ej_ix (EJ.bj (ej_var 1 (pv 1))) (EJ.bj ej_int))) (EJ.bj ej_int))) (EJ.bj ej_int)) aj_nil)))) (EJ.bj (ej_bin bin_mod calm_mod (EJ.bj (ej_ix (EJ.bj (ej_var 1 (pv 1))) (EJ.bj ej_int))) (EJ.bj ej_int))))) aj_nil)))) (ssj_cons (sj_exprM (mj_methS (S := 9) T.m_Chip_plan runS_len (ok_Chip_plan T) (hr.mono (by decide : 1 ≤ 4)) T.b_Chip_plan tk (pj_var (i := 2) (pv 2)) (maj_cons (mj_pj (pj_ej (NJ.ej (nj_Ty fn_list (by rfl) T.n_list PyProof.Rows.boot_list (baj_cons (EJ.bj (ej_ix (EJ.bj (ej_var 3 (pv 3))) (EJ.bj ej_int))) baj_nil))))) (maj_cons (mj_pj (pj_ej (NJ.ej (nj_Ty fn_list (by rfl) T.n_list PyProof.Rows.boot_list (baj_cons (EJ.bj (ej_ix (EJ.bj (ej_var 3 (pv 3))) (EJ.bj ej_int))) baj_nil))))) maj_nil)))) (ssj_cons (sj_setA (i := 4) sc__law_asks_second.nd rfl (by first | exact .inl rfl | exact .inr rfl) (mj_rootN (S := 9) (nj_call (k := 1) runF_len (ok__law_fates T) (hr.mono (by decide : 1 ≤ 4)) (by rfl) T.g__law_fates T.F__law_fates.kp T.b__law_fates tk (aj_cons (ej_ix (EJ.bj (ej_var 1 (pv 1))) (EJ.bj ej_int)) (aj_cons (ej_call (k := 1) runF_len (ok__law_count T) (hr.mono (by decide : 1 ≤ 4)) (by rfl) T.g__law_count T.F__law_count.kp T.b__law_count tk (aj_cons (ej_ix (EJ.bj (ej_var 1 (pv 1))) (EJ.bj ej_int)) (aj_cons ej_int aj_nil))) aj_nil))))) (ssj_cons (sj_setA (i := 5) sc__law_asks_second.nd rfl (by first | exact .inl rfl | exact .inr rfl) (mj_rootN (S := 9) (nj_bin bin_rep calm_rep (EJ.bj (NJ.ej (nj_lst (aj_cons (ej_cmp (cmp_eq hr.units) calm_eq (nomark _) (EJ.bj (ej_bin bin_mod calm_mod (EJ.bj (ej_ix (EJ.bj (ej_var 1 (pv 1))) (EJ.bj ej_int))) (EJ.bj ej_int))) (EJ.bj ej_int)) aj_nil)))) (EJ.bj (ej_call (k := 1) runF_len (ok__law_count T) (hr.mono (by decide : 1 ≤ 4)) (by rfl) T.g__law_count T.F__law_count.kp T.b__law_count tk (aj_cons (ej_ix (EJ.bj (ej_var 1 (pv 1))) (EJ.bj ej_int)) (aj_cons ej_int aj_nil))))))) (ssj_cons (sj_set (i := 6) sc__law_asks_second.nd rfl (by first | exact .inl rfl | exact .inr rfl) ej_bl) (ssj_cons (sj_if (WJ.tj (wj_and (tj_cmp (cmp_eq hr.units) calm_eq (nomark _) (EJ.bj (ej_bin bin_mod calm_mod (EJ.bj (ej_ix (EJ.bj (ej_var 1 (pv 1))) (EJ.bj ej_int))) (EJ.bj ej_int))) (EJ.bj ej_int)) (wj_and1 (tj_cmp cmp_gt calm_gt (nomark _) (EJ.bj (ej_B fn_len (by rfl) T.n_len PySem.boot_len (baj_cons (bj_der (S := 9) (pj_var (i := 4) (pv 4))) baj_nil))) (EJ.bj ej_int))))) (ssj_cons (sj_setIC (S := 9) (cj_val (S := 9) (pj_var (i := 4) (pv 4))) (pj_ej ej_str) (EJ.bj (ej_bin bin_mod calm_mod (EJ.bj (ej_bin bin_div calm_div (EJ.bj (ej_ix (EJ.bj (ej_var 1 (pv 1))) (EJ.bj ej_int))) (EJ.bj ej_int))) (EJ.bj (ej_B fn_len (by rfl) T.n_len PySem.boot_len (baj_cons (bj_der (S := 9) (pj_var (i := 4) (pv 4))) baj_nil))))) (hg := fun a b => pg_sub a b set_list)) (ssj_one (sj_set (i := 6) sc__law_asks_second.nd rfl (by first | exact .inl rfl | exact .inr rfl) ej_bl))) ssj_nil) (ssj_cons (sj_set (i := 7) sc__law_asks_second.nd rfl (by first | exact .inl rfl | exact .inr rfl) (ej_tup (aj_cons (NJ.ej (nj_Ty fn_list (by rfl) T.n_list PyProof.Rows.boot_list (baj_cons (bj_der (S := 9) (pj_var (i := 4) (pv 4))) baj_nil))) (aj_cons (NJ.ej (nj_Ty fn_list (by rfl) T.n_list PyProof.Rows.boot_list (baj_cons (bj_der (S := 9) (pj_var (i := 5) (pv 5))) baj_nil))) aj_nil)))) (ssj_cons (sj_set (i := 8) sc__law_asks_second.nd rfl (by first | exact .inl rfl | exact .inr rfl) ej_str) (ssj_cons (sj_try (G' := [Mode.fz, Mode.fz, Mode.any, Mode.fz, Mode.any, Mode.any, Mode.fz, Mode.fz, Mode.fz, Mode.sto]) (Gx := [Mode.fz, Mode.fz, Mode.any, Mode.fz, Mode.any, Mode.any, Mode.fz, Mode.fz, Mode.fz, Mode.sto]) rfl rfl tk T.subs (fun W pn xe tk hp => (ssj_one (sj_exprM (mj_methS (S := 9) T.m_Chip_plan runS_len (ok_Chip_plan T) (hr.mono (by decide : 1 ≤ 4)) T.b_Chip_plan tk (pj_var (i := 2) (pv 2)) (maj_cons (mj_pj (pj_var (i := 4) (pv 4))) (maj_cons (mj_pj (pj_var (i := 5) (pv 5))) maj_nil)))))) (.cons (by decide) T.x_InvalidFates (by rfl) (by decide) (fun a oe cls d pn e hz hf => (ssj_to (G2 := [Mode.fz, Mode.fz, Mode.any, Mode.fz, Mode.any, Mode.any, Mode.fz, Mode.fz, Mode.fz, Mode.sto]) (ssj_one (sj_set (i := 8) sc__law_asks_second.nd rfl (by first | exact .inl rfl | exact .inr rfl) ej_str)) (by first | exact True.intro | (repeat (first | exact True.intro | refine And.intro (Or.inl rfl) ?_ | refine And.intro (Or.inr rfl) ?_ | refine And.intro rfl ?_))))) (.cons (by decide) T.x_InvalidLooks (by rfl) (by decide) (fun a oe cls d pn e hz hf => (ssj_to (G2 := [Mode.fz, Mode.fz, Mode.any, Mode.fz, Mode.any, Mode.any, Mode.fz, Mode.fz, Mode.fz, Mode.sto]) (ssj_one (sj_set (i := 8) sc__law_asks_second.nd rfl (by first | exact .inl rfl | exact .inr rfl) ej_str)) (by first | exact True.intro | (repeat (first | exact True.intro | refine And.intro (Or.inl rfl) ?_ | refine And.intro (Or.inr rfl) ?_ | refine And.intro rfl ?_))))) .nil))) (ssj_cons (sj_if (tj_cmpR (cmp_ne hr.units) calm_ne (nomark _) dNe_bl (rj_tup (raj_cons (rj_bj (bj_der (S := 9) (pj_var (i := 4) (pv 4)))) (raj_cons (rj_bj (bj_der (S := 9) (pj_var (i := 5) (pv 5)))) raj_nil))) (rj_bj (EJ.bj (ej_var 7 (pv 7))))) (ssj_one (sj_retM (mj_pj (pj_ej ej_bl)))) ssj_nil) (ssj_cons (sj_appC (S := 9) (cj_val (S := 9) (pj_var (i := 4) (pv 4))) (pj_ej ej_str)) (ssj_cons (sj_appC (S := 9) (cj_val (S := 9) (pj_var (i := 5) (pv 5))) (pj_ej ej_bl)) (ssj_cons (sj_if (WJ.tj (wj_or (tj_not (tj_tru (EJ.bj (ej_var 6 (pv 6))))) (wj_or1 (tj_cmp cmp_gt calm_gt (nomark _) (EJ.bj (ej_B fn_len (by rfl) T.n_len PySem.boot_len (baj_cons (EJ.bj (ej_ix (EJ.bj (ej_var 7 (pv 7))) (EJ.bj ej_int))) baj_nil))) (EJ.bj ej_int))))) (ssj_one (sj_retM (mj_any (mj_andV (mj_ej (ej_cmp (cmp_eq hr.units) calm_eq (nomark _) (EJ.bj (ej_var 8 (pv 8))) (EJ.bj ej_str))) (mj_one (mj_cmp (cmp_eq hr.units) calm_eq (nomark _) (mj_tup (maj_cons (mj_methS0 (S := 9) T.m_Chip_fates_left runS_len (ok_Chip_fates_left T) (hr.mono (by decide : 1 ≤ 4)) T.b_Chip_fates_left tk (pj_var (i := 2) (pv 2))) (maj_cons (mj_methS0 (S := 9) T.m_Chip_looks_left runS_len (ok_Chip_looks_left T) (hr.mono (by decide : 1 ≤ 4)) T.b_Chip_looks_left tk (pj_var (i := 2) (pv 2))) maj_nil))) (mj_ej (ej_var 3 (pv 3))))))))) ssj_nil) (ssj_cons (sj_if (tj_cmp cmp_gt calm_gt (nomark _) (EJ.bj (ej_B fn_len (by rfl) T.n_len PySem.boot_len (baj_cons (EJ.bj (ej_ix (EJ.bj (ej_var 7 (pv 7))) (EJ.bj ej_int))) baj_nil))) (EJ.bj ej_int)) (ssj_one (sj_retM (mj_any (mj_andV (mj_ej (ej_cmp (cmp_eq hr.units) calm_eq (nomark _) (EJ.bj (ej_var 8 (pv 8))) (EJ.bj ej_str))) (mj_one (mj_cmp (cmp_eq hr.units) calm_eq (nomark _) (mj_tup (maj_cons (mj_methS0 (S := 9) T.m_Chip_fates_left runS_len (ok_Chip_fates_left T) (hr.mono (by decide : 1 ≤ 4)) T.b_Chip_fates_left tk (pj_var (i := 2) (pv 2))) (maj_cons (mj_methS0 (S := 9) T.m_Chip_looks_left runS_len (ok_Chip_looks_left T) (hr.mono (by decide : 1 ≤ 4)) T.b_Chip_looks_left tk (pj_var (i := 2) (pv 2))) maj_nil))) (mj_ej (ej_var 3 (pv 3))))))))) ssj_nil) (ssj_one (sj_retM (mj_any (mj_andV (mj_ej (ej_cmp (cmp_eq hr.units) calm_eq (nomark _) (EJ.bj (ej_var 8 (pv 8))) (EJ.bj ej_str))) (mj_one (mj_cmp (cmp_eq hr.units) calm_eq (nomark _) (mj_tup (maj_cons (mj_methS0 (S := 9) T.m_Chip_fates_left runS_len (ok_Chip_fates_left T) (hr.mono (by decide : 1 ≤ 4)) T.b_Chip_fates_left tk (pj_var (i := 2) (pv 2))) (maj_cons (mj_methS0 (S := 9) T.m_Chip_looks_left runS_len (ok_Chip_looks_left T) (hr.mono (by decide : 1 ≤ 4)) T.b_Chip_looks_left tk (pj_var (i := 2) (pv 2))) maj_nil))) (mj_ej (ej_var 7 (pv 7)))))))))))))))))))))))))⟩
theorem ok_law {w : World} (T : Txt K mg w) {P : Program} {base : Heap} : FnOk P w K mg base (L2.CX P w) 6 T.a_law T.fd_law ["script"] (spT K mg (Mode.fz) 1 f_law) := by
  refine fn_ok (md := Mode.fz) (G := [Mode.fz]) T.F_law sc_law 1 1 rfl rfl rfl (by decide) (fun ρ => .inl rfl) fun cdv A outer s H E hr => ⟨[], ?_⟩
  have tk : Takes (cxOf (L2.CX P w) P w K mg base N_law "law" (defScope s_law) T.a_law cdv A outer s H E) (WE1 E) := takes_of rfl rfl rfl rfl
  exact (ssj_one (sj_ret (ej_andV (EJ.bj (ej_call (k := 5) runE_len (ok__law_asks_first T) (hr.mono (by decide : 5 ≤ 5)) (by rfl) T.g__law_asks_first T.F__law_asks_first.kp T.b__law_asks_first tk (aj_cons (ej_var 0 (pv 0)) aj_nil))) (ej_one (ej_call (k := 5) runE_len (ok__law_asks_second T) (hr.mono (by decide : 5 ≤ 5)) (by rfl) T.g__law_asks_second T.F__law_asks_second.kp T.b__law_asks_second tk (aj_cons (ej_var 0 (pv 0)) aj_nil))))))
end
theorem all_mk (goal : ∀ ns : List Int, ns.length ≤ 63 → (∀ z ∈ ns, Builtin.Int.intBits z ≤ 1048576) → f_law [.scr (ns.map D.int)] = .ok (.bl true)) {l : PySem.W.OpenLaw} {w : World} {K : PySem.W.Frag} {h : Heap} {mg : Str → Option Value} {fa : Addr} (X : K.In h) (G : h.Ns mainGlobals mg) (hfa : mg "law" = some (.ref fa)) {f0 f1 f2 f3 f4 f5 f6 f7 f8 f9 f10 f11 f12 f13 f14 f15 f16 : Addr} {od0 an0 : Option Addr} {sl0 : Array (Option Value)} {oc0 kV0 dc0 pm0 cd0 ct0 : Value} {od1 an1 : Option Addr} {sl1 : Array (Option Value)} {oc1 kV1 dc1 pm1 cd1 ct1 : Value} {od2 an2 : Option Addr} {sl2 : Array (Option Value)} {oc2 kV2 dc2 pm2 cd2 ct2 : Value} {od3 an3 : Option Addr} {sl3 : Array (Option Value)} {oc3 kV3 dc3 pm3 cd3 ct3 : Value} {od4 an4 : Option Addr} {sl4 : Array (Option Value)} {oc4 kV4 dc4 pm4 cd4 ct4 : Value} {od5 an5 : Option Addr} {sl5 : Array (Option Value)} {oc5 kV5 dc5 pm5 cd5 ct5 : Value} {od6 an6 : Option Addr} {sl6 : Array (Option Value)} {oc6 kV6 dc6 pm6 cd6 ct6 : Value} {od7 an7 : Option Addr} {sl7 : Array (Option Value)} {oc7 kV7 dc7 pm7 cd7 ct7 : Value} {od8 an8 : Option Addr} {sl8 : Array (Option Value)} {oc8 kV8 dc8 pm8 cd8 ct8 : Value} {od9 an9 : Option Addr} {sl9 : Array (Option Value)} {oc9 kV9 dc9 pm9 cd9 ct9 : Value} {od10 an10 : Option Addr} {sl10 : Array (Option Value)} {oc10 kV10 dc10 pm10 cd10 ct10 : Value} {od11 an11 : Option Addr} {sl11 : Array (Option Value)} {oc11 kV11 dc11 pm11 cd11 ct11 : Value} {od12 an12 : Option Addr} {sl12 : Array (Option Value)} {oc12 kV12 dc12 pm12 cd12 ct12 : Value} {od13 an13 : Option Addr} {sl13 : Array (Option Value)} {oc13 kV13 dc13 pm13 cd13 ct13 : Value} {od14 an14 : Option Addr} {sl14 : Array (Option Value)} {oc14 kV14 dc14 pm14 cd14 ct14 : Value} {od15 an15 : Option Addr} {sl15 : Array (Option Value)} {oc15 kV15 dc15 pm15 cd15 ct15 : Value} {od16 an16 : Option Addr} {sl16 : Array (Option Value)} {oc16 kV16 dc16 pm16 cd16 ct16 : Value} {t1 : Tok} {TP0 : Addr} {td0 : Option Addr} {ti0 : Array Value} {tn0 : Nat} {ts0 : Array (Option Value)} {X0 X1 X2 X3 X4 : Addr} {C0 C1 : Addr}
    (ag0 : PySem.W.nsIn K mainGlobals "Block" = some (some (.ref C0))) (pg0 : PySem.W.plainGet K C0 Str.empty = true) (hd0 : PySem.W.hasDictIn K C0 = true) (po0 : PySem.W.plainOver K C0 = true) (sa0 : PySem.W.findIn K (.ref C0) "__setattr__" = some (some (.builtin "object.__setattr__"))) (mk0 : PySem.W.makesIn K C0 = true) (kc0 : PySem.W.keepIn K (.ref C0) = true)
    (nf0_0 : PySem.W.findIn K (.ref C0) "states" = some none)
    (nf0_1 : PySem.W.findIn K (.ref C0) "erased" = some none)
    (nf0_2 : PySem.W.findIn K (.ref C0) "alive" = some none)
    (ag1 : PySem.W.nsIn K mainGlobals "Chip" = some (some (.ref C1))) (pg1 : PySem.W.plainGet K C1 Str.empty = true) (hd1 : PySem.W.hasDictIn K C1 = true) (po1 : PySem.W.plainOver K C1 = true) (sa1 : PySem.W.findIn K (.ref C1) "__setattr__" = some (some (.builtin "object.__setattr__"))) (mk1 : PySem.W.makesIn K C1 = true) (kc1 : PySem.W.keepIn K (.ref C1) = true)
    (nf1_0 : PySem.W.findIn K (.ref C1) "shape" = some none)
    (nf1_1 : PySem.W.findIn K (.ref C1) "powered" = some none)
    (nf1_2 : PySem.W.findIn K (.ref C1) "refused" = some none)
    (nf1_3 : PySem.W.findIn K (.ref C1) "generation" = some none)
    (nf1_4 : PySem.W.findIn K (.ref C1) "_blocks" = some none)
    (nf1_5 : PySem.W.findIn K (.ref C1) "_fates" = some none)
    (nf1_6 : PySem.W.findIn K (.ref C1) "_looks" = some none)
    (a0 : PySem.W.findIn K (.ref C0) "__init__" = some (some (.ref f0))) (i0 : PySem.W.isFn K (.ref f0) = true) (l0 : K.lookup f0 = some ⟨oc0, od0, .func (PySem.W.fnOf "__init__" "Block.__init__" (defArgs s_Block___init__) (defBody s_Block___init__) (defScope s_Block___init__) .none kV0 dc0 pm0 an0 cd0 ct0), sl0⟩) (c0 : PySem.W.codeIn K cd0 "Block.__init__" = true) (k0 : PySem.W.keepIn K (.ref f0) = true)
    (a1 : PySem.W.findIn K (.ref C1) "__init__" = some (some (.ref f1))) (i1 : PySem.W.isFn K (.ref f1) = true) (l1 : K.lookup f1 = some ⟨oc1, od1, .func (PySem.W.fnOf "__init__" "Chip.__init__" (defArgs s_Chip___init__) (defBody s_Chip___init__) (defScope s_Chip___init__) .none kV1 dc1 pm1 an1 cd1 ct1), sl1⟩) (c1 : PySem.W.codeIn K cd1 "Chip.__init__" = true) (k1 : PySem.W.keepIn K (.ref f1) = true)
    (a2 : PySem.W.findIn K (.ref C1) "plan" = some (some (.ref f2))) (i2 : PySem.W.isFn K (.ref f2) = true) (l2 : K.lookup f2 = some ⟨oc2, od2, .func (PySem.W.fnOf "plan" "Chip.plan" (defArgs s_Chip_plan) (defBody s_Chip_plan) (defScope s_Chip_plan) .none kV2 dc2 pm2 an2 cd2 ct2), sl2⟩) (c2 : PySem.W.codeIn K cd2 "Chip.plan" = true) (k2 : PySem.W.keepIn K (.ref f2) = true)
    (a3 : PySem.W.findIn K (.ref C1) "fates_left" = some (some (.ref f3))) (i3 : PySem.W.isFn K (.ref f3) = true) (l3 : K.lookup f3 = some ⟨oc3, od3, .func (PySem.W.fnOf "fates_left" "Chip.fates_left" (defArgs s_Chip_fates_left) (defBody s_Chip_fates_left) (defScope s_Chip_fates_left) .none kV3 dc3 pm3 an3 cd3 ct3), sl3⟩) (c3 : PySem.W.codeIn K cd3 "Chip.fates_left" = true) (k3 : PySem.W.keepIn K (.ref f3) = true)
    (a4 : PySem.W.findIn K (.ref C1) "looks_left" = some (some (.ref f4))) (i4 : PySem.W.isFn K (.ref f4) = true) (l4 : K.lookup f4 = some ⟨oc4, od4, .func (PySem.W.fnOf "looks_left" "Chip.looks_left" (defArgs s_Chip_looks_left) (defBody s_Chip_looks_left) (defScope s_Chip_looks_left) .none kV4 dc4 pm4 an4 cd4 ct4), sl4⟩) (c4 : PySem.W.codeIn K cd4 "Chip.looks_left" = true) (k4 : PySem.W.keepIn K (.ref f4) = true)
    (a5 : PySem.W.findIn K (.ref C1) "_block_at" = some (some (.ref f5))) (i5 : PySem.W.isFn K (.ref f5) = true) (l5 : K.lookup f5 = some ⟨oc5, od5, .func (PySem.W.fnOf "_block_at" "Chip._block_at" (defArgs s_Chip__block_at) (defBody s_Chip__block_at) (defScope s_Chip__block_at) .none kV5 dc5 pm5 an5 cd5 ct5), sl5⟩) (c5 : PySem.W.codeIn K cd5 "Chip._block_at" = true) (k5 : PySem.W.keepIn K (.ref f5) = true)
    (a6 : PySem.W.findIn K (.ref C1) "_page_at" = some (some (.ref f6))) (i6 : PySem.W.isFn K (.ref f6) = true) (l6 : K.lookup f6 = some ⟨oc6, od6, .func (PySem.W.fnOf "_page_at" "Chip._page_at" (defArgs s_Chip__page_at) (defBody s_Chip__page_at) (defScope s_Chip__page_at) .none kV6 dc6 pm6 an6 cd6 ct6), sl6⟩) (c6 : PySem.W.codeIn K cd6 "Chip._page_at" = true) (k6 : PySem.W.keepIn K (.ref f6) = true)
    (a7 : PySem.W.findIn K (.ref C1) "state" = some (some (.ref f7))) (i7 : PySem.W.isFn K (.ref f7) = true) (l7 : K.lookup f7 = some ⟨oc7, od7, .func (PySem.W.fnOf "state" "Chip.state" (defArgs s_Chip_state) (defBody s_Chip_state) (defScope s_Chip_state) .none kV7 dc7 pm7 an7 cd7 ct7), sl7⟩) (c7 : PySem.W.codeIn K cd7 "Chip.state" = true) (k7 : PySem.W.keepIn K (.ref f7) = true)
    (a8 : PySem.W.findIn K (.ref C1) "erases" = some (some (.ref f8))) (i8 : PySem.W.isFn K (.ref f8) = true) (l8 : K.lookup f8 = some ⟨oc8, od8, .func (PySem.W.fnOf "erases" "Chip.erases" (defArgs s_Chip_erases) (defBody s_Chip_erases) (defScope s_Chip_erases) .none kV8 dc8 pm8 an8 cd8 ct8), sl8⟩) (c8 : PySem.W.codeIn K cd8 "Chip.erases" = true) (k8 : PySem.W.keepIn K (.ref f8) = true)
    (a9 : PySem.W.findIn K (.ref C1) "is_alive" = some (some (.ref f9))) (i9 : PySem.W.isFn K (.ref f9) = true) (l9 : K.lookup f9 = some ⟨oc9, od9, .func (PySem.W.fnOf "is_alive" "Chip.is_alive" (defArgs s_Chip_is_alive) (defBody s_Chip_is_alive) (defScope s_Chip_is_alive) .none kV9 dc9 pm9 an9 cd9 ct9), sl9⟩) (c9 : PySem.W.codeIn K cd9 "Chip.is_alive" = true) (k9 : PySem.W.keepIn K (.ref f9) = true)
    (a10 : PySem.W.nsIn K mainGlobals "_law_draws" = some (some (.ref f10))) (l10 : K.lookup f10 = some ⟨oc10, od10, .func (PySem.W.fnOf "_law_draws" "_law_draws" (defArgs s__law_draws) (defBody s__law_draws) (defScope s__law_draws) .none kV10 dc10 pm10 an10 cd10 ct10), sl10⟩) (c10 : PySem.W.codeIn K cd10 "_law_draws" = true) (k10 : PySem.W.keepIn K (.ref f10) = true)
    (a11 : PySem.W.nsIn K mainGlobals "_law_is_new" = some (some (.ref f11))) (l11 : K.lookup f11 = some ⟨oc11, od11, .func (PySem.W.fnOf "_law_is_new" "_law_is_new" (defArgs s__law_is_new) (defBody s__law_is_new) (defScope s__law_is_new) .none kV11 dc11 pm11 an11 cd11 ct11), sl11⟩) (c11 : PySem.W.codeIn K cd11 "_law_is_new" = true) (k11 : PySem.W.keepIn K (.ref f11) = true)
    (a12 : PySem.W.nsIn K mainGlobals "_law_asks_first" = some (some (.ref f12))) (l12 : K.lookup f12 = some ⟨oc12, od12, .func (PySem.W.fnOf "_law_asks_first" "_law_asks_first" (defArgs s__law_asks_first) (defBody s__law_asks_first) (defScope s__law_asks_first) .none kV12 dc12 pm12 an12 cd12 ct12), sl12⟩) (c12 : PySem.W.codeIn K cd12 "_law_asks_first" = true) (k12 : PySem.W.keepIn K (.ref f12) = true)
    (a13 : PySem.W.nsIn K mainGlobals "_law_fates" = some (some (.ref f13))) (l13 : K.lookup f13 = some ⟨oc13, od13, .func (PySem.W.fnOf "_law_fates" "_law_fates" (defArgs s__law_fates) (defBody s__law_fates) (defScope s__law_fates) .none kV13 dc13 pm13 an13 cd13 ct13), sl13⟩) (c13 : PySem.W.codeIn K cd13 "_law_fates" = true) (k13 : PySem.W.keepIn K (.ref f13) = true)
    (a14 : PySem.W.nsIn K mainGlobals "_law_count" = some (some (.ref f14))) (l14 : K.lookup f14 = some ⟨oc14, od14, .func (PySem.W.fnOf "_law_count" "_law_count" (defArgs s__law_count) (defBody s__law_count) (defScope s__law_count) .none kV14 dc14 pm14 an14 cd14 ct14), sl14⟩) (c14 : PySem.W.codeIn K cd14 "_law_count" = true) (k14 : PySem.W.keepIn K (.ref f14) = true)
    (a15 : PySem.W.nsIn K mainGlobals "_law_asks_second" = some (some (.ref f15))) (l15 : K.lookup f15 = some ⟨oc15, od15, .func (PySem.W.fnOf "_law_asks_second" "_law_asks_second" (defArgs s__law_asks_second) (defBody s__law_asks_second) (defScope s__law_asks_second) .none kV15 dc15 pm15 an15 cd15 ct15), sl15⟩) (c15 : PySem.W.codeIn K cd15 "_law_asks_second" = true) (k15 : PySem.W.keepIn K (.ref f15) = true)
    (a16 : PySem.W.nsIn K mainGlobals "law" = some (some (.ref f16))) (l16 : K.lookup f16 = some ⟨oc16, od16, .func (PySem.W.fnOf "law" "law" (defArgs s_law) (defBody s_law) (defScope s_law) .none kV16 dc16 pm16 an16 cd16 ct16), sl16⟩) (c16 : PySem.W.codeIn K cd16 "law" = true) (k16 : PySem.W.keepIn K (.ref f16) = true)
    (u0 : PySem.W.nsIn K mainGlobals "FATES" = some (some (.ref TP0))) (tl0 : K.lookup TP0 = some ⟨.type "tuple", td0, .seq ti0 tn0, ts0⟩) (tv0 : ti0.size ≤ sizeLine ∧ Vals [V.str "ok", V.str "fail", V.str "before", V.str "during"] ti0.toList)
    (u1 : PySem.W.nsIn K mainGlobals "PLAN_LIMIT" = some (some (.int 200 t1)))
    (z0 : PySem.W.nsIn K mainGlobals "all" = some none)
    (z1 : PySem.W.nsIn K mainGlobals "int" = some none)
    (z2 : PySem.W.nsIn K mainGlobals "len" = some none)
    (z3 : PySem.W.nsIn K mainGlobals "list" = some none)
    (z4 : PySem.W.nsIn K mainGlobals "range" = some none)
    (xg0 : PySem.W.nsIn K mainGlobals "InvalidFates" = some (some (.ref X0))) (xk0 : PySem.W.keepIn K (.ref X0) = true) (xs0 : PySem.W.subIn K (.ref X0) (.type "BaseException") = some true) (xt0 : PySem.W.typeIn K (.ref X0) = some (.type "type")) (xd0 : PySem.W.hasDictIn K X0 = true)
    (xq0 : PySem.W.excIn K X0 [.type "ValueError", .type "Exception", .type "BaseException", .type "object"] "ValueError.__new__" = true)
    (xg1 : PySem.W.nsIn K mainGlobals "InvalidLooks" = some (some (.ref X1))) (xk1 : PySem.W.keepIn K (.ref X1) = true) (xs1 : PySem.W.subIn K (.ref X1) (.type "BaseException") = some true) (xt1 : PySem.W.typeIn K (.ref X1) = some (.type "type")) (xd1 : PySem.W.hasDictIn K X1 = true)
    (xq1 : PySem.W.excIn K X1 [.type "ValueError", .type "Exception", .type "BaseException", .type "object"] "ValueError.__new__" = true)
    (xg2 : PySem.W.nsIn K mainGlobals "InvalidSize" = some (some (.ref X2))) (xk2 : PySem.W.keepIn K (.ref X2) = true) (xs2 : PySem.W.subIn K (.ref X2) (.type "BaseException") = some true) (xt2 : PySem.W.typeIn K (.ref X2) = some (.type "type")) (xd2 : PySem.W.hasDictIn K X2 = true)
    (xq2 : PySem.W.excIn K X2 [.type "ValueError", .type "Exception", .type "BaseException", .type "object"] "ValueError.__new__" = true)
    (xg3 : PySem.W.nsIn K mainGlobals "NoSuchBlock" = some (some (.ref X3))) (xk3 : PySem.W.keepIn K (.ref X3) = true) (xs3 : PySem.W.subIn K (.ref X3) (.type "BaseException") = some true) (xt3 : PySem.W.typeIn K (.ref X3) = some (.type "type")) (xd3 : PySem.W.hasDictIn K X3 = true)
    (xq3 : PySem.W.excIn K X3 [.type "ValueError", .type "Exception", .type "BaseException", .type "object"] "ValueError.__new__" = true)
    (xg4 : PySem.W.nsIn K mainGlobals "NoSuchPage" = some (some (.ref X4))) (xk4 : PySem.W.keepIn K (.ref X4) = true) (xs4 : PySem.W.subIn K (.ref X4) (.type "BaseException") = some true) (xt4 : PySem.W.typeIn K (.ref X4) = some (.type "type")) (xd4 : PySem.W.hasDictIn K X4 = true)
    (xq4 : PySem.W.excIn K X4 [.type "ValueError", .type "Exception", .type "BaseException", .type "object"] "ValueError.__new__" = true)
    (xm0_0 : PySem.W.subIn K (.ref X0) (.ref X0) = some true)
    (xm0_1 : PySem.W.subIn K (.ref X0) (.ref X1) = some false)
    (xm0_2 : PySem.W.subIn K (.ref X0) (.ref X2) = some false)
    (xm0_3 : PySem.W.subIn K (.ref X0) (.ref X3) = some false)
    (xm0_4 : PySem.W.subIn K (.ref X0) (.ref X4) = some false)
    (xm1_0 : PySem.W.subIn K (.ref X1) (.ref X0) = some false)
    (xm1_1 : PySem.W.subIn K (.ref X1) (.ref X1) = some true)
    (xm1_2 : PySem.W.subIn K (.ref X1) (.ref X2) = some false)
    (xm1_3 : PySem.W.subIn K (.ref X1) (.ref X3) = some false)
    (xm1_4 : PySem.W.subIn K (.ref X1) (.ref X4) = some false)
    (xm2_0 : PySem.W.subIn K (.ref X2) (.ref X0) = some false)
    (xm2_1 : PySem.W.subIn K (.ref X2) (.ref X1) = some false)
    (xm2_2 : PySem.W.subIn K (.ref X2) (.ref X2) = some true)
    (xm2_3 : PySem.W.subIn K (.ref X2) (.ref X3) = some false)
    (xm2_4 : PySem.W.subIn K (.ref X2) (.ref X4) = some false)
    (xm3_0 : PySem.W.subIn K (.ref X3) (.ref X0) = some false)
    (xm3_1 : PySem.W.subIn K (.ref X3) (.ref X1) = some false)
    (xm3_2 : PySem.W.subIn K (.ref X3) (.ref X2) = some false)
    (xm3_3 : PySem.W.subIn K (.ref X3) (.ref X3) = some true)
    (xm3_4 : PySem.W.subIn K (.ref X3) (.ref X4) = some false)
    (xm4_0 : PySem.W.subIn K (.ref X4) (.ref X0) = some false)
    (xm4_1 : PySem.W.subIn K (.ref X4) (.ref X1) = some false)
    (xm4_2 : PySem.W.subIn K (.ref X4) (.ref X2) = some false)
    (xm4_3 : PySem.W.subIn K (.ref X4) (.ref X3) = some false)
    (xm4_4 : PySem.W.subIn K (.ref X4) (.ref X4) = some true) :
    ∃ fd : FuncData, (∀ (s : Shared) (v : Value), BindsTo s fd ⟨[v], []⟩ [("script", v)]) ∧ ∀ base : Heap, K.In base → base.Ns mainGlobals mg → FnOk l.prog w K mg base (L2.CX l.prog w) 6 fa fd ["script"] (spLaw K) := by
  have e : f16 = fa := Value.ref.inj (Option.some.inj ((PySem.W.mg_of X G a16).symm.trans hfa))
  rw [← e]
  letI : Mg := ⟨fun n => match n with | 0 => C0 | 1 => C1 | _ => 0, layG, fmG⟩
  have cl0 : Cls K C0 := ⟨pg0, hd0, po0, sa0⟩
  have cl1 : Cls K C1 := ⟨pg1, hd1, po1, sa1⟩
  have F0 := fun_mk (st := s_Block___init__) l0 c0 k0
  have b0 := F0.binds (ps := ["self", "pages"]) fun _ _ _ _ _ _ us hl => match us, hl with | [_, _], _ => rfl
  have F1 := fun_mk (st := s_Chip___init__) l1 c1 k1
  have b1 := F1.binds (ps := ["self", "blocks", "pages"]) fun _ _ _ _ _ _ us hl => match us, hl with | [_, _, _], _ => rfl
  have F2 := fun_mk (st := s_Chip_plan) l2 c2 k2
  have b2 := F2.binds (ps := ["self", "fates", "looks"]) fun _ _ _ _ _ _ us hl => match us, hl with | [_, _, _], _ => rfl
  have F3 := fun_mk (st := s_Chip_fates_left) l3 c3 k3
  have b3 := F3.binds (ps := ["self"]) fun _ _ _ _ _ _ us hl => match us, hl with | [_], _ => rfl
  have F4 := fun_mk (st := s_Chip_looks_left) l4 c4 k4
  have b4 := F4.binds (ps := ["self"]) fun _ _ _ _ _ _ us hl => match us, hl with | [_], _ => rfl
  have F5 := fun_mk (st := s_Chip__block_at) l5 c5 k5
  have b5 := F5.binds (ps := ["self", "block"]) fun _ _ _ _ _ _ us hl => match us, hl with | [_, _], _ => rfl
  have F6 := fun_mk (st := s_Chip__page_at) l6 c6 k6
  have b6 := F6.binds (ps := ["self", "block", "page"]) fun _ _ _ _ _ _ us hl => match us, hl with | [_, _, _], _ => rfl
  have F7 := fun_mk (st := s_Chip_state) l7 c7 k7
  have b7 := F7.binds (ps := ["self", "block", "page"]) fun _ _ _ _ _ _ us hl => match us, hl with | [_, _, _], _ => rfl
  have F8 := fun_mk (st := s_Chip_erases) l8 c8 k8
  have b8 := F8.binds (ps := ["self", "block"]) fun _ _ _ _ _ _ us hl => match us, hl with | [_, _], _ => rfl
  have F9 := fun_mk (st := s_Chip_is_alive) l9 c9 k9
  have b9 := F9.binds (ps := ["self", "block"]) fun _ _ _ _ _ _ us hl => match us, hl with | [_, _], _ => rfl
  have F10 := fun_mk (st := s__law_draws) l10 c10 k10
  have b10 := F10.binds (ps := ["script", "count"]) fun _ _ _ _ _ _ us hl => match us, hl with | [_, _], _ => rfl
  have F11 := fun_mk (st := s__law_is_new) l11 c11 k11
  have b11 := F11.binds (ps := ["chip", "blocks", "pages"]) fun _ _ _ _ _ _ us hl => match us, hl with | [_, _, _], _ => rfl
  have F12 := fun_mk (st := s__law_asks_first) l12 c12 k12
  have b12 := F12.binds (ps := ["script"]) fun _ _ _ _ _ _ us hl => match us, hl with | [_], _ => rfl
  have F13 := fun_mk (st := s__law_fates) l13 c13 k13
  have b13 := F13.binds (ps := ["draw", "count"]) fun _ _ _ _ _ _ us hl => match us, hl with | [_, _], _ => rfl
  have F14 := fun_mk (st := s__law_count) l14 c14 k14
  have b14 := F14.binds (ps := ["draw", "few"]) fun _ _ _ _ _ _ us hl => match us, hl with | [_, _], _ => rfl
  have F15 := fun_mk (st := s__law_asks_second) l15 c15 k15
  have b15 := F15.binds (ps := ["script"]) fun _ _ _ _ _ _ us hl => match us, hl with | [_], _ => rfl
  have F16 := fun_mk (st := s_law) l16 c16 k16
  have b16 := F16.binds (ps := ["script"]) fun _ _ _ _ _ _ us hl => match us, hl with | [_], _ => rfl
  have xx0 : XCls K mg "InvalidFates" X0 := ⟨PySem.W.mg_of X G xg0, xk0, xs0, xt0, xd0⟩
  have xx1 : XCls K mg "InvalidLooks" X1 := ⟨PySem.W.mg_of X G xg1, xk1, xs1, xt1, xd1⟩
  have xx2 : XCls K mg "InvalidSize" X2 := ⟨PySem.W.mg_of X G xg2, xk2, xs2, xt2, xd2⟩
  have xx3 : XCls K mg "NoSuchBlock" X3 := ⟨PySem.W.mg_of X G xg3, xk3, xs3, xt3, xd3⟩
  have xx4 : XCls K mg "NoSuchPage" X4 := ⟨PySem.W.mg_of X G xg4, xk4, xs4, xt4, xd4⟩
  have subs : Subs K mg d_classes d_sub := by
    refine ⟨fun a ha c hc va vc h1 h2 => ?_⟩
    simp only [d_classes, List.mem_cons, List.not_mem_nil, or_false] at ha hc
    rcases ha with rfl | rfl | rfl | rfl | rfl <;> rcases hc with rfl | rfl | rfl | rfl | rfl
    · exact subs_one (PySem.W.mg_of X G xg0) (PySem.W.mg_of X G xg0) h1 h2 (PySem.W.exm_ref xs0 xd0 xt0 xm0_0) (by decide +kernel)
    · exact subs_one (PySem.W.mg_of X G xg0) (PySem.W.mg_of X G xg1) h1 h2 (PySem.W.exm_ref xs1 xd1 xt1 xm0_1) (by decide +kernel)
    · exact subs_one (PySem.W.mg_of X G xg0) (PySem.W.mg_of X G xg2) h1 h2 (PySem.W.exm_ref xs2 xd2 xt2 xm0_2) (by decide +kernel)
    · exact subs_one (PySem.W.mg_of X G xg0) (PySem.W.mg_of X G xg3) h1 h2 (PySem.W.exm_ref xs3 xd3 xt3 xm0_3) (by decide +kernel)
    · exact subs_one (PySem.W.mg_of X G xg0) (PySem.W.mg_of X G xg4) h1 h2 (PySem.W.exm_ref xs4 xd4 xt4 xm0_4) (by decide +kernel)
    · exact subs_one (PySem.W.mg_of X G xg1) (PySem.W.mg_of X G xg0) h1 h2 (PySem.W.exm_ref xs0 xd0 xt0 xm1_0) (by decide +kernel)
    · exact subs_one (PySem.W.mg_of X G xg1) (PySem.W.mg_of X G xg1) h1 h2 (PySem.W.exm_ref xs1 xd1 xt1 xm1_1) (by decide +kernel)
    · exact subs_one (PySem.W.mg_of X G xg1) (PySem.W.mg_of X G xg2) h1 h2 (PySem.W.exm_ref xs2 xd2 xt2 xm1_2) (by decide +kernel)
    · exact subs_one (PySem.W.mg_of X G xg1) (PySem.W.mg_of X G xg3) h1 h2 (PySem.W.exm_ref xs3 xd3 xt3 xm1_3) (by decide +kernel)
    · exact subs_one (PySem.W.mg_of X G xg1) (PySem.W.mg_of X G xg4) h1 h2 (PySem.W.exm_ref xs4 xd4 xt4 xm1_4) (by decide +kernel)
    · exact subs_one (PySem.W.mg_of X G xg2) (PySem.W.mg_of X G xg0) h1 h2 (PySem.W.exm_ref xs0 xd0 xt0 xm2_0) (by decide +kernel)
    · exact subs_one (PySem.W.mg_of X G xg2) (PySem.W.mg_of X G xg1) h1 h2 (PySem.W.exm_ref xs1 xd1 xt1 xm2_1) (by decide +kernel)
    · exact subs_one (PySem.W.mg_of X G xg2) (PySem.W.mg_of X G xg2) h1 h2 (PySem.W.exm_ref xs2 xd2 xt2 xm2_2) (by decide +kernel)
    · exact subs_one (PySem.W.mg_of X G xg2) (PySem.W.mg_of X G xg3) h1 h2 (PySem.W.exm_ref xs3 xd3 xt3 xm2_3) (by decide +kernel)
    · exact subs_one (PySem.W.mg_of X G xg2) (PySem.W.mg_of X G xg4) h1 h2 (PySem.W.exm_ref xs4 xd4 xt4 xm2_4) (by decide +kernel)
    · exact subs_one (PySem.W.mg_of X G xg3) (PySem.W.mg_of X G xg0) h1 h2 (PySem.W.exm_ref xs0 xd0 xt0 xm3_0) (by decide +kernel)
    · exact subs_one (PySem.W.mg_of X G xg3) (PySem.W.mg_of X G xg1) h1 h2 (PySem.W.exm_ref xs1 xd1 xt1 xm3_1) (by decide +kernel)
    · exact subs_one (PySem.W.mg_of X G xg3) (PySem.W.mg_of X G xg2) h1 h2 (PySem.W.exm_ref xs2 xd2 xt2 xm3_2) (by decide +kernel)
    · exact subs_one (PySem.W.mg_of X G xg3) (PySem.W.mg_of X G xg3) h1 h2 (PySem.W.exm_ref xs3 xd3 xt3 xm3_3) (by decide +kernel)
    · exact subs_one (PySem.W.mg_of X G xg3) (PySem.W.mg_of X G xg4) h1 h2 (PySem.W.exm_ref xs4 xd4 xt4 xm3_4) (by decide +kernel)
    · exact subs_one (PySem.W.mg_of X G xg4) (PySem.W.mg_of X G xg0) h1 h2 (PySem.W.exm_ref xs0 xd0 xt0 xm4_0) (by decide +kernel)
    · exact subs_one (PySem.W.mg_of X G xg4) (PySem.W.mg_of X G xg1) h1 h2 (PySem.W.exm_ref xs1 xd1 xt1 xm4_1) (by decide +kernel)
    · exact subs_one (PySem.W.mg_of X G xg4) (PySem.W.mg_of X G xg2) h1 h2 (PySem.W.exm_ref xs2 xd2 xt2 xm4_2) (by decide +kernel)
    · exact subs_one (PySem.W.mg_of X G xg4) (PySem.W.mg_of X G xg3) h1 h2 (PySem.W.exm_ref xs3 xd3 xt3 xm4_3) (by decide +kernel)
    · exact subs_one (PySem.W.mg_of X G xg4) (PySem.W.mg_of X G xg4) h1 h2 (PySem.W.exm_ref xs4 xd4 xt4 xm4_4) (by decide +kernel)
  let T : Txt K mg w := { a_Block___init__ := f0, fd_Block___init__ := _, F_Block___init__ := F0, b_Block___init__ := b0, k_Block := ⟨mk0, a0, i0, kc0⟩, a_Chip___init__ := f1, fd_Chip___init__ := _, F_Chip___init__ := F1, b_Chip___init__ := b1, k_Chip := ⟨mk1, a1, i1, kc1⟩, a_Chip_plan := f2, fd_Chip_plan := _, F_Chip_plan := F2, b_Chip_plan := b2, m_Chip_plan := ⟨cl1, ⟨a2, i2, k2⟩, (by decide +kernel : ("plan" : Str) ∉ layG 1)⟩, a_Chip_fates_left := f3, fd_Chip_fates_left := _, F_Chip_fates_left := F3, b_Chip_fates_left := b3, m_Chip_fates_left := ⟨cl1, ⟨a3, i3, k3⟩, (by decide +kernel : ("fates_left" : Str) ∉ layG 1)⟩, a_Chip_looks_left := f4, fd_Chip_looks_left := _, F_Chip_looks_left := F4, b_Chip_looks_left := b4, m_Chip_looks_left := ⟨cl1, ⟨a4, i4, k4⟩, (by decide +kernel : ("looks_left" : Str) ∉ layG 1)⟩, a_Chip__block_at := f5, fd_Chip__block_at := _, F_Chip__block_at := F5, b_Chip__block_at := b5, m_Chip__block_at := ⟨cl1, ⟨a5, i5, k5⟩, (by decide +kernel : ("_block_at" : Str) ∉ layG 1)⟩, a_Chip__page_at := f6, fd_Chip__page_at := _, F_Chip__page_at := F6, b_Chip__page_at := b6, m_Chip__page_at := ⟨cl1, ⟨a6, i6, k6⟩, (by decide +kernel : ("_page_at" : Str) ∉ layG 1)⟩, a_Chip_state := f7, fd_Chip_state := _, F_Chip_state := F7, b_Chip_state := b7, m_Chip_state := ⟨cl1, ⟨a7, i7, k7⟩, (by decide +kernel : ("state" : Str) ∉ layG 1)⟩, a_Chip_erases := f8, fd_Chip_erases := _, F_Chip_erases := F8, b_Chip_erases := b8, m_Chip_erases := ⟨cl1, ⟨a8, i8, k8⟩, (by decide +kernel : ("erases" : Str) ∉ layG 1)⟩, a_Chip_is_alive := f9, fd_Chip_is_alive := _, F_Chip_is_alive := F9, b_Chip_is_alive := b9, m_Chip_is_alive := ⟨cl1, ⟨a9, i9, k9⟩, (by decide +kernel : ("is_alive" : Str) ∉ layG 1)⟩, a__law_draws := f10, fd__law_draws := _, F__law_draws := F10, g__law_draws := PySem.W.mg_of X G a10, b__law_draws := b10, a__law_is_new := f11, fd__law_is_new := _, F__law_is_new := F11, g__law_is_new := PySem.W.mg_of X G a11, b__law_is_new := b11, a__law_asks_first := f12, fd__law_asks_first := _, F__law_asks_first := F12, g__law_asks_first := PySem.W.mg_of X G a12, b__law_asks_first := b12, a__law_fates := f13, fd__law_fates := _, F__law_fates := F13, g__law_fates := PySem.W.mg_of X G a13, b__law_fates := b13, a__law_count := f14, fd__law_count := _, F__law_count := F14, g__law_count := PySem.W.mg_of X G a14, b__law_count := b14, a__law_asks_second := f15, fd__law_asks_second := _, F__law_asks_second := F15, g__law_asks_second := PySem.W.mg_of X G a15, b__law_asks_second := b15, a_law := f16, fd_law := _, F_law := F16, g_law := PySem.W.mg_of X G a16, b_law := b16, g_Block := PySem.W.mg_of X G ag0, g_Chip := PySem.W.mg_of X G ag1, fsA := fun c => ⟨by show (layG c).length < 1000; unfold layG; split <;> decide⟩, ft_states := (ft_cons ⟨cl0, nf0_0, rfl, (by decide +kernel : ("states" : Str) ∉ (layG 0).take 0)⟩ rfl ft_nil), ft_erased := (ft_cons ⟨cl0, nf0_1, rfl, (by decide +kernel : ("erased" : Str) ∉ (layG 0).take 1)⟩ rfl ft_nil), ft_alive := (ft_cons ⟨cl0, nf0_2, rfl, (by decide +kernel : ("alive" : Str) ∉ (layG 0).take 2)⟩ rfl ft_nil), ft_shape := (ft_cons ⟨cl1, nf1_0, rfl, (by decide +kernel : ("shape" : Str) ∉ (layG 1).take 0)⟩ rfl ft_nil), ft_powered := (ft_cons ⟨cl1, nf1_1, rfl, (by decide +kernel : ("powered" : Str) ∉ (layG 1).take 1)⟩ rfl ft_nil), ft_refused := (ft_cons ⟨cl1, nf1_2, rfl, (by decide +kernel : ("refused" : Str) ∉ (layG 1).take 2)⟩ rfl ft_nil), ft_generation := (ft_cons ⟨cl1, nf1_3, rfl, (by decide +kernel : ("generation" : Str) ∉ (layG 1).take 3)⟩ rfl ft_nil), ft__blocks := (ft_cons ⟨cl1, nf1_4, rfl, (by decide +kernel : ("_blocks" : Str) ∉ (layG 1).take 4)⟩ rfl ft_nil), ft__fates := (ft_cons ⟨cl1, nf1_5, rfl, (by decide +kernel : ("_fates" : Str) ∉ (layG 1).take 5)⟩ rfl ft_nil), ft__looks := (ft_cons ⟨cl1, nf1_6, rfl, (by decide +kernel : ("_looks" : Str) ∉ (layG 1).take 6)⟩ rfl ft_nil), c_FATES := ⟨_, PySem.W.mg_of X G u0, V.ref TP0, rfl, fun B => .tup (.inr ⟨_, _, _, tl0, rfl, rfl, tv0.1, tv0.2⟩) (.cons (.str _) (.cons (.str _) (.cons (.str _) (.cons (.str _) .nil))))⟩, c_PLAN_LIMIT := ⟨_, PySem.W.mg_of X G u1, .int _, ⟨_, rfl⟩, fun _ => .int _⟩, n_all := PySem.W.mg_none_of X G z0, n_int := PySem.W.mg_none_of X G z1, n_len := PySem.W.mg_none_of X G z2, n_list := PySem.W.mg_none_of X G z3, n_range := PySem.W.mg_none_of X G z4, A_InvalidFates := X0, x_InvalidFates := xx0, y_InvalidFates := ⟨PySem.F.excBase_ValueError, xq0⟩, A_InvalidLooks := X1, x_InvalidLooks := xx1, y_InvalidLooks := ⟨PySem.F.excBase_ValueError, xq1⟩, A_InvalidSize := X2, x_InvalidSize := xx2, y_InvalidSize := ⟨PySem.F.excBase_ValueError, xq2⟩, A_NoSuchBlock := X3, x_NoSuchBlock := xx3, y_NoSuchBlock := ⟨PySem.F.excBase_ValueError, xq3⟩, A_NoSuchPage := X4, x_NoSuchPage := xx4, y_NoSuchPage := ⟨PySem.F.excBase_ValueError, xq4⟩, subs := subs }
  exact ⟨T.fd_law, fun s v => .of_eq rfl, fun base _ _ => (ok_law T).imp fun vs H Q E h => law_imp goal vs H Q E h⟩
end Law

set_option Elab.async false
set_option linter.all false
set_option maxRecDepth 100000
set_option maxHeartbeats 4000000
/-! Plain programs, printed by pgen.py. -/
namespace Law
open PySem L2 T
def p__law_draws_j3 (v_script v_draws : D) (s : D) : Res (D) := (((asLs (v_draws)).bind fun t6 => (Res.ok (s)).bind fun t7 => pushR t6 t7).bind fun v_draws => (.ok v_draws))
def p__law_draws_j2 (v_script v_draws v_k : D) (s : D) : Res (D) := (((((Res.ok (s)).bind fun t9 => (Res.ok ((.int 1000000000) : D)).bind fun t10 => dLt t9 t10).bind asB).bind fun t15 => if t15 = true then .ok true else (((Res.ok (v_k)).bind fun t13 => (((Res.ok (v_script)).bind fun t11 => (Res.ok ([] : List D)).bind fun t12 => .ok (t11 :: t12)).bind dLen).bind fun t14 => dGe t13 t14).bind asB)).bind fun t67 => if t67 = true then (((((((Res.ok (s)).bind fun t23 => (Res.ok ((.int 6364136223846793005) : D)).bind fun t24 => dMul t23 t24).bind fun t29 => ((Res.ok ((.int 1442695040888963407) : D)).bind fun t27 => ((Res.ok (v_k)).bind fun t25 => (Res.ok ((.int 1) : D)).bind fun t26 => dAdd t25 t26).bind fun t28 => dMul t27 t28).bind fun t30 => dAdd t29 t30).bind fun t31 => (Res.ok ([] : List D)).bind fun t32 => .ok (t31 :: t32)).bind dInt).bind fun t33 => (Res.ok ((.int 9223372036854775783) : D)).bind fun t34 => dMod t33 t34).bind fun v_cell => ((((((((Res.ok (v_cell)).bind fun t47 => (Res.ok ((.int 2862933555777941757) : D)).bind fun t48 => dMul t47 t48).bind fun t49 => (Res.ok ((.int 3037000493) : D)).bind fun t50 => dAdd t49 t50).bind fun t51 => (Res.ok (v_k)).bind fun t52 => dAdd t51 t52).bind fun t53 => (Res.ok ([] : List D)).bind fun t54 => .ok (t53 :: t54)).bind dInt).bind fun t55 => (Res.ok ((.int 18446744073709551557) : D)).bind fun t56 => dMod t55 t56).bind fun v_cell => (p__law_draws_j3 (v_script) (v_draws) v_cell))) else (p__law_draws_j3 (v_script) (v_draws) s))
def p__law_draws_j1 (v_script v_draws v_k : D) (s : D) : Res (D) := ((((Res.ok (s)).bind fun t69 => (Res.ok ((.int 0) : D)).bind fun t70 => dLt t69 t70).bind asB).bind fun t81 => if t81 = true then (((Res.ok ((.int 1) : D)).bind fun t75 => ((Res.ok ((.int 2) : D)).bind fun t73 => (Res.ok (s)).bind fun t74 => dMul t73 t74).bind fun t76 => dSub t75 t76).bind fun v_cell => (p__law_draws_j2 (v_script) (v_draws) (v_k) v_cell)) else (p__law_draws_j2 (v_script) (v_draws) (v_k) s))
def p__law_draws_b1 (v_script : D) (s : D) (x : D) : Res (D) := ((Res.ok ((.int 0) : D)).bind fun v_cell => ((((((Res.ok (v_script)).bind fun t83 => (Res.ok ([] : List D)).bind fun t84 => .ok (t83 :: t84)).bind dLen).bind fun t85 => (Res.ok ((.int 0) : D)).bind fun t86 => dGt t85 t86).bind asB).bind fun t107 => if t107 = true then (((((Res.ok (v_script)).bind fun t95 => ((Res.ok (x)).bind fun t93 => (((Res.ok (v_script)).bind fun t91 => (Res.ok ([] : List D)).bind fun t92 => .ok (t91 :: t92)).bind dLen).bind fun t94 => dMod t93 t94).bind fun t96 => dIx t95 t96).bind fun t97 => (Res.ok ([] : List D)).bind fun t98 => .ok (t97 :: t98)).bind dInt).bind fun v_cell => (p__law_draws_j1 (v_script) (s) (x) v_cell)) else (p__law_draws_j1 (v_script) (s) (x) v_cell)))
def p__law_draws (v_script v_count : D) : Res (D) := (((Res.ok ([] : List D)).bind szR).bind fun v_draws => (((((Res.ok (v_count)).bind fun t214 => (Res.ok ([] : List D)).bind fun t215 => .ok (t214 :: t215)).bind dRng1).bind fun t218 => foldR (p__law_draws_b1 (v_script)) t218 (D.lst v_draws)).bind fun s213 => (Res.ok (s213))))
theorem k__law_draws (v_script v_count : D) : p__law_draws v_script v_count = .no ∨ f__law_draws [v_script, v_count] = p__law_draws v_script v_count := runF_sat rfl (show Sat (fun _ => True) CT (p__law_draws v_script v_count) (m__law_draws [some v_script, some v_count, none, none, none]) from (sat_stmt (s_setN (e_lstV e_noA)) True.intro fun v_draws => (sat_for (Γ := fun (s : D) g => [some (v_script), some (v_count), some (s), g 3, g 4]) (e_call (e_consA (e_get rfl) e_noA)) True.intro rfl (fun s1 x2 _ => (sat_nm (sat_stmt (s_set e_con) True.intro fun v_cell => (sat_join (J := fun s => (p__law_draws_j1 (v_script) (s1) (x2) s)) (Γ := fun s g => [some (v_script), some (v_count), some (s1), some (x2), some (s)]) (fun s108 _ => (sat_join (J := fun s => (p__law_draws_j2 (v_script) (s1) (x2) s)) (Γ := fun s g => [some (v_script), some (v_count), some (s1), some (x2), some (s)]) (fun s109 _ => (sat_join (J := fun s => (p__law_draws_j3 (v_script) (s1) s)) (Γ := fun s g => [some (v_script), some (v_count), some (s1), some (x2), some (s)]) (fun s110 _ => (sat_last (sat_stmt (s_app rfl (e_get rfl)) True.intro fun v_draws => (sat_endL rfl)))) fun hj113 => sat_ifS (e_or (e_toB (e_bin (e_get rfl) e_con)) (e_toB (e_bin (e_get rfl) (e_call (e_consA (e_get rfl) e_noA))))) True.intro (sat_assoc (sat_stmt (s_set (e_bin (e_call (e_consA (e_bin (e_bin (e_get rfl) e_con) (e_bin e_con (e_bin (e_get rfl) e_con))) e_noA)) e_con)) True.intro fun v_cell => (sat_stmt (s_set (e_bin (e_call (e_consA (e_bin (e_bin (e_bin (e_get rfl) e_con) e_con) (e_get rfl)) e_noA)) e_con)) True.intro fun v_cell => (hj113 v_cell _ rfl)))) (sat_skip (hj113 s109 _ rfl)))) fun hj173 => sat_ifS (e_toB (e_bin (e_get rfl) e_con)) True.intro (sat_stmt (s_set (e_bin e_con (e_bin e_con (e_get rfl)))) True.intro fun v_cell => (hj173 v_cell _ rfl)) (sat_skip (hj173 s108 _ rfl)))) fun hj187 => sat_ifS (e_toB (e_bin (e_call (e_consA (e_get rfl) e_noA)) e_con)) True.intro (sat_stmt (s_set (e_call (e_consA (e_bin (e_get rfl) (e_bin (e_get rfl) (e_call (e_consA (e_get rfl) e_noA)))) e_noA))) True.intro fun v_cell => (hj187 v_cell _ rfl)) (sat_skip (hj187 v_cell _ rfl)))))) (fun s213 _ => (sat_last (sat_cut (sat_retT (e_get rfl) True.intro) nn_ret))))))
theorem q__law_draws {v_script v_count : D} {r : D} (h : p__law_draws v_script v_count = .ok r) : f__law_draws [v_script, v_count] = .ok r := of_sat (k__law_draws v_script v_count) h
theorem qx__law_draws {v_script v_count : D} {e : Exn} (h : p__law_draws v_script v_count = .ex e) : f__law_draws [v_script, v_count] = .ex e := of_satX (k__law_draws v_script v_count) h
def p__law_fates (v_draw v_count : D) : Res (D) := ((((Res.ok ((.str "ok") : D)).bind fun t7 => ((Res.ok ((.str "fail") : D)).bind fun t5 => ((Res.ok ((.str "before") : D)).bind fun t3 => ((Res.ok ((.str "during") : D)).bind fun t1 => (Res.ok ([] : List D)).bind fun t2 => .ok (t1 :: t2)).bind fun t4 => .ok (t3 :: t4)).bind fun t6 => .ok (t5 :: t6)).bind fun t8 => .ok (t7 :: t8)).bind fun t9 => (szR t9).bind fun t10 => .ok (.tup t10)).bind fun v_words => (((((Res.ok (v_count)).bind fun t21 => (Res.ok ([] : List D)).bind fun t22 => .ok (t21 :: t22)).bind dRng1).bind fun t23 => (szR t23).bind fun t24 => mapR (fun x25 => ((Res.ok (v_words)).bind fun t34 => (((((Res.ok (v_draw)).bind fun t28 => ((Res.ok (x25)).bind fun t26 => (Res.ok ((.int 1) : D)).bind fun t27 => dAdd t26 t27).bind fun t29 => dDiv t28 t29).bind fun t30 => (Res.ok ([] : List D)).bind fun t31 => .ok (t30 :: t31)).bind dInt).bind fun t32 => (Res.ok ((.int 4) : D)).bind fun t33 => dMod t32 t33).bind fun t35 => dIx t34 t35)) t24).bind fun t51 => .ok (.lst t51)))
theorem k__law_fates (v_draw v_count : D) : p__law_fates v_draw v_count = .no ∨ f__law_fates [v_draw, v_count] = p__law_fates v_draw v_count := runF_sat rfl (show Sat (fun _ => True) CT (p__law_fates v_draw v_count) (m__law_fates [some v_draw, some v_count, none, none]) from (sat_stmt (s_set (e_tup (e_consA e_con (e_consA e_con (e_consA e_con (e_consA e_con e_noA)))))) True.intro fun v_words => (sat_last (sat_cut (sat_retNT (e_comp (e_call (e_consA (e_get rfl) e_noA)) fun x40 => (e_nm (e_bin (e_get rfl) (e_bin (e_call (e_consA (e_bin (e_get rfl) (e_bin (e_get rfl) e_con)) e_noA)) e_con)))) True.intro) nn_retN))))
theorem q__law_fates {v_draw v_count : D} {r : D} (h : p__law_fates v_draw v_count = .ok r) : f__law_fates [v_draw, v_count] = .ok r := of_sat (k__law_fates v_draw v_count) h
theorem qx__law_fates {v_draw v_count : D} {e : Exn} (h : p__law_fates v_draw v_count = .ex e) : f__law_fates [v_draw, v_count] = .ex e := of_satX (k__law_fates v_draw v_count) h
def p__law_count (v_draw v_few : D) : Res (D) := (((((Res.ok (v_draw)).bind fun t1 => (Res.ok ((.int 4) : D)).bind fun t2 => dMod t1 t2).bind fun t3 => (Res.ok ((.int 3) : D)).bind fun t4 => dEq t3 t4).bind asB).bind fun t9 => if t9 = true then ((Res.ok ((.int 198) : D)).bind fun t14 => (((Res.ok (v_draw)).bind fun t10 => (Res.ok ((.int 4) : D)).bind fun t11 => dDiv t10 t11).bind fun t12 => (Res.ok ((.int 6) : D)).bind fun t13 => dMod t12 t13).bind fun t15 => dAdd t14 t15) else (((Res.ok (v_draw)).bind fun t23 => (Res.ok ((.int 4) : D)).bind fun t24 => dDiv t23 t24).bind fun t25 => (Res.ok (v_few)).bind fun t26 => dMod t25 t26))
theorem k__law_count (v_draw v_few : D) : p__law_count v_draw v_few = .no ∨ f__law_count [v_draw, v_few] = p__law_count v_draw v_few := runF_sat rfl (show Sat (fun _ => True) CT (p__law_count v_draw v_few) (m__law_count [some v_draw, some v_few]) from (sat_ifS (e_toB (e_bin (e_bin (e_get rfl) e_con) e_con)) True.intro (sat_cut (sat_retT (e_bin e_con (e_bin (e_bin (e_get rfl) e_con) e_con)) True.intro) nn_ret) (sat_skip (sat_last (sat_cut (sat_retT (e_bin (e_bin (e_get rfl) e_con) (e_get rfl)) True.intro) nn_ret)))))
theorem q__law_count {v_draw v_few : D} {r : D} (h : p__law_count v_draw v_few = .ok r) : f__law_count [v_draw, v_few] = .ok r := of_sat (k__law_count v_draw v_few) h
theorem qx__law_count {v_draw v_few : D} {e : Exn} (h : p__law_count v_draw v_few = .ex e) : f__law_count [v_draw, v_few] = .ex e := of_satX (k__law_count v_draw v_few) h
def p_law (v_script : D) : Res (D) := ((((Res.ok (v_script)).bind fun t1 => (Res.ok ([] : List D)).bind fun t2 => .ok (t1 :: t2)).bind f__law_asks_first).bind fun t5 => (asB t5).bind fun t6 => if t6 = true then (((Res.ok (v_script)).bind fun t3 => (Res.ok ([] : List D)).bind fun t4 => .ok (t3 :: t4)).bind f__law_asks_second) else .ok (.bl false))
theorem k_law (v_script : D) : p_law v_script = .no ∨ f_law [v_script] = p_law v_script := runF_sat rfl (show Sat (fun _ => True) CT (p_law v_script) (m_law [some v_script]) from (sat_last (sat_cut (sat_retT (e_andV (e_call (e_consA (e_get rfl) e_noA)) (e_call (e_consA (e_get rfl) e_noA))) True.intro) nn_ret)))
theorem q_law {v_script : D} {r : D} (h : p_law v_script = .ok r) : f_law [v_script] = .ok r := of_sat (k_law v_script) h
theorem qx_law {v_script : D} {e : Exn} (h : p_law v_script = .ex e) : f_law [v_script] = .ex e := of_satX (k_law v_script) h
end Law

set_option Elab.async false
set_option linter.all false
set_option maxRecDepth 100000
set_option maxHeartbeats 4000000
/-! Law k00: blocks and chips. -/
namespace Law
open PySem L2 T
local macro_rules
  | `(tactic| array_mem_dec) => `(tactic| first
    | omega
    | with_reducible assumption
    | (simp; done)
    | (simp; omega)
    | (simp at *; omega)
    | (refine cm_ss ?_ ?_ ?_ ?_ <;> omega)
    | (refine cm_sw ?_ ?_ ?_ <;> first | assumption | omega)
    | (refine cm_ws ?_ ?_ ?_ <;> first | assumption | omega))
def blank : D := .tup [.str "blank"]
def blkD (p : Nat) : D := .ins 0 [.lst (List.replicate p blank), .int 0, .bl true]
def chipD (b p : Nat) (fates looks : List D) : D := .ins 1 [.tup [.int b, .int p], .bl true, .int 0, .int 0, .lst ((List.range b).map fun i => refD (i + 1)), .lst fates, .lst looks]
def sto (b p : Nat) (fates looks : List D) : List D := chipD b p fates looks :: List.replicate b (blkD p)
theorem block_init {os : List D} {p : Nat} (hp : p ≤ 1000) : f_Block___init__ (os ++ [.ins 0 []]) [refD os.length, .int p] = .ok .non (os ++ [blkD p]) := by
  simp (disch := array_mem_dec) [f_Block___init__, startR, m_Block___init__, tab_states, tab_erased, tab_alive, blkD, blank, -List.reduceReplicate]
abbrev elB : Rho → ResM D := makeS 0 f_Block___init__ 4 (consM (pureM (getV 2)) noM)
theorem blocks_made {b p : Nat} (hp : p ≤ 1000) {c : D} (hc : c = .ins 1 [.tup [.int b, .int p], .bl true, .int 0, .int 0]) : lcMM (bNm 3) elB [3] ((List.range b).map fun (i : Nat) => D.int i) [some (refD 0), some (.int b), some (.int p), none, some (stoD [c])]
    = .ok ((List.range b).map fun i => refD (i + 1)) [some (refD 0), some (.int b), some (.int p), none, some (stoD (c :: List.replicate b (blkD p)))] := by
  have h := lcMM_iter (b := bNm 3) (h := elB) (is := [3]) (R := fun j => [some (refD 0), some (.int b), some (.int p), none, some (stoD (c :: List.replicate j (blkD p)))]) (v := fun j => refD (j + 1)) b (fun j x hj => by
    have hi := block_init (os := c :: List.replicate j (blkD p)) hp
    simp only [List.cons_append, List.length_cons, List.length_replicate] at hi
    refine ⟨_, [some (refD 0), some (.int b), some (.int p), some x, some (stoD (c :: (List.replicate j (blkD p) ++ [blkD p])))], rfl, ?_, ?_⟩
    · simp (disch := array_mem_dec) [hi, wipeR, -List.reduceReplicate]
    · simp [unW, List.replicate_succ', -List.reduceReplicate]) ((List.range b).map fun (i : Nat) => D.int i) 0 (by simp)
  simpa [-List.reduceReplicate] using h
theorem fmt_small : ∀ n : Nat, n < 64 → ((toString (n : Int) : String) : Str).length ≤ 3 := by decide +kernel
theorem chip_init {b p : Nat} (h1 : 24 ≤ b) (h2 : b ≤ 48) (h3 : 16 ≤ p) (h4 : p ≤ 32) : f_Chip___init__ [.ins 1 []] [refD 0, .int b, .int p] = .ok .non (sto b p [] []) := by
  have h := blocks_made (b := b) (p := p) (by omega) rfl
  have e1 : (24 : Int) ≤ b := by omega
  have e2 : (b : Int) ≤ 48 := by omega
  have e3 : (16 : Int) ≤ p := by omega
  have e4 : (p : Int) ≤ 32 := by omega
  simp (disch := array_mem_dec) [f_Chip___init__, startR, m_Chip___init__, h, e1, e2, e3, e4, tab_shape, tab_powered, tab_refused, tab_generation, tab__blocks, tab__fates, tab__looks, sto, chipD, -List.reduceReplicate]
theorem fmt_ok {n : Nat} (h : n < 64) : ∃ s : Str, dFmt (.int n) = .ok (.str s) ∧ s.length ≤ 3 := by
  refine ⟨_, if_pos ?_, fmt_small n h⟩
  have : (n : Int).natAbs = n := rfl
  rw [this]
  have h2 : n.log2 ≤ n := Nat.log2_le_self n
  omega
theorem slen_app (a b : Str) : (a ++ b).length = a.length + b.length := by
  show (a.cps ++ b.cps).size = _
  rw [Array.size_append]
  rfl
theorem chip_no {b p : Nat} (hb : b < 64) (hp : p < 64) (h : ¬((24 ≤ b ∧ b ≤ 48) ∧ 16 ≤ p ∧ p ≤ 32)) : f_Chip___init__ [.ins 1 []] [refD 0, .int b, .int p] = .ex ⟨"InvalidSize", []⟩ [.ins 1 []] := by
  obtain ⟨s, hs, hs2⟩ := fmt_ok hb
  obtain ⟨t, ht, ht2⟩ := fmt_ok hp
  have hc : ((b : Int) < 24 ∨ 48 < (b : Int)) ∨ (p : Int) < 16 ∨ 32 < (p : Int) := by omega
  have l1 : ((" blocks of " : String) : Str).length = 11 := by decide +kernel
  have l2 : ((" pages" : String) : Str).length = 6 := by decide +kernel
  have l3 : Str.empty.length = 0 := by decide +kernel
  have k1 : s.length ≤ sizeLine := by rw [size_line]; omega
  have k2 : s.length + 11 ≤ sizeLine := by rw [size_line]; omega
  have k3 : s.length + 11 + t.length ≤ sizeLine := by rw [size_line]; omega
  have k4 : s.length + 11 + t.length + 6 ≤ sizeLine := by rw [size_line]; omega
  simp (disch := array_mem_dec) [f_Chip___init__, startR, m_Chip___init__, hs, ht, fsV, fsCons, fsNil, fmtV, slen_app, l1, l2, l3, k1, k2, k3, k4, hc, -List.reduceReplicate]
end Law

set_option Elab.async false
set_option linter.all false
set_option maxRecDepth 100000
set_option maxHeartbeats 4000000
/-! Law k00: what a chip tells. -/
namespace Law
open PySem L2 T
local macro_rules
  | `(tactic| array_mem_dec) => `(tactic| first
    | omega
    | with_reducible assumption
    | (simp; done)
    | (simp; omega)
    | (simp at *; omega)
    | (refine cm_ss ?_ ?_ ?_ ?_ <;> omega)
    | (refine cm_sw ?_ ?_ ?_ <;> first | assumption | omega)
    | (refine cm_ws ?_ ?_ ?_ <;> first | assumption | omega))
section
variable {b p i j : Nat} {fates looks : List D}
theorem sto_0 : (sto b p fates looks)[0]? = some (chipD b p fates looks) := rfl
theorem sto_s (h : i < b) : (sto b p fates looks)[i + 1]? = some (blkD p) := by
  simp [sto, h, -List.reduceReplicate]
theorem fates_left (h : fates.all D.nref = true) : f_Chip_fates_left (sto b p fates looks) [refD 0] = .ok (.lst fates) (sto b p fates looks) := by
  simp (disch := array_mem_dec) [f_Chip_fates_left, startR, m_Chip_fates_left, sto_0, chipD, tab__fates]
theorem looks_left (h : looks.all D.nref = true) : f_Chip_looks_left (sto b p fates looks) [refD 0] = .ok (.lst looks) (sto b p fates looks) := by
  simp (disch := array_mem_dec) [f_Chip_looks_left, startR, m_Chip_looks_left, sto_0, chipD, tab__looks]
theorem atI_refs (h : i < b) : atI ((List.range b).map fun i => refD (i + 1)) (i : Int) = some (refD (i + 1)) := by
  refine atI_nat (i := i) ?_
  simp [h]
theorem block_at (h : i < b) : f_Chip__block_at (sto b p fates looks) [refD 0, .int i] = .ok (refD (i + 1)) (sto b p fates looks) := by
  have e : (i : Int) < b := by omega
  have e2 := atI_refs h
  simp (disch := array_mem_dec) [f_Chip__block_at, startR, m_Chip__block_at, sto_0, chipD, tab__blocks, e, atR_ok e2]
theorem erases_eq (h : i < b) : f_Chip_erases (sto b p fates looks) [refD 0, .int i] = .ok (.int 0) (sto b p fates looks) := by
  have e := block_at (p := p) (fates := fates) (looks := looks) h
  simp (disch := array_mem_dec) [f_Chip_erases, startR, m_Chip_erases, sto_0, chipD, tab_erased, e, sto_s h, blkD, -List.reduceReplicate]
theorem is_alive_eq (h : i < b) : f_Chip_is_alive (sto b p fates looks) [refD 0, .int i] = .ok (.bl true) (sto b p fates looks) := by
  have e := block_at (p := p) (fates := fates) (looks := looks) h
  simp (disch := array_mem_dec) [f_Chip_is_alive, startR, m_Chip_is_alive, sto_0, chipD, tab_alive, e, sto_s h, blkD, -List.reduceReplicate]
theorem page_at (h : i < b) (h' : j < p) : f_Chip__page_at (sto b p fates looks) [refD 0, .int i, .int j] = .ok (refD (i + 1)) (sto b p fates looks) := by
  have e := block_at (p := p) (fates := fates) (looks := looks) h
  have e2 : (j : Int) < p := by omega
  simp (disch := array_mem_dec) [f_Chip__page_at, startR, m_Chip__page_at, sto_0, chipD, tab_states, e, sto_s h, blkD, e2, -List.reduceReplicate]
theorem state_eq (h : i < b) (h' : j < p) : f_Chip_state (sto b p fates looks) [refD 0, .int i, .int j] = .ok blank (sto b p fates looks) := by
  have e := page_at (fates := fates) (looks := looks) h h'
  have e2 : atI (List.replicate p blank) (j : Int) = some blank := atI_nat (i := j) (by simp [h', -List.reduceReplicate])
  simp (disch := array_mem_dec) [f_Chip_state, startR, m_Chip_state, sto_0, chipD, tab_states, e, sto_s h, blkD, atR_ok e2, -List.reduceReplicate]
end
end Law

set_option Elab.async false
set_option linter.all false
set_option maxRecDepth 100000
set_option maxHeartbeats 4000000
/-! Law k00: a new chip; a plan. -/
namespace Law
open PySem L2 T
local macro_rules
  | `(tactic| array_mem_dec) => `(tactic| first
    | omega
    | with_reducible assumption
    | (simp; done)
    | (simp; omega)
    | (simp at *; omega)
    | (refine cm_ss ?_ ?_ ?_ ?_ <;> omega)
    | (refine cm_sw ?_ ?_ ?_ <;> first | assumption | omega)
    | (refine cm_ws ?_ ?_ ?_ <;> first | assumption | omega))
section
variable {b p i j : Nat} {fates looks : List D}
abbrev rw (b p : Nat) (st : List D) (g3 g4 : Option D) : Rho := [some (refD 0), some (.int b), some (.int p), g3, g4, some (stoD st)]
theorem new_page (h : i < b) (h' : j < p) : m__law_is_new_b2 (rw b p (sto b p fates looks) (some (.int i)) (some (.int j))) = .nx (rw b p (sto b p fates looks) (some (.int i)) (some (.int j))) := by
  have e := state_eq (fates := fates) (looks := looks) h h'
  have e2 : blank = .tup [.str "blank"] := rfl
  have e3 : (sto b p fates looks)[0]? = some (chipD b p fates looks) := sto_0
  simp (disch := array_mem_dec) [m__law_is_new_b2, e, e2, e3, chipD]
theorem new_pages (h : i < b) (g : Option D) : ∃ g', forM (bNm 4) m__law_is_new_b2 ((List.range p).map fun (k : Nat) => D.int k) (rw b p (sto b p fates looks) (some (.int i)) g) = .nx (rw b p (sto b p fates looks) (some (.int i)) g') := by
  obtain ⟨ρ', h1, g', h2⟩ := for_inv (b := bNm 4) (body := m__law_is_new_b2) (fun _ ρ => ∃ g, ρ = rw b p (sto b p fates looks) (some (.int i)) g) ((List.range p).map fun (k : Nat) => D.int k) (fun k x ρ hx hI => by
    obtain ⟨g, rfl⟩ := hI
    rw [List.getElem?_map] at hx
    obtain ⟨k', hk, rfl⟩ := Option.map_eq_some_iff.mp hx
    have hkp : k' < p := by
      have := List.mem_of_getElem? hk
      simpa using this
    exact ⟨_, rfl, _, .inl (new_page h hkp), _, rfl⟩) ⟨g, rfl⟩
  exact ⟨g', by rw [h1, h2]⟩
theorem new_block (hp : p ≤ 1000) (h : i < b) (g : Option D) : ∃ g', m__law_is_new_b1 (rw b p (sto b p fates looks) (some (.int i)) g) = .nx (rw b p (sto b p fates looks) (some (.int i)) g') := by
  have e := erases_eq (p := p) (fates := fates) (looks := looks) h
  have e1 := is_alive_eq (p := p) (fates := fates) (looks := looks) h
  have e3 : (sto b p fates looks)[0]? = some (chipD b p fates looks) := sto_0
  obtain ⟨g', e4⟩ := new_pages (p := p) (fates := fates) (looks := looks) h g
  refine ⟨g', ?_⟩
  simp (disch := array_mem_dec) [m__law_is_new_b1, e, e1, e3, e4, chipD]
theorem new_blocks (hp : p ≤ 1000) (g g0 : Option D) : ∃ g3 g4, forM (bNm 3) m__law_is_new_b1 ((List.range b).map fun (k : Nat) => D.int k) (rw b p (sto b p fates looks) g g0) = .nx (rw b p (sto b p fates looks) g3 g4) := by
  obtain ⟨ρ', h1, g', g4, h2⟩ := for_inv (b := bNm 3) (body := m__law_is_new_b1) (fun _ ρ => ∃ g3 g4, ρ = rw b p (sto b p fates looks) g3 g4) ((List.range b).map fun (k : Nat) => D.int k) (fun k x ρ hx hI => by
    obtain ⟨g3, g4, rfl⟩ := hI
    rw [List.getElem?_map] at hx
    obtain ⟨k', hk, rfl⟩ := Option.map_eq_some_iff.mp hx
    have hkp : k' < b := by
      have := List.mem_of_getElem? hk
      simpa using this
    obtain ⟨g', e⟩ := new_block (fates := fates) (looks := looks) hp hkp g4
    exact ⟨_, rfl, _, .inl e, _, _, rfl⟩) ⟨g, g0, rfl⟩
  exact ⟨g', g4, by rw [h1, h2]⟩
theorem is_new (hb : b ≤ 1000) (hp : p ≤ 1000) : f__law_is_new (sto b p [] []) [refD 0, .int b, .int p] = .ok (.bl true) (sto b p [] []) := by
  obtain ⟨g3, g4, e⟩ := new_blocks (b := b) (fates := []) (looks := []) hp none none
  have e3 : (sto b p [] [])[0]? = some (chipD b p [] []) := sto_0
  have e1 := fates_left (b := b) (p := p) (fates := []) (looks := []) rfl
  have e2 := looks_left (b := b) (p := p) (fates := []) (looks := []) rfl
  simp (disch := array_mem_dec) [f__law_is_new, startR, m__law_is_new, e, e1, e2, e3, chipD, tab_shape, tab_powered, tab_refused, tab_generation]
end
end Law

set_option Elab.async false
set_option linter.all false
set_option maxRecDepth 100000
set_option maxHeartbeats 4000000
/-! Law k00: the first question. -/
namespace Law
open PySem L2 T
local macro_rules
  | `(tactic| array_mem_dec) => `(tactic| first
    | omega
    | with_reducible assumption
    | (simp; done)
    | (simp; omega)
    | (simp at *; omega)
    | (refine cm_ss ?_ ?_ ?_ ?_ <;> omega)
    | (refine cm_sw ?_ ?_ ?_ <;> first | assumption | omega)
    | (refine cm_ws ?_ ?_ ?_ <;> first | assumption | omega))
theorem first_fit {b p : Nat} {s x : D} (h1 : 24 ≤ b) (h2 : b ≤ 48) (h3 : 16 ≤ p) (h4 : p ≤ 32) {tl : Rho → Out} :
    (sSeq (sTry d_classes d_sub (sSetA 5 (makeS 1 f_Chip___init__ 6 (consM (pureM (nrV (getV 2))) (consM (pureM (nrV (getV 3))) noM)))) [("InvalidSize", fun _ => (sRetM (pureM (nrV (notV (getV 4))))))]) tl) [some s, some x, some (.int b), some (.int p), some (.bl true), none, some (stoD [])]
      = tl [some s, some x, some (.int b), some (.int p), some (.bl true), some (refD 0), some (stoD (sto b p [] []))] := by
  have h := chip_init h1 h2 h3 h4
  simp (disch := array_mem_dec) [h]
theorem first_no {b p : Nat} {s x : D} (hb : b < 64) (hp : p < 64) (h : ¬((24 ≤ b ∧ b ≤ 48) ∧ 16 ≤ p ∧ p ≤ 32)) {tl : Rho → Out} :
    (sSeq (sTry d_classes d_sub (sSetA 5 (makeS 1 f_Chip___init__ 6 (consM (pureM (nrV (getV 2))) (consM (pureM (nrV (getV 3))) noM)))) [("InvalidSize", fun _ => (sRetM (pureM (nrV (notV (getV 4))))))]) tl) [some s, some x, some (.int b), some (.int p), some (.bl false), none, some (stoD [])]
      = .rl (.bl true) [some s, some x, some (.int b), some (.int p), some (.bl false), none, some (stoD [.ins 1 []])] := by
  have h := chip_no hb hp h
  have hc : ("InvalidSize" : Str) ∈ d_classes := by simp [d_classes]
  have hs : d_sub "InvalidSize" "InvalidSize" = true := by decide +kernel
  simp (disch := array_mem_dec) [h, hc, hs]
def firstT : Rho → Out := sSeq (sSet 4 (andV (chainV dLe dLe (conD (.int 24)) (getV 2) (conD (.int 48))) (chainV dLe dLe (conD (.int 16)) (getV 3) (conD (.int 32))))) (sSeq (sTry d_classes d_sub (sSetA 5 (makeS 1 f_Chip___init__ 6 (consM (pureM (nrV (getV 2))) (consM (pureM (nrV (getV 3))) noM)))) [("InvalidSize", fun _ => (sRetM (pureM (nrV (notV (getV 4))))))]) (sRetM (nrM (andVM (pureM (getV 4)) (nrM (callS f__law_is_new 6 (consM (pureM (getV 5)) (consM (pureM (nrV (getV 2))) (consM (pureM (nrV (getV 3))) noM)))))))))
theorem fits_val {b p : Nat} {r0 r1 : Option D} {r : Rho} : andV (chainV dLe dLe (conD (.int 24)) (getV 2) (conD (.int 48))) (chainV dLe dLe (conD (.int 16)) (getV 3) (conD (.int 32))) (r0 :: r1 :: some (.int b) :: some (.int p) :: r) = .ok (.bl (decide ((24 ≤ b ∧ b ≤ 48) ∧ 16 ≤ p ∧ p ≤ 32))) := by
  by_cases h1 : 24 ≤ b <;> by_cases h2 : b ≤ 48 <;> by_cases h3 : 16 ≤ p <;> by_cases h4 : p ≤ 32 <;>
    (have e1 : ((24 : Int) ≤ b) = (24 ≤ b) := propext (by omega)
     have e2 : ((b : Int) ≤ 48) = (b ≤ 48) := propext (by omega)
     have e3 : ((16 : Int) ≤ p) = (16 ≤ p) := propext (by omega)
     have e4 : ((p : Int) ≤ 32) = (p ≤ 32) := propext (by omega)
     simp only [andV_ap, chainV_ap, conD_ap, getV_0, getV_s, dLe_i, Res.bind_ok, e1, e2, e3, e4, h1, h2, h3, h4, decide_true, decide_false, if_true, and_true, and_false, true_and, false_and]
     try rfl)
theorem first_tail {b p : Nat} {s x : D} (hb : b < 64) (hp : p < 64) : (firstT [some s, some x, some (.int b), some (.int p), none, none, some (stoD [])]).finE = .ok (.bl true) := by
  unfold firstT
  rw [sSeq_q, sSet_ap, fits_val]
  by_cases hf : (24 ≤ b ∧ b ≤ 48) ∧ 16 ≤ p ∧ p ≤ 32
  · have hn := is_new (b := b) (p := p) (by omega) (by omega)
    rw [decide_eq_true hf]
    simp only [thenS_ok, sq_nx, List.set_cons_succ, List.set_cons_zero]
    rw [first_fit (by omega) (by omega) (by omega) (by omega)]
    simp (disch := array_mem_dec) [hn]
  · rw [decide_eq_false hf]
    simp only [thenS_ok, sq_nx, List.set_cons_succ, List.set_cons_zero]
    rw [first_no hb hp hf]
    simp
theorem first_ok {s : D} {d0 d1 d2 : Int} (n0 : 0 ≤ d0) (n1 : 0 ≤ d1) (h : f__law_draws [s, .int 3] = .ok (.lst [.int d0, .int d1, .int d2])) : f__law_asks_first [s] = .ok (.bl true) := by
  have hm : m__law_asks_first = sSeq (sSet 1 (callV f__law_draws (consA (getV 0) (consA (conD (.int 3)) noA)))) (sSeq (sSet 2 (bin dMod (bin dIx (getV 1) (conD (.int 0))) (conD (.int 60)))) (sSeq (sSet 3 (bin dMod (bin dIx (getV 1) (conD (.int 1))) (conD (.int 45)))) (sSeq (sIf (toB (bin dGt (bin dMod (bin dIx (getV 1) (conD (.int 2))) (conD (.int 3))) (conD (.int 0)))) (sSeq (sSet 2 (bin dAdd (conD (.int 23)) (bin dMod (bin dIx (getV 1) (conD (.int 0))) (conD (.int 27))))) (sSet 3 (bin dAdd (conD (.int 15)) (bin dMod (bin dIx (getV 1) (conD (.int 1))) (conD (.int 19)))))) sSkip) firstT))) := rfl
  rw [f__law_asks_first, runE_1, hm]
  by_cases hc : 0 < d2 % 3
  · have k := first_tail (b := (23 + d0 % 27).toNat) (p := (15 + d1 % 19).toNat) (s := s) (x := .lst [.int d0, .int d1, .int d2]) (by omega) (by omega)
    rw [Int.toNat_of_nonneg (by omega), Int.toNat_of_nonneg (by omega)] at k
    simp (disch := array_mem_dec) [startR, h, hc, k]
  · have k := first_tail (b := (d0 % 60).toNat) (p := (d1 % 45).toNat) (s := s) (x := .lst [.int d0, .int d1, .int d2]) (by omega) (by omega)
    rw [Int.toNat_of_nonneg (by omega), Int.toNat_of_nonneg (by omega)] at k
    simp (disch := array_mem_dec) [startR, h, hc, k]
end Law

set_option Elab.async false
set_option linter.all false
set_option maxRecDepth 100000
set_option maxHeartbeats 4000000
/-! Law k00: plans. -/
namespace Law
open PySem L2 T
local macro_rules
  | `(tactic| array_mem_dec) => `(tactic| first
    | omega
    | with_reducible assumption
    | (simp; done)
    | (simp; omega)
    | (simp at *; omega)
    | (refine cm_ss ?_ ?_ ?_ ?_ <;> omega)
    | (refine cm_sw ?_ ?_ ?_ <;> first | assumption | omega)
    | (refine cm_ws ?_ ?_ ?_ <;> first | assumption | omega))
section
variable {b p : Nat} {F0 L0 rest ls : List D} {ws : List Str} {a1 a2 : D}
theorem left_f (h : F0.all D.nref = true) : f_Chip_fates_left (chipD b p F0 L0 :: rest) [refD 0] = .ok (.lst F0) (chipD b p F0 L0 :: rest) := by
  simp (disch := array_mem_dec) [f_Chip_fates_left, startR, m_Chip_fates_left, chipD, tab__fates]
theorem left_l (h : L0.all D.nref = true) : f_Chip_looks_left (chipD b p F0 L0 :: rest) [refD 0] = .ok (.lst L0) (chipD b p F0 L0 :: rest) := by
  simp (disch := array_mem_dec) [f_Chip_looks_left, startR, m_Chip_looks_left, chipD, tab__looks]
def kn (w : Str) : Bool := [D.str "ok", .str "fail", .str "before", .str "during"].any fun y => y.eqb (.str w)
theorem in_fates (w : Str) : dIn (.str w) d_FATES = .ok (.bl (kn w)) := by
  have h : dIn (.str w) d_FATES = if D.dat 60 (.str w) = true ∧ D.datA 60 [D.str "ok", .str "fail", .str "before", .str "during"] = true then .ok (.bl (kn w)) else .no := rfl
  rw [h, if_pos ⟨by simp, by simp⟩]
theorem fates_comp {ρ : Rho} (h : (derS 4 (getV 1)) ρ = .ok (.lst (ws.map D.str))) (h3 : 3 < ρ.length) (hw : ws.length ≤ 1000) : compV (ownItems (derS 4 (getV 1))) (bNm 3) yesB (bin dIn (getV 3) (conD d_FATES)) [3] ρ = .ok (ws.map fun w => D.bl (kn w)) := by
  rw [e_comp (AS := .ok (ws.map D.str)) (F := fun x => dIn x d_FATES) (e_own h) (fun x => ?_)]
  · rw [Res.bind_ok, szR_ok (by simp; omega), Res.bind_ok, mapR_map]
    exact mapR_ok fun w _ => in_fates w
  · show bin dIn (getV 3) (conD d_FATES) _ = _
    have : getV 3 ((wipeR ρ [3]).set 3 (some x)) = .ok x := x_getV (by rw [List.getElem?_set_self (by simpa [wipeR] using h3)])
    rw [bin_ap, this]
    rfl
theorem nr_strs (ws : List Str) : (ws.map D.str).all D.nref = true := by
  rw [List.all_eq_true]
  intro d hd
  obtain ⟨a, _, rfl⟩ := List.mem_map.mp hd
  rfl
abbrev osC (b p : Nat) (F0 L0 rest : List D) : List D := chipD b p F0 L0 :: rest
theorem plan_ok (h1 : derD (some (osC b p F0 L0 rest)) a1 = .ok (.lst (ws.map D.str))) (h2 : derD (some (osC b p F0 L0 rest)) a2 = .ok (.lst ls)) (hl : ls.all D.nref = true) (hw : ws.length ≤ 200) (hk : ws.all kn = true) (hll : ls.length ≤ 200) :
    f_Chip_plan (osC b p F0 L0 rest) [refD 0, a1, a2] = .ok .non (osC b p (ws.map D.str) ls rest) := by
  have e := fates_comp (ws := ws) (ρ := [some (refD 0), some a1, some a2, none, some (stoD (osC b p F0 L0 rest))]) (by simpa using h1) (by simp) (by omega)
  have e1 : ¬ (200 : Int) < ws.length := by omega
  have e2 : ¬ (200 : Int) < ls.length := by omega
  have en := nr_strs ws
  have h1' := h1
  have h3 : derD (some (osC b p (ws.map D.str) L0 rest)) a2 = .ok (.lst ls) := by
    unfold derD at h2 ⊢
    split at h2
    · rename_i n hn
      simp only at h2 ⊢
      cases n with
      | zero => exact absurd h2 (by simp [chipD, cntR])
      | succ n => exact h2
    · exact h2
  simp (disch := array_mem_dec) [-compV_ap, f_Chip_plan, startR, m_Chip_plan, h1, h2, e, e1, e2, hk, hl, en, tab__fates, tab__looks, chipD]
  simp only [osC, chipD] at h3
  simp (disch := array_mem_dec) [h3, hl]
  rfl
theorem plan_fates (h1 : derD (some (osC b p F0 L0 rest)) a1 = .ok (.lst (ws.map D.str))) (hw : ws.length ≤ 1000) (hk : 200 < ws.length ∨ ws.all kn = false) :
    f_Chip_plan (osC b p F0 L0 rest) [refD 0, a1, a2] = .ex ⟨"InvalidFates", []⟩ (osC b p F0 L0 rest) := by
  have e := fates_comp (ws := ws) (ρ := [some (refD 0), some a1, some a2, none, some (stoD (osC b p F0 L0 rest))]) (by simpa using h1) (by simp) (by omega)
  by_cases hz : (200 : Int) < ws.length
  · simp (disch := array_mem_dec) [-compV_ap, f_Chip_plan, startR, m_Chip_plan, h1, hz]
  · have hk2 : ws.all kn = false := by
      rcases hk with hk | hk
      · omega
      · exact hk
    simp (disch := array_mem_dec) [-compV_ap, f_Chip_plan, startR, m_Chip_plan, h1, hz, e, hk2, -List.all_eq_false]
theorem plan_looks (h1 : derD (some (osC b p F0 L0 rest)) a1 = .ok (.lst (ws.map D.str))) (h2 : derD (some (osC b p F0 L0 rest)) a2 = .ok (.lst ls)) (hw : ws.length ≤ 200) (hk : ws.all kn = true) (hll : 200 < ls.length) :
    f_Chip_plan (osC b p F0 L0 rest) [refD 0, a1, a2] = .ex ⟨"InvalidLooks", []⟩ (osC b p F0 L0 rest) := by
  have e := fates_comp (ws := ws) (ρ := [some (refD 0), some a1, some a2, none, some (stoD (osC b p F0 L0 rest))]) (by simpa using h1) (by simp) (by omega)
  have e1 : ¬ (200 : Int) < ws.length := by omega
  have e2 : (200 : Int) < ls.length := by omega
  simp (disch := array_mem_dec) [-compV_ap, f_Chip_plan, startR, m_Chip_plan, h1, h2, e, e1, e2, hk]
end
end Law

set_option Elab.async false
set_option linter.all false
set_option maxRecDepth 100000
set_option maxHeartbeats 4000000
/-! Law k00: the second question, behind the plans. -/
namespace Law
open PySem L2 T
local macro_rules
  | `(tactic| array_mem_dec) => `(tactic| first
    | omega
    | with_reducible assumption
    | (simp; done)
    | (simp; omega)
    | (simp at *; omega)
    | (refine cm_ss ?_ ?_ ?_ ?_ <;> omega)
    | (refine cm_sw ?_ ?_ ?_ <;> first | assumption | omega)
    | (refine cm_ws ?_ ?_ ?_ <;> first | assumption | omega))

def B24 : List D := List.replicate 24 (blkD 16)
theorem B24_len : B24.length = 24 := by simp [B24, -List.reduceReplicate]
def thirdT : Rho → Out := (sSeq (sIf (toB (bin dNe (tupV (consA (derS 9 (getV 4)) (consA (derS 9 (getV 5)) noA))) (getV 7))) (sRetM (pureM (nrV (conD (.bl false))))) sSkip) (sSeq (sAppC 9 (plR 9 (getV 4)) (nrV (conD (.str "fail")))) (sSeq (sAppC 9 (plR 9 (getV 5)) (nrV (conD (.bl false)))) (sSeq (sIf (orB (notB (truV (getV 6))) (toB (bin dGt (callV dLen (consA (bin dIx (getV 7) (conD (.int 0))) noA)) (conD (.int 200))))) (sRetM (nrM (andVM (pureM (bin dEq (getV 8) (conD (.str "fates")))) (binM dEq (tupM (consM (methS 1 f_Chip_fates_left 9 (getV 2) noM) (consM (methS 1 f_Chip_looks_left 9 (getV 2) noM) noM))) (pureM (getV 3)))))) sSkip) (sSeq (sIf (toB (bin dGt (callV dLen (consA (bin dIx (getV 7) (conD (.int 1))) noA)) (conD (.int 200)))) (sRetM (nrM (andVM (pureM (bin dEq (getV 8) (conD (.str "looks")))) (binM dEq (tupM (consM (methS 1 f_Chip_fates_left 9 (getV 2) noM) (consM (methS 1 f_Chip_looks_left 9 (getV 2) noM) noM))) (pureM (getV 3)))))) sSkip) (sRetM (nrM (andVM (pureM (bin dEq (getV 8) (conD (.str "done")))) (binM dEq (tupM (consM (methS 1 f_Chip_fates_left 9 (getV 2) noM) (consM (methS 1 f_Chip_looks_left 9 (getV 2) noM) noM))) (pureM (getV 7)))))))))))
def secondT : Rho → Out := (sSeq (sSet 7 (tupV (consA (lstD (callV dList (consA (derS 9 (getV 4)) noA))) (consA (lstD (callV dList (consA (derS 9 (getV 5)) noA))) noA)))) (sSeq (sSet 8 (conD (.str "done"))) (sSeq (sTry d_classes d_sub (sDropM (methS 1 f_Chip_plan 9 (getV 2) (consM (pureM (getV 4)) (consM (pureM (getV 5)) noM)))) [("InvalidFates", fun _ => (sSet 8 (conD (.str "fates")))), ("InvalidLooks", fun _ => (sSet 8 (conD (.str "looks"))))]) thirdT)))
section
variable {c x y z : D} {r : List D} {ws : List Str} {ls F0 L0 : List D} {s dr : D} {known : Bool}
@[simp] theorem g24 : (B24 ++ x :: r)[24]? = some x := by
  rw [List.getElem?_append_right (Nat.le_of_eq B24_len), B24_len]
  rfl
@[simp] theorem g25 : (B24 ++ x :: y :: r)[25]? = some y := by
  rw [List.getElem?_append_right (by rw [B24_len]; omega), B24_len]
  rfl
@[simp] theorem s24 : (B24 ++ x :: r).set 24 z = B24 ++ z :: r := by
  rw [List.set_append_right _ _ (Nat.le_of_eq B24_len), B24_len]
  rfl
@[simp] theorem s25 : (B24 ++ x :: y :: r).set 25 z = B24 ++ x :: z :: r := by
  rw [List.set_append_right _ _ (by rw [B24_len]; omega), B24_len]
  rfl
abbrev rst (ws : List Str) (ls : List D) : List D := B24 ++ [.lst (ws.map D.str), .lst ls]
abbrev rho2 (s dr : D) (F0 L0 : List D) (known : Bool) (g7 g8 : Option D) (os : List D) : Rho := [some s, some dr, some (refD 0), some (.tup [.lst F0, .lst L0]), some (refD 25), some (refD 26), some (.bl known), g7, g8, some (stoD os)]
theorem da_str (n : Nat) (ws : List Str) : D.datA (n + 1) (ws.map D.str) = true := datA_map (fun a => by simp [D.dat]) ws
theorem third_ok {w : Str} {F L : List D} (hw : ws.length ≤ 1000) (hl : ls.length ≤ 1000) (nl : ls.all D.nref = true) (nF : F.all D.nref = true) (nL : L.all D.nref = true) (dl : D.datA 58 ls = true) (dF0 : D.datA 58 F0 = true) (dL0 : D.datA 58 L0 = true)
    (h : (known = false ∨ 200 < ws.length) → w = "fates" ∧ F = F0 ∧ L = L0) (h2 : known = true → ws.length ≤ 200 → 200 < ls.length → w = "looks" ∧ F = F0 ∧ L = L0) (h3 : known = true → ws.length ≤ 200 → ls.length ≤ 200 → w = "done" ∧ F = ws.map D.str ∧ L = ls) :
    (thirdT (rho2 s dr F0 L0 known (some (.tup [.lst (ws.map D.str), .lst ls])) (some (.str w)) (osC 24 16 F L (rst ws ls)))).finE = .ok (.bl true) := by
  have dw := da_str 57 ws
  have e1 := left_f (b := 24) (p := 16) (F0 := F) (L0 := L) (rest := B24 ++ [.lst (ws.map D.str ++ [.str "fail"]), .lst (ls ++ [.bl false])]) nF
  have e2 := left_l (b := 24) (p := 16) (F0 := F) (L0 := L) (rest := B24 ++ [.lst (ws.map D.str ++ [.str "fail"]), .lst (ls ++ [.bl false])]) nL
  have hne : dNe (.tup [.lst (ws.map D.str), .lst ls]) (.tup [.lst (ws.map D.str), .lst ls]) = .ok (.bl false) := dNe_same (by simp [D.dat, D.datA, dw, dl])
  have hcl : isClsS 1 (some (osC 24 16 F L (B24 ++ [.lst (ws.map D.str ++ [.str "fail"]), .lst (ls ++ [.bl false])]))) (refD 0) = true := by simp [chipD]
  by_cases hk : known = false ∨ 200 < ws.length
  · obtain ⟨rfl, rfl, rfl⟩ := h hk
    have heq : dEq (.tup [.lst F, .lst L]) (.tup [.lst F, .lst L]) = .ok (.bl true) := dEq_same (by simp [D.dat, D.datA, dF0, dL0])
    have hc : (!known) = true ∨ (200 : Int) < ws.length := by
      rcases hk with hk | hk
      · rw [hk]; exact .inl rfl
      · exact .inr (by omega)
    cases known with
    | false => simp (disch := array_mem_dec) [thirdT, rst, hne, e1, e2, heq, hcl, -dNe_tt, -dEq_tt, -isClsS_ref]
    | true =>
      have hc : (200 : Int) < ws.length := by simpa using hc
      simp (disch := array_mem_dec) [thirdT, rst, hne, e1, e2, heq, hcl, hc, -dNe_tt, -dEq_tt, -isClsS_ref]
  · have hk1 : known = true := by
      cases known with
      | true => rfl
      | false => exact absurd (.inl rfl) hk
    subst hk1
    have hw2 : ws.length ≤ 200 := by omega
    have hc : ¬ (200 : Int) < ws.length := by omega
    by_cases hl2 : 200 < ls.length
    · obtain ⟨rfl, rfl, rfl⟩ := h2 rfl hw2 hl2
      have heq : dEq (.tup [.lst F, .lst L]) (.tup [.lst F, .lst L]) = .ok (.bl true) := dEq_same (by simp [D.dat, D.datA, dF0, dL0])
      have hc2 : (200 : Int) < ls.length := by omega
      simp (disch := array_mem_dec) [thirdT, rst, hne, e1, e2, heq, hcl, hc, hc2, -dNe_tt, -dEq_tt, -isClsS_ref]
    · obtain ⟨rfl, rfl, rfl⟩ := h3 rfl hw2 (by omega)
      have heq : dEq (.tup [.lst (ws.map D.str), .lst L]) (.tup [.lst (ws.map D.str), .lst L]) = .ok (.bl true) := dEq_same (by simp [D.dat, D.datA, dw, dl])
      have hc2 : ¬ (200 : Int) < L.length := by omega
      simp (disch := array_mem_dec) [thirdT, rst, hne, e1, e2, heq, hcl, hc, hc2, -dNe_tt, -dEq_tt, -isClsS_ref]
theorem second_tail (hw : ws.length ≤ 1000) (hl : ls.length ≤ 1000) (nl : ls.all D.nref = true) (nF : F0.all D.nref = true) (nL : L0.all D.nref = true) (dl : D.datA 58 ls = true) (dF0 : D.datA 58 F0 = true) (dL0 : D.datA 58 L0 = true) (hk : ws.all kn = known) :
    (secondT (rho2 s dr F0 L0 known none none (osC 24 16 F0 L0 (rst ws ls)))).finE = .ok (.bl true) := by
  have hd1 : derD (some (osC 24 16 F0 L0 (rst ws ls))) (refD 25) = .ok (.lst (ws.map D.str)) := by simp
  have hd2 : derD (some (osC 24 16 F0 L0 (rst ws ls))) (refD 26) = .ok (.lst ls) := by simp
  have hcl : isClsS 1 (some (osC 24 16 F0 L0 (rst ws ls))) (refD 0) = true := by simp [chipD]
  have i1 : ("InvalidFates" : Str) ∈ d_classes := by simp [d_classes]
  have i2 : ("InvalidLooks" : Str) ∈ d_classes := by simp [d_classes]
  have b1 : d_sub "InvalidFates" "InvalidFates" = true := by decide +kernel
  have b2 : d_sub "InvalidLooks" "InvalidFates" = false := by decide +kernel
  have b3 : d_sub "InvalidLooks" "InvalidLooks" = true := by decide +kernel
  by_cases hA : known = false ∨ 200 < ws.length
  · have hp := plan_fates (b := 24) (p := 16) (F0 := F0) (L0 := L0) (rest := rst ws ls) (a1 := refD 25) (a2 := refD 26) hd1 hw (by
      rcases hA with h | h
      · exact .inr (hk.trans h)
      · exact .inl h)
    have ht := third_ok (s := s) (dr := dr) (known := known) (w := "fates") (F := F0) (L := L0) hw hl nl nF nL dl dF0 dL0 (fun _ => ⟨rfl, rfl, rfl⟩) (fun h1 h2 => by
      rcases hA with h | h
      · rw [h] at h1; cases h1
      · omega) (fun h1 h2 => by
      rcases hA with h | h
      · rw [h] at h1; cases h1
      · omega)
    simp only [osC] at hp hd1 hd2 hcl ht
    simp (disch := array_mem_dec) [secondT, hd1, hd2, hcl, hp, ht, i1, b1, -derD_ref, -isClsS_ref, -List.reduceReplicate]
  · have hk1 : known = true := by
      cases known with
      | true => rfl
      | false => exact absurd (.inl rfl) hA
    have hw2 : ws.length ≤ 200 := by omega
    by_cases hl2 : 200 < ls.length
    · have hp := plan_looks (b := 24) (p := 16) (F0 := F0) (L0 := L0) (rest := rst ws ls) (a1 := refD 25) (a2 := refD 26) hd1 hd2 hw2 (hk.trans hk1) hl2
      have ht := third_ok (s := s) (dr := dr) (known := known) (w := "looks") (F := F0) (L := L0) hw hl nl nF nL dl dF0 dL0 (fun h => absurd h hA) (fun _ _ _ => ⟨rfl, rfl, rfl⟩) (fun _ _ h => by omega)
      simp only [osC] at hp hd1 hd2 hcl ht
      simp (disch := array_mem_dec) [secondT, hd1, hd2, hcl, hp, ht, i2, b2, b3, -derD_ref, -isClsS_ref, -List.reduceReplicate]
    · have hp := plan_ok (b := 24) (p := 16) (F0 := F0) (L0 := L0) (rest := rst ws ls) (a1 := refD 25) (a2 := refD 26) hd1 hd2 nl hw2 (hk.trans hk1) (by omega)
      have ht := third_ok (s := s) (dr := dr) (known := known) (w := "done") (F := ws.map D.str) (L := ls) hw hl nl (nr_strs ws) nl dl dF0 dL0 (fun h => absurd h hA) (fun _ _ h => absurd h hl2) (fun _ _ _ => ⟨rfl, rfl, rfl⟩)
      simp only [osC] at hp hd1 hd2 hcl ht
      simp (disch := array_mem_dec) [secondT, hd1, hd2, hcl, hp, ht, -derD_ref, -isClsS_ref, -List.reduceReplicate]
end
end Law

set_option Elab.async false
set_option linter.all false
set_option maxRecDepth 100000
set_option maxHeartbeats 4000000
/-! Law k00: the second question; the law. -/
namespace Law
open PySem L2 T
local macro_rules
  | `(tactic| array_mem_dec) => `(tactic| first
    | omega
    | with_reducible assumption
    | (simp; done)
    | (simp; omega)
    | (simp at *; omega)
    | (refine cm_ss ?_ ?_ ?_ ?_ <;> omega)
    | (refine cm_sw ?_ ?_ ?_ <;> first | assumption | omega)
    | (refine cm_ws ?_ ?_ ?_ <;> first | assumption | omega))

def W4 (z : Int) : Str := if z = 0 then "ok" else if z = 1 then "fail" else if z = 2 then "before" else "during"
theorem kn_W4 (z : Int) : kn (W4 z) = true := by
  unfold W4
  repeat' split
  all_goals decide +kernel
def fatesW (d c : Int) : List Str := (List.range c.toNat).map fun (k : Nat) => W4 (d / ((k : Int) + 1) % 4)
theorem fatesW_kn (d c : Int) : (fatesW d c).all kn = true := by
  rw [fatesW, List.all_map, List.all_eq_true]
  intro k _
  exact kn_W4 _
theorem fates_eq {d c : Int} (h0 : 0 ≤ c) (h1 : c ≤ 1000) : f__law_fates [.int d, .int c] = .ok (.lst ((fatesW d c).map D.str)) := by
  have hm : ∀ k : Nat, k < 1000 → dDiv (.int d) (.int ((k : Int) + 1)) = .ok (.int (d / ((k : Int) + 1))) := fun k hk => dDiv_k (by omega) (by omega)
  have hw : ∀ z : Int, dIx (.tup [.str "ok", .str "fail", .str "before", .str "during"]) (.int (z % 4)) = .ok (.str (W4 (z % 4))) := fun z => by
    have h : z % 4 = 0 ∨ z % 4 = 1 ∨ z % 4 = 2 ∨ z % 4 = 3 := by omega
    rcases h with h | h | h | h <;> rw [h] <;> simp [W4]
  refine q__law_fates ?_
  simp (disch := array_mem_dec) only [p__law_fates, Res.bind_ok, rng1_z, szR_ok, mapR_map, List.length_cons, List.length_nil]
  rw [mapR_ok (g := fun (k : Nat) => D.str (W4 (d / ((k : Int) + 1) % 4))) fun k hk => by
    have hk : k < c.toNat := by simpa using hk
    simp (disch := array_mem_dec) [hm k (by omega), hw]]
  simp [fatesW]
theorem count_eq {d few : Int} (h : 0 < few) : f__law_count [.int d, .int few] = .ok (.int (if d % 4 = 3 then 198 + d / 4 % 6 else d / 4 % few)) := by
  refine q__law_count ?_
  by_cases hc : d % 4 = 3 <;> simp (disch := array_mem_dec) [p__law_count, hc]
theorem stR_ok {os : List D} {p : Pl} {ds : List D} {z : Int} {y : D} (h0 : 0 ≤ z) (h1 : z < ds.length) : stR os p ds (.int z) y = .ok (putC os p (.lst (ds.set z.toNat y))) := by
  unfold stR ixN
  simp only [if_pos h0, if_pos h1]
theorem all_rep (n : Nat) (b : Bool) : (List.replicate n (D.bl b)).all D.nref = true := by
  rw [List.all_eq_true]
  intro d hd
  rw [(List.mem_replicate.mp hd).2]
  rfl
theorem da_rep (m n : Nat) (b : Bool) : D.datA (m + 1) (List.replicate n (D.bl b)) = true := by
  have h := datA_map (f := fun _ : Unit => D.bl b) (n := m + 1) (fun a => by simp [D.dat]) (List.replicate n ())
  simpa [-List.reduceReplicate] using h
theorem second_ok {s : D} {d0 d1 d2 d3 d4 : Int} (n0 : 0 ≤ d0) (n1 : 0 ≤ d1) (n2 : 0 ≤ d2) (n3 : 0 ≤ d3) (n4 : 0 ≤ d4) (h : f__law_draws [s, .int 5] = .ok (.lst [.int d0, .int d1, .int d2, .int d3, .int d4])) : f__law_asks_second [s] = .ok (.bl true) := by
  have hm : m__law_asks_second = (sSeq (sSet 1 (callV f__law_draws (consA (getV 0) (consA (conD (.int 5)) noA)))) (sSeq (sSetA 2 (makeS 1 f_Chip___init__ 9 (consM (pureM (nrV (conD (.int 24)))) (consM (pureM (nrV (conD (.int 16)))) noM)))) (sSeq (sSet 3 (tupV (consA (lstD (callN f__law_fates (consA (bin dIx (getV 1) (conD (.int 0))) (consA (bin dMod (bin dIx (getV 1) (conD (.int 0))) (conD (.int 7))) noA)))) (consA (lstD (bin dRep (lstD (lstV (consA (bin dEq (bin dMod (bin dIx (getV 1) (conD (.int 1))) (conD (.int 3))) (conD (.int 0))) noA))) (bin dMod (bin dIx (getV 1) (conD (.int 1))) (conD (.int 6))))) noA)))) (sSeq (sDropM (methS 1 f_Chip_plan 9 (getV 2) (consM (pureM (nrV (lstD (callV dList (consA (bin dIx (getV 3) (conD (.int 0))) noA))))) (consM (pureM (nrV (lstD (callV dList (consA (bin dIx (getV 3) (conD (.int 1))) noA))))) noM)))) (sSeq (sSetA 4 (rootN 9 (callN f__law_fates (consA (bin dIx (getV 1) (conD (.int 2))) (consA (callV f__law_count (consA (bin dIx (getV 1) (conD (.int 2))) (consA (conD (.int 5)) noA))) noA))))) (sSeq (sSetA 5 (rootN 9 (bin dRep (lstD (lstV (consA (bin dEq (bin dMod (bin dIx (getV 1) (conD (.int 3))) (conD (.int 5))) (conD (.int 0))) noA))) (callV f__law_count (consA (bin dIx (getV 1) (conD (.int 3))) (consA (conD (.int 4)) noA)))))) (sSeq (sSet 6 (conD (.bl true))) (sSeq (sIf (andB (toB (bin dEq (bin dMod (bin dIx (getV 1) (conD (.int 4))) (conD (.int 5))) (conD (.int 0)))) (toB (bin dGt (callV dLen (consA (derS 9 (getV 4)) noA)) (conD (.int 0))))) (sSeq (sSetIC 9 (plR 9 (getV 4)) (bin dMod (bin dDiv (bin dIx (getV 1) (conD (.int 4))) (conD (.int 5))) (callV dLen (consA (derS 9 (getV 4)) noA))) (nrV (conD (.str "after")))) (sSet 6 (conD (.bl false)))) sSkip) secondT)))))))) := rfl
  have hi : f_Chip___init__ [.ins 1 []] [refD 0, .int 24, .int 16] = .ok .non (chipD 24 16 [] [] :: B24) := chip_init (b := 24) (p := 16) (by omega) (by omega) (by omega) (by omega)
  have f1 := fates_eq (d := d0) (c := d0 % 7) (by omega) (by omega)
  have c2 := count_eq (d := d2) (few := 5) (by omega)
  have c3 := count_eq (d := d3) (few := 4) (by omega)
  generalize hq2 : (if d2 % 4 = 3 then 198 + d2 / 4 % 6 else d2 / 4 % 5) = k2 at c2
  generalize hq3 : (if d3 % 4 = 3 then 198 + d3 / 4 % 6 else d3 / 4 % 4) = k3 at c3
  have r2 : 0 ≤ k2 ∧ k2 ≤ 203 := by subst hq2; split <;> omega
  have r3 : 0 ≤ k3 ∧ k3 ≤ 203 := by subst hq3; split <;> omega
  have f2 := fates_eq (d := d2) (c := k2) (by omega) (by omega)
  have hl1 : (fatesW d0 (d0 % 7)).length ≤ 200 := by simp [fatesW]; omega
  have hl2 : (fatesW d2 k2).length ≤ 203 := by simp [fatesW]; omega
  have ha1 := fatesW_kn d0 (d0 % 7)
  have ha2 := fatesW_kn d2 k2
  generalize fatesW d0 (d0 % 7) = w0 at f1 hl1 ha1
  generalize fatesW d2 k2 = w2 at f2 hl2 ha2
  generalize hL0 : List.replicate (d1 % 6).toNat (D.bl (decide (d1 % 3 = 0))) = L0
  generalize hL2 : List.replicate k3.toNat (D.bl (decide (d3 % 5 = 0))) = L2
  have e1 : dRep (.lst [.bl (decide (d1 % 3 = 0))]) (.int (d1 % 6)) = .ok L0 := by rw [← hL0]; exact dRep_1 (by omega) (by omega)
  have e2 : dRep (.lst [.bl (decide (d3 % 5 = 0))]) (.int k3) = .ok L2 := by rw [← hL2]; exact dRep_1 (by omega) (by omega)
  have nL0 : L0.all D.nref = true := by rw [← hL0]; exact all_rep _ _
  have nL2 : L2.all D.nref = true := by rw [← hL2]; exact all_rep _ _
  have dL0 : D.datA 58 L0 = true := by rw [← hL0]; exact da_rep 57 _ _
  have dL2 : D.datA 58 L2 = true := by rw [← hL2]; exact da_rep 57 _ _
  have lL0 : L0.length ≤ 200 := by rw [← hL0]; simp; omega
  have lL2 : L2.length ≤ 1000 := by rw [← hL2]; simp; omega
  have hp := plan_ok (b := 24) (p := 16) (F0 := []) (L0 := []) (rest := B24) (a1 := .lst (w0.map D.str)) (a2 := .lst L0) (ws := w0) (ls := L0) (derD_nr rfl) (derD_nr rfl) nL0 hl1 ha1 lL0
  have hcl : isClsS 1 (some (chipD 24 16 [] [] :: B24)) (refD 0) = true := by simp [chipD]
  have n2' := nr_strs w2
  rw [f__law_asks_second, runE_1, hm]
  simp only [osC] at hp
  by_cases hk : d4 % 5 = 0 ∧ 0 < w2.length
  · have hj : d4 / 5 % w2.length < w2.length := Int.emod_lt_of_pos _ (by omega)
    have hj0 : 0 ≤ d4 / 5 % w2.length := Int.emod_nonneg _ (by omega)
    have hk1 : (0 : Int) < w2.length := by omega
    have hs := stR_ok (os := chipD 24 16 (w0.map D.str) L0 :: (B24 ++ [.lst (w2.map D.str), .lst L2])) (p := (25, none)) (ds := w2.map D.str) (y := .str "after") hj0 (by simpa using hj)
    have ht := second_tail (s := s) (dr := .lst [.int d0, .int d1, .int d2, .int d3, .int d4]) (ws := w2.set (d4 / 5 % w2.length).toNat "after") (ls := L2) (F0 := w0.map D.str) (L0 := L0) (known := false) (by simp; omega) lL2 nL2 (nr_strs w0) nL0 dL2 (da_str 57 w0) dL0 (by
      rw [Bool.eq_false_iff]
      intro z
      have := List.all_eq_true.mp z "after" (List.mem_iff_getElem.mpr ⟨(d4 / 5 % w2.length).toNat, by simp; omega, by simp⟩)
      revert this
      decide +kernel)
    simp only [osC, rst, List.map_set] at ht
    simp (disch := array_mem_dec) [startR, h, hi, f1, c2, c3, f2, e1, e2, hp, hcl, hk.1, hk.2, hk1, B24_len, hs, ht, nL2, n2', -isClsS_ref, -dRep_1]
  · have ht := second_tail (s := s) (dr := .lst [.int d0, .int d1, .int d2, .int d3, .int d4]) (ws := w2) (ls := L2) (F0 := w0.map D.str) (L0 := L0) (known := true) (by omega) lL2 nL2 (nr_strs w0) nL0 dL2 (da_str 57 w0) dL0 ha2
    simp only [osC] at ht
    by_cases hz : d4 % 5 = 0
    · have hk1 : ¬ 0 < w2.length := fun z => hk ⟨hz, z⟩
      simp (disch := array_mem_dec) [startR, h, hi, f1, c2, c3, f2, e1, e2, hp, hcl, hz, hk1, B24_len, ht, nL2, n2', -isClsS_ref, -dRep_1]
    · simp (disch := array_mem_dec) [startR, h, hi, f1, c2, c3, f2, e1, e2, hp, hcl, hz, B24_len, ht, nL2, n2', -isClsS_ref, -dRep_1]
theorem three {ds : List Int} (h : ds.length = 3) : ∃ a b c, ds = [a, b, c] := match ds, h with
  | [a, b, c], _ => ⟨a, b, c, rfl⟩
theorem five {ds : List Int} (h : ds.length = 5) : ∃ a b c d e, ds = [a, b, c, d, e] := match ds, h with
  | [a, b, c, d, e], _ => ⟨a, b, c, d, e, rfl⟩
theorem goal : ∀ ns : List Int, ns.length ≤ 63 → (∀ z ∈ ns, Builtin.Int.intBits z ≤ 1048576) → f_law [.scr (ns.map D.int)] = .ok (.bl true) := by
  intro ns hl hb
  obtain ⟨ds, k1, k2, k3⟩ := draws_ok hl hb 3 (by omega)
  obtain ⟨es, l1, l2, l3⟩ := draws_ok hl hb 5 (by omega)
  obtain ⟨a, b, c, rfl⟩ := three k1
  obtain ⟨a', b', c', d', e', rfl⟩ := five l1
  have q1 : f__law_draws [.scr (ns.map D.int), .int 3] = .ok (.lst [.int a, .int b, .int c]) := k3
  have q2 : f__law_draws [.scr (ns.map D.int), .int 5] = .ok (.lst [.int a', .int b', .int c', .int d', .int e']) := l3
  have r1 := first_ok (k2 a (by simp)).1 (k2 b (by simp)).1 q1
  have r2 := second_ok (l2 a' (by simp)).1 (l2 b' (by simp)).1 (l2 c' (by simp)).1 (l2 d' (by simp)).1 (l2 e' (by simp)).1 q2
  refine q_law ?_
  simp (disch := array_mem_dec) [p_law, r1, r2]
end Law

open PySem PySem.W PyProof.Rows
set_option maxRecDepth 100000 in
set_option maxHeartbeats 0 in
theorem PySem.Challenge.cw_tideland_k00_new_chips_and_plans_of_chip_holds : PySem.Challenge.rw_tideland_k00_new_chips_and_plans_of_chip.Holds := by
  w_on; o_law; k_head; (case hw => w_witness2)
  k_fill
  refine L2.walk_ofB (l := PySem.Challenge.rw_tideland_k00_new_chips_and_plans_of_chip) (n := 63) (k := 6) (x := "script") (CX := fun w => L2.CX (PySem.Challenge.rw_tideland_k00_new_chips_and_plans_of_chip).prog w) (sp := fun w => T.spLaw _) rfl (by decide) rfl ⟨rfl, by decide, by decide⟩ (fun w h Y => PySem.W.kIn_of Y) ?F (fun _ _ a ns hl hb _ hS => ⟨a, ns, rfl, hS, hl, hb, fun _ => rfl⟩) (fun _ _ _ _ _ h => T.cx_false h)
  case F =>
    intro w mg fa h KX G hmg
    refine' Law.all_mk Law.goal KX G hmg ?ag0 ?pg0 ?hd0 ?po0 ?sa0 ?mk0 ?kc0 ?nf0_0 ?nf0_1 ?nf0_2 ?ag1 ?pg1 ?hd1 ?po1 ?sa1 ?mk1 ?kc1 ?nf1_0 ?nf1_1 ?nf1_2 ?nf1_3 ?nf1_4 ?nf1_5 ?nf1_6 ?a0 ?i0 ?l0 ?c0 ?k0 ?a1 ?i1 ?l1 ?c1 ?k1 ?a2 ?i2 ?l2 ?c2 ?k2 ?a3 ?i3 ?l3 ?c3 ?k3 ?a4 ?i4 ?l4 ?c4 ?k4 ?a5 ?i5 ?l5 ?c5 ?k5 ?a6 ?i6 ?l6 ?c6 ?k6 ?a7 ?i7 ?l7 ?c7 ?k7 ?a8 ?i8 ?l8 ?c8 ?k8 ?a9 ?i9 ?l9 ?c9 ?k9 ?a10 ?l10 ?c10 ?k10 ?a11 ?l11 ?c11 ?k11 ?a12 ?l12 ?c12 ?k12 ?a13 ?l13 ?c13 ?k13 ?a14 ?l14 ?c14 ?k14 ?a15 ?l15 ?c15 ?k15 ?a16 ?l16 ?c16 ?k16 ?u0 ?tl0 ?tv0 ?u1 ?z0 ?z1 ?z2 ?z3 ?z4 ?xg0 ?xk0 ?xs0 ?xt0 ?xd0 ?xq0 ?xg1 ?xk1 ?xs1 ?xt1 ?xd1 ?xq1 ?xg2 ?xk2 ?xs2 ?xt2 ?xd2 ?xq2 ?xg3 ?xk3 ?xs3 ?xt3 ?xd3 ?xq3 ?xg4 ?xk4 ?xs4 ?xt4 ?xd4 ?xq4 ?xm0_0 ?xm0_1 ?xm0_2 ?xm0_3 ?xm0_4 ?xm1_0 ?xm1_1 ?xm1_2 ?xm1_3 ?xm1_4 ?xm2_0 ?xm2_1 ?xm2_2 ?xm2_3 ?xm2_4 ?xm3_0 ?xm3_1 ?xm3_2 ?xm3_3 ?xm3_4 ?xm4_0 ?xm4_1 ?xm4_2 ?xm4_3 ?xm4_4
    (case ag0 => k_is); (case pg0 => k_is); (case hd0 => k_is); (case po0 => k_is); (case sa0 => k_is); (case mk0 => k_is); (case kc0 => k_is); (case nf0_0 => k_is); (case nf0_1 => k_is); (case nf0_2 => k_is); (case ag1 => k_is); (case pg1 => k_is); (case hd1 => k_is); (case po1 => k_is); (case sa1 => k_is); (case mk1 => k_is); (case kc1 => k_is); (case nf1_0 => k_is); (case nf1_1 => k_is); (case nf1_2 => k_is); (case nf1_3 => k_is); (case nf1_4 => k_is); (case nf1_5 => k_is); (case nf1_6 => k_is); (case a0 => k_is); (case i0 => k_is); (case l0 => k_is); (case c0 => k_is); (case k0 => k_is); (case a1 => k_is); (case i1 => k_is); (case l1 => k_is); (case c1 => k_is); (case k1 => k_is); (case a2 => k_is); (case i2 => k_is); (case l2 => k_is); (case c2 => k_is); (case k2 => k_is); (case a3 => k_is); (case i3 => k_is); (case l3 => k_is); (case c3 => k_is); (case k3 => k_is); (case a4 => k_is); (case i4 => k_is); (case l4 => k_is); (case c4 => k_is); (case k4 => k_is); (case a5 => k_is); (case i5 => k_is); (case l5 => k_is); (case c5 => k_is); (case k5 => k_is); (case a6 => k_is); (case i6 => k_is); (case l6 => k_is); (case c6 => k_is); (case k6 => k_is); (case a7 => k_is); (case i7 => k_is); (case l7 => k_is); (case c7 => k_is); (case k7 => k_is); (case a8 => k_is); (case i8 => k_is); (case l8 => k_is); (case c8 => k_is); (case k8 => k_is); (case a9 => k_is); (case i9 => k_is); (case l9 => k_is); (case c9 => k_is); (case k9 => k_is); (case a10 => k_is); (case l10 => k_is); (case c10 => k_is); (case k10 => k_is); (case a11 => k_is); (case l11 => k_is); (case c11 => k_is); (case k11 => k_is); (case a12 => k_is); (case l12 => k_is); (case c12 => k_is); (case k12 => k_is); (case a13 => k_is); (case l13 => k_is); (case c13 => k_is); (case k13 => k_is); (case a14 => k_is); (case l14 => k_is); (case c14 => k_is); (case k14 => k_is); (case a15 => k_is); (case l15 => k_is); (case c15 => k_is); (case k15 => k_is); (case a16 => k_is); (case l16 => k_is); (case c16 => k_is); (case k16 => k_is); (case u0 => k_is); (case tl0 => k_is); (case tv0 => exact ⟨by decide, .cons ⟨_, rfl⟩ (.cons ⟨_, rfl⟩ (.cons ⟨_, rfl⟩ (.cons ⟨_, rfl⟩ .nil)))⟩); (case u1 => k_is); (case z0 => k_is); (case z1 => k_is); (case z2 => k_is); (case z3 => k_is); (case z4 => k_is); (case xg0 => k_is); (case xk0 => k_is); (case xs0 => k_is); (case xt0 => k_is); (case xd0 => k_is); (case xq0 => k_exc); (case xg1 => k_is); (case xk1 => k_is); (case xs1 => k_is); (case xt1 => k_is); (case xd1 => k_is); (case xq1 => k_exc); (case xg2 => k_is); (case xk2 => k_is); (case xs2 => k_is); (case xt2 => k_is); (case xd2 => k_is); (case xq2 => k_exc); (case xg3 => k_is); (case xk3 => k_is); (case xs3 => k_is); (case xt3 => k_is); (case xd3 => k_is); (case xq3 => k_exc); (case xg4 => k_is); (case xk4 => k_is); (case xs4 => k_is); (case xt4 => k_is); (case xd4 => k_is); (case xq4 => k_exc); (case xm0_0 => k_is); (case xm0_1 => k_is); (case xm0_2 => k_is); (case xm0_3 => k_is); (case xm0_4 => k_is); (case xm1_0 => k_is); (case xm1_1 => k_is); (case xm1_2 => k_is); (case xm1_3 => k_is); (case xm1_4 => k_is); (case xm2_0 => k_is); (case xm2_1 => k_is); (case xm2_2 => k_is); (case xm2_3 => k_is); (case xm2_4 => k_is); (case xm3_0 => k_is); (case xm3_1 => k_is); (case xm3_2 => k_is); (case xm3_3 => k_is); (case xm3_4 => k_is); (case xm4_0 => k_is); (case xm4_1 => k_is); (case xm4_2 => k_is); (case xm4_3 => k_is); (case xm4_4 => k_is)
