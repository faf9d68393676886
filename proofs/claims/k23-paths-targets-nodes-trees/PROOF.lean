import PyProof.Rows.All
import Wide.All
import OpenK.AllK
import Wide.FinOn
import HandS.ForMost
import HandS.ForExc
import HandS.WideBits
import HandS.Wide
import HandS.TupAny
import HandS.TupLe
import HandS.IsInst
import HandS.StrMore
import HandS.Replace
import KE.DataEq
import HandS.Rev
import HandS.Zip
import HandS.NoneIn
import HandS.EndBits
import HandS.Codes
import HandS.ExcOwn
import HandS.Small
import HandS.TryMany
import HandS.ExcIs
import HandS.SortRule
import HandS.SortInts
import HandS.FStr
import HandS.Style
import HandS.ExcField
import HandS.Dict
import HandS.TupMul
import HandS.More
import HandS.WordsExc
import HandS.Defaults
import HandS.MakeKwOnly
import HandS.CallLocal
import HandS.Star
import KE.SortData
import HandS.Conv
import HandS.TupLen
import HandS.HotCalls
import PyProof.Rows.FactsT1
import HandS.OwnEq
import PyProof.StrBlock2
import PyProof.ListMulRoad
import PyProof.FactsAll.tuple_2
import HandS.HeadHook3
import PySem.Challenge.RW_tideland_k23_paths_and_targets_and_nodes
import KE.DataCmp
set_option Elab.async false
set_option linter.all false
set_option maxRecDepth 100000
set_option maxHeartbeats 4000000
namespace T
open PySem PySem.Spec PyProof.Rows L2
/-- what an attribute of a store's instance holds: a value, a list of its own, a dict of its own -/
inductive FM where
  | any | lst | dct
  deriving DecidableEq
/-- the classes of the text by number: where each stands, its attributes in order -/
class Mg where
  cls : Nat → Addr
  lay : Nat → List Str
  fm : Nat → Nat → FM
/-- a value as a tree; exc: any reference; ins: an instance of the class c -/
inductive D where
  | non | bl (b : Bool) | int (i : Int) | str (s : Str) | lst (xs : List D) | tup (xs : List D) | scr (xs : List D) | dct (kvs : List (D × D)) | ty (n : String) | exc (fs : List (Str × D)) | ins (c : Nat) (fs : List D)
def keyD : Key → D
  | .inl n => .int n
  | .inr x => .str x
/-- lists, dicts, instances -/
def D.ctn : D → Bool
  | .lst _ | .dct _ | .ins _ _ => true
  | _ => false
structure Exn where
  cls : Str
  fs : List (Str × D)
inductive Res (α : Type) where
  | ok (a : α) | ex (e : Exn) | no
def Res.bind {α β : Type} : Res α → (α → Res β) → Res β
  | .ok a, f => f a
  | .ex e, _ => .ex e
  | .no, _ => .no
theorem mk_eq0 {α : Sort u} {a b : α} (h : a = b) : a = b := h
@[simp] theorem Res.bind_ok {α β : Type} (a : α) (f : α → Res β) : (Res.ok a).bind f = f a := mk_eq0 rfl
@[simp] theorem Res.bind_ex {α β : Type} (e : Exn) (f : α → Res β) : (Res.ex e : Res α).bind f = .ex e := mk_eq0 rfl
@[simp] theorem Res.bind_no {α β : Type} (f : α → Res β) : (Res.no : Res α).bind f = .no := mk_eq0 rfl
/-- a wish of a result -/
def Res.has {α : Type} (r : Res α) (P : α → Prop) (E : Exn → Prop) : Prop :=
  match r with
  | .ok a => P a
  | .ex e => E e
  | .no => False
theorem Res.has_bind {α β : Type} {r : Res α} {f : α → Res β} {P : β → Prop} {E : Exn → Prop} (h : (r.bind f).has P E) : r.has (fun a => (f a).has P E) E := by
  cases r with
  | ok a => exact h
  | ex e => exact h
  | no => exact h
theorem Res.has_mono {α : Type} {r : Res α} {P P' : α → Prop} {E E' : Exn → Prop} (h : r.has P E) (p : ∀ a, P a → P' a) (q : ∀ e, E e → E' e) : r.has P' E' := by
  cases r with
  | ok a => exact p a h
  | ex e => exact q e h
  | no => exact h
abbrev Lab := List Nat
abbrev Own := Addr → Option Lab
abbrev Rho := List (Option D)
variable [Mg]
mutual
inductive Rp (K : PySem.W.Frag) (B : Hp) : V → D → Prop
  | non : Rp K B .non .non
  | bl (b : Bool) : Rp K B (.bl b) (.bl b)
  | int (i : Int) : Rp K B (.int i) (.int i)
  | str (x : Str) : Rp K B (.str x) (.str x)
  | ty (n : String) : Rp K B (.ty n) (.ty n)
  | lst {a : Addr} {xs : List V} {ds : List D} : B a = some (.lst xs) → RpA K B xs ds → Rp K B (.ref a) (.lst ds)
  | scr {a : Addr} {xs : List V} {ds : List D} : SqL K B a xs → RpA K B xs ds → Rp K B (.ref a) (.scr ds)
  | tup {a : Addr} {xs : List V} {ds : List D} : SqT K B a xs → RpA K B xs ds → Rp K B (.ref a) (.tup ds)
  | dct {a : Addr} {kvs : List (Key × V)} {ds : List (D × D)} : B a = some (.dK kvs) → RpP K B kvs ds → Rp K B (.ref a) (.dct ds)
  | dctT {a : Addr} {kvs : List (List Key × V)} {ds : List (D × D)} : B a = some (.dT kvs) → RpT K B kvs ds → Rp K B (.ref a) (.dct ds)
  | ins {a dx : Addr} {c : Nat} {vs : List (Str × V)} {fs : List D} : B a = some (.ins (Mg.cls c) dx vs) → vs.map (·.1) <+: Mg.lay c → RpA K B (vs.map (·.2)) fs → Rp K B (.ref a) (.ins c fs)
  /-- any reference, nothing known -/
  | exc (a : Addr) (fs : List (Str × D)) : Rp K B (.ref a) (.exc fs)
inductive RpA (K : PySem.W.Frag) (B : Hp) : List V → List D → Prop
  | nil : RpA K B [] []
  | cons {v : V} {vs : List V} {d : D} {ds : List D} : Rp K B v d → RpA K B vs ds → RpA K B (v :: vs) (d :: ds)
inductive RpP (K : PySem.W.Frag) (B : Hp) : List (Key × V) → List (D × D) → Prop
  | nil : RpP K B [] []
  | consI {n : Int} {v : V} {d : D} {kvs : List (Key × V)} {ds : List (D × D)} : Rp K B v d → RpP K B kvs ds → RpP K B ((Sum.inl n, v) :: kvs) ((.int n, d) :: ds)
  | consS {x : Str} {v : V} {d : D} {kvs : List (Key × V)} {ds : List (D × D)} : Rp K B v d → RpP K B kvs ds → RpP K B ((Sum.inr x, v) :: kvs) ((.str x, d) :: ds)
inductive RpT (K : PySem.W.Frag) (B : Hp) : List (List Key × V) → List (D × D) → Prop
  | nil : RpT K B [] []
  | cons {ks : List Key} {v : V} {d : D} {kvs : List (List Key × V)} {ds : List (D × D)} : Rp K B v d → RpT K B kvs ds → RpT K B ((ks, v) :: kvs) ((.tup (ks.map keyD), d) :: ds)
end
/-- what a dict holds -/
def RpD (K : PySem.W.Frag) (B : Hp) (o : HO) (ds : List (D × D)) : Prop := (∃ kvs, o = .dK kvs ∧ RpP K B kvs ds) ∨ ∃ kvs, o = .dT kvs ∧ RpT K B kvs ds
abbrev Ext (B B' : Hp) : Prop := Same B B'
section
variable {K : PySem.W.Frag} {B B' : Hp}
omit [Mg] in
theorem Ext.seqT {a : Addr} {xs : List V} (e : Ext B B') (h : SqT K B a xs) : SqT K B' a xs := by
  rcases h with (h | ⟨o, h⟩) | h
  · exact .inl (.inl (e _ _ h))
  · exact .inl (.inr ⟨o, e _ _ h⟩)
  · exact .inr h
mutual
theorem Rp.mono (e : Ext B B') : ∀ {v : V} {d : D}, Rp K B v d → Rp K B' v d
  | _, _, .non => .non
  | _, _, .bl b => .bl b
  | _, _, .int i => .int i
  | _, _, .str x => .str x
  | _, _, .ty n => .ty n
  | _, _, .lst h r => .lst (e _ _ h) (RpA.mono e r)
  | _, _, .scr h r => .scr (Same.seq e h) (RpA.mono e r)
  | _, _, .tup h r => .tup (Ext.seqT e h) (RpA.mono e r)
  | _, _, .dct h r => .dct (e _ _ h) (RpP.mono e r)
  | _, _, .dctT h r => .dctT (e _ _ h) (RpT.mono e r)
  | _, _, .ins h hk r => .ins (e _ _ h) hk (RpA.mono e r)
  | _, _, .exc a fs => .exc a fs
theorem RpA.mono (e : Ext B B') : ∀ {vs : List V} {ds : List D}, RpA K B vs ds → RpA K B' vs ds
  | _, _, .nil => .nil
  | _, _, .cons h r => .cons (Rp.mono e h) (RpA.mono e r)
theorem RpP.mono (e : Ext B B') : ∀ {vs : List (Key × V)} {ds : List (D × D)}, RpP K B vs ds → RpP K B' vs ds
  | _, _, .nil => .nil
  | _, _, .consI h r => .consI (Rp.mono e h) (RpP.mono e r)
  | _, _, .consS h r => .consS (Rp.mono e h) (RpP.mono e r)
theorem RpT.mono (e : Ext B B') : ∀ {vs : List (List Key × V)} {ds : List (D × D)}, RpT K B vs ds → RpT K B' vs ds
  | _, _, .nil => .nil
  | _, _, .cons h r => .cons (Rp.mono e h) (RpT.mono e r)
end
theorem RpD.mono (e : Ext B B') {o : HO} {ds : List (D × D)} (h : RpD K B o ds) : RpD K B' o ds := by
  rcases h with ⟨kvs, h1, h2⟩ | ⟨kvs, h1, h2⟩
  · exact .inl ⟨kvs, h1, h2.mono e⟩
  · exact .inr ⟨kvs, h1, h2.mono e⟩
theorem Rp.dctI {v : V} {ds : List (D × D)} (h : Rp K B v (.dct ds)) : ∃ a o, v = .ref a ∧ B a = some o ∧ RpD K B o ds := by
  cases h with
  | dct h r => exact ⟨_, _, rfl, h, .inl ⟨_, rfl, r⟩⟩
  | dctT h r => exact ⟨_, _, rfl, h, .inr ⟨_, rfl, r⟩⟩
theorem Rp.ofD {a : Addr} {o : HO} {ds : List (D × D)} (h : B a = some o) (r : RpD K B o ds) : Rp K B (.ref a) (.dct ds) := by
  rcases r with ⟨kvs, rfl, h2⟩ | ⟨kvs, rfl, h2⟩
  · exact .dct h h2
  · exact .dctT h h2
theorem RpA.len : ∀ {vs : List V} {ds : List D}, RpA K B vs ds → vs.length = ds.length
  | _, _, .nil => rfl
  | _, _, .cons _ r => congrArg (· + 1) (RpA.len r)
theorem RpA.app : ∀ {vs ws : List V} {ds es : List D}, RpA K B vs ds → RpA K B ws es → RpA K B (vs ++ ws) (ds ++ es)
  | _, _, _, _, .nil, s => s
  | _, _, _, _, .cons h r, s => .cons h (RpA.app r s)
theorem RpA.get : ∀ {vs : List V} {ds : List D} {i : Nat} {d : D}, RpA K B vs ds → ds[i]? = some d → ∃ v, vs[i]? = some v ∧ Rp K B v d
  | _, _, _, _, .nil, e => by simp at e
  | _, _, 0, _, .cons h _, e => by simp at e; subst e; exact ⟨_, rfl, h⟩
  | _, _, i + 1, _, .cons _ r, e => by
    obtain ⟨v, h1, h2⟩ := RpA.get (i := i) r (by simpa using e)
    exact ⟨v, by simpa using h1, h2⟩
theorem RpA.get' : ∀ {vs : List V} {ds : List D} {i : Nat} {v : V}, RpA K B vs ds → vs[i]? = some v → ∃ d, ds[i]? = some d ∧ Rp K B v d
  | _, _, _, _, .nil, e => by simp at e
  | _, _, 0, _, .cons h _, e => by simp at e; subst e; exact ⟨_, rfl, h⟩
  | _, _, i + 1, _, .cons _ r, e => by
    obtain ⟨v, h1, h2⟩ := RpA.get' (i := i) r (by simpa using e)
    exact ⟨v, by simpa using h1, h2⟩
theorem RpA.of_get : ∀ {vs : List V} {ds : List D}, vs.length = ds.length → (∀ (i : Nat) (v : V) (d : D), vs[i]? = some v → ds[i]? = some d → Rp K B v d) → RpA K B vs ds
  | [], [], _, _ => .nil
  | [], _ :: _, h, _ => by simp at h
  | _ :: _, [], h, _ => by simp at h
  | v :: vs, d :: ds, h, g => .cons (g 0 v d rfl rfl) (RpA.of_get (by simpa using h) fun i v d h1 h2 => g (i + 1) v d (by simpa using h1) (by simpa using h2))
theorem RpA.take : ∀ {vs : List V} {ds : List D} (n : Nat), RpA K B vs ds → RpA K B (vs.take n) (ds.take n)
  | _, _, 0, _ => by simp; exact .nil
  | _, _, _ + 1, .nil => .nil
  | _, _, n + 1, .cons h r => by simpa using .cons h (RpA.take n r)
theorem RpA.drop : ∀ {vs : List V} {ds : List D} (n : Nat), RpA K B vs ds → RpA K B (vs.drop n) (ds.drop n)
  | _, _, 0, r => by simpa using r
  | _, _, _ + 1, .nil => .nil
  | _, _, n + 1, .cons _ r => by simpa using RpA.drop n r
theorem RpA.set : ∀ {vs : List V} {ds : List D} (i : Nat) {v : V} {d : D}, RpA K B vs ds → Rp K B v d → RpA K B (vs.set i v) (ds.set i d)
  | _, _, _, _, _, .nil, _ => .nil
  | _, _, 0, _, _, .cons _ r, h => .cons h r
  | _, _, i + 1, _, _, .cons h0 r, h => .cons h0 (RpA.set i r h)
end
structure Ground (F : Hp) (own : Own) (B H : Hp) : Prop where
  base : ∀ a o, B a = some o → H a = some o ∧ own a = none
  frame : ∀ a o, F a = some o → H a = some o ∧ own a = none ∧ B a = none
  live : ∀ a, own a ≠ none → H a ≠ none
/-- a step: what is owned stays, what others own stays, the base grows -/
structure Step (own : Own) (F B H B' H' : Hp) : Prop where
  ext : Ext B B'
  base : ∀ a o, B' a = some o → H' a = some o
  ownd : ∀ a, own a ≠ none → H' a = H a ∧ B' a = none
  frame : ∀ a o, F a = some o → H' a = some o ∧ B' a = none
section
variable {F B H B' H' B2 H2 : Hp} {own : Own}
omit [Mg] in
theorem Ground.bnone (g : Ground F own B H) {a : Addr} (h : own a ≠ none) : B a = none := by
  cases e : B a with
  | none => rfl
  | some o => exact absurd (g.base a o e).2 h
omit [Mg] in
theorem Step.refl (g : Ground F own B H) : Step own F B H B H :=
  ⟨Same.refl B, fun a o e => (g.base a o e).1, fun a h => ⟨rfl, g.bnone h⟩, fun a o e => ⟨(g.frame a o e).1, (g.frame a o e).2.2⟩⟩
omit [Mg] in
theorem Step.trans (s : Step own F B H B' H') (t : Step own F B' H' B2 H2) : Step own F B H B2 H2 :=
  ⟨s.ext.trans t.ext, t.base, fun a h => ⟨(t.ownd a h).1.trans (s.ownd a h).1, (t.ownd a h).2⟩, t.frame⟩
omit [Mg] in
theorem Ground.step (g : Ground F own B H) (s : Step own F B H B' H') : Ground F own B' H' where
  base := fun a o e => ⟨s.base a o e, by
    cases h : own a with
    | none => rfl
    | some l =>
      have := (s.ownd a (by rw [h]; exact fun z => nomatch z)).2
      rw [this] at e; cases e⟩
  frame := fun a o e => ⟨(s.frame a o e).1, (g.frame a o e).2.1, (s.frame a o e).2⟩
  live := fun a h => by rw [(s.ownd a h).1]; exact g.live a h
omit [Mg] in
/-- a new thing, laid into the base -/
theorem Step.new (g : Ground F own B H) {p : Addr} (o : HO) (h : H p = none) : Step own F B H (upd B p o) (upd H p o) where
  ext := fun a u e => by
    have ne : a ≠ p := fun z => by
      subst z
      rw [(g.base a u e).1] at h
      cases h
    rw [upd_ne ne]
    exact e
  base := fun a u e => by
    by_cases ha : a = p
    · subst ha
      rw [upd_same] at e ⊢
      exact e
    · rw [upd_ne ha] at e ⊢
      exact (g.base a u e).1
  ownd := fun a ho => by
    have ne : a ≠ p := fun z => g.live a ho (z ▸ h)
    rw [upd_ne ne, upd_ne ne]
    exact ⟨rfl, g.bnone ho⟩
  frame := fun a u e => by
    have ne : a ≠ p := fun z => by
      subst z
      rw [(g.frame a u e).1] at h
      cases h
    rw [upd_ne ne, upd_ne ne]
    exact ⟨(g.frame a u e).1, (g.frame a u e).2.2⟩
omit [Mg] in
/-- a new thing that nobody knows yet -/
theorem Step.garbage (g : Ground F own B H) {p : Addr} (o : HO) (h : H p = none) : Step own F B H B (upd H p o) where
  ext := Same.refl B
  base := fun a u e => by
    have ne : a ≠ p := fun z => by
      subst z
      rw [(g.base a u e).1] at h
      cases h
    rw [upd_ne ne]
    exact (g.base a u e).1
  ownd := fun a ho => by
    have ne : a ≠ p := fun z => g.live a ho (z ▸ h)
    rw [upd_ne ne]
    exact ⟨rfl, g.bnone ho⟩
  frame := fun a u e => by
    have ne : a ≠ p := fun z => by
      subst z
      rw [(g.frame a u e).1] at h
      cases h
    rw [upd_ne ne]
    exact ⟨(g.frame a u e).1, (g.frame a u e).2.2⟩
omit [Mg] in
theorem Ground.bfresh (g : Ground F own B H) {p : Addr} (h : H p = none) : B p = none := by
  cases e : B p with
  | none => rfl
  | some o =>
    rw [(g.base p o e).1] at h
    cases h
omit [Mg] in
theorem Ground.ffresh (g : Ground F own B H) {p : Addr} (h : H p = none) : F p = none := by
  cases e : F p with
  | none => rfl
  | some o =>
    rw [(g.frame p o e).1] at h
    cases h
omit [Mg] in
theorem Ground.ofresh (g : Ground F own B H) {p : Addr} (h : H p = none) : own p = none := by
  cases e : own p with
  | none => rfl
  | some o => exact absurd h (g.live p (by rw [e]; exact fun z => nomatch z))
end
/-- frozen; an owned list; an exception that is held; an owned dict of frozen things; an owned instance, its attributes (fnil, fcons); a thing that stands at a -/
inductive Mode where
  | fz | own (m : Mode) | raw (a : Addr) (d : Option Addr) | dic | ins (c : Nat) (r : Mode) | fnil | fcons (m r : Mode) | at (a : Addr) (m : Mode) | any | sto
  deriving DecidableEq
/-- the head of the store's labels -/
abbrev SH : Nat := 1000000
def refD (n : Nat) : D := .exc [(Str.empty, .int n)]
def D.nref : D → Bool
  | .exc _ => false
  | _ => true
def stoD (os : List D) : D := .exc (os.map fun o => (Str.empty, o))
/-- any value: a frozen one, or one of the store's things -/
def AnyR (K : PySem.W.Frag) (B : Hp) (own : Own) (v : V) (d : D) : Prop := (d.nref = true ∧ Rp K B v d) ∨ ∃ (n : Nat) (a : Addr), d = refD n ∧ v = .ref a ∧ own a = some [SH, n]
def AnyA (K : PySem.W.Frag) (B : Hp) (own : Own) (vs : List V) (ds : List D) : Prop := vs.length = ds.length ∧ ∀ (k : Nat) (v : V) (d : D), vs[k]? = some v → ds[k]? = some d → AnyR K B own v d
def AnyD (K : PySem.W.Frag) (B : Hp) (own : Own) (o : HO) (kvs : List (D × D)) : Prop :=
  (∃ ps : List (Key × V), o = .dK ps ∧ ps.length = kvs.length ∧ ∀ (k : Nat) (p : Key × V) (q : D × D), ps[k]? = some p → kvs[k]? = some q → q.1 = keyD p.1 ∧ AnyR K B own p.2 q.2) ∨
    ∃ ps : List (List Key × V), o = .dT ps ∧ kvs ≠ [] ∧ ps.length = kvs.length ∧ ∀ (k : Nat) (p : List Key × V) (q : D × D), ps[k]? = some p → kvs[k]? = some q → q.1 = .tup (p.1.map keyD) ∧ AnyR K B own p.2 q.2
/-- what stands in an attribute -/
def ConR (K : PySem.W.Frag) (B H : Hp) (own : Own) (lab : Lab) (v : V) (d : D) : FM → Prop
  | .any => AnyR K B own v d
  | .lst => ∃ (l : Addr) (vs : List V) (ds : List D), v = .ref l ∧ d = .lst ds ∧ own l = some lab ∧ H l = some (.lst vs) ∧ AnyA K B own vs ds
  | .dct => ∃ (l : Addr) (o : HO) (kvs : List (D × D)), v = .ref l ∧ d = .dct kvs ∧ own l = some lab ∧ H l = some o ∧ AnyD K B own o kvs
/-- the store's thing of number n at a -/
def RootR (K : PySem.W.Frag) (B H : Hp) (own : Own) (n : Nat) (a : Addr) : D → Prop
  | .ins c ds => ∃ (dx : Addr) (vs : List (Str × V)), H a = some (.ins (Mg.cls c) dx vs) ∧ vs.map (·.1) <+: Mg.lay c ∧ vs.length = ds.length ∧ ∀ (k : Nat) (v : V) (d : D), (vs.map (·.2))[k]? = some v → ds[k]? = some d → ConR K B H own [SH, n, k] v d (Mg.fm c k)
  | .lst ds => ∃ vs : List V, H a = some (.lst vs) ∧ AnyA K B own vs ds
  | .dct kvs => ∃ o : HO, H a = some o ∧ AnyD K B own o kvs
  | _ => False
structure StoR (K : PySem.W.Frag) (B H : Hp) (own : Own) (os : List D) : Prop where
  at_ : ∀ (n : Nat) (o : D), os[n]? = some o → ∃ a, own a = some [SH, n] ∧ RootR K B H own n a o
  inj : ∀ (a a' : Addr) (n : Nat) (r : Lab), own a = some (SH :: n :: r) → own a' = some (SH :: n :: r) → a = a'
  bnd : ∀ (a : Addr) (n : Nat) (r : Lab), own a = some (SH :: n :: r) → n < os.length
/-- the store's things stay -/
structure StK (H : Hp) (own : Own) (H' : Hp) (own' : Own) : Prop where
  lab : ∀ (l : Addr) (n : Nat) (r : Lab), own l = some (SH :: n :: r) ↔ own' l = some (SH :: n :: r)
  hp : ∀ (l : Addr) (n : Nat) (r : Lab), own l = some (SH :: n :: r) → H' l = H l
omit [Mg] in
theorem StK.refl {H : Hp} {own : Own} : StK H own H own := ⟨fun _ _ _ => .rfl, fun _ _ _ _ => rfl⟩
omit [Mg] in
theorem StK.trans {H H' H2 : Hp} {own own' own2 : Own} (s : StK H own H' own') (t : StK H' own' H2 own2) : StK H own H2 own2 :=
  ⟨fun l n r => (s.lab l n r).trans (t.lab l n r), fun l n r h => (t.hp l n r ((s.lab l n r).mp h)).trans (s.hp l n r h)⟩
section
variable {K : PySem.W.Frag} {B B' H H' : Hp} {own own' : Own}
theorem AnyR.keep {v : V} {d : D} (e : Ext B B') (s : ∀ l n r, own l = some (SH :: n :: r) → own' l = some (SH :: n :: r)) (h : AnyR K B own v d) : AnyR K B' own' v d := by
  rcases h with ⟨h1, h2⟩ | ⟨n, a, h1, h2, h3⟩
  · exact .inl ⟨h1, h2.mono e⟩
  · exact .inr ⟨n, a, h1, h2, s _ _ _ h3⟩
theorem AnyA.keep {vs : List V} {ds : List D} (e : Ext B B') (s : ∀ l n r, own l = some (SH :: n :: r) → own' l = some (SH :: n :: r)) (h : AnyA K B own vs ds) : AnyA K B' own' vs ds :=
  ⟨h.1, fun k v d h1 h2 => (h.2 k v d h1 h2).keep e s⟩
theorem AnyD.keep {o : HO} {kvs : List (D × D)} (e : Ext B B') (s : ∀ l n r, own l = some (SH :: n :: r) → own' l = some (SH :: n :: r)) (h : AnyD K B own o kvs) : AnyD K B' own' o kvs := by
  rcases h with ⟨ps, h1, h2, h3⟩ | ⟨ps, h1, hne, h2, h3⟩
  · exact .inl ⟨ps, h1, h2, fun k p q a b => ⟨(h3 k p q a b).1, (h3 k p q a b).2.keep e s⟩⟩
  · exact .inr ⟨ps, h1, hne, h2, fun k p q a b => ⟨(h3 k p q a b).1, (h3 k p q a b).2.keep e s⟩⟩
theorem ConR.keep {n k : Nat} {v : V} {d : D} {m : FM} (e : Ext B B') (s : StK H own H' own') (h : ConR K B H own [SH, n, k] v d m) : ConR K B' H' own' [SH, n, k] v d m := by
  have s1 := fun l n r => (s.lab l n r).mp
  cases m with
  | any => exact AnyR.keep e s1 h
  | lst =>
    obtain ⟨l, vs, ds, h1, h2, h3, h4, h5⟩ := h
    exact ⟨l, vs, ds, h1, h2, s1 _ _ _ h3, (s.hp _ _ _ h3).trans h4, h5.keep e s1⟩
  | dct =>
    obtain ⟨l, vs, ds, h1, h2, h3, h4, h5⟩ := h
    exact ⟨l, vs, ds, h1, h2, s1 _ _ _ h3, (s.hp _ _ _ h3).trans h4, h5.keep e s1⟩
theorem RootR.keep {n : Nat} {a : Addr} (ha : own a = some [SH, n]) (e : Ext B B') (s : StK H own H' own') : ∀ {o : D}, RootR K B H own n a o → RootR K B' H' own' n a o := by
  have s1 := fun l n r => (s.lab l n r).mp
  have hH := s.hp _ _ _ ha
  intro o h
  cases o with
  | ins c ds =>
    obtain ⟨dx, vs, h1, h2, h3, h4⟩ := h
    exact ⟨dx, vs, hH.trans h1, h2, h3, fun k v d a b => (h4 k v d a b).keep e s⟩
  | lst ds =>
    obtain ⟨vs, h1, h2⟩ := h
    exact ⟨vs, hH.trans h1, h2.keep e s1⟩
  | dct ds =>
    obtain ⟨vs, h1, h2⟩ := h
    exact ⟨vs, hH.trans h1, h2.keep e s1⟩
  | _ => exact h.elim
theorem StoR.keep {os : List D} (e : Ext B B') (s : StK H own H' own') (h : StoR K B H own os) : StoR K B' H' own' os where
  at_ := fun n o h1 => by
    obtain ⟨a, h2, h3⟩ := h.at_ n o h1
    exact ⟨a, (s.lab _ _ _).mp h2, h3.keep h2 e s⟩
  inj := fun a a' n r h1 h2 => h.inj a a' n r ((s.lab _ _ _).mpr h1) ((s.lab _ _ _).mpr h2)
  bnd := fun a n r h1 => h.bnd a n r ((s.lab _ _ _).mpr h1)
end
/-- the fields of an exception, its dict at d -/
def ExcFs (K : PySem.W.Frag) (B : Hp) (dx : Option Addr) (fs : List (Str × D)) : Prop :=
  (fs = [] ∧ dx = none) ∨ ∃ (d : Addr) (vs : List (Str × V)), fs ≠ [] ∧ dx = some d ∧ B d = some (.xd vs) ∧ vs.map (·.1) = fs.map (·.1) ∧ RpA K B (vs.map (·.2)) (fs.map (·.2))
theorem ExcFs.mono {K : PySem.W.Frag} {B B' : Hp} {dx : Option Addr} {fs : List (Str × D)} (e : Ext B B') (h : ExcFs K B dx fs) : ExcFs K B' dx fs := by
  rcases h with h | ⟨d, vs, h0, h1, h2, h3, h4⟩
  · exact .inl h
  · exact .inr ⟨d, vs, h0, h1, e _ _ h2, h3, h4.mono e⟩
mutual
def VRep (K : PySem.W.Frag) (B H : Hp) (own : Own) : Mode → Lab → V → D → Prop
  | .fz, _, v, d => Rp K B v d
  | .raw a dx, _, v, d => v = .ref a ∧ ∃ fs, d = .exc fs ∧ ExcFs K B dx fs
  | .own m, lab, v, d => ∃ (l : Addr) (vs : List V) (ds : List D), v = .ref l ∧ d = .lst ds ∧ own l = some lab ∧ H l = some (.lst vs) ∧ vs.length = ds.length ∧
      ∀ (k : Nat) (v' : V) (d' : D), vs[k]? = some v' → ds[k]? = some d' → VRep K B H own m (lab ++ [k]) v' d'
  | .dic, lab, v, d => ∃ (l : Addr) (o : HO) (ds : List (D × D)), v = .ref l ∧ d = .dct ds ∧ own l = some lab ∧ H l = some o ∧ RpD K B o ds
  | .ins c r, lab, v, d => ∃ (l dx : Addr) (vs : List (Str × V)) (ds : List D), v = .ref l ∧ d = .ins c ds ∧ own l = some lab ∧ H l = some (.ins (Mg.cls c) dx vs) ∧ vs.map (·.1) <+: Mg.lay c ∧ VFs K B H own r lab 0 (vs.map (·.2)) ds
  | .at a m, lab, v, d => v = .ref a ∧ VRep K B H own m lab v d
  | .any, _, v, d => AnyR K B own v d
  | .sto, _, v, d => v = .ref 0 ∧ ∃ os, d = stoD os ∧ StoR K B H own os
  | .fnil, _, _, _ => False
  | .fcons _ _, _, _, _ => False
/-- the attributes, from the k-th on -/
def VFs (K : PySem.W.Frag) (B H : Hp) (own : Own) : Mode → Lab → Nat → List V → List D → Prop
  | .fnil, _, _, vs, ds => vs = [] ∧ ds = []
  | .fcons m r, lab, k, vs, ds => ∃ (v : V) (d : D) (vs' : List V) (ds' : List D), vs = v :: vs' ∧ ds = d :: ds' ∧ VRep K B H own m (lab ++ [k]) v d ∧ VFs K B H own r lab (k + 1) vs' ds'
  | .fz, _, _, _, _ => False
  | .own _, _, _, _, _ => False
  | .raw _ _, _, _, _, _ => False
  | .dic, _, _, _, _ => False
  | .ins _ _, _, _, _, _ => False
  | .at _ _, _, _, _, _ => False
  | .any, _, _, _, _ => False
  | .sto, _, _, _, _ => False
end
/-- from one ground to another: the same things, perhaps under other labels -/
structure Carry (K : PySem.W.Frag) (B H : Hp) (own : Own) (lab : Lab) (B' H' : Hp) (own' : Own) (lab' : Lab) : Prop where
  ext : Ext B B'
  at_ : ∀ (l : Addr) (r : Lab), own l = some (lab ++ r) → own' l = some (lab' ++ r) ∧ H' l = H l
  st : StK H own H' own'
omit [Mg] in
theorem Carry.deep {K : PySem.W.Frag} {B H B' H' : Hp} {own own' : Own} {lab lab' : Lab} (c : Carry K B H own lab B' H' own' lab') (k : Nat) : Carry K B H own (lab ++ [k]) B' H' own' (lab' ++ [k]) :=
  ⟨c.ext, fun l r h => by
    have := c.at_ l (k :: r) (by simpa using h)
    simpa using this, c.st⟩
omit [Mg] in
theorem Carry.self {K : PySem.W.Frag} {B H B' H' : Hp} {own own' : Own} {lab lab' : Lab} (c : Carry K B H own lab B' H' own' lab') {l : Addr} (h : own l = some lab) : own' l = some lab' ∧ H' l = H l := by
  have := c.at_ l [] (by simpa using h)
  simpa using this
mutual
theorem VRep.carry {K : PySem.W.Frag} {B H B' H' : Hp} {own own' : Own} : ∀ {m : Mode} {lab lab' : Lab} {v : V} {d : D}, Carry K B H own lab B' H' own' lab' → VRep K B H own m lab v d → VRep K B' H' own' m lab' v d
  | .fz, _, _, _, _, c, h => Rp.mono c.ext h
  | .raw a dx, _, _, _, _, c, ⟨h1, fs, h2, h3⟩ => ⟨h1, fs, h2, h3.mono c.ext⟩
  | .own m, lab, lab', _, _, c, ⟨l, vs, ds, hv, hd, ho, hl, hn, h⟩ =>
    ⟨l, vs, ds, hv, hd, (c.self ho).1, (c.self ho).2.trans hl, hn, fun k v' d' h1 h2 => VRep.carry (c.deep k) (h k v' d' h1 h2)⟩
  | .dic, _, _, _, _, c, ⟨l, o, ds, hv, hd, ho, hl, r⟩ => ⟨l, o, ds, hv, hd, (c.self ho).1, (c.self ho).2.trans hl, r.mono c.ext⟩
  | .ins cn r, _, _, _, _, c, ⟨l, dx, vs, ds, hv, hd, ho, hl, hk, h⟩ => ⟨l, dx, vs, ds, hv, hd, (c.self ho).1, (c.self ho).2.trans hl, hk, VFs.carry c h⟩
  | .at a m, _, _, _, _, c, ⟨h1, h2⟩ => ⟨h1, VRep.carry c h2⟩
  | .any, _, _, _, _, c, h => AnyR.keep c.ext (fun l n r => (c.st.lab l n r).mp) h
  | .sto, _, _, _, _, c, ⟨h1, os, h2, h3⟩ => ⟨h1, os, h2, h3.keep c.ext c.st⟩
  | .fnil, _, _, _, _, _, h => h.elim
  | .fcons _ _, _, _, _, _, _, h => h.elim
theorem VFs.carry {K : PySem.W.Frag} {B H B' H' : Hp} {own own' : Own} : ∀ {r : Mode} {lab lab' : Lab} {k : Nat} {vs : List V} {ds : List D}, Carry K B H own lab B' H' own' lab' → VFs K B H own r lab k vs ds → VFs K B' H' own' r lab' k vs ds
  | .fnil, _, _, _, _, _, _, h => h
  | .fcons m r, _, _, k, _, _, c, ⟨v, d, vs', ds', h1, h2, h3, h4⟩ => ⟨v, d, vs', ds', h1, h2, VRep.carry (c.deep k) h3, VFs.carry c h4⟩
  | .fz, _, _, _, _, _, _, h => h.elim
  | .own _, _, _, _, _, _, _, h => h.elim
  | .raw _ _, _, _, _, _, _, _, h => h.elim
  | .dic, _, _, _, _, _, _, h => h.elim
  | .ins _ _, _, _, _, _, _, _, h => h.elim
  | .at _ _, _, _, _, _, _, _, h => h.elim
  | .any, _, _, _, _, _, _, h => h.elim
  | .sto, _, _, _, _, _, _, h => h.elim
end
omit [Mg] in
theorem Step.stk {F B H B' H' : Hp} {own : Own} (s : Step own F B H B' H') : StK H own H' own := ⟨fun _ _ _ => .rfl, fun l n r h => (s.ownd l (by rw [h]; exact fun z => nomatch z)).1⟩
omit [Mg] in
theorem Carry.step {K : PySem.W.Frag} {F B H B' H' : Hp} {own : Own} (s : Step own F B H B' H') {lab : Lab} : Carry K B H own lab B' H' own lab :=
  ⟨s.ext, fun l r h => ⟨h, (s.ownd l (by rw [h]; exact fun z => nomatch z)).1⟩, s.stk⟩
theorem VRep.step {K : PySem.W.Frag} {F B H B' H' : Hp} {own : Own} (s : Step own F B H B' H') {m : Mode} {lab : Lab} {v : V} {d : D} (h : VRep K B H own m lab v d) : VRep K B' H' own m lab v d := VRep.carry (.step s) h
/-- the slots: ρ the trees by slot, Γ the modes; slot i owns under the label i + 1 -/
structure Good (K : PySem.W.Frag) (F : Hp) (G : List Mode) (ρ : Rho) (own : Own) (B : Hp) (σ : L2.St) (H : Hp) : Prop where
  gr : Ground F own B H
  len : σ.length = ρ.length ∧ ρ.length < 1000000
  slots : ∀ (i : Nat) (d : D), ρ[i]? = some (some d) → ∃ v, σ[i]? = some (some v) ∧ VRep K B H own (G.getD i .fz) [i + 1] v d
section
variable {K : PySem.W.Frag} {F B H B' H' : Hp} {own : Own} {G : List Mode} {ρ : Rho} {σ : L2.St}
theorem Good.step (g : Good K F G ρ own B σ H) (s : Step own F B H B' H') : Good K F G ρ own B' σ H' :=
  ⟨g.gr.step s, g.len, fun i d e => let ⟨v, h1, h2⟩ := g.slots i d e; ⟨v, h1, VRep.step s h2⟩⟩
end
structure ExR (K : PySem.W.Frag) (mg : Str → Option Value) (B H : Hp) (e : Exn) (c : Value) (dx : Option Addr) : Prop where
  cls : mg e.cls = some c
  fs : ExcFs K B dx e.fs
/-- what is wished of an exception, at the slots σ -/
def WOk (K : PySem.W.Frag) (mg : Str → Option Value) (W : WX) (own : Own) (F B H : Hp) (σ : L2.St) (e : Exn) : Prop :=
  ∀ (c : Value) (dx : Option Addr) (B' H' : Hp), Step own F B H B' H' → ExR K mg B' H' e c dx → W c dx σ H'
def Ev (X : Cx) (W : WX) (G : List Mode) (t : TE) (g : Rho → Res D) : Prop :=
  ∀ (F : Hp) (ρ : Rho) (own : Own) (B : Hp) (σ : L2.St) (H : Hp) (Q : VK), Good X.K F G ρ own B σ H →
    (g ρ).has (fun d => ∀ (v : V) (B' H' : Hp), Step own F B H B' H' → Rp X.K B' v d → Q v H') (WOk X.K X.mg W own F B H σ) → t σ H Q
/-- to a new list that nobody else knows -/
def EvN (X : Cx) (W : WX) (G : List Mode) (t : TE) (g : Rho → Res (List D)) : Prop :=
  ∀ (F : Hp) (ρ : Rho) (own : Own) (B : Hp) (σ : L2.St) (H : Hp) (Q : VK), Good X.K F G ρ own B σ H →
    (g ρ).has (fun ds => ∀ (p : Addr) (vs : List V) (B' H' : Hp), Step own F B H B' H' → B' p = none → F p = none → own p = none → H' p = some (.lst vs) → RpA X.K B' vs ds → Q (.ref p) H') (WOk X.K X.mg W own F B H σ) → t σ H Q
def EvT (X : Cx) (W : WX) (G : List Mode) (t : TT) (g : Rho → Res Bool) : Prop :=
  ∀ (F : Hp) (ρ : Rho) (own : Own) (B : Hp) (σ : L2.St) (H : Hp) (Q : Bool → Hp → Prop), Good X.K F G ρ own B σ H →
    (g ρ).has (fun b => ∀ (B' H' : Hp), Step own F B H B' H' → Q b H') (WOk X.K X.mg W own F B H σ) → t σ H Q
def EvA (X : Cx) (W : WX) (G : List Mode) (t : TA) (g : Rho → Res (List D)) : Prop :=
  ∀ (F : Hp) (ρ : Rho) (own : Own) (B : Hp) (σ : L2.St) (H : Hp) (Q : List V → Hp → Prop), Good X.K F G ρ own B σ H →
    (g ρ).has (fun ds => ∀ (vs : List V) (B' H' : Hp), Step own F B H B' H' → RpA X.K B' vs ds → Q vs H') (WOk X.K X.mg W own F B H σ) → t σ H Q
theorem WOk.step {K : PySem.W.Frag} {mg : Str → Option Value} {W : WX} {own : Own} {F B H B' H' : Hp} {σ : L2.St} {e : Exn} (w : WOk K mg W own F B H σ e) (s : Step own F B H B' H') : WOk K mg W own F B' H' σ e :=
  fun c dx B2 H2 t x => w c dx B2 H2 (s.trans t) x
omit [Mg] in
/-- the frozen list of a new one -/
theorem frz_new {own : Own} {F B H B' H' : Hp} {p : Addr} {o : HO} (s : Step own F B H B' H') (hb : B' p = none) (hf : F p = none) (ho : own p = none) (hp : H' p = some o) : Step own F B H (upd B' p o) H' where
  ext := fun a u e => by
    have e' := s.ext a u e
    have ne : a ≠ p := fun z => by
      subst z
      rw [hb] at e'
      cases e'
    rw [upd_ne ne]
    exact e'
  base := fun a u e => by
    by_cases ha : a = p
    · subst ha
      rw [upd_same] at e
      cases e
      exact hp
    · rw [upd_ne ha] at e
      exact s.base a u e
  ownd := fun a h => by
    have ne : a ≠ p := fun z => h (z ▸ ho)
    rw [upd_ne ne]
    exact s.ownd a h
  frame := fun a u e => by
    have ne : a ≠ p := fun z => by
      subst z
      rw [hf] at e
      cases e
    rw [upd_ne ne]
    exact s.frame a u e
omit [Mg] in
theorem ext_upd {B : Hp} {p : Addr} {o : HO} (h : B p = none) : Ext B (upd B p o) := fun a u e => by
  have ne : a ≠ p := fun z => by
    subst z
    rw [h] at e
    cases e
  rw [upd_ne ne]
  exact e
def lstD (g : Rho → Res (List D)) : Rho → Res D := fun ρ => (g ρ).bind fun ds => .ok (.lst ds)
theorem EvN.ev {X : Cx} {W : WX} {G : List Mode} {t : TE} {g : Rho → Res (List D)} (h : EvN X W G t g) : Ev X W G t (lstD g) := fun F ρ own B σ H Q gd q => by
  refine h F ρ own B σ H Q gd (Res.has_mono (Res.has_bind q) (fun ds q p vs B' H' s hb hf ho hp r => ?_) fun _ x => x)
  exact q (.ref p) (upd B' p (.lst vs)) H' (frz_new s hb hf ho hp) (.lst upd_same (r.mono (ext_upd hb)))
def Sn (K : PySem.W.Frag) (own : Own) (B H : Hp) (v : V) (d : D) : Prop :=
  Rp K B v d ∨ (∃ (l : Addr) (vs : List V) (ds : List D), v = .ref l ∧ d = .lst ds ∧ own l ≠ none ∧ H l = some (.lst vs) ∧ RpA K B vs ds) ∨
    ∃ (l : Addr) (o : HO) (ds : List (D × D)), v = .ref l ∧ d = .dct ds ∧ own l ≠ none ∧ H l = some o ∧ RpD K B o ds
theorem Sn.step {K : PySem.W.Frag} {own : Own} {F B H B' H' : Hp} {v : V} {d : D} (h : Sn K own B H v d) (s : Step own F B H B' H') : Sn K own B' H' v d := by
  rcases h with h | ⟨l, vs, ds, e1, e2, h1, h2, h3⟩ | ⟨l, o, ds, e1, e2, h1, h2, h3⟩
  · exact .inl (h.mono s.ext)
  · exact .inr (.inl ⟨l, vs, ds, e1, e2, h1, (s.ownd l h1).1.trans h2, h3.mono s.ext⟩)
  · exact .inr (.inr ⟨l, o, ds, e1, e2, h1, (s.ownd l h1).1.trans h2, h3.mono s.ext⟩)
inductive SnA (K : PySem.W.Frag) (own : Own) (B H : Hp) : List V → List D → Prop
  | nil : SnA K own B H [] []
  | cons {v : V} {vs : List V} {d : D} {ds : List D} : Sn K own B H v d → SnA K own B H vs ds → SnA K own B H (v :: vs) (d :: ds)
theorem SnA.step {K : PySem.W.Frag} {own : Own} {F B H B' H' : Hp} (s : Step own F B H B' H') : ∀ {vs : List V} {ds : List D}, SnA K own B H vs ds → SnA K own B' H' vs ds
  | _, _, .nil => .nil
  | _, _, .cons h r => .cons (h.step s) (SnA.step s r)
omit [Mg] in
theorem Ground.same {F : Hp} {own : Own} {B H : Hp} (g : Ground F own B H) : Same B H := fun a o e => (g.base a o e).1
/-- to be read in the heap -/
theorem Sn.rd {K : PySem.W.Frag} {F : Hp} {own : Own} {B H : Hp} {v : V} {d : D} (h : Sn K own B H v d) (g : Ground F own B H) : Rp K H v d := by
  rcases h with h | ⟨l, vs, ds, e1, e2, h1, h2, h3⟩ | ⟨l, o, ds, e1, e2, h1, h2, h3⟩
  · exact h.mono g.same
  · subst e1 e2
    exact .lst h2 (h3.mono g.same)
  · subst e1 e2
    exact .ofD h2 (h3.mono g.same)
/-- a list's view -/
theorem Sn.lst {K : PySem.W.Frag} {F : Hp} {own : Own} {B H : Hp} {v : V} {ds : List D} (h : Sn K own B H v (.lst ds)) (g : Ground F own B H) : ∃ (l : Addr) (vs : List V), v = .ref l ∧ H l = some (.lst vs) ∧ RpA K B vs ds := by
  rcases h with h | ⟨l, vs, ds, e1, e2, h1, h2, h3⟩ | ⟨l, o, ds, e1, e2, h1, h2, h3⟩
  · cases h with
    | lst h r => exact ⟨_, _, rfl, (g.base _ _ h).1, r⟩
  · cases e2
    exact ⟨l, vs, e1, h2, h3⟩
  · cases e2
/-- a dict's view -/
theorem Sn.dct {K : PySem.W.Frag} {F : Hp} {own : Own} {B H : Hp} {v : V} {ds : List (D × D)} (h : Sn K own B H v (.dct ds)) (g : Ground F own B H) : ∃ (l : Addr) (o : HO), v = .ref l ∧ H l = some o ∧ RpD K B o ds := by
  rcases h with h | ⟨l, vs, ds, e1, e2, h1, h2, h3⟩ | ⟨l, o, ds, e1, e2, h1, h2, h3⟩
  · obtain ⟨a, o, h1, h2, h3⟩ := h.dctI
    exact ⟨a, o, h1, (g.base _ _ h2).1, h3⟩
  · cases e2
  · cases e2
    exact ⟨l, o, e1, h2, h3⟩
theorem Sn.frz {K : PySem.W.Frag} {own : Own} {B H : Hp} {v : V} {d : D} (h : Sn K own B H v d) (n : d.ctn = false) : Rp K B v d := by
  rcases h with h | ⟨l, vs, ds, e1, e2, h1, h2, h3⟩ | ⟨l, o, ds, e1, e2, h1, h2, h3⟩
  · exact h
  · subst e2
    cases n
  · subst e2
    cases n
def EvB (X : Cx) (W : WX) (G : List Mode) (t : TE) (g : Rho → Res D) : Prop :=
  ∀ (F : Hp) (ρ : Rho) (own : Own) (B : Hp) (σ : L2.St) (H : Hp) (Q : VK), Good X.K F G ρ own B σ H →
    (g ρ).has (fun d => ∀ (v : V) (B' H' : Hp), Step own F B H B' H' → Sn X.K own B' H' v d → Q v H') (WOk X.K X.mg W own F B H σ) → t σ H Q
def EvBA (X : Cx) (W : WX) (G : List Mode) (t : TA) (g : Rho → Res (List D)) : Prop :=
  ∀ (F : Hp) (ρ : Rho) (own : Own) (B : Hp) (σ : L2.St) (H : Hp) (Q : List V → Hp → Prop), Good X.K F G ρ own B σ H →
    (g ρ).has (fun ds => ∀ (vs : List V) (B' H' : Hp), Step own F B H B' H' → SnA X.K own B' H' vs ds → Q vs H') (WOk X.K X.mg W own F B H σ) → t σ H Q
theorem Ev.b {X : Cx} {W : WX} {G : List Mode} {t : TE} {g : Rho → Res D} (h : Ev X W G t g) : EvB X W G t g := fun F ρ own B σ H Q gd q =>
  h F ρ own B σ H Q gd (Res.has_mono q (fun d q v B' H' s r => q v B' H' s (.inl r)) fun _ x => x)
def EJ (X : Cx) (W : WX) (G : List Mode) (e : Expr) (g : Rho → Res D) : Prop := ∃ t, PE X e t ∧ Ev X W G t g
def NJ (X : Cx) (W : WX) (G : List Mode) (e : Expr) (g : Rho → Res (List D)) : Prop := ∃ t, PE X e t ∧ EvN X W G t g
def TJ (X : Cx) (W : WX) (G : List Mode) (e : Expr) (g : Rho → Res Bool) : Prop := ∃ t, PT X e t ∧ EvT X W G t g
def WJ (X : Cx) (W : WX) (G : List Mode) (e : Expr) (g : Rho → Res Bool) : Prop := ∃ t, PW X e t ∧ EvT X W G t g
def BJ (X : Cx) (W : WX) (G : List Mode) (e : Expr) (g : Rho → Res D) : Prop := ∃ t, PE X e t ∧ EvB X W G t g
def BAJ (X : Cx) (W : WX) (G : List Mode) (es : List Expr) (g : Rho → Res (List D)) : Prop := ∃ t, PA X es t ∧ EvBA X W G t g
def AJ (X : Cx) (W : WX) (G : List Mode) (es : List Expr) (g : Rho → Res (List D)) : Prop := ∃ t, PA X es t ∧ EvA X W G t g
section
variable {X : Cx} {W : WX} {G : List Mode} {e a b : Expr} {pos : Pos}
theorem EJ.bj {g : Rho → Res D} (h : EJ X W G e g) : BJ X W G e g := let ⟨t, p, v⟩ := h; ⟨t, p, v.b⟩
theorem NJ.ej {g : Rho → Res (List D)} (h : NJ X W G e g) : EJ X W G e (lstD g) := let ⟨t, p, v⟩ := h; ⟨t, p, v.ev⟩
def getV (i : Nat) : Rho → Res D := fun ρ => match ρ[i]? with
  | some (some d) => .ok d
  | _ => .no
def conD (d : D) : Rho → Res D := fun _ => .ok d
theorem ev_var {i : Nat} (hm : G.getD i .fz = .fz) : Ev X W G (tVar i) (getV i) := fun F ρ own B σ H Q gd q => by
  unfold getV at q
  cases e : ρ[i]? with
  | none =>
    rw [e] at q
    exact q.elim
  | some o =>
    cases o with
    | none =>
      rw [e] at q
      exact q.elim
    | some d =>
      rw [e] at q
      obtain ⟨v, h1, h2⟩ := gd.slots i d e
      rw [hm] at h2
      exact ⟨v, h1, q v B H (.refl gd.gr) h2⟩
theorem ej_var {x : Str} (i : Nat) (h : PE X (.Name x pos) (tVar i)) (hm : G.getD i .fz = .fz := by rfl) : EJ X W G (.Name x pos) (getV i) := ⟨_, h, ev_var hm⟩
theorem ev_c {v : V} {d : D} (h : ∀ K B, Rp K B v d) : Ev X W G (tC v) (conD d) := fun F ρ own B σ H Q gd q => q v B H (.refl gd.gr) (h _ _)
theorem ej_int {i : Int} {j pos} : EJ X W G (.Constant (.int i) j pos) (conD (.int i)) := ⟨_, pe_int, ev_c fun _ _ => .int i⟩
theorem ej_bl {i : Bool} {j pos} : EJ X W G (.Constant (.bool i) j pos) (conD (.bl i)) := ⟨_, pe_bl, ev_c fun _ _ => .bl i⟩
theorem ej_non {j pos} : EJ X W G (.Constant .none j pos) (conD .non) := ⟨_, pe_non, ev_c fun _ _ => .non⟩
theorem ej_str {x : Str} {j pos} : EJ X W G (.Constant (.str x) j pos) (conD (.str x)) := ⟨_, pe_str, ev_c fun _ _ => .str x⟩
/-- an owned list of frozen things, borrowed -/
theorem ev_varB {i : Nat} (hm : G.getD i .fz = .own .fz) : EvB X W G (tVar i) (getV i) := fun F ρ own B σ H Q gd q => by
  unfold getV at q
  cases e : ρ[i]? with
  | none =>
    rw [e] at q
    exact q.elim
  | some o =>
    cases o with
    | none =>
      rw [e] at q
      exact q.elim
    | some d =>
      rw [e] at q
      obtain ⟨v, h1, h2⟩ := gd.slots i d e
      rw [hm] at h2
      obtain ⟨l, vs, ds, e1, e2, h3, h4, hn, h5⟩ := h2
      exact ⟨v, h1, q v B H (.refl gd.gr) (.inr (.inl ⟨l, vs, ds, e1, e2, by rw [h3]; exact (fun z => nomatch z), h4, RpA.of_get hn h5⟩))⟩
theorem bj_var {x : Str} (i : Nat) (h : PE X (.Name x pos) (tVar i)) (hm : G.getD i .fz = .own .fz := by rfl) : BJ X W G (.Name x pos) (getV i) := ⟨_, h, ev_varB hm⟩
def OpD (X : Cx) (r : R2) (f : D → D → Res D) : Prop :=
  ∀ (F : Hp) (own : Own) (B H : Hp) (x y : V) (dx dy : D) (Q : VK), Ground F own B H → Sn X.K own B H x dx → Sn X.K own B H y dy →
    (f dx dy).has (fun d => ∀ (v : V) (B' H' : Hp), Step own F B H B' H' → Rp X.K B' v d → Q v H') (fun _ => False) → r x y H Q
def OpN (X : Cx) (r : R2) (f : D → D → Res (List D)) : Prop :=
  ∀ (F : Hp) (own : Own) (B H : Hp) (x y : V) (dx dy : D) (Q : VK), Ground F own B H → Sn X.K own B H x dx → Sn X.K own B H y dy →
    (f dx dy).has (fun ds => ∀ (p : Addr) (vs : List V) (B' H' : Hp), Step own F B H B' H' → B' p = none → F p = none → own p = none → H' p = some (.lst vs) → RpA X.K B' vs ds → Q (.ref p) H') (fun _ => False) → r x y H Q
def bin {α : Type} (f : D → D → Res α) (a b : Rho → Res D) : Rho → Res α := fun ρ => (a ρ).bind fun x => (b ρ).bind fun y => f x y
omit [Mg] in
/-- what holds of every result -/
theorem Res.has_calm {α : Type} {r : Res α} {P P' : α → Prop} {E E' : Exn → Prop} (n : ∀ e, r ≠ .ex e) (h : r.has P E) (p : ∀ a, P a → P' a) : r.has P' E' := by
  cases r with
  | ok a => exact p a h
  | ex e => exact absurd rfl (n e)
  | no => exact h
/-- an operation raises nothing -/
def Calm {α : Type} (f : D → D → Res α) : Prop := ∀ x y e, f x y ≠ .ex e
theorem ev_op {r : R2} {f : D → D → Res D} {ta tb : TE} {ga gb : Rho → Res D} (ho : OpD X r f) (hf : Calm f) (ha : EvB X W G ta ga) (hb : EvB X W G tb gb) : Ev X W G (tOp r ta tb) (bin f ga gb) := fun F ρ own B σ H Q gd q => by
  refine ha F ρ own B σ H _ gd (Res.has_mono (Res.has_bind q) (fun dx q v B1 H1 s1 r1 => ?_) fun _ x => x)
  refine hb F ρ own B1 σ H1 _ (gd.step s1) (Res.has_mono (Res.has_bind q) (fun dy q w B2 H2 s2 r2 => ?_) fun _ x => x.step s1)
  exact ho F own B2 H2 v w dx dy Q ((gd.gr.step s1).step s2) (r1.step s2) r2 (Res.has_calm (hf dx dy) q fun d q v' B' H' s3 r3 => q v' B' H' ((s1.trans s2).trans s3) r3)
theorem ev_opN {r : R2} {f : D → D → Res (List D)} {ta tb : TE} {ga gb : Rho → Res D} (ho : OpN X r f) (hf : Calm f) (ha : EvB X W G ta ga) (hb : EvB X W G tb gb) : EvN X W G (tOp r ta tb) (bin f ga gb) := fun F ρ own B σ H Q gd q => by
  refine ha F ρ own B σ H _ gd (Res.has_mono (Res.has_bind q) (fun dx q v B1 H1 s1 r1 => ?_) fun _ x => x)
  refine hb F ρ own B1 σ H1 _ (gd.step s1) (Res.has_mono (Res.has_bind q) (fun dy q w B2 H2 s2 r2 => ?_) fun _ x => x.step s1)
  exact ho F own B2 H2 v w dx dy Q ((gd.gr.step s1).step s2) (r1.step s2) r2 (Res.has_calm (hf dx dy) q fun d q p vs B' H' s3 h1 h2 h3 h4 r3 => q p vs B' H' ((s1.trans s2).trans s3) h1 h2 h3 h4 r3)
theorem ej_bin {op : Operator} {f : D → D → Res D} {ga gb : Rho → Res D} (ho : ∃ r, OpR X (binaryOp op) r ∧ OpD X r f) (hf : Calm f) (ha : BJ X W G a ga) (hb : BJ X W G b gb) : EJ X W G (.BinOp a op b pos) (bin f ga gb) := by
  obtain ⟨r, h1, h2⟩ := ho
  obtain ⟨ta, pa, va⟩ := ha
  obtain ⟨tb, pb, vb⟩ := hb
  exact ⟨_, pe_op h1 pa pb, ev_op h2 hf va vb⟩
theorem nj_bin {op : Operator} {f : D → D → Res (List D)} {ga gb : Rho → Res D} (ho : ∃ r, OpR X (binaryOp op) r ∧ OpN X r f) (hf : Calm f) (ha : BJ X W G a ga) (hb : BJ X W G b gb) : NJ X W G (.BinOp a op b pos) (bin f ga gb) := by
  obtain ⟨r, h1, h2⟩ := ho
  obtain ⟨ta, pa, va⟩ := ha
  obtain ⟨tb, pb, vb⟩ := hb
  exact ⟨_, pe_op h1 pa pb, ev_opN h2 hf va vb⟩
theorem ej_cmp {op : CmpOp} {f : D → D → Res D} {ga gb : Rho → Res D} (ho : ∃ r, OpR X (compareOp op) r ∧ OpD X r f) (hf : Calm f) (hm : behindInMarks op b = false) (ha : BJ X W G a ga) (hb : BJ X W G b gb) : EJ X W G (.Compare a [op] [b] pos) (bin f ga gb) := by
  obtain ⟨r, h1, h2⟩ := ho
  obtain ⟨ta, pa, va⟩ := ha
  obtain ⟨tb, pb, vb⟩ := hb
  exact ⟨_, pe_cmpR h1 pa pb hm, ev_op h2 hf va vb⟩
end
end T
set_option Elab.async false
set_option linter.all false
set_option maxRecDepth 100000
set_option maxHeartbeats 4000000
namespace T
open PySem PySem.Spec PyProof.Rows L2
variable [Mg]
section
variable {K : PySem.W.Frag} {F B H B' H' : Hp} {own : Own} {x y v : V}
theorem Sn.int {i : Int} (h : Sn K own B H x (.int i)) : x = .int i := by
  cases h.frz rfl
  rfl
theorem Sn.str {i : Str} (h : Sn K own B H x (.str i)) : x = .str i := by
  cases h.frz rfl
  rfl
theorem Sn.bl {i : Bool} (h : Sn K own B H x (.bl i)) : x = .bl i := by
  cases h.frz rfl
  rfl
theorem Sn.non (h : Sn K own B H x .non) : x = .non := by
  cases h.frz rfl
  rfl
theorem Sn.ty {n : String} (h : Sn K own B H x (.ty n)) : x = .ty n := by
  cases h.frz rfl
  rfl
theorem Rp.tupI {ds : List D} (h : Rp K B x (.tup ds)) : ∃ a vs, x = .ref a ∧ SqT K B a vs ∧ RpA K B vs ds := by
  cases h with
  | tup h r => exact ⟨_, _, rfl, h, r⟩
theorem Sn.tup {ds : List D} (h : Sn K own B H x (.tup ds)) : ∃ a vs, x = .ref a ∧ SqT K B a vs ∧ RpA K B vs ds := (h.frz rfl).tupI
theorem Rp.scrI {ds : List D} (h : Rp K B x (.scr ds)) : ∃ a vs, x = .ref a ∧ SqL K B a vs ∧ RpA K B vs ds := by
  cases h with
  | scr h r => exact ⟨_, _, rfl, h, r⟩
theorem Sn.scr {ds : List D} (h : Sn K own B H x (.scr ds)) : ∃ a vs, x = .ref a ∧ SqL K B a vs ∧ RpA K B vs ds := (h.frz rfl).scrI
/-- a new tuple, a new list -/
theorem new_tup {Q : VK} {vs : List V} {ds : List D} (g : Ground F own B H) (r : RpA K B vs ds) (q : ∀ (v : V) (B' H' : Hp), Step own F B H B' H' → Rp K B' v (.tup ds) → Q v H') (p : Addr) (hp : H p = none) : Q (.ref p) (upd H p (.tup vs)) :=
  q (.ref p) (upd B p (.tup vs)) (upd H p (.tup vs)) (.new g _ hp) (.tup (.inl (.inl upd_same)) (r.mono (ext_upd (g.bfresh hp))))
theorem new_lst {Q : VK} {vs : List V} {ds : List D} (g : Ground F own B H) (r : RpA K B vs ds) (q : ∀ (v : V) (B' H' : Hp), Step own F B H B' H' → Rp K B' v (.lst ds) → Q v H') (p : Addr) (hp : H p = none) : Q (.ref p) (upd H p (.lst vs)) :=
  q (.ref p) (upd B p (.lst vs)) (upd H p (.lst vs)) (.new g _ hp) (.lst upd_same (r.mono (ext_upd (g.bfresh hp))))
theorem new_lstN {Q : VK} {vs : List V} {ds : List D} (g : Ground F own B H) (r : RpA K B vs ds)
    (q : ∀ (p : Addr) (vs : List V) (B' H' : Hp), Step own F B H B' H' → B' p = none → F p = none → own p = none → H' p = some (.lst vs) → RpA K B' vs ds → Q (.ref p) H') (p : Addr) (hp : H p = none) : Q (.ref p) (upd H p (.lst vs)) :=
  q p vs B (upd H p (.lst vs)) (.garbage g _ hp) (g.bfresh hp) (g.ffresh hp) (g.ofresh hp) upd_same r
end
def dAdd : D → D → Res D
  | .int i, .int j => .ok (.int (i + j))
  | .str i, .str j => if i.length + j.length ≤ sizeLine then .ok (.str (i ++ j)) else .no
  | .tup xs, .tup ys => if xs.length + ys.length ≤ sizeLine then .ok (.tup (xs ++ ys)) else .no
  | .lst xs, .lst ys => if xs.length + ys.length ≤ sizeLine then .ok (.lst (xs ++ ys)) else .no
  | _, _ => .no
/-- list + list, as a new list -/
def dCat : D → D → Res (List D)
  | .lst xs, .lst ys => if xs.length + ys.length ≤ sizeLine then .ok (xs ++ ys) else .no
  | _, _ => .no
def dSub : D → D → Res D
  | .int i, .int j => .ok (.int (i - j))
  | _, _ => .no
instance {i j : Int} : Decidable (CMulX i j) := inferInstanceAs (Decidable (_ ≤ _))
def dMul : D → D → Res D
  | .int i, .int j => if CMulX i j then .ok (.int (i * j)) else .no
  | _, _ => .no
/-- list * int, a new list -/
def dRep : D → D → Res (List D)
  | .lst xs, .int k => if -(2 ^ 63) ≤ k ∧ k < 2 ^ 63 ∧ xs.length * k.toNat ≤ sizeLine then .ok (List.replicate k.toNat xs).flatten else .no
  | _, _ => .no
def dDiv : D → D → Res D
  | .int i, .int j => if 0 < j ∧ j.natAbs.log2 < 9000 then .ok (.int (i / j)) else .no
  | _, _ => .no
def dMod : D → D → Res D
  | .int i, .int j => if 0 < j then .ok (.int (i % j)) else .no
  | _, _ => .no
theorem RpA.flatR {K : PySem.W.Frag} {B : Hp} {vs : List V} {ds : List D} (r : RpA K B vs ds) : ∀ n : Nat, RpA K B (List.replicate n vs).flatten (List.replicate n ds).flatten
  | 0 => .nil
  | n + 1 => by
    rw [List.replicate_succ, List.replicate_succ, List.flatten_cons, List.flatten_cons]
    exact r.app (RpA.flatR r n)
section
variable {X : Cx}
omit [Mg] in
theorem calm_add : Calm dAdd := fun x y e h => by
  unfold dAdd at h
  split at h <;> (try split at h) <;> cases h
omit [Mg] in
theorem calm_sub : Calm dSub := fun x y e h => by
  unfold dSub at h
  split at h <;> (try split at h) <;> cases h
omit [Mg] in
theorem calm_mul : Calm dMul := fun x y e h => by
  unfold dMul at h
  split at h <;> (try split at h) <;> cases h
omit [Mg] in
theorem calm_rep : Calm dRep := fun x y e h => by
  unfold dRep at h
  split at h <;> (try split at h) <;> cases h
omit [Mg] in
theorem calm_div : Calm dDiv := fun x y e h => by
  unfold dDiv at h
  split at h <;> (try split at h) <;> cases h
omit [Mg] in
theorem calm_mod : Calm dMod := fun x y e h => by
  unfold dMod at h
  split at h <;> (try split at h) <;> cases h
theorem bin_add : ∃ r, OpR X (binaryOp .Add) r ∧ OpD X r dAdd := by
  refine ⟨_, op_add.or (op_add_str.or (op_catA.or op_cat)), fun F own B H x y dx dy Q g hx hy q => ?_⟩
  unfold dAdd at q
  split at q
  · cases hx.int
    cases hy.int
    exact .inl ⟨_, _, rfl, rfl, q _ _ _ (.refl g) (.int _)⟩
  · cases hx.str
    cases hy.str
    split at q
    · rename_i hz
      exact .inr (.inl ⟨_, _, rfl, rfl, hz, q _ _ _ (.refl g) (.str _)⟩)
    · exact q.elim
  · rename_i xs ys
    obtain ⟨a, vs, rfl, ha, ra⟩ := hx.tup
    obtain ⟨b, ws, rfl, hb, rb⟩ := hy.tup
    split at q
    · rename_i hz
      refine .inr (.inr (.inl ⟨a, b, vs, ws, rfl, rfl, Ext.seqT g.same ha, Ext.seqT g.same hb, by rw [ra.len, rb.len]; exact hz, fun e => ?_, fun _ e => ?_, fun _ _ p hp => new_tup g (ra.app rb) q p hp⟩))
      · subst e
        cases ra
        exact q _ _ _ (.refl g) (.tup hb rb)
      · subst e
        cases rb
        rw [List.append_nil] at q
        exact q _ _ _ (.refl g) (.tup ha ra)
    · exact q.elim
  · rename_i xs ys
    obtain ⟨a, vs, rfl, ha, ra⟩ := hx.lst g
    obtain ⟨b, ws, rfl, hb, rb⟩ := hy.lst g
    split at q
    · rename_i hz
      exact .inr (.inr (.inr ⟨a, b, vs, ws, rfl, rfl, ha, hb, by rw [ra.len, rb.len]; exact hz, fun p hp => new_lst g (ra.app rb) q p hp⟩))
    · exact q.elim
  · exact q.elim
theorem bin_sub : ∃ r, OpR X (binaryOp .Sub) r ∧ OpD X r dSub := by
  refine ⟨_, op_sub, fun F own B H x y dx dy Q g hx hy q => ?_⟩
  unfold dSub at q
  split at q
  · cases hx.int
    cases hy.int
    exact ⟨_, _, rfl, rfl, q _ _ _ (.refl g) (.int _)⟩
  · exact q.elim
theorem bin_mul : ∃ r, OpR X (binaryOp .Mult) r ∧ OpD X r dMul := by
  refine ⟨_, op_mulX, fun F own B H x y dx dy Q g hx hy q => ?_⟩
  unfold dMul at q
  split at q
  · cases hx.int
    cases hy.int
    split at q
    · rename_i hz
      exact ⟨_, _, rfl, rfl, hz, q _ _ _ (.refl g) (.int _)⟩
    · exact q.elim
  · exact q.elim
theorem bin_rep : ∃ r, OpR X (binaryOp .Mult) r ∧ OpN X r dRep := by
  refine ⟨_, op_rep, fun F own B H x y dx dy Q g hx hy q => ?_⟩
  unfold dRep at q
  split at q
  · obtain ⟨a, vs, rfl, ha, ra⟩ := hx.lst g
    cases hy.int
    split at q
    · rename_i hz
      exact ⟨a, _, vs, rfl, rfl, ha, hz.1, hz.2.1, by rw [ra.len]; exact hz.2.2, fun p hp => new_lstN g (ra.flatR _) q p hp⟩
    · exact q.elim
  · exact q.elim
theorem bin_div : ∃ r, OpR X (binaryOp .FloorDiv) r ∧ OpD X r dDiv := by
  refine ⟨_, op_fdivW, fun F own B H x y dx dy Q g hx hy q => ?_⟩
  unfold dDiv at q
  split at q
  · cases hx.int
    cases hy.int
    split at q
    · rename_i hz
      exact ⟨_, _, rfl, rfl, hz, q _ _ _ (.refl g) (.int _)⟩
    · exact q.elim
  · exact q.elim
theorem bin_mod : ∃ r, OpR X (binaryOp .Mod) r ∧ OpD X r dMod := by
  refine ⟨_, op_mod, fun F own B H x y dx dy Q g hx hy q => ?_⟩
  unfold dMod at q
  split at q
  · cases hx.int
    cases hy.int
    split at q
    · rename_i hz
      exact ⟨_, _, rfl, rfl, hz, q _ _ _ (.refl g) (.int _)⟩
    · exact q.elim
  · exact q.elim
end
mutual
def D.py : D → Option PyData
  | .non => some .none
  | .bl b => some (.bool b)
  | .int i => some (.int i)
  | .str s => some (.str s)
  | .lst xs => (D.pyA xs).map .list
  | .tup xs => (D.pyA xs).map .tuple
  | .scr xs => (D.pyA xs).map .list
  | .dct _ => none
  | .ty _ => none
  | .exc _ => none
  | .ins _ _ => none
def D.pyA : List D → Option (List PyData)
  | [] => some []
  | x :: xs => (D.py x).bind fun d => (D.pyA xs).map fun ds => d :: ds
end
mutual
/-- == of data -/
def D.eqb : D → D → Bool
  | .non, .non => true
  | .bl a, .bl b => a == b
  | .bl a, .int j => (if a then 1 else 0) == j
  | .int i, .bl b => i == (if b then 1 else 0)
  | .int i, .int j => i == j
  | .str x, .str y => x == y
  | .lst xs, .lst ys => D.eqbA xs ys
  | .lst xs, .scr ys => D.eqbA xs ys
  | .scr xs, .lst ys => D.eqbA xs ys
  | .scr xs, .scr ys => D.eqbA xs ys
  | .tup xs, .tup ys => D.eqbA xs ys
  | _, _ => false
def D.eqbA : List D → List D → Bool
  | [], [] => true
  | x :: xs, y :: ys => D.eqb x y && D.eqbA xs ys
  | _, _ => false
end
mutual
/-- data of at most n levels -/
def D.dat : Nat → D → Bool
  | _, .non => true
  | _, .bl _ => true
  | _, .int _ => true
  | _, .str _ => true
  | n + 1, .lst xs => D.datA n xs
  | n + 1, .scr xs => D.datA n xs
  | n + 1, .tup xs => D.datA n xs
  | _, _ => false
def D.datA : Nat → List D → Bool
  | _, [] => true
  | n, x :: xs => D.dat n x && D.datA n xs
end
omit [Mg] in
mutual
theorem D.dat_py : ∀ (d : D) (n : Nat), D.dat n d = true → ∃ p, d.py = some p ∧ p.plain = true ∧ p.depth ≤ n
  | .non, _, _ => ⟨_, rfl, rfl, Nat.zero_le _⟩
  | .bl b, _, _ => ⟨_, rfl, rfl, Nat.zero_le _⟩
  | .int b, _, _ => ⟨_, rfl, rfl, Nat.zero_le _⟩
  | .str b, _, _ => ⟨_, rfl, rfl, Nat.zero_le _⟩
  | .lst xs, n, h => by
    cases n with
    | zero => simp [D.dat] at h
    | succ n =>
      obtain ⟨p, h1, h2, h3⟩ := D.datA_py xs n (by simpa [D.dat] using h)
      exact ⟨.list p, by simp [D.py, h1], by simpa [PyData.plain] using h2, by simpa [PyData.depth] using h3⟩
  | .scr xs, n, h => by
    cases n with
    | zero => simp [D.dat] at h
    | succ n =>
      obtain ⟨p, h1, h2, h3⟩ := D.datA_py xs n (by simpa [D.dat] using h)
      exact ⟨.list p, by simp [D.py, h1], by simpa [PyData.plain] using h2, by simpa [PyData.depth] using h3⟩
  | .tup xs, n, h => by
    cases n with
    | zero => simp [D.dat] at h
    | succ n =>
      obtain ⟨p, h1, h2, h3⟩ := D.datA_py xs n (by simpa [D.dat] using h)
      exact ⟨.tuple p, by simp [D.py, h1], by simpa [PyData.plain] using h2, by simpa [PyData.depth] using h3⟩
  | .dct _, n, h => by
    cases n <;> simp [D.dat] at h
  | .exc _, n, h => by
    cases n <;> simp [D.dat] at h
  | .ins _ _, n, h => by
    cases n <;> simp [D.dat] at h
  | .ty _, n, h => by
    cases n <;> simp [D.dat] at h
theorem D.datA_py : ∀ (ds : List D) (n : Nat), D.datA n ds = true → ∃ ps, D.pyA ds = some ps ∧ PyData.plainAll ps = true ∧ PyData.depthAll ps ≤ n
  | [], _, _ => ⟨[], rfl, rfl, Nat.zero_le _⟩
  | d :: ds, n, h => by
    have h' : D.dat n d = true ∧ D.datA n ds = true := by simpa [D.datA] using h
    obtain ⟨p, h1, h2, h3⟩ := D.dat_py d n h'.1
    obtain ⟨ps, k1, k2, k3⟩ := D.datA_py ds n h'.2
    exact ⟨p :: ps, by simp [D.pyA, h1, k1], by simp [PyData.plainAll, h2, k2], by simp [PyData.depthAll]; omega⟩
end
omit [Mg] in
mutual
theorem D.eqb_py : ∀ (d e : D) (p q : PyData), d.py = some p → e.py = some q → PyData.eqv p q = d.eqb e
  | .non, e, p, q, hp, hq => by
    cases hp
    cases e <;> simp [D.py] at hq <;> (try subst hq) <;> (try (obtain ⟨_, _, rfl⟩ := hq)) <;> rfl
  | .bl b, e, p, q, hp, hq => by
    cases hp
    cases e <;> simp [D.py] at hq <;> (try subst hq) <;> (try (obtain ⟨_, _, rfl⟩ := hq)) <;> rfl
  | .int b, e, p, q, hp, hq => by
    cases hp
    cases e <;> simp [D.py] at hq <;> (try subst hq) <;> (try (obtain ⟨_, _, rfl⟩ := hq)) <;> rfl
  | .str b, e, p, q, hp, hq => by
    cases hp
    cases e <;> simp [D.py] at hq <;> (try subst hq) <;> (try (obtain ⟨_, _, rfl⟩ := hq)) <;> rfl
  | .lst xs, e, p, q, hp, hq => by
    simp [D.py] at hp
    obtain ⟨ps, hp, rfl⟩ := hp
    cases e <;> simp [D.py] at hq <;> (try subst hq) <;> (try (obtain ⟨qs, hq, rfl⟩ := hq)) <;> first
      | rfl
      | exact D.eqbA_py xs _ ps qs hp hq
  | .scr xs, e, p, q, hp, hq => by
    simp [D.py] at hp
    obtain ⟨ps, hp, rfl⟩ := hp
    cases e <;> simp [D.py] at hq <;> (try subst hq) <;> (try (obtain ⟨qs, hq, rfl⟩ := hq)) <;> first
      | rfl
      | exact D.eqbA_py xs _ ps qs hp hq
  | .tup xs, e, p, q, hp, hq => by
    simp [D.py] at hp
    obtain ⟨ps, hp, rfl⟩ := hp
    cases e <;> simp [D.py] at hq <;> (try subst hq) <;> (try (obtain ⟨qs, hq, rfl⟩ := hq)) <;> first
      | rfl
      | exact D.eqbA_py xs _ ps qs hp hq
  | .dct _, e, p, q, hp, hq => by simp [D.py] at hp
  | .ty _, e, p, q, hp, hq => by simp [D.py] at hp
  | .exc _, e, p, q, hp, hq => by simp [D.py] at hp
  | .ins _ _, e, p, q, hp, hq => by simp [D.py] at hp
theorem D.eqbA_py : ∀ (ds es : List D) (ps qs : List PyData), D.pyA ds = some ps → D.pyA es = some qs → PyData.eqvAll ps qs = D.eqbA ds es
  | [], [], ps, qs, hp, hq => by
    cases hp
    cases hq
    rfl
  | [], e :: es, ps, qs, hp, hq => by
    cases hp
    simp [D.pyA, Option.bind_eq_some_iff] at hq
    obtain ⟨_, _, _, _, rfl⟩ := hq
    rfl
  | d :: ds, [], ps, qs, hp, hq => by
    cases hq
    simp [D.pyA, Option.bind_eq_some_iff] at hp
    obtain ⟨_, _, _, _, rfl⟩ := hp
    rfl
  | d :: ds, e :: es, ps, qs, hp, hq => by
    simp [D.pyA, Option.bind_eq_some_iff] at hp hq
    obtain ⟨p, h1, ps', h2, rfl⟩ := hp
    obtain ⟨q, k1, qs', k2, rfl⟩ := hq
    show (PyData.eqv p q && PyData.eqvAll ps' qs') = (D.eqb d e && D.eqbA ds es)
    rw [D.eqb_py d e p q h1 k1, D.eqbA_py ds es ps' qs' h2 k2]
end
section
variable {X : Cx} {pins : List (Addr × Obj)} {σ : L2.St} {H : Hp} {s : Shared}
mutual
theorem Rp.reads (I : Inv X pins σ H s) : ∀ (d : D) (v : V) (u : Value) (p : PyData), Rp X.K H v d → RelV v u → d.py = some p → ∃ as, Reads s.heap u p as
  | .non, _, _, _, h, r, e => by
    cases h
    cases r
    cases e
    exact ⟨_, Reads.none⟩
  | .bl b, _, _, _, h, r, e => by
    cases h
    cases r
    cases e
    exact ⟨_, Reads.bool b⟩
  | .int i, _, _, _, h, r, e => by
    cases h
    obtain ⟨t, rfl⟩ := r
    cases e
    exact ⟨_, Reads.int i t⟩
  | .str x, _, _, _, h, r, e => by
    cases h
    obtain ⟨t, rfl⟩ := r
    cases e
    exact ⟨_, Reads.str x t⟩
  | .lst ds, _, _, _, h, r, e => by
    simp [D.py] at e
    obtain ⟨ps, e, rfl⟩ := e
    cases h with
    | lst hs ha =>
      cases r
      obtain ⟨its, rv, ⟨o, n, ho, hc, _, hd⟩, _⟩ := I.list (xs := _) (.inl (.inl hs))
      obtain ⟨as, hr⟩ := RpA.reads I ds _ its ps ha rv e
      exact ⟨_, Reads.list ho hc hd hr⟩
  | .scr ds, _, _, _, h, r, e => by
    simp [D.py] at e
    obtain ⟨ps, e, rfl⟩ := e
    cases h with
    | scr hs ha =>
      cases r
      obtain ⟨its, rv, ⟨o, n, ho, hc, _, hd⟩, _⟩ := I.list hs
      obtain ⟨as, hr⟩ := RpA.reads I ds _ its ps ha rv e
      exact ⟨_, Reads.list ho hc hd hr⟩
  | .tup ds, _, _, _, h, r, e => by
    simp [D.py] at e
    obtain ⟨ps, e, rfl⟩ := e
    cases h with
    | tup hs ha =>
      cases r
      obtain ⟨its, rv, ⟨o, ho, hc, n, hd⟩, _⟩ := I.tuple hs
      obtain ⟨as, hr⟩ := RpA.reads I ds _ its ps ha rv e
      exact ⟨_, Reads.tuple ho hc hd hr⟩
  | .dct _, _, _, _, _, _, e => by simp [D.py] at e
  | .exc _, _, _, _, _, _, e => by simp [D.py] at e
  | .ins _ _, _, _, _, _, _, e => by simp [D.py] at e
  | .ty _, _, _, _, _, _, e => by simp [D.py] at e
theorem RpA.reads (I : Inv X pins σ H s) : ∀ (ds : List D) (vs : List V) (us : List Value) (ps : List PyData), RpA X.K H vs ds → Vals vs us → D.pyA ds = some ps → ∃ as, ReadsAll s.heap us ps as
  | [], _, _, _, h, r, e => by
    cases h
    cases r
    cases e
    exact ⟨_, ReadsAll.nil⟩
  | d :: ds, _, _, _, h, r, e => by
    simp [D.pyA, Option.bind_eq_some_iff] at e
    obtain ⟨p, h1, ps', h2, rfl⟩ := e
    cases h with
    | cons g1 g2 =>
      cases r with
      | cons r1 r2 =>
        obtain ⟨as, q1⟩ := Rp.reads I d _ _ p g1 r1 h1
        obtain ⟨bs, q2⟩ := RpA.reads I ds _ _ ps' g2 r2 h2
        exact ⟨_, ReadsAll.cons q1 q2⟩
end
end
def dEq (x y : D) : Res D := if D.dat 60 x = true ∧ D.dat 60 y = true then .ok (.bl (x.eqb y)) else .no
def dNe (x y : D) : Res D := if D.dat 60 x = true ∧ D.dat 60 y = true then .ok (.bl (!x.eqb y)) else .no
/-- x in c -/
def dIn : D → D → Res D
  | x, .lst ys => if D.dat 60 x = true ∧ D.datA 60 ys = true then .ok (.bl (ys.any fun y => y.eqb x)) else .no
  | x, .tup ys => if D.dat 60 x = true ∧ D.datA 60 ys = true then .ok (.bl (ys.any fun y => y.eqb x)) else .no
  | .str i, .str j => .ok (.bl (!(Builtin.Str.occurrences j i 0 j.length 1).isEmpty))
  | _, _ => .no
def dNotB (d : D) : Res D := match d with
  | .bl b => .ok (.bl (!b))
  | _ => .no
def dLt : D → D → Res D
  | .int i, .int j => .ok (.bl (decide (i < j)))
  | .str i, .str j => .ok (.bl (decide (i.cps.toList < j.cps.toList)))
  | _, _ => .no
def dLe : D → D → Res D
  | .int i, .int j => .ok (.bl (decide (i ≤ j)))
  | .str i, .str j => .ok (.bl (!decide (j.cps.toList < i.cps.toList)))
  | _, _ => .no
def dGt : D → D → Res D
  | .int i, .int j => .ok (.bl (decide (j < i)))
  | .str i, .str j => .ok (.bl (decide (j.cps.toList < i.cps.toList)))
  | _, _ => .no
def dGe : D → D → Res D
  | .int i, .int j => .ok (.bl (decide (j ≤ i)))
  | .str i, .str j => .ok (.bl (!decide (i.cps.toList < j.cps.toList)))
  | _, _ => .no
/-- is None, True, False -/
def D.isNon : D → Bool
  | .non => true
  | _ => false
def dIs : D → D → Res D
  | x, .non => .ok (.bl x.isNon)
  | .bl a, .bl b => .ok (.bl (a == b))
  | _, _ => .no
def dIsNot (x c : D) : Res D := (dIs x c).bind dNotB
section
variable {X : Cx}
omit [Mg] in
theorem calm_eq : Calm dEq := fun x y e h => by
  unfold dEq at h
  split at h <;> cases h
omit [Mg] in
theorem calm_ne : Calm dNe := fun x y e h => by
  unfold dNe at h
  split at h <;> cases h
omit [Mg] in
theorem calm_in : Calm dIn := fun x y e h => by
  unfold dIn at h
  split at h <;> (try split at h) <;> cases h
omit [Mg] in
theorem calm_notB {r : Res D} (n : ∀ e, r ≠ .ex e) : ∀ e, r.bind dNotB ≠ .ex e := fun e h => by
  cases r with
  | ok a =>
    unfold dNotB at h
    simp only [Res.bind_ok] at h
    split at h <;> cases h
  | ex e' => exact n e' rfl
  | no => cases h
omit [Mg] in
theorem calm_lt : Calm dLt := fun x y e h => by
  unfold dLt at h
  split at h <;> cases h
omit [Mg] in
theorem calm_le : Calm dLe := fun x y e h => by
  unfold dLe at h
  split at h <;> cases h
omit [Mg] in
theorem calm_gt : Calm dGt := fun x y e h => by
  unfold dGt at h
  split at h <;> cases h
omit [Mg] in
theorem calm_ge : Calm dGe := fun x y e h => by
  unfold dGe at h
  split at h <;> cases h
omit [Mg] in
theorem calm_is : Calm dIs := fun x y e h => by
  unfold dIs at h
  split at h <;> cases h
omit [Mg] in
theorem calm_isNot : Calm dIsNot := fun x y => calm_notB (calm_is x y)
def rEqT (X : Cx) (neg : Bool) : R2 := fun x y H Q => ∃ dx dy, Rp X.K H x dx ∧ Rp X.K H y dy ∧ D.dat 60 dx = true ∧ D.dat 60 dy = true ∧ Q (.bl (if neg then !dx.eqb dy else dx.eqb dy)) H
theorem op_eqT (hu : X.A.units + 64 < cLine) : OpR X (compareOp .Eq) (rEqT X false) := by
  intro pins s σ H x y v u Q I rx ry h
  obtain ⟨d, e, hd, he, sd, se, q⟩ := h
  obtain ⟨p, p1, p2, p3⟩ := D.dat_py d 60 sd
  obtain ⟨p', p1', p2', p3'⟩ := D.dat_py e 60 se
  obtain ⟨as, r1⟩ := Rp.reads I d x v p hd rx p1
  obtain ⟨bs, r2⟩ := Rp.reads I e y u p' he ry p1'
  refine SeqAt.eq_plain r1 r2 p2 p2' ?_ ⟨.bl _, H, I, by rw [D.eqb_py d e p p' p1 p1']; rfl, q⟩
  have : min p.depth p'.depth ≤ p.depth := Nat.min_le_left _ _
  omega
theorem op_neT (hu : X.A.units + 64 < cLine) : OpR X (compareOp .NotEq) (rEqT X true) := by
  intro pins s σ H x y v u Q I rx ry h
  obtain ⟨d, e, hd, he, sd, se, q⟩ := h
  obtain ⟨p, p1, p2, p3⟩ := D.dat_py d 60 sd
  obtain ⟨p', p1', p2', p3'⟩ := D.dat_py e 60 se
  obtain ⟨as, r1⟩ := Rp.reads I d x v p hd rx p1
  obtain ⟨bs, r2⟩ := Rp.reads I e y u p' he ry p1'
  refine SeqAt.ne_plain r1 r2 p2 p2' ?_ ⟨.bl _, H, I, by rw [D.eqb_py d e p p' p1 p1']; rfl, q⟩
  have : min p.depth p'.depth ≤ p.depth := Nat.min_le_left _ _
  omega
theorem cmp_eq (hu : X.A.units + 64 < cLine) : ∃ r, OpR X (compareOp .Eq) r ∧ OpD X r dEq := by
  refine ⟨_, op_eqT hu, fun F own B H x y dx dy Q g hx hy q => ?_⟩
  unfold dEq at q
  split at q
  · rename_i hz
    exact ⟨dx, dy, hx.rd g, hy.rd g, hz.1, hz.2, q _ _ _ (.refl g) (.bl _)⟩
  · exact q.elim
theorem cmp_ne (hu : X.A.units + 64 < cLine) : ∃ r, OpR X (compareOp .NotEq) r ∧ OpD X r dNe := by
  refine ⟨_, op_neT hu, fun F own B H x y dx dy Q g hx hy q => ?_⟩
  unfold dNe at q
  split at q
  · rename_i hz
    exact ⟨dx, dy, hx.rd g, hy.rd g, hz.1, hz.2, q _ _ _ (.refl g) (.bl _)⟩
  · exact q.elim
omit [Mg] in
theorem D.any_py {d : D} {p : PyData} (e : d.py = some p) : ∀ (ds : List D) (ps : List PyData), D.pyA ds = some ps → ps.any (fun y => PyData.eqv y p) = ds.any (fun y => y.eqb d)
  | [], ps, h => by
    cases h
    rfl
  | x :: xs, ps, h => by
    simp [D.pyA, Option.bind_eq_some_iff] at h
    obtain ⟨q, h1, qs, h2, rfl⟩ := h
    simp only [List.any_cons]
    rw [D.eqb_py x d q p h1 e, D.any_py e xs qs h2]
def rInT (X : Cx) (neg : Bool) : R2 := fun x y H Q => ∃ dx ds a vs, Rp X.K H x dx ∧ y = .ref a ∧ ((H a = some (.lst vs)) ∨ SqT X.K H a vs) ∧ RpA X.K H vs ds ∧ D.dat 60 dx = true ∧ D.datA 60 ds = true ∧
  Q (.bl (if neg then !(ds.any fun y => y.eqb dx) else ds.any fun y => y.eqb dx)) H
theorem op_inT (hu : X.A.units + 64 < cLine) : OpR X (compareOp .In) (rInT X false) := by
  intro pins s σ H x y v u Q I rx ry h
  obtain ⟨d, ds, a, vs, hd, rfl, ha, hr, sd, se, q⟩ := h
  obtain ⟨p, p1, p2, p3⟩ := D.dat_py d 60 sd
  obtain ⟨ps, p1', p2', p3'⟩ := D.datA_py ds 60 se
  obtain ⟨as, r1⟩ := Rp.reads I d x v p hd rx p1
  have hm : min (PyData.depthAll ps) p.depth ≤ p.depth := Nat.min_le_right _ _
  rcases ha with ha | ha
  · obtain ⟨bs, r2⟩ := Rp.reads I (.lst ds) (.ref a) u (.list ps) (.lst ha hr) ry (by simp [D.py, p1'])
    refine SeqAt.in_list_data r2 r1 p2' p2 (by omega) ⟨.bl _, H, I, by rw [D.any_py p1 ds ps p1']; rfl, q⟩
  · obtain ⟨bs, r2⟩ := Rp.reads I (.tup ds) (.ref a) u (.tuple ps) (.tup ha hr) ry (by simp [D.py, p1'])
    refine SeqAt.in_tuple_data r2 r1 p2' p2 (by omega) ⟨.bl _, H, I, by rw [D.any_py p1 ds ps p1']; rfl, q⟩
theorem cmp_in (hu : X.A.units + 64 < cLine) : ∃ r, OpR X (compareOp .In) r ∧ OpD X r dIn := by
  refine ⟨_, (op_inT hu).or op_in_str, fun F own B H x y dx dy Q g hx hy q => ?_⟩
  unfold dIn at q
  split at q
  · obtain ⟨a, vs, rfl, ha, ra⟩ := hy.lst g
    split at q
    · rename_i hz
      exact .inl ⟨_, _, a, vs, hx.rd g, rfl, .inl ha, ra.mono g.same, hz.1, hz.2, q _ _ _ (.refl g) (.bl _)⟩
    · exact q.elim
  · obtain ⟨a, vs, rfl, ha, ra⟩ := hy.tup
    split at q
    · rename_i hz
      exact .inl ⟨_, _, a, vs, hx.rd g, rfl, .inr (Ext.seqT g.same ha), ra.mono g.same, hz.1, hz.2, q _ _ _ (.refl g) (.bl _)⟩
    · exact q.elim
  · cases hx.str
    cases hy.str
    exact .inr ⟨_, _, rfl, rfl, q _ _ _ (.refl g) (.bl _)⟩
  · exact q.elim
theorem cmp_lt : ∃ r, OpR X (compareOp .Lt) r ∧ OpD X r dLt := by
  refine ⟨_, op_lt.or op_lt_str, fun F own B H x y dx dy Q g hx hy q => ?_⟩
  unfold dLt at q
  split at q
  · cases hx.int
    cases hy.int
    exact .inl ⟨_, _, rfl, rfl, q _ _ _ (.refl g) (.bl _)⟩
  · cases hx.str
    cases hy.str
    exact .inr ⟨_, _, rfl, rfl, q _ _ _ (.refl g) (.bl _)⟩
  · exact q.elim
theorem cmp_le : ∃ r, OpR X (compareOp .LtE) r ∧ OpD X r dLe := by
  refine ⟨_, op_le.or op_le_str, fun F own B H x y dx dy Q g hx hy q => ?_⟩
  unfold dLe at q
  split at q
  · cases hx.int
    cases hy.int
    exact .inl ⟨_, _, rfl, rfl, q _ _ _ (.refl g) (.bl _)⟩
  · cases hx.str
    cases hy.str
    exact .inr ⟨_, _, rfl, rfl, q _ _ _ (.refl g) (.bl _)⟩
  · exact q.elim
theorem cmp_gt : ∃ r, OpR X (compareOp .Gt) r ∧ OpD X r dGt := by
  refine ⟨_, op_gt.or op_gt_str, fun F own B H x y dx dy Q g hx hy q => ?_⟩
  unfold dGt at q
  split at q
  · cases hx.int
    cases hy.int
    exact .inl ⟨_, _, rfl, rfl, q _ _ _ (.refl g) (.bl _)⟩
  · cases hx.str
    cases hy.str
    exact .inr ⟨_, _, rfl, rfl, q _ _ _ (.refl g) (.bl _)⟩
  · exact q.elim
theorem cmp_ge : ∃ r, OpR X (compareOp .GtE) r ∧ OpD X r dGe := by
  refine ⟨_, op_ge.or op_ge_str, fun F own B H x y dx dy Q g hx hy q => ?_⟩
  unfold dGe at q
  split at q
  · cases hx.int
    cases hy.int
    exact .inl ⟨_, _, rfl, rfl, q _ _ _ (.refl g) (.bl _)⟩
  · cases hx.str
    cases hy.str
    exact .inr ⟨_, _, rfl, rfl, q _ _ _ (.refl g) (.bl _)⟩
  · exact q.elim
theorem Sn.isNon {K : PySem.W.Frag} {F B H : Hp} {own : Own} {x : V} {d : D} (h : Sn K own B H x d) (g : Ground F own B H) : decide (x = .non) = d.isNon := by
  have r := h.rd g
  cases r <;> rfl
theorem cmp_is : ∃ r, OpR X (compareOp .Is) r ∧ OpD X r dIs := by
  refine ⟨_, op_isN.or op_is_bl, fun F own B H x y dx dy Q g hx hy q => ?_⟩
  unfold dIs at q
  split at q
  · cases hy.non
    refine .inl ⟨rfl, ?_⟩
    rw [hx.isNon g]
    exact q _ _ _ (.refl g) (.bl _)
  · cases hx.bl
    cases hy.bl
    refine .inr ⟨_, _, rfl, rfl, ?_⟩
    rw [Bool.beq_eq_decide_eq] at q
    exact q _ _ _ (.refl g) (.bl _)
  · exact q.elim
theorem cmp_isNot : ∃ r, OpR X (compareOp .IsNot) r ∧ OpD X r dIsNot := by
  refine ⟨_, op_notN.or op_isnot_bl, fun F own B H x y dx dy Q g hx hy q => ?_⟩
  unfold dIsNot dIs at q
  split at q
  · cases hy.non
    refine .inl ⟨rfl, ?_⟩
    rw [hx.isNon g]
    exact q _ _ _ (.refl g) (.bl _)
  · cases hx.bl
    cases hy.bl
    refine .inr ⟨_, _, rfl, rfl, ?_⟩
    rw [Bool.beq_eq_decide_eq] at q
    exact q _ _ _ (.refl g) (.bl _)
  · exact q.elim
end
end T
set_option Elab.async false
set_option linter.all false
set_option maxRecDepth 100000
set_option maxHeartbeats 4000000
namespace T
open PySem PySem.Spec PyProof.Rows L2
variable [Mg]
section
variable {X : Cx} {W : WX} {G : List Mode} {e a b c : Expr} {pos : Pos}
def toB (g : Rho → Res D) : Rho → Res Bool := fun ρ => (g ρ).bind fun d => match d with
  | .bl b => .ok b
  | _ => .no
/-- any value's truth -/
def dTru : D → Res Bool
  | .non => .ok false
  | .bl b => .ok b
  | .int i => .ok (i != 0)
  | .str y => if y.length ≤ sizeLine then .ok (y.length != 0) else .no
  | .lst xs => .ok (!xs.isEmpty)
  | .tup xs => .ok (!xs.isEmpty)
  | .scr xs => .ok (!xs.isEmpty)
  | _ => .no
theorem ev_toB {t : TE} {g : Rho → Res D} (h : EvB X W G t g) : EvT X W G (tB t) (toB g) := fun F ρ own B σ H Q gd q => by
  refine h F ρ own B σ H _ gd (Res.has_mono (Res.has_bind q) (fun d q v B' H' s r => ?_) fun _ x => x)
  cases d with
  | bl b =>
    cases r.bl
    exact ⟨b, rfl, q B' H' s⟩
  | _ => exact q.elim
theorem RpA.emp {K : PySem.W.Frag} {B : Hp} {vs : List V} {ds : List D} (r : RpA K B vs ds) : vs.isEmpty = ds.isEmpty := by
  cases r <;> rfl
theorem ev_tru {t : TE} {g : Rho → Res D} (h : EvB X W G t g) : EvT X W G (fun σ H Q => t σ H fun x H' => ∃ k, TruV X.K x H' k ∧ Q k H') (fun ρ => (g ρ).bind dTru) := fun F ρ own B σ H Q gd q => by
  refine h F ρ own B σ H _ gd (Res.has_mono (Res.has_bind q) (fun d q v B' H' s r => ?_) fun _ x => x)
  have g' := gd.gr.step s
  cases d with
  | non =>
    cases r.non
    exact ⟨_, rfl, q B' H' s⟩
  | bl b =>
    cases r.bl
    exact ⟨_, rfl, q B' H' s⟩
  | int b =>
    cases r.int
    exact ⟨_, rfl, q B' H' s⟩
  | str y =>
    cases r.str
    simp only [dTru] at q
    split at q
    · rename_i hz
      refine ⟨_, ⟨hz, rfl⟩, ?_⟩
      have e : ((y.length : Int) != 0) = (y.length != 0) := by
        rw [Bool.eq_iff_iff]
        simp
      rw [e]
      exact q B' H' s
    · exact q.elim
  | lst xs =>
    obtain ⟨l, vs, rfl, hl, rv⟩ := r.lst g'
    refine ⟨_, .inl ⟨vs, .inl (.inl hl), rfl⟩, ?_⟩
    rw [rv.emp]
    exact q B' H' s
  | tup xs =>
    obtain ⟨l, vs, rfl, hl, rv⟩ := r.tup
    refine ⟨_, .inr (.inl ⟨vs, Ext.seqT g'.same hl, rfl⟩), ?_⟩
    rw [rv.emp]
    exact q B' H' s
  | scr xs =>
    obtain ⟨l, vs, rfl, hl, rv⟩ := r.scr
    refine ⟨_, .inl ⟨vs, Same.seq g'.same hl, rfl⟩, ?_⟩
    rw [rv.emp]
    exact q B' H' s
  | dct _ => exact q.elim
  | ins _ _ => exact q.elim
  | ty _ => exact q.elim
  | exc _ => exact q.elim
theorem tj_tru {g : Rho → Res D} (h : BJ X W G e g) (he : ∀ whole, isTrue e X.env whole = (do let v ← whole; standAt e.pos; holding [v] (truthy v)) := by intro _; rfl) : TJ X W G e (fun ρ => (g ρ).bind dTru) :=
  let ⟨_, p, v⟩ := h; ⟨_, pt_truth p he, ev_tru v⟩
def andB (g h : Rho → Res Bool) : Rho → Res Bool := fun ρ => (g ρ).bind fun b => if b = true then h ρ else .ok false
def orB (g h : Rho → Res Bool) : Rho → Res Bool := fun ρ => (g ρ).bind fun b => if b = true then .ok true else h ρ
def notB (g : Rho → Res Bool) : Rho → Res Bool := fun ρ => (g ρ).bind fun b => .ok (!b)
theorem ev_and {t u : TT} {g h : Rho → Res Bool} (ht : EvT X W G t g) (hu : EvT X W G u h) : EvT X W G (tAnd t u) (andB g h) := fun F ρ own B σ H Q gd q => by
  refine ht F ρ own B σ H _ gd (Res.has_mono (Res.has_bind q) (fun b q B' H' s => ?_) fun _ x => x)
  cases b with
  | true => exact hu F ρ own B' σ H' Q (gd.step s) (Res.has_mono q (fun b q B2 H2 s2 => q B2 H2 (s.trans s2)) fun _ x => x.step s)
  | false => exact q B' H' s
theorem ev_or {t u : TT} {g h : Rho → Res Bool} (ht : EvT X W G t g) (hu : EvT X W G u h) : EvT X W G (tOr t u) (orB g h) := fun F ρ own B σ H Q gd q => by
  refine ht F ρ own B σ H _ gd (Res.has_mono (Res.has_bind q) (fun b q B' H' s => ?_) fun _ x => x)
  cases b with
  | true => exact q B' H' s
  | false => exact hu F ρ own B' σ H' Q (gd.step s) (Res.has_mono q (fun b q B2 H2 s2 => q B2 H2 (s.trans s2)) fun _ x => x.step s)
theorem ev_not {t : TT} {g : Rho → Res Bool} (ht : EvT X W G t g) : EvT X W G (tNot t) (notB g) := fun F ρ own B σ H Q gd q =>
  ht F ρ own B σ H _ gd (Res.has_mono (Res.has_bind q) (fun b q B' H' s => q B' H' s) fun _ x => x)
theorem wj_and {rest : List Expr} {g h : Rho → Res Bool} (ha : TJ X W G a g) (hb : WJ X W G (.BoolOp .And (b :: rest) pos) h) : WJ X W G (.BoolOp .And (a :: b :: rest) pos) (andB g h) :=
  let ⟨_, p, v⟩ := ha; let ⟨_, p', v'⟩ := hb; ⟨_, pw_and p p', ev_and v v'⟩
theorem wj_or {rest : List Expr} {g h : Rho → Res Bool} (ha : TJ X W G a g) (hb : WJ X W G (.BoolOp .Or (b :: rest) pos) h) : WJ X W G (.BoolOp .Or (a :: b :: rest) pos) (orB g h) :=
  let ⟨_, p, v⟩ := ha; let ⟨_, p', v'⟩ := hb; ⟨_, pw_or p p', ev_or v v'⟩
theorem wj_and1 {g : Rho → Res Bool} (ha : TJ X W G a g) : WJ X W G (.BoolOp .And [a] pos) g := let ⟨_, p, v⟩ := ha; ⟨_, pw_and1 p, v⟩
theorem wj_or1 {g : Rho → Res Bool} (ha : TJ X W G a g) : WJ X W G (.BoolOp .Or [a] pos) g := let ⟨_, p, v⟩ := ha; ⟨_, pw_or1 p, v⟩
theorem WJ.tj {g : Rho → Res Bool} (h : WJ X W G e g) : TJ X W G e g := let ⟨_, p, v⟩ := h; ⟨_, p.pt, v⟩
theorem tj_not {g : Rho → Res Bool} (ha : TJ X W G a g) : TJ X W G (.UnaryOp .Not a pos) (notB g) := let ⟨_, p, v⟩ := ha; ⟨_, pt_not p, ev_not v⟩
def andV (f g : Rho → Res D) : Rho → Res D := fun ρ => (f ρ).bind fun d => match d with
  | .bl b => if b = true then g ρ else .ok (.bl false)
  | _ => .no
def orV (f g : Rho → Res D) : Rho → Res D := fun ρ => (f ρ).bind fun d => match d with
  | .bl b => if b = true then .ok (.bl true) else g ρ
  | _ => .no
def notV (f : Rho → Res D) : Rho → Res D := fun ρ => (f ρ).bind dNotB
theorem ej_andV {rest : List Expr} {f g : Rho → Res D} (ha : BJ X W G a f) (hb : EJ X W G (.BoolOp .And (b :: rest) pos) g) : EJ X W G (.BoolOp .And (a :: b :: rest) pos) (andV f g) := by
  obtain ⟨ta, pa, va⟩ := ha
  obtain ⟨tb, pb, vb⟩ := hb
  refine ⟨_, pe_and pa pb, fun F ρ own B σ H Q gd q => ?_⟩
  refine va F ρ own B σ H _ gd (Res.has_mono (Res.has_bind q) (fun d q v B' H' s r => ?_) fun _ x => x)
  cases d with
  | bl c =>
    cases r.bl
    refine ⟨c, rfl, ?_⟩
    cases c with
    | true => exact vb F ρ own B' σ H' Q (gd.step s) (Res.has_mono q (fun b q v B2 H2 s2 => q v B2 H2 (s.trans s2)) fun _ x => x.step s)
    | false => exact q _ B' H' s (.bl _)
  | _ => exact q.elim
theorem ej_orV {rest : List Expr} {f g : Rho → Res D} (ha : BJ X W G a f) (hb : EJ X W G (.BoolOp .Or (b :: rest) pos) g) : EJ X W G (.BoolOp .Or (a :: b :: rest) pos) (orV f g) := by
  obtain ⟨ta, pa, va⟩ := ha
  obtain ⟨tb, pb, vb⟩ := hb
  refine ⟨_, pe_or pa pb, fun F ρ own B σ H Q gd q => ?_⟩
  refine va F ρ own B σ H _ gd (Res.has_mono (Res.has_bind q) (fun d q v B' H' s r => ?_) fun _ x => x)
  cases d with
  | bl c =>
    cases r.bl
    refine ⟨c, rfl, ?_⟩
    cases c with
    | false => exact vb F ρ own B' σ H' Q (gd.step s) (Res.has_mono q (fun b q v B2 H2 s2 => q v B2 H2 (s.trans s2)) fun _ x => x.step s)
    | true => exact q _ B' H' s (.bl _)
  | _ => exact q.elim
theorem ej_one {op : BoolOp} {f : Rho → Res D} (ha : EJ X W G a f) : EJ X W G (.BoolOp op [a] pos) f := let ⟨_, p, v⟩ := ha; ⟨_, pe_one p, v⟩
def dNeg : D → Res D
  | .int i => .ok (.int (-i))
  | _ => .no
/-- a op b op' c -/
def chainV (f g : D → D → Res D) (ga gb gc : Rho → Res D) : Rho → Res D := fun ρ => (ga ρ).bind fun x => (gb ρ).bind fun y => (f x y).bind fun z => match z with
  | .bl k => if k = true then (gc ρ).bind fun w => g y w else .ok (.bl false)
  | _ => .no
theorem ev_chain {r r' : R2} {f g : D → D → Res D} {ta tb tc : TE} {ga gb gc : Rho → Res D} (h2 : OpD X r f) (hf : Calm f) (h2' : OpD X r' g) (hg : Calm g) (va : EvB X W G ta ga) (vb : EvB X W G tb gb) (vc : EvB X W G tc gc) : Ev X W G (tChain r r' ta tb tc) (chainV f g ga gb gc) := fun F ρ own B σ H Q gd q => by
  refine va F ρ own B σ H _ gd (Res.has_mono (Res.has_bind q) (fun dx q v B1 H1 s1 r1 => ?_) fun _ x => x)
  refine vb F ρ own B1 σ H1 _ (gd.step s1) (Res.has_mono (Res.has_bind q) (fun dy q w B2 H2 s2 r2 => ?_) fun _ x => x.step s1)
  refine h2 F own B2 H2 v w dx dy _ ((gd.gr.step s1).step s2) (r1.step s2) r2 (Res.has_calm (hf dx dy) (Res.has_bind q) fun d q z B3 H3 s3 r3 => ?_)
  cases d with
  | bl k =>
    cases r3
    refine ⟨k, rfl, ?_⟩
    cases k with
    | false => exact q _ B3 H3 ((s1.trans s2).trans s3) (.bl _)
    | true =>
      show tc σ H3 _
      refine vc F ρ own B3 σ H3 _ (((gd.step s1).step s2).step s3) (Res.has_mono (Res.has_bind q) (fun dw q u B4 H4 s4 r4 => ?_) fun _ x => x.step ((s1.trans s2).trans s3))
      exact h2' F own B4 H4 w u dy dw Q ((((gd.gr.step s1).step s2).step s3).step s4) ((r2.step s3).step s4) r4 (Res.has_calm (hg dy dw) q fun d q z B5 H5 s5 r5 => q z B5 H5 ((((s1.trans s2).trans s3).trans s4).trans s5) r5)
  | _ => exact q.elim
theorem ej_chain {op op' : CmpOp} {f g : D → D → Res D} {ga gb gc : Rho → Res D} (ho : ∃ r, OpR X (compareOp op) r ∧ OpD X r f) (hf : Calm f) (ho' : ∃ r, OpR X (compareOp op') r ∧ OpD X r g) (hg : Calm g) (ha : BJ X W G a ga) (hb : BJ X W G b gb) (hc : BJ X W G c gc)
    (hm : lastMarks [op, op'] [b, c] = false := by with_unfolding_all rfl) : EJ X W G (.Compare a [op, op'] [b, c] pos) (chainV f g ga gb gc) := by
  obtain ⟨r, h1, h2⟩ := ho
  obtain ⟨r', h1', h2'⟩ := ho'
  obtain ⟨ta, pa, va⟩ := ha
  obtain ⟨tb, pb, vb⟩ := hb
  obtain ⟨tc, pc, vc⟩ := hc
  exact ⟨_, pe_chain h1 h1' pa pb pc hm, ev_chain h2 hf h2' hg va vb vc⟩
def ifV (g : Rho → Res Bool) (f f' : Rho → Res D) : Rho → Res D := fun ρ => (g ρ).bind fun b => if b = true then f ρ else f' ρ
def dIx : D → D → Res D
  | .lst xs, .int i => match atI xs i with
    | some d => .ok d
    | none => .no
  | .tup xs, .int i => match atI xs i with
    | some d => .ok d
    | none => .no
  | .scr xs, .int i => match atI xs i with
    | some d => .ok d
    | none => .no
  | .str z, .int i => if z.length ≤ sizeLine then match atI z.cps.toList i with
    | some c => .ok (.str ⟨#[c]⟩)
    | none => .no else .no
  | _, _ => .no
omit [Mg] in
theorem calm_ix : Calm dIx := fun x y e h => by
  unfold dIx at h
  split at h <;> (try split at h) <;> (try split at h) <;> cases h
theorem RpA.at {K : PySem.W.Frag} {B : Hp} {vs : List V} {ds : List D} {i : Int} {d : D} (r : RpA K B vs ds) (h : atI ds i = some d) : ∃ v, atI vs i = some v ∧ Rp K B v d := by
  unfold atI at h ⊢
  rw [r.len]
  obtain ⟨j, h1, h2⟩ := Option.bind_eq_some_iff.mp h
  rw [h1]
  exact r.get h2
theorem op_ix : OpD X (rIx X.K) dIx := fun F own B H x y dx dy Q g hx hy q => by
  unfold dIx at q
  split at q
  · obtain ⟨l, vs, rfl, hl, rv⟩ := hx.lst g
    cases hy.int
    split at q
    · rename_i d hd
      obtain ⟨v, h1, h2⟩ := rv.at hd
      exact .inl ⟨l, vs, _, v, rfl, rfl, .inl (.inl hl), h1, q _ _ _ (.refl g) h2⟩
    · exact q.elim
  · obtain ⟨l, vs, rfl, hl, rv⟩ := hx.tup
    cases hy.int
    split at q
    · rename_i d hd
      obtain ⟨v, h1, h2⟩ := rv.at hd
      exact .inr (.inl ⟨l, vs, _, v, rfl, rfl, Ext.seqT g.same hl, h1, q _ _ _ (.refl g) h2⟩)
    · exact q.elim
  · obtain ⟨l, vs, rfl, hl, rv⟩ := hx.scr
    cases hy.int
    split at q
    · rename_i d hd
      obtain ⟨v, h1, h2⟩ := rv.at hd
      exact .inl ⟨l, vs, _, v, rfl, rfl, Same.seq g.same hl, h1, q _ _ _ (.refl g) h2⟩
    · exact q.elim
  · cases hx.str
    cases hy.int
    split at q
    · rename_i hz
      split at q
      · rename_i c hc
        exact .inr (.inr ⟨_, _, c, rfl, rfl, hz, hc, q _ _ _ (.refl g) (.str _)⟩)
      · exact q.elim
    · exact q.elim
  · exact q.elim
theorem ej_ix {ga gb : Rho → Res D} (ha : BJ X W G a ga) (hb : BJ X W G b gb) (hs : PlainIx b := by exact fun _ _ => rfl) : EJ X W G (.Subscript a b pos) (bin dIx ga gb) := by
  obtain ⟨ta, pa, va⟩ := ha
  obtain ⟨tb, pb, vb⟩ := hb
  exact ⟨_, pe_ix ix_seq pa pb hs, ev_op op_ix calm_ix va vb⟩
def EvO (X : Cx) (W : WX) (G : List Mode) (t : TO) (g : Rho → Res (Option Int)) : Prop :=
  ∀ (F : Hp) (ρ : Rho) (own : Own) (B : Hp) (σ : L2.St) (H : Hp) (Q : Option Int → Hp → Prop), Good X.K F G ρ own B σ H →
    (g ρ).has (fun o => ∀ (B' H' : Hp), Step own F B H B' H' → Q o H') (WOk X.K X.mg W own F B H σ) → t σ H Q
def OJ (X : Cx) (W : WX) (G : List Mode) (e : Option Expr) (g : Rho → Res (Option Int)) : Prop := ∃ t, L2.PO X e t ∧ EvO X W G t g
def noPart : Rho → Res (Option Int) := fun _ => .ok none
def toPart (g : Rho → Res D) : Rho → Res (Option Int) := fun ρ => (g ρ).bind fun d => match d with
  | .int i => .ok (some i)
  | _ => .no
theorem oj_none : OJ X W G none noPart := ⟨_, po_none, fun F ρ own B σ H Q gd q => q B H (.refl gd.gr)⟩
theorem oj_some {g : Rho → Res D} (h : BJ X W G e g) : OJ X W G (some e) (toPart g) := by
  obtain ⟨t, p, v⟩ := h
  refine ⟨_, po_some p, fun F ρ own B σ H Q gd q => ?_⟩
  refine v F ρ own B σ H _ gd (Res.has_mono (Res.has_bind q) (fun d q v B' H' s r => ?_) fun _ x => x)
  cases d with
  | int i =>
    cases r.int
    exact ⟨i, rfl, q B' H' s⟩
  | _ => exact q.elim
/-- what is cut out of a list of anything -/
def cutL {α : Type} (xs : List α) (lo hi : Option Int) : List α := (xs.drop (HT.sIx xs.length 0 lo)).take (HT.sIx xs.length xs.length hi - HT.sIx xs.length 0 lo)
theorem RpA.cut {K : PySem.W.Frag} {B : Hp} {vs : List V} {ds : List D} (r : RpA K B vs ds) (lo hi : Option Int) : RpA K B (cutV vs lo hi) (cutL ds lo hi) := by
  unfold cutV cutL
  rw [r.len]
  exact (r.drop _).take _
def dSl : D → Option Int → Option Int → Res D
  | .lst xs, lo, hi => .ok (.lst (cutL xs lo hi))
  | .tup xs, lo, hi => .ok (.tup (cutL xs lo hi))
  | .str z, lo, hi => if z.length ≤ sizeLine then .ok (.str (cutS z lo hi)) else .no
  | _, _, _ => .no
/-- of a list: a new list -/
def dSlN : D → Option Int → Option Int → Res (List D)
  | .lst xs, lo, hi => .ok (cutL xs lo hi)
  | _, _, _ => .no
def slV {α : Type} (f : D → Option Int → Option Int → Res α) (ga : Rho → Res D) (gl gh : Rho → Res (Option Int)) : Rho → Res α := fun ρ => (ga ρ).bind fun x => (gl ρ).bind fun l => (gh ρ).bind fun h => f x l h
omit [Mg] in
theorem cutL_whole {α : Type} {xs : List α} {lo hi : Option Int} (h : HT.sIx xs.length 0 lo = 0 ∧ HT.sIx xs.length xs.length hi = xs.length) : cutL xs lo hi = xs := by
  unfold cutL
  rw [h.1, h.2]
  simp
omit [Mg] in
theorem calm_sl (x : D) (l h : Option Int) (e : Exn) : dSl x l h ≠ .ex e := fun z => by
  unfold dSl at z
  split at z <;> (try split at z) <;> cases z
theorem ej_sl {lo hi : Option Expr} {p2 : Pos} {ga : Rho → Res D} {gl gh : Rho → Res (Option Int)} (ha : BJ X W G a ga) (hl : OJ X W G lo gl) (hh : OJ X W G hi gh) : EJ X W G (.Subscript a (.Slice lo hi none p2) pos) (slV dSl ga gl gh) := by
  obtain ⟨ta, pa, va⟩ := ha
  obtain ⟨tl, pl, vl⟩ := hl
  obtain ⟨th, ph, vh⟩ := hh
  refine ⟨_, pe_slice (sl_list.or (sl_tupA.or sl_str)) pa pl ph, fun F ρ own B σ H Q gd q => ?_⟩
  refine va F ρ own B σ H _ gd (Res.has_mono (Res.has_bind q) (fun d q v B1 H1 s1 r => ?_) fun _ x => x)
  refine vl F ρ own B1 σ H1 _ (gd.step s1) (Res.has_mono (Res.has_bind q) (fun l q B2 H2 s2 => ?_) fun _ x => x.step s1)
  refine vh F ρ own B2 σ H2 _ ((gd.step s1).step s2) (Res.has_mono (Res.has_bind q) (fun h q B3 H3 s3 => ?_) fun _ x => x.step (s1.trans s2))
  have r3 := (r.step s2).step s3
  have s := (s1.trans s2).trans s3
  have g3 := gd.gr.step s
  have q' : (dSl d l h).has (fun d => ∀ (v : V) (B' H' : Hp), Step own F B3 H3 B' H' → Rp X.K B' v d → Q v H') (fun _ => False) := Res.has_calm (calm_sl d l h) q fun d q v B' H' t r => q v B' H' (s.trans t) r
  cases d with
  | lst xs =>
    obtain ⟨p, vs, rfl, hp, rv⟩ := r3.lst g3
    exact .inl ⟨p, vs, rfl, .inl (.inl hp), fun n hn => new_lst g3 (rv.cut l h) q' n hn⟩
  | tup xs =>
    obtain ⟨p, vs, rfl, hp, rv⟩ := r3.tup
    refine .inr (.inl ⟨p, vs, rfl, Ext.seqT g3.same hp, fun e => ?_, fun _ n hn => new_tup g3 (rv.cut l h) q' n hn⟩)
    rw [rv.len] at e
    have q'' : ∀ (v : V) (B' H' : Hp), Step own F B3 H3 B' H' → Rp X.K B' v (.tup (cutL xs l h)) → Q v H' := q'
    rw [cutL_whole e] at q''
    exact q'' _ _ _ (.refl g3) (.tup hp rv)
  | str z =>
    cases r3.str
    simp only [dSl] at q'
    split at q'
    · rename_i hz
      exact .inr (.inr ⟨z, rfl, hz, q' _ _ _ (.refl g3) (.str _)⟩)
    · exact q'.elim
  | _ => exact q'.elim
def noA : Rho → Res (List D) := fun _ => .ok []
def consA (g : Rho → Res D) (h : Rho → Res (List D)) : Rho → Res (List D) := fun ρ => (g ρ).bind fun d => (h ρ).bind fun ds => .ok (d :: ds)
theorem aj_nil : AJ X W G [] noA := ⟨_, pa_nil, fun F ρ own B σ H Q gd q => q [] B H (.refl gd.gr) .nil⟩
theorem aj_cons {es : List Expr} {g : Rho → Res D} {h : Rho → Res (List D)} (he : EJ X W G e g) (hr : AJ X W G es h) (hs : starEach (e :: es) X.env = (false, eval e X.env) :: starEach es X.env := by rfl) : AJ X W G (e :: es) (consA g h) := by
  obtain ⟨t, p, v⟩ := he
  obtain ⟨u, p', v'⟩ := hr
  refine ⟨_, pa_cons p p' hs, fun F ρ own B σ H Q gd q => ?_⟩
  refine v F ρ own B σ H _ gd (Res.has_mono (Res.has_bind q) (fun d q v B1 H1 s1 r => ?_) fun _ x => x)
  refine v' F ρ own B1 σ H1 _ (gd.step s1) (Res.has_mono (Res.has_bind q) (fun ds q vs B2 H2 s2 rs => ?_) fun _ x => x.step s1)
  exact q _ B2 H2 (s1.trans s2) (.cons (r.mono s2.ext) rs)
theorem baj_nil : BAJ X W G [] noA := ⟨_, pa_nil, fun F ρ own B σ H Q gd q => q [] B H (.refl gd.gr) .nil⟩
theorem baj_cons {es : List Expr} {g : Rho → Res D} {h : Rho → Res (List D)} (he : BJ X W G e g) (hr : BAJ X W G es h) (hs : starEach (e :: es) X.env = (false, eval e X.env) :: starEach es X.env := by rfl) : BAJ X W G (e :: es) (consA g h) := by
  obtain ⟨t, p, v⟩ := he
  obtain ⟨u, p', v'⟩ := hr
  refine ⟨_, pa_cons p p' hs, fun F ρ own B σ H Q gd q => ?_⟩
  refine v F ρ own B σ H _ gd (Res.has_mono (Res.has_bind q) (fun d q v B1 H1 s1 r => ?_) fun _ x => x)
  refine v' F ρ own B1 σ H1 _ (gd.step s1) (Res.has_mono (Res.has_bind q) (fun ds q vs B2 H2 s2 rs => ?_) fun _ x => x.step s1)
  exact q _ B2 H2 (s1.trans s2) (.cons (r.step s2) rs)
def tupV (g : Rho → Res (List D)) : Rho → Res D := fun ρ => (g ρ).bind fun ds => if ds.length ≤ sizeLine then .ok (.tup ds) else .no
def lstV (g : Rho → Res (List D)) : Rho → Res (List D) := fun ρ => (g ρ).bind fun ds => if ds.length ≤ sizeLine then .ok ds else .no
theorem ej_tup {es : List Expr} {x1} {g : Rho → Res (List D)} (h : AJ X W G es g) : EJ X W G (.Tuple es x1 pos) (tupV g) := by
  obtain ⟨t, p, v⟩ := h
  refine ⟨_, pe_tup p, fun F ρ own B σ H Q gd q => ?_⟩
  refine v F ρ own B σ H _ gd (Res.has_mono (Res.has_bind q) (fun ds q vs B' H' s r => ?_) fun _ x => x)
  split at q
  · rename_i hz
    exact ⟨by rw [r.len]; exact hz, fun n hn => new_tup (gd.gr.step s) r (fun v B2 H2 t => q v B2 H2 (s.trans t)) n hn⟩
  · exact q.elim
theorem nj_lst {es : List Expr} {g : Rho → Res (List D)} (h : AJ X W G es g) : NJ X W G (.List es pos) (lstV g) := by
  obtain ⟨t, p, v⟩ := h
  refine ⟨_, pe_lst p, fun F ρ own B σ H Q gd q => ?_⟩
  refine v F ρ own B σ H _ gd (Res.has_mono (Res.has_bind q) (fun ds q vs B' H' s r => ?_) fun _ x => x)
  split at q
  · rename_i hz
    exact ⟨by rw [r.len]; exact hz, fun n hn => new_lstN (gd.gr.step s) r (fun p vs B2 H2 t => q p vs B2 H2 (s.trans t)) n hn⟩
  · exact q.elim
def CallD (X : Cx) (r : List V → Hp → VK → Prop) (f : List D → Res D) : Prop :=
  (∀ ds e, f ds ≠ .ex e) ∧ ∀ (F : Hp) (own : Own) (B H : Hp) (vs : List V) (ds : List D) (Q : VK), Ground F own B H → SnA X.K own B H vs ds →
    (f ds).has (fun d => ∀ (v : V) (B' H' : Hp), Step own F B H B' H' → Rp X.K B' v d → Q v H') (fun _ => False) → r vs H Q
def CallN (X : Cx) (r : List V → Hp → VK → Prop) (f : List D → Res (List D)) : Prop :=
  (∀ ds e, f ds ≠ .ex e) ∧ ∀ (F : Hp) (own : Own) (B H : Hp) (vs : List V) (ds : List D) (Q : VK), Ground F own B H → SnA X.K own B H vs ds →
    (f ds).has (fun d => ∀ (p : Addr) (vs : List V) (B' H' : Hp), Step own F B H B' H' → B' p = none → F p = none → own p = none → H' p = some (.lst vs) → RpA X.K B' vs d → Q (.ref p) H') (fun _ => False) → r vs H Q
def callV {α : Type} (f : List D → Res α) (g : Rho → Res (List D)) : Rho → Res α := fun ρ => (g ρ).bind f
theorem ev_cb {r : List V → Hp → VK → Prop} {f : List D → Res D} {t : TA} {g : Rho → Res (List D)} (hf : CallD X r f) (ha : EvBA X W G t g) : Ev X W G (tCB r t) (callV f g) := fun F ρ own B σ H Q gd q => by
  refine ha F ρ own B σ H _ gd (Res.has_mono (Res.has_bind q) (fun ds q vs B' H' s rs => ?_) fun _ x => x)
  exact hf.2 F own B' H' vs ds Q (gd.gr.step s) rs (Res.has_calm (hf.1 ds) q fun d q v B2 H2 t => q v B2 H2 (s.trans t))
theorem ev_cbN {r : List V → Hp → VK → Prop} {f : List D → Res (List D)} {t : TA} {g : Rho → Res (List D)} (hf : CallN X r f) (ha : EvBA X W G t g) : EvN X W G (tCB r t) (callV f g) := fun F ρ own B σ H Q gd q => by
  refine ha F ρ own B σ H _ gd (Res.has_mono (Res.has_bind q) (fun ds q vs B' H' s rs => ?_) fun _ x => x)
  exact hf.2 F own B' H' vs ds Q (gd.gr.step s) rs (Res.has_calm (hf.1 ds) q fun d q p vs B2 H2 t => q p vs B2 H2 (s.trans t))
variable {x : Str} {p : Pos} {es : List Expr} {id Ty : String}
theorem ej_B {f : List D → Res D} {g : Rho → Res (List D)} (hf : ∃ r, CallR X (.builtin id) r ∧ CallD X r f) (hg : Gl X x) (hm : X.mg x = none) (hv : bootBuiltins x = some (.builtin id)) (ha : BAJ X W G (e :: es) g) (hn : x ≠ "__name__" := by decide) (hdb : (x == ("__debug__" : Str)) = false := by decide)
    (he : starEach (e :: es) X.env = (false, eval e X.env) :: starEach es X.env := by rfl) (hpl : (backTo pos (starEach es X.env)).any (·.1) = false := by rfl) : EJ X W G (.Call (.Name x p) (e :: es) [] pos) (callV f g) := by
  obtain ⟨r, h1, h2⟩ := hf
  obtain ⟨t, pa, va⟩ := ha
  exact ⟨_, pe_callB h1 hg hm hv pa hn hdb he hpl, ev_cb h2 va⟩
theorem nj_B {f : List D → Res (List D)} {g : Rho → Res (List D)} (hf : ∃ r, CallR X (.builtin id) r ∧ CallN X r f) (hg : Gl X x) (hm : X.mg x = none) (hv : bootBuiltins x = some (.builtin id)) (ha : BAJ X W G (e :: es) g) (hn : x ≠ "__name__" := by decide) (hdb : (x == ("__debug__" : Str)) = false := by decide)
    (he : starEach (e :: es) X.env = (false, eval e X.env) :: starEach es X.env := by rfl) (hpl : (backTo pos (starEach es X.env)).any (·.1) = false := by rfl) : NJ X W G (.Call (.Name x p) (e :: es) [] pos) (callV f g) := by
  obtain ⟨r, h1, h2⟩ := hf
  obtain ⟨t, pa, va⟩ := ha
  exact ⟨_, pe_callB h1 hg hm hv pa hn hdb he hpl, ev_cbN h2 va⟩
theorem ej_Ty {f : List D → Res D} {g : Rho → Res (List D)} (hf : ∃ r, CallR X (.type Ty) r ∧ CallD X r f) (hg : Gl X x) (hm : X.mg x = none) (hv : bootBuiltins x = some (.type Ty)) (ha : BAJ X W G (e :: es) g) (hn : x ≠ "__name__" := by decide) (hdb : (x == ("__debug__" : Str)) = false := by decide)
    (he : starEach (e :: es) X.env = (false, eval e X.env) :: starEach es X.env := by rfl) (hpl : (backTo pos (starEach es X.env)).any (·.1) = false := by rfl) : EJ X W G (.Call (.Name x p) (e :: es) [] pos) (callV f g) := by
  obtain ⟨r, h1, h2⟩ := hf
  obtain ⟨t, pa, va⟩ := ha
  exact ⟨_, pe_callTy h1 hg hm hv pa hn hdb he hpl, ev_cb h2 va⟩
theorem nj_Ty {f : List D → Res (List D)} {g : Rho → Res (List D)} (hf : ∃ r, CallR X (.type Ty) r ∧ CallN X r f) (hg : Gl X x) (hm : X.mg x = none) (hv : bootBuiltins x = some (.type Ty)) (ha : BAJ X W G (e :: es) g) (hn : x ≠ "__name__" := by decide) (hdb : (x == ("__debug__" : Str)) = false := by decide)
    (he : starEach (e :: es) X.env = (false, eval e X.env) :: starEach es X.env := by rfl) (hpl : (backTo pos (starEach es X.env)).any (·.1) = false := by rfl) : NJ X W G (.Call (.Name x p) (e :: es) [] pos) (callV f g) := by
  obtain ⟨r, h1, h2⟩ := hf
  obtain ⟨t, pa, va⟩ := ha
  exact ⟨_, pe_callTy h1 hg hm hv pa hn hdb he hpl, ev_cbN h2 va⟩
end
end T
set_option Elab.async false
set_option linter.all false
set_option maxRecDepth 100000
set_option maxHeartbeats 4000000
namespace T
open PySem PySem.Spec PyProof.Rows L2
variable [Mg]
def D.ints : List D → Option (List Int)
  | [] => some []
  | .int i :: r => (D.ints r).map fun is => i :: is
  | _ :: _ => none
def D.bools : List D → Option (List Bool)
  | [] => some []
  | .bl i :: r => (D.bools r).map fun is => i :: is
  | _ :: _ => none
def D.strs : List D → Option (List Str)
  | [] => some []
  | .str i :: r => (D.strs r).map fun is => i :: is
  | _ :: _ => none
section
variable {K : PySem.W.Frag} {B : Hp}
theorem RpA.ints : ∀ {vs : List V} {ds : List D} {is : List Int}, RpA K B vs ds → D.ints ds = some is → vs = is.map V.int
  | _, [], is, r, e => by
    cases r
    cases e
    rfl
  | _, d :: ds, is, r, e => by
    cases r with
    | cons h r =>
      cases d with
      | int i =>
        simp [D.ints] at e
        obtain ⟨js, e, rfl⟩ := e
        cases h
        rw [RpA.ints r e]
        rfl
      | _ => simp [D.ints] at e
theorem RpA.bools : ∀ {vs : List V} {ds : List D} {is : List Bool}, RpA K B vs ds → D.bools ds = some is → vs = is.map V.bl
  | _, [], is, r, e => by
    cases r
    cases e
    rfl
  | _, d :: ds, is, r, e => by
    cases r with
    | cons h r =>
      cases d with
      | bl i =>
        simp [D.bools] at e
        obtain ⟨js, e, rfl⟩ := e
        cases h
        rw [RpA.bools r e]
        rfl
      | _ => simp [D.bools] at e
theorem RpA.strs : ∀ {vs : List V} {ds : List D} {is : List Str}, RpA K B vs ds → D.strs ds = some is → vs = is.map V.str
  | _, [], is, r, e => by
    cases r
    cases e
    rfl
  | _, d :: ds, is, r, e => by
    cases r with
    | cons h r =>
      cases d with
      | str i =>
        simp [D.strs] at e
        obtain ⟨js, e, rfl⟩ := e
        cases h
        rw [RpA.strs r e]
        rfl
      | _ => simp [D.strs] at e
theorem RpA.of_strs : ∀ ys : List Str, RpA K B (ys.map V.str) (ys.map D.str)
  | [] => .nil
  | y :: ys => .cons (.str y) (RpA.of_strs ys)
end
section
variable {K : PySem.W.Frag} {own : Own} {B H : Hp}
theorem SnA.one {vs : List V} {d : D} (h : SnA K own B H vs [d]) : ∃ v, vs = [v] ∧ Sn K own B H v d := by
  cases h with
  | cons h r =>
    cases r
    exact ⟨_, rfl, h⟩
theorem SnA.two {vs : List V} {d e : D} (h : SnA K own B H vs [d, e]) : ∃ v w, vs = [v, w] ∧ Sn K own B H v d ∧ Sn K own B H w e := by
  cases h with
  | cons h r =>
    cases r with
    | cons h' r =>
      cases r
      exact ⟨_, _, rfl, h, h'⟩
end
def dLen : List D → Res D
  | [.lst xs] => .ok (.int xs.length)
  | [.tup xs] => .ok (.int xs.length)
  | [.scr xs] => .ok (.int xs.length)
  | [.str y] => if y.length ≤ sizeLine then .ok (.int y.length) else .no
  | _ => .no
def dList : List D → Res (List D)
  | [.lst xs] => .ok xs
  | [.tup xs] => .ok xs
  | [.scr xs] => .ok xs
  | _ => .no
def dTuple : List D → Res D
  | [.lst xs] => .ok (.tup xs)
  | [.tup xs] => .ok (.tup xs)
  | _ => .no
def dInt : List D → Res D
  | [.int i] => .ok (.int i)
  | [.bl b] => .ok (.int (if b then 1 else 0))
  | [.str s] => match PySem.intText? s with
    | some n => if s.length ≤ 640 then .ok (.int n) else .no
    | none => .no
  | _ => .no
def dMax2 : List D → Res D
  | [.int i, .int j] => .ok (.int (if j > i then j else i))
  | _ => .no
def dMin2 : List D → Res D
  | [.int i, .int j] => .ok (.int (if j < i then j else i))
  | _ => .no
def dAll : List D → Res D
  | [.lst xs] => match D.bools xs with
    | some bs => .ok (.bl (bs.all id))
    | none => .no
  | _ => .no
def dAny : List D → Res D
  | [.lst xs] => match D.bools xs with
    | some bs => .ok (.bl (bs.any id))
    | none => .no
  | _ => .no
def dSum : List D → Res D
  | [.lst xs] => match D.ints xs with
    | some bs => .ok (.int bs.sum)
    | none => .no
  | _ => .no
def D.tyN : D → Option String
  | .non => some "NoneType"
  | .bl _ => some "bool"
  | .int _ => some "int"
  | .str _ => some "str"
  | .lst _ => some "list"
  | .scr _ => some "list"
  | .tup _ => some "tuple"
  | _ => none
def dIsi : List D → Res D
  | [x, .ty n] => match x.tyN.bind fun a => kitB a n with
    | some r => .ok (.bl r)
    | none => .no
  | _ => .no
section
variable {X : Cx}
theorem fn_len : ∃ r, CallR X (.builtin "len") r ∧ CallD X r dLen := by
  refine ⟨_, call_len, fun ds e h => ?_, fun F own B H vs ds Q g hx q => ?_⟩
  · unfold dLen at h
    split at h <;> (try split at h) <;> cases h
  · unfold dLen at q
    split at q
    · obtain ⟨v, rfl, hv⟩ := hx.one
      obtain ⟨l, vs, rfl, hl, rv⟩ := hv.lst g
      refine ⟨_, vs.length, rfl, .inl ⟨vs, .inl (.inl hl), rfl⟩, ?_⟩
      rw [rv.len]
      exact q _ _ _ (.refl g) (.int _)
    · obtain ⟨v, rfl, hv⟩ := hx.one
      obtain ⟨l, vs, rfl, hl, rv⟩ := hv.tup
      refine ⟨_, vs.length, rfl, .inr ⟨vs, Ext.seqT g.same hl, rfl⟩, ?_⟩
      rw [rv.len]
      exact q _ _ _ (.refl g) (.int _)
    · obtain ⟨v, rfl, hv⟩ := hx.one
      obtain ⟨l, vs, rfl, hl, rv⟩ := hv.scr
      refine ⟨_, vs.length, rfl, .inl ⟨vs, Same.seq g.same hl, rfl⟩, ?_⟩
      rw [rv.len]
      exact q _ _ _ (.refl g) (.int _)
    · obtain ⟨v, rfl, hv⟩ := hx.one
      cases hv.str
      split at q
      · rename_i hz
        exact ⟨_, _, rfl, ⟨hz, rfl⟩, q _ _ _ (.refl g) (.int _)⟩
      · exact q.elim
    · exact q.elim
theorem fn_list : ∃ r, CallR X (.type "list") r ∧ CallN X r dList := by
  refine ⟨_, call_list_of, fun ds e h => ?_, fun F own B H vs ds Q g hx q => ?_⟩
  · unfold dList at h
    split at h <;> cases h
  · unfold dList at q
    split at q
    · obtain ⟨v, rfl, hv⟩ := hx.one
      obtain ⟨l, vs, rfl, hl, rv⟩ := hv.lst g
      exact ⟨l, vs, rfl, .inl (.inl (.inl hl)), fun n hn => new_lstN g rv q n hn⟩
    · obtain ⟨v, rfl, hv⟩ := hx.one
      obtain ⟨l, vs, rfl, hl, rv⟩ := hv.tup
      exact ⟨l, vs, rfl, .inr (Ext.seqT g.same hl), fun n hn => new_lstN g rv q n hn⟩
    · obtain ⟨v, rfl, hv⟩ := hx.one
      obtain ⟨l, vs, rfl, hl, rv⟩ := hv.scr
      exact ⟨l, vs, rfl, .inl (Same.seq g.same hl), fun n hn => new_lstN g rv q n hn⟩
    · exact q.elim
theorem fn_tuple : ∃ r, CallR X (.type "tuple") r ∧ CallD X r dTuple := by
  refine ⟨_, call_tuple_of, fun ds e h => ?_, fun F own B H vs ds Q g hx q => ?_⟩
  · unfold dTuple at h
    split at h <;> cases h
  · unfold dTuple at q
    split at q
    · obtain ⟨v, rfl, hv⟩ := hx.one
      obtain ⟨l, vs, rfl, hl, rv⟩ := hv.lst g
      exact ⟨l, vs, rfl, .inl ⟨.inl (.inl hl), fun n hn => new_tup g rv q n hn⟩⟩
    · obtain ⟨v, rfl, hv⟩ := hx.one
      obtain ⟨l, vs, rfl, hl, rv⟩ := hv.tup
      exact ⟨l, vs, rfl, .inr ⟨Ext.seqT g.same hl, q _ _ _ (.refl g) (.tup hl rv)⟩⟩
    · exact q.elim
omit [Mg] in
theorem call_or {f : Value} {r r' : List V → Hp → VK → Prop} (h : CallR X f r) (h' : CallR X f r') : CallR X f (fun xs H Q => r xs H Q ∨ r' xs H Q) := by
  intro pins s σ H xs us Q I rr q
  rcases q with q | q
  · exact h pins s σ H xs us Q I rr q
  · exact h' pins s σ H xs us Q I rr q
theorem fn_int : ∃ r, CallR X (.type "int") r ∧ CallD X r dInt := by
  refine ⟨_, call_or call_int1 call_int_str, fun ds e h => ?_, fun F own B H vs ds Q g hx q => ?_⟩
  · unfold dInt at h
    split at h
    · cases h
    · cases h
    · split at h
      · split at h <;> cases h
      · cases h
    · cases h
  · unfold dInt at q
    split at q
    · obtain ⟨v, rfl, hv⟩ := hx.one
      cases hv.int
      exact .inl (.inl ⟨_, rfl, q _ _ _ (.refl g) (.int _)⟩)
    · obtain ⟨v, rfl, hv⟩ := hx.one
      cases hv.bl
      exact .inl (.inr ⟨_, rfl, q _ _ _ (.refl g) (.int _)⟩)
    · obtain ⟨v, rfl, hv⟩ := hx.one
      split at q
      · rename_i n hn
        split at q
        · rename_i hz
          cases hv.frz rfl
          exact .inr ⟨_, n, rfl, hn, hz, q _ _ _ (.refl g) (.int _)⟩
        · exact q.elim
      · exact q.elim
    · exact q.elim
theorem fn_all (hc : X.calm = true) : ∃ r, CallR X (.builtin "all") r ∧ CallD X r dAll := by
  refine ⟨_, cr_all hc, fun ds e h => ?_, fun F own B H vs ds Q g hx q => ?_⟩
  · unfold dAll at h
    split at h <;> (try split at h) <;> cases h
  · unfold dAll at q
    split at q
    · obtain ⟨v, rfl, hv⟩ := hx.one
      obtain ⟨l, vs, rfl, hl, rv⟩ := hv.lst g
      split at q
      · rename_i bs hb
        have e := rv.bools hb
        subst e
        exact ⟨l, bs, rfl, .inl (.inl hl), q _ _ _ (.refl g) (.bl _)⟩
      · exact q.elim
    · exact q.elim
omit [Mg] in
theorem SqT.tyx {K : PySem.W.Frag} {H : Hp} {a : Addr} {xs : List V} (h : SqT K H a xs) : TyX K H (.ref a) (.type "tuple") := by
  rcases h with (h | ⟨o, h⟩) | ⟨o, _, _, h1, h2, _⟩
  · exact .base (.tup h)
  · exact .fTuple h
  · exact .kTuple h1 h2
end
/-- a constant of the module -/
theorem ej_glob {X : Cx} {W : WX} {G : List Mode} {x : Str} {v : V} {u : Value} {d : D} {pos : Pos} (hg : Gl X x) (hm : X.mg x = some u) (r : RelV v u) (h : ∀ B, Rp X.K B v d) (hd : (x == ("__debug__" : Str)) = false := by decide) : EJ X W G (.Name x pos) (conD d) :=
  ⟨_, pe_glob hg hm r hd, fun F ρ own B σ H Q gd q => q v B H (.refl gd.gr) (h B)⟩
def D.isTy : String → D → Bool
  | "str", .str _ => true
  | "list", .lst _ => true
  | _, _ => false
def MethD (X : Cx) (r : V → List V → Hp → VK → Prop) (f : D → List D → Res D) : Prop :=
  (∀ d ds e, f d ds ≠ .ex e) ∧ ∀ (F : Hp) (own : Own) (B H : Hp) (v : V) (d : D) (vs : List V) (ds : List D) (Q : VK), Ground F own B H → Sn X.K own B H v d → SnA X.K own B H vs ds →
    (f d ds).has (fun d => ∀ (v : V) (B' H' : Hp), Step own F B H B' H' → Rp X.K B' v d → Q v H') (fun _ => False) → r v vs H Q
def MethN (X : Cx) (r : V → List V → Hp → VK → Prop) (f : D → List D → Res (List D)) : Prop :=
  (∀ d ds e, f d ds ≠ .ex e) ∧ ∀ (F : Hp) (own : Own) (B H : Hp) (v : V) (d : D) (vs : List V) (ds : List D) (Q : VK), Ground F own B H → Sn X.K own B H v d → SnA X.K own B H vs ds →
    (f d ds).has (fun d => ∀ (p : Addr) (vs : List V) (B' H' : Hp), Step own F B H B' H' → B' p = none → F p = none → own p = none → H' p = some (.lst vs) → RpA X.K B' vs d → Q (.ref p) H') (fun _ => False) → r v vs H Q
def methV {α : Type} (n : String) (f : D → List D → Res α) (go : Rho → Res D) (g : Rho → Res (List D)) : Rho → Res α := fun ρ => (go ρ).bind fun d => if d.isTy n = true then (g ρ).bind fun ds => f d ds else .no
theorem isTy_tyV {K : PySem.W.Frag} {F : Hp} {own : Own} {B H : Hp} {v : V} {d : D} {n : String} (h : Sn K own B H v d) (g : Ground F own B H) (e : d.isTy n = true) : tyV K n v H := by
  unfold D.isTy at e
  split at e
  · cases h.str
    rfl
  · obtain ⟨l, vs, rfl, hl, rv⟩ := h.lst g
    exact .inl ⟨rfl, vs, .inl (.inl hl)⟩
  · cases e
section
variable {X : Cx} {W : WX} {G : List Mode} {e o : Expr} {es : List Expr} {name : Str} {apos cpos : Pos} {n id : String}
theorem ej_M {f : D → List D → Res D} {go : Rho → Res D} {g : Rho → Res (List D)} (pa : PlainAttrs n) (slot : Slot n name id) (hty : typeOf (.builtin id) = pure (.type "method_descriptor")) (hm : ∃ r, MtR X id r ∧ MethD X r f) (ho : BJ X W G o go) (ha : BAJ X W G (e :: es) g)
    (hbase : attributeBase o name X.env (eval o X.env) = eval o X.env := by rfl)
    (hfew : ((backTo cpos (starEach (e :: es) X.env)).all (fun x => !x.1) && (backToKw cpos (keywordEach [] X.env)).all (fun x => x.1.isSome)
      && decide ((e :: es).length + ([] : List Keyword).length + (if ([] : List Keyword).isEmpty then 0 else 1) < 30)) = true := by rfl)
    (hline : (apos.endLine == cpos.line) = true := by rfl) (hs : starEach (e :: es) X.env = (false, eval e X.env) :: starEach es X.env := by rfl) (hplain : (backTo cpos (starEach es X.env)).any (·.1) = false := by rfl) :
    EJ X W G (.Call (.Attribute o name apos) (e :: es) [] cpos) (methV n f go g) := by
  obtain ⟨r, h1, h2⟩ := hm
  obtain ⟨to, po, vo⟩ := ho
  obtain ⟨ta, pa', va⟩ := ha
  refine ⟨_, pe_bm pa slot hty h1 po pa' hbase hfew hline hs hplain, fun F ρ own B σ H Q gd q => ?_⟩
  refine vo F ρ own B σ H _ gd (Res.has_mono (Res.has_bind q) (fun d q v B1 H1 s1 r1 => ?_) fun _ x => x)
  split at q
  · rename_i hty
    refine ⟨isTy_tyV r1 (gd.gr.step s1) hty, ?_⟩
    refine va F ρ own B1 σ H1 _ (gd.step s1) (Res.has_mono (Res.has_bind q) (fun ds q vs B2 H2 s2 r2 => ?_) fun _ x => x.step s1)
    exact h2.2 F own B2 H2 v d vs ds Q ((gd.gr.step s1).step s2) (r1.step s2) r2 (Res.has_calm (h2.1 d ds) q fun d q v B3 H3 s3 => q v B3 H3 ((s1.trans s2).trans s3))
  · exact q.elim
theorem nj_M {f : D → List D → Res (List D)} {go : Rho → Res D} {g : Rho → Res (List D)} (pa : PlainAttrs n) (slot : Slot n name id) (hty : typeOf (.builtin id) = pure (.type "method_descriptor")) (hm : ∃ r, MtR X id r ∧ MethN X r f) (ho : BJ X W G o go) (ha : BAJ X W G (e :: es) g)
    (hbase : attributeBase o name X.env (eval o X.env) = eval o X.env := by rfl)
    (hfew : ((backTo cpos (starEach (e :: es) X.env)).all (fun x => !x.1) && (backToKw cpos (keywordEach [] X.env)).all (fun x => x.1.isSome)
      && decide ((e :: es).length + ([] : List Keyword).length + (if ([] : List Keyword).isEmpty then 0 else 1) < 30)) = true := by rfl)
    (hline : (apos.endLine == cpos.line) = true := by rfl) (hs : starEach (e :: es) X.env = (false, eval e X.env) :: starEach es X.env := by rfl) (hplain : (backTo cpos (starEach es X.env)).any (·.1) = false := by rfl) :
    NJ X W G (.Call (.Attribute o name apos) (e :: es) [] cpos) (methV n f go g) := by
  obtain ⟨r, h1, h2⟩ := hm
  obtain ⟨to, po, vo⟩ := ho
  obtain ⟨ta, pa', va⟩ := ha
  refine ⟨_, pe_bm pa slot hty h1 po pa' hbase hfew hline hs hplain, fun F ρ own B σ H Q gd q => ?_⟩
  refine vo F ρ own B σ H _ gd (Res.has_mono (Res.has_bind q) (fun d q v B1 H1 s1 r1 => ?_) fun _ x => x)
  split at q
  · rename_i hty
    refine ⟨isTy_tyV r1 (gd.gr.step s1) hty, ?_⟩
    refine va F ρ own B1 σ H1 _ (gd.step s1) (Res.has_mono (Res.has_bind q) (fun ds q vs B2 H2 s2 r2 => ?_) fun _ x => x.step s1)
    exact h2.2 F own B2 H2 v d vs ds Q ((gd.gr.step s1).step s2) (r1.step s2) r2 (Res.has_calm (h2.1 d ds) q fun d q p vs B3 H3 s3 => q p vs B3 H3 ((s1.trans s2).trans s3))
  · exact q.elim
end
def dJoin : D → List D → Res D
  | .str a, [.lst xs] => match D.strs xs with
    | some ys => if (ys.map (·.length)).sum + ys.length * a.length ≤ 16777216 then .ok (.str (Txt.join a ys)) else .no
    | none => .no
  | _, _ => .no
def dSplit : D → List D → Res (List D)
  | .str a, [.str b] => if (b.length == 0) = false ∧ a.length + 2 ≤ sizeLine then .ok ((Txt.split a b).map D.str) else .no
  | _, _ => .no
def dStarts : D → List D → Res D
  | .str a, [.str b] => .ok (.bl (Txt.startswith a b))
  | _, _ => .no
section
variable {X : Cx}
theorem mth_join : ∃ r, MtR X "str.join" r ∧ MethD X r dJoin := by
  refine ⟨_, mt_join, fun d ds e h => ?_, fun F own B H v d vs ds Q g hv hx q => ?_⟩
  · unfold dJoin at h
    split at h <;> (try split at h) <;> (try split at h) <;> cases h
  · unfold dJoin at q
    split at q
    · cases hv.str
      obtain ⟨v, rfl, hv⟩ := hx.one
      obtain ⟨l, vs, rfl, hl, rv⟩ := hv.lst g
      split at q
      · rename_i ys hy
        split at q
        · rename_i hz
          have e := rv.strs hy
          subst e
          exact ⟨_, l, ys, rfl, rfl, .inl (.inl (.inl hl)), hz, q _ _ _ (.refl g) (.str _)⟩
        · exact q.elim
      · exact q.elim
    · exact q.elim
theorem mth_split : ∃ r, MtR X "str.split" r ∧ MethN X r dSplit := by
  refine ⟨_, mt_split, fun d ds e h => ?_, fun F own B H v d vs ds Q g hv hx q => ?_⟩
  · unfold dSplit at h
    split at h <;> (try split at h) <;> cases h
  · unfold dSplit at q
    split at q
    · cases hv.str
      obtain ⟨v, rfl, hv⟩ := hx.one
      cases hv.str
      split at q
      · rename_i hz
        exact ⟨_, _, rfl, rfl, hz.1, hz.2, fun n hn => new_lstN g (RpA.of_strs _) q n hn⟩
      · exact q.elim
    · exact q.elim
theorem mth_starts : ∃ r, MtR X "str.startswith" r ∧ MethD X r dStarts := by
  refine ⟨_, mt_startswith, fun d ds e h => ?_, fun F own B H v d vs ds Q g hv hx q => ?_⟩
  · unfold dStarts at h
    split at h <;> cases h
  · unfold dStarts at q
    split at q
    · cases hv.str
      obtain ⟨v, rfl, hv⟩ := hx.one
      cases hv.str
      exact ⟨_, _, rfl, rfl, q _ _ _ (.refl g) (.bl _)⟩
    · exact q.elim
end
def IterF (K : PySem.W.Frag) (F : Hp) (J : It) (items : List D) (B0 : Hp) : Prop :=
  ∀ (own : Own) (B H : Hp), Ext B0 B → Ground F own B H → ∀ i, (i = items.length → J.stop i H) ∧ (∀ d, items[i]? = some d → J.go i H ∧ ∀ x H', J.yld i H x H' → ∃ B', Step own F B H B' H' ∧ Rp K B' x d)
/-- .. while what is owned stays -/
def IterB (K : PySem.W.Frag) (F : Hp) (J : It) (items : List D) (own0 : Own) (B0 H0 : Hp) : Prop :=
  ∀ (own : Own) (B H : Hp), Ext B0 B → (∀ a, own0 a ≠ none → own a ≠ none ∧ H a = H0 a) → Ground F own B H → ∀ i, (i = items.length → J.stop i H) ∧ (∀ d, items[i]? = some d → J.go i H ∧ ∀ x H', J.yld i H x H' → ∃ B', Step own F B H B' H' ∧ Rp K B' x d)
theorem IterF.b {K : PySem.W.Frag} {F : Hp} {J : It} {items : List D} {own0 : Own} {B0 H0 : Hp} (h : IterF K F J items B0) : IterB K F J items own0 B0 H0 := fun own B H e _ g => h own B H e g
def EvI (X : Cx) (W : WX) (G : List Mode) (wi : TI) (g : Rho → Res (List D)) : Prop :=
  ∀ (F : Hp) (ρ : Rho) (own : Own) (B : Hp) (σ : L2.St) (H : Hp) (R : It → Hp → Prop), Good X.K F G ρ own B σ H →
    (g ρ).has (fun items => ∀ (J : It) (B' H' : Hp), Step own F B H B' H' → IterF X.K F J items B' → R J H') (WOk X.K X.mg W own F B H σ) → wi σ H R
def EvIB (X : Cx) (W : WX) (G : List Mode) (wi : TI) (g : Rho → Res (List D)) : Prop :=
  ∀ (F : Hp) (ρ : Rho) (own : Own) (B : Hp) (σ : L2.St) (H : Hp) (R : It → Hp → Prop), Good X.K F G ρ own B σ H →
    (g ρ).has (fun items => ∀ (J : It) (B' H' : Hp), Step own F B H B' H' → IterB X.K F J items own B' H' → R J H') (WOk X.K X.mg W own F B H σ) → wi σ H R
def IJ (X : Cx) (W : WX) (G : List Mode) (tg e : Expr) (g : Rho → Res (List D)) : Prop := ∃ wi, PI X tg e wi ∧ EvI X W G wi g
def IBJ (X : Cx) (W : WX) (G : List Mode) (tg e : Expr) (g : Rho → Res (List D)) : Prop := ∃ wi, PI X tg e wi ∧ EvIB X W G wi g
theorem IJ.b {X : Cx} {W : WX} {G : List Mode} {tg e : Expr} {g : Rho → Res (List D)} (h : IJ X W G tg e g) : IBJ X W G tg e g :=
  let ⟨wi, p, v⟩ := h; ⟨wi, p, fun F ρ own B σ H R gd q => v F ρ own B σ H R gd (Res.has_mono q (fun _ q J B' H' s i => q J B' H' s i.b) fun _ x => x)⟩
omit [Mg] in
theorem pi_or2 {X : Cx} {tg e : Expr} {t t' : TI} (h : PI X tg e t) (h' : PI X tg e t') : PI X tg e (fun σ H Q => t σ H Q ∨ t' σ H Q) := ⟨fun pins s σ H Q I q => by
  rcases q with q | q
  · exact h.run pins s σ H Q I q
  · exact h'.run pins s σ H Q I q⟩
def dItems : D → Res (List D)
  | .lst xs => .ok xs
  | .tup xs => .ok xs
  | .scr xs => .ok xs
  | .str z => .ok (z.cps.toList.map fun c => .str ⟨#[c]⟩)
  | _ => .no
theorem iter_scr {K : PySem.W.Frag} {F : Hp} {a : Addr} {vs : List V} {ds : List D} {B0 : Hp} (sq0 : SqL K B0 a vs) (r : RpA K B0 vs ds) : IterF K F (Itl K a) ds B0 := fun own B H e g i => by
  have sq : SqL K H a vs := Same.seq (Same.trans e g.same) sq0
  refine ⟨fun h => ⟨vs, sq, by rw [r.len]; omega⟩, fun d hd => ?_⟩
  obtain ⟨v, h1, h2⟩ := r.get hd
  refine ⟨⟨vs, v, sq, h1⟩, fun x H' y => ?_⟩
  obtain ⟨rfl, y⟩ := y
  have ev := y vs sq
  rw [h1] at ev
  cases ev
  exact ⟨B, .refl g, h2.mono e⟩
theorem iter_tup {K : PySem.W.Frag} {F : Hp} {a : Addr} {vs : List V} {ds : List D} {B0 : Hp} (sq0 : SqT K B0 a vs) (r : RpA K B0 vs ds) : IterF K F (Itt K a) ds B0 := fun own B H e g i => by
  have sq : SqT K H a vs := Ext.seqT (Same.trans e g.same) sq0
  refine ⟨fun h => ⟨vs, sq, by rw [r.len]; omega⟩, fun d hd => ?_⟩
  obtain ⟨v, h1, h2⟩ := r.get hd
  refine ⟨⟨vs, v, sq, h1⟩, fun x H' y => ?_⟩
  obtain ⟨rfl, y⟩ := y
  have ev := y vs sq
  rw [h1] at ev
  cases ev
  exact ⟨B, .refl g, h2.mono e⟩
theorem iter_str {K : PySem.W.Frag} {F : Hp} {z : Str} {B0 : Hp} : IterF K F (Its z) (z.cps.toList.map fun c => .str ⟨#[c]⟩) B0 := fun own B H e g i => by
  refine ⟨fun h => ?_, fun d hd => ?_⟩
  · show z.cps.size ≤ i
    rw [h]
    simp
  · simp only [List.getElem?_map, Option.map_eq_some_iff] at hd
    obtain ⟨c, h1, rfl⟩ := hd
    have h1' : z.cps[i]? = some c := by
      rw [← Array.getElem?_toList]
      exact h1
    refine ⟨?_, fun x H' y => ?_⟩
    · show i < z.cps.size
      exact (Array.getElem?_eq_some_iff.mp h1').1
    · obtain ⟨rfl, c', h2, rfl⟩ := y
      rw [h1'] at h2
      cases h2
      exact ⟨B, .refl g, .str _⟩
section
variable {X : Cx} {W : WX} {G : List Mode} {tg e a b c : Expr} {p pos : Pos}
theorem ij_seq {g : Rho → Res D} (h : EJ X W G e g) : IJ X W G tg e (fun ρ => (g ρ).bind dItems) := by
  obtain ⟨t, pe, ve⟩ := h
  refine ⟨_, pi_or2 (pi_list pe) (pi_or2 (pi_tup pe) (pi_str pe)), fun F ρ own B σ H R gd q => ?_⟩
  have q0 := Res.has_bind q
  cases hg : g ρ with
  | no =>
    rw [hg] at q0
    exact q0.elim
  | ex x =>
    rw [hg] at q0
    refine .inl (ve F ρ own B σ H _ gd ?_)
    rw [hg]
    exact q0
  | ok d =>
    rw [hg] at q0
    have q1 : (dItems d).has _ _ := q0
    cases d with
    | lst xs =>
      refine .inl (ve F ρ own B σ H _ gd ?_)
      rw [hg]
      intro v B' H' s r
      cases r with
      | lst hl rv => exact ⟨_, rfl, ⟨_, .inl (.inl ((gd.gr.step s).base _ _ hl).1)⟩, q1 _ B' H' s (iter_scr (.inl (.inl hl)) rv)⟩
    | scr xs =>
      refine .inl (ve F ρ own B σ H _ gd ?_)
      rw [hg]
      intro v B' H' s r
      cases r with
      | scr hl rv => exact ⟨_, rfl, ⟨_, Same.seq (gd.gr.step s).same hl⟩, q1 _ B' H' s (iter_scr hl rv)⟩
    | tup xs =>
      refine .inr (.inl (ve F ρ own B σ H _ gd ?_))
      rw [hg]
      intro v B' H' s r
      cases r with
      | tup hl rv => exact ⟨_, rfl, ⟨_, Ext.seqT (gd.gr.step s).same hl⟩, q1 _ B' H' s (iter_tup hl rv)⟩
    | str z =>
      refine .inr (.inr (ve F ρ own B σ H _ gd ?_))
      rw [hg]
      intro v B' H' s r
      cases r
      exact ⟨z, rfl, q1 _ B' H' s iter_str⟩
    | _ => exact q1.elim
def upFrom (lo : Int) (n : Nat) : List D := (List.range n).map fun i => .int (lo + (i : Nat))
theorem iter_rng {K : PySem.W.Frag} {F : Hp} {lo : Int} {n : Nat} {B0 : Hp} : IterF K F (Itr lo n) (upFrom lo n) B0 := fun own B H e g i => by
  refine ⟨fun h => ?_, fun d hd => ?_⟩
  · show n ≤ i
    rw [h]
    simp [upFrom]
  · simp only [upFrom, List.getElem?_map, Option.map_eq_some_iff] at hd
    obtain ⟨j, h1, rfl⟩ := hd
    obtain ⟨h2, h3⟩ := List.getElem?_eq_some_iff.mp h1
    simp at h3 h2
    subst h3
    refine ⟨h2, fun x H' y => ?_⟩
    obtain ⟨rfl, rfl⟩ := y
    exact ⟨B, .refl g, .int _⟩
def dRng1 : List D → Res (List D)
  | [.int j] => if -(2 ^ 62) ≤ j ∧ j < 2 ^ 62 then .ok (upFrom 0 j.toNat) else .no
  | _ => .no
def dRng2 : List D → Res (List D)
  | [.int i, .int j] => if -(2 ^ 62) ≤ i ∧ i < 2 ^ 62 ∧ -(2 ^ 62) ≤ j ∧ j < 2 ^ 62 then .ok (upFrom i (j - i).toNat) else .no
  | _ => .no
theorem ij_range1 {g : Rho → Res (List D)} (hg : Gl X "range") (hm : X.mg "range" = none) (ha : AJ X W G [a] g) (hs : starEach [a] X.env = [(false, eval a X.env)] := by rfl) :
    IJ X W G tg (.Call (.Name "range" p) [a] [] pos) (callV dRng1 g) := by
  obtain ⟨t, pe, ve⟩ := ha
  refine ⟨_, pi_range1 hg hm pe hs, fun F ρ own B σ H R gd q => ?_⟩
  refine ve F ρ own B σ H _ gd (Res.has_mono (Res.has_bind q) (fun ds q vs B' H' s r => ?_) fun _ x => x)
  unfold dRng1 at q
  split at q
  · split at q
    · rename_i hz
      cases r with
      | cons r1 r2 =>
        cases r1
        cases r2
        exact ⟨_, rfl, hz.1, hz.2, q _ B' H' s iter_rng⟩
    · exact q.elim
  · exact q.elim
end
end T
set_option Elab.async false
set_option linter.all false
set_option maxRecDepth 100000
set_option maxHeartbeats 4000000
namespace T
open PySem PySem.Spec PyProof.Rows L2
variable [Mg]
/-- what label n owned is let go -/
def dropL (own : Own) (n : Nat) : Own := fun a => match own a with
  | some (m :: r) => if m = n ∧ m ≠ SH then none else some (m :: r)
  | o => o
omit [Mg] in
theorem dropL_some {own : Own} {n : Nat} {a : Addr} {l : Lab} (h : dropL own n a = some l) : own a = some l := by
  unfold dropL at h
  split at h
  · split at h
    · cases h
    · rename_i e _
      rw [e]
      exact h
  · exact h
omit [Mg] in
theorem dropL_ne {own : Own} {n m : Nat} {r : Lab} {a : Addr} (h : own a = some (m :: r)) (ne : m ≠ n) : dropL own n a = some (m :: r) := by
  unfold dropL
  rw [h]
  simp [ne]
omit [Mg] in
theorem dropL_st {own : Own} {n : Nat} {a : Addr} {r : Lab} : own a = some (SH :: r) ↔ dropL own n a = some (SH :: r) := by
  refine ⟨fun h => ?_, dropL_some⟩
  unfold dropL
  rw [h]
  simp
theorem VRep.own_congr {K : PySem.W.Frag} {B H : Hp} {own own' : Own} {m : Mode} {lab : Lab} {v : V} {d : D} (c : ∀ a r, own a = some (lab ++ r) → own' a = some (lab ++ r)) (st : ∀ a n r, own a = some (SH :: n :: r) ↔ own' a = some (SH :: n :: r)) (h : VRep K B H own m lab v d) : VRep K B H own' m lab v d :=
  VRep.carry ⟨Same.refl B, fun l r e => ⟨c l r e, rfl⟩, ⟨st, fun _ _ _ _ => rfl⟩⟩ h
omit [Mg] in
theorem none_back {own own' : Own} {a : Addr} (h : ∀ a l, own' a = some l → own a = some l) (e : own a = none) : own' a = none := by
  cases q : own' a with
  | none => rfl
  | some l =>
    have := h a l q
    rw [e] at this
    cases this
omit [Mg] in
theorem Ground.drop {F : Hp} {own own' : Own} {B H : Hp} (g : Ground F own B H) (h : ∀ a l, own' a = some l → own a = some l) : Ground F own' B H where
  base := fun a o e => ⟨(g.base a o e).1, none_back h (g.base a o e).2⟩
  frame := fun a o e => ⟨(g.frame a o e).1, none_back h (g.frame a o e).2.1, (g.frame a o e).2.2⟩
  live := fun a e => g.live a fun z => e (none_back h z)
section
variable {K : PySem.W.Frag} {F B H : Hp} {own : Own} {G : List Mode} {ρ : Rho} {σ : L2.St}
theorem Good.set (g : Good K F G ρ own B σ H) {i : Nat} {v : V} {d : D} (r : Rp K B v d) : Good K F (G.set i .fz) (ρ.set i (some d)) (dropL own (i + 1)) B (σ.set i (some v)) H where
  gr := g.gr.drop fun a l h => dropL_some h
  len := by simpa using g.len
  slots := fun j e he => by
    have hl := g.len
    by_cases hj : i = j
    · subst hj
      have hlt : i < ρ.length := by
        have := (List.getElem?_eq_some_iff.mp he).1
        simpa using this
      rw [List.getElem?_set_self hlt] at he
      cases he
      refine ⟨v, List.getElem?_set_self (by omega), ?_⟩
      have e1 : (G.set i Mode.fz).getD i .fz = .fz := by
        by_cases hG : i < G.length
        · simp [List.getD, List.getElem?_set_self hG]
        · rw [List.set_eq_of_length_le (Nat.le_of_not_lt hG)]
          simp [List.getD, List.getElem?_eq_none (Nat.le_of_not_lt hG)]
      rw [e1]
      exact r
    · rw [List.getElem?_set_ne hj] at he
      obtain ⟨w, h1, h2⟩ := g.slots j e he
      refine ⟨w, by rw [List.getElem?_set_ne hj]; exact h1, ?_⟩
      have e1 : (G.set i Mode.fz).getD j .fz = G.getD j .fz := by simp [List.getD, List.getElem?_set_ne hj]
      rw [e1]
      exact VRep.own_congr (fun a r e => dropL_ne e (by omega)) (fun a n r => dropL_st) h2
/-- .. a slot that owns nothing -/
theorem Good.set0 (g : Good K F G ρ own B σ H) {i : Nat} {v : V} {d : D} (hG : G.getD i .fz = .fz) (r : Rp K B v d) : Good K F G (ρ.set i (some d)) own B (σ.set i (some v)) H where
  gr := g.gr
  len := by simpa using g.len
  slots := fun j e he => by
    have hl := g.len
    by_cases hj : i = j
    · subst hj
      have hlt : i < ρ.length := by
        have := (List.getElem?_eq_some_iff.mp he).1
        simpa using this
      rw [List.getElem?_set_self hlt] at he
      cases he
      refine ⟨v, List.getElem?_set_self (by omega), ?_⟩
      rw [hG]
      exact r
    · rw [List.getElem?_set_ne hj] at he
      obtain ⟨w, h1, h2⟩ := g.slots j e he
      exact ⟨w, by rw [List.getElem?_set_ne hj]; exact h1, h2⟩
end
/-- only these slots differ -/
def OnlyAt (is : List Nat) (σ σ' : L2.St) : Prop := σ'.length = σ.length ∧ ∀ j, j ∉ is → σ'[j]? = σ[j]?
omit [Mg] in
theorem OnlyAt.refl {is : List Nat} {σ : L2.St} : OnlyAt is σ σ := ⟨rfl, fun _ _ => rfl⟩
omit [Mg] in
theorem OnlyAt.trans {is js : List Nat} {σ σ' σ2 : L2.St} (h : OnlyAt is σ σ') (h' : OnlyAt js σ' σ2) : OnlyAt (is ++ js) σ σ2 :=
  ⟨h'.1.trans h.1, fun j hj => by
    rw [List.mem_append, not_or] at hj
    exact (h'.2 j hj.2).trans (h.2 j hj.1)⟩
omit [Mg] in
theorem wipe_get {σ : L2.St} : ∀ {vs : List Nat} (j : Nat), (wipe σ vs)[j]? = if j ∈ vs then (if j < σ.length then some none else none) else σ[j]?
  | [], j => by simp [wipe]
  | v :: vs, j => by
    unfold wipe
    by_cases h : v = j
    · subst h
      rw [List.getElem?_set]
      simp [wipe_length]
    · rw [List.getElem?_set_ne h, wipe_get j]
      have : (j ∈ v :: vs) ↔ j ∈ vs := by simp [Ne.symm h]
      simp [this]
omit [Mg] in
theorem wipe_only {is vs : List Nat} {σ σ' : L2.St} (h : OnlyAt is (wipe σ vs) σ') (hs : ∀ i ∈ is, i ∈ vs) : wipe σ' vs = wipe σ vs := by
  apply List.ext_getElem?
  intro j
  rw [wipe_get, wipe_get]
  have hl : σ'.length = σ.length := by rw [h.1, wipe_length]
  by_cases hj : j ∈ vs
  · simp [hj, hl]
  · have hj' : j ∉ is := fun q => hj (hs j q)
    have := h.2 j hj'
    rw [wipe_get] at this
    simp only [hj, if_false] at this ⊢
    exact this
abbrev Bnd := D → Rho → Option Rho
abbrev BndA := List D → Rho → Option Rho
/-- a target: b its mirror, is the slots that it stores into -/
def GJ (X : Cx) (tg : Expr) (b : Bnd) (is : List Nat) : Prop := ∃ g, PG X tg g ∧ ∀ (F : Hp) (own : Own) (B : Hp) (σ : L2.St) (H : Hp) (G : List Mode) (ρ ρ' : Rho) (v : V) (d : D) (Q : L2.St → Hp → Prop),
  Good X.K F G ρ own B σ H → Rp X.K B v d → b d ρ = some ρ' → (∀ i ∈ is, G.getD i .fz = .fz) →
    (∀ σ', Good X.K F G ρ' own B σ' H → OnlyAt is σ σ' → Q σ' H) → g v σ H Q
def GAJ (X : Cx) (tgs : List Expr) (b : BndA) (is : List Nat) : Prop := ∃ g, PGs X tgs g ∧ ∀ (F : Hp) (own : Own) (B : Hp) (σ : L2.St) (H : Hp) (G : List Mode) (ρ ρ' : Rho) (vs : List V) (ds : List D) (Q : L2.St → Hp → Prop),
  Good X.K F G ρ own B σ H → RpA X.K B vs ds → b ds ρ = some ρ' → (∀ i ∈ is, G.getD i .fz = .fz) →
    (∀ σ', Good X.K F G ρ' own B σ' H → OnlyAt is σ σ' → Q σ' H) → g vs σ H Q
def bNm (i : Nat) : Bnd := fun d ρ => some (ρ.set i (some d))
def bNil : BndA := fun ds ρ => match ds with
  | [] => some ρ
  | _ => none
def bCons (b : Bnd) (c : BndA) : BndA := fun ds ρ => match ds with
  | d :: r => (b d ρ).bind fun ρ' => c r ρ'
  | [] => none
def bTp (n : Nat) (b : BndA) : Bnd := fun d ρ => match d with
  | .tup ds => if ds.length = n then b ds ρ else none
  | .lst ds => if ds.length = n then b ds ρ else none
  | _ => none
section
variable {X : Cx} {x : Str} {pos : Pos} {e : Expr} {es : List Expr}
theorem gj_nm {i : Nat} (h : PG X (.Name x pos) (gName i)) : GJ X (.Name x pos) (bNm i) [i] := ⟨_, h, fun F own B σ H G ρ ρ' v d Q gd r e hG q => by
  cases e
  refine q _ (gd.set0 (hG i (List.mem_singleton.mpr rfl)) r) ⟨by simp, fun j hj => ?_⟩
  rw [List.getElem?_set_ne]
  intro z
  exact hj (by simp [z])⟩
theorem gaj_nil : GAJ X [] bNil [] := ⟨_, pgs_nil, fun F own B σ H G ρ ρ' vs ds Q gd r e hG q => by
  cases r with
  | nil =>
    cases e
    exact ⟨rfl, q _ gd .refl⟩
  | cons _ _ => cases e⟩
theorem gaj_cons {b : Bnd} {c : BndA} {is js : List Nat} (h : GJ X e b is) (h' : GAJ X es c js) (hs : (assignEach (e :: es) X.env).map (·.2) = assign e X.env :: (assignEach es X.env).map (·.2) := by rfl) : GAJ X (e :: es) (bCons b c) (is ++ js) := by
  obtain ⟨g, p, v⟩ := h
  obtain ⟨g', p', v'⟩ := h'
  refine ⟨_, pgs_cons p p' hs, fun F own B σ H G ρ ρ' vs ds Q gd r e hG q => ?_⟩
  cases r with
  | nil => cases e
  | cons r1 r2 =>
    obtain ⟨ρ1, e1, e2⟩ := Option.bind_eq_some_iff.mp e
    refine ⟨_, _, rfl, v F own B σ H G ρ ρ1 _ _ _ gd r1 e1 (fun i hi => hG i (List.mem_append_left _ hi)) fun σ1 g1 o1 => ?_⟩
    refine v' F own B σ1 H G ρ1 ρ' _ _ _ g1 r2 e2 (fun i hi => hG i (List.mem_append_right _ hi)) fun σ2 g2 o2 => ?_
    exact q σ2 g2 (o1.trans o2)
omit [Mg] in
theorem pg_or {t t' : TG} (h : PG X e t) (h' : PG X e t') : PG X e (fun v σ H Q => t v σ H Q ∨ t' v σ H Q) := ⟨fun pins s σ H v u Q I r q => by
  rcases q with q | q
  · exact h.run pins s σ H v u Q I r q
  · exact h'.run pins s σ H v u Q I r q⟩
theorem gj_tp {k : Nat} {b : BndA} {is : List Nat} {n : Nat} (hc : X.calm = true) (h : GAJ X es b is) (hn : (assignEach es X.env).length = n := by rfl) (hst : (assignEach es X.env).findIdx? (·.1) = none := by rfl) : GJ X (.Tuple es k pos) (bTp n b) is := by
  obtain ⟨g, p, v⟩ := h
  refine ⟨_, pg_or (pg_tup hc p hn hst) (pg_lst hc p hn hst), fun F own B σ H G ρ ρ' u d Q gd r e hG q => ?_⟩
  unfold bTp at e
  split at e
  · split at e
    · rename_i hz
      cases r with
      | tup ha rv => exact .inl ⟨_, _, rfl, Ext.seqT gd.gr.same ha, by rw [rv.len]; exact hz, v F own B σ H G ρ ρ' _ _ Q gd rv e hG q⟩
    · cases e
  · split at e
    · rename_i hz
      cases r with
      | lst ha rv => exact .inr ⟨_, _, rfl, .inl (.inl (gd.gr.base _ _ ha).1), by rw [rv.len]; exact hz, v F own B σ H G ρ ρ' _ _ Q gd rv e hG q⟩
    · cases e
  · cases e
end
end T
set_option Elab.async false
set_option linter.all false
set_option maxRecDepth 100000
set_option maxHeartbeats 4000000
namespace T
open PySem PySem.Spec PyProof.Rows L2
variable [Mg]
def Res.calm {α : Type} : Res α → Res α
  | .ok a => .ok a
  | _ => .no
omit [Mg] in
@[simp] theorem Res.calm_ok {α : Type} (a : α) : (Res.ok a).calm = .ok a := mk_eq0 rfl
omit [Mg] in
theorem Res.has_cb {α β : Type} {r : Res α} {f : α → Res β} {P : β → Prop} {E : Exn → Prop} {E' : Exn → Prop} (h : (r.calm.bind f).has P E) : r.has (fun a => (f a).has P E) E' := by
  cases r with
  | ok a => exact h
  | ex e => exact h.elim
  | no => exact h
def wipeR : Rho → List Nat → Rho
  | ρ, [] => ρ
  | ρ, v :: vs => (wipeR ρ vs).set v none
def lcM (b : Bnd) (c : Rho → Res Bool) (f : Rho → Res D) (ρ : Rho) : List D → Res (List D)
  | [] => .ok []
  | x :: xs => match b x ρ with
    | none => .no
    | some ρ' => (c ρ').calm.bind fun k => if k = true then (f ρ').calm.bind fun y => (lcM b c f ρ xs).bind fun ys => .ok (y :: ys) else lcM b c f ρ xs
def yesB : Rho → Res Bool := fun _ => .ok true
def compV (src : Rho → Res (List D)) (b : Bnd) (c : Rho → Res Bool) (f : Rho → Res D) (vs : List Nat) : Rho → Res (List D) := fun ρ => (src ρ).bind fun items => if items.length ≤ sizeLine then lcM b c f (wipeR ρ vs) items else .no
omit [Mg] in
theorem wipeR_length (ρ : Rho) : ∀ vs : List Nat, (wipeR ρ vs).length = ρ.length
  | [] => rfl
  | v :: vs => by
    unfold wipeR
    rw [List.length_set, wipeR_length ρ vs]
omit [Mg] in
theorem wipeR_some {ρ : Rho} {j : Nat} {d : D} : ∀ {vs : List Nat}, (wipeR ρ vs)[j]? = some (some d) → ρ[j]? = some (some d) ∧ j ∉ vs
  | [], h => ⟨h, by simp⟩
  | v :: vs, h => by
    unfold wipeR at h
    by_cases hi : v = j
    · subst hi
      by_cases hv : v < (wipeR ρ vs).length
      · rw [List.getElem?_set_self hv] at h; cases h
      · rw [List.getElem?_eq_none (by simpa using hv)] at h; cases h
    · rw [List.getElem?_set_ne hi] at h
      obtain ⟨h1, h2⟩ := wipeR_some h
      exact ⟨h1, by simp only [List.mem_cons, not_or]; exact ⟨fun e => hi e.symm, h2⟩⟩
theorem Good.wipe {K : PySem.W.Frag} {F B H : Hp} {own : Own} {G : List Mode} {ρ : Rho} {σ : L2.St} (g : Good K F G ρ own B σ H) (vs : List Nat) : Good K F G (wipeR ρ vs) own B (wipe σ vs) H where
  gr := g.gr
  len := by rw [wipe_length, wipeR_length]; exact g.len
  slots := fun i d e => by
    obtain ⟨h1, h2⟩ := wipeR_some e
    obtain ⟨v, k1, k2⟩ := g.slots i d h1
    exact ⟨v, by rw [wipe_get]; simp [h2, k1], k2⟩
abbrev W0 : WX := fun _ _ _ _ => False
abbrev Blk (X : Cx) (scope : Scope) (s : Shared) (H : Hp) (C : Addr) (cl : List (Str × Addr)) (fp : List Addr) : Cx := X.blk s H scope (compEnvC scope cl C X.env) fp
section
variable {X : Cx} {W : WX} {G : List Mode} {tg iter elt c : Expr} {scope : Scope}
theorem fam_e {f : Rho → Res D} (h : ∀ s H C cl fp, EJ (Blk X scope s H C cl fp) W0 G elt f) : ∃ te, (∀ s H C cl fp, PE (Blk X scope s H C cl fp) elt te) ∧ Ev X W0 G te f := by
  refine ⟨fun σ H Q => ∀ s H0 C cl fp, (h s H0 C cl fp).choose σ H Q, fun s H0 C cl fp => ⟨fun pins s1 σ H Q I q => ?_⟩, fun F ρ own B σ H Q gd q s H0 C cl fp => ?_⟩
  · exact (h s H0 C cl fp).choose_spec.1.run pins s1 σ H Q I (q s H0 C cl fp)
  · exact (h s H0 C cl fp).choose_spec.2 F ρ own B σ H Q gd q
theorem fam_t {f : Rho → Res Bool} (h : ∀ s H C cl fp, TJ (Blk X scope s H C cl fp) W0 G c f) : ∃ te, (∀ s H C cl fp, PT (Blk X scope s H C cl fp) c te) ∧ EvT X W0 G te f := by
  refine ⟨fun σ H Q => ∀ s H0 C cl fp, (h s H0 C cl fp).choose σ H Q, fun s H0 C cl fp => ⟨fun pins s1 σ H Q I q => ?_⟩, fun F ρ own B σ H Q gd q s H0 C cl fp => ?_⟩
  · exact (h s H0 C cl fp).choose_spec.1.run pins s1 σ H Q I (q s H0 C cl fp)
  · exact (h s H0 C cl fp).choose_spec.2 F ρ own B σ H Q gd q
theorem fam_g {b : Bnd} {is : List Nat} (h : ∀ s H C cl fp, GJ (Blk X scope s H C cl fp) tg b is) : ∃ g, (∀ s H C cl fp, PG (Blk X scope s H C cl fp) tg g) ∧
    ∀ (F : Hp) (own : Own) (B : Hp) (σ : L2.St) (H : Hp) (G : List Mode) (ρ ρ' : Rho) (v : V) (d : T.D) (Q : L2.St → Hp → Prop), Good X.K F G ρ own B σ H → Rp X.K B v d → b d ρ = some ρ' → (∀ i ∈ is, G.getD i .fz = .fz) →
      (∀ σ', Good X.K F G ρ' own B σ' H → OnlyAt is σ σ' → Q σ' H) → g v σ H Q := by
  refine ⟨fun v σ H Q => ∀ s H0 C cl fp, (h s H0 C cl fp).choose v σ H Q, fun s H0 C cl fp => ⟨fun pins s1 σ H v u Q I r q => ?_⟩, fun F own B σ H G ρ ρ' v d Q gd r e hG q s H0 C cl fp => ?_⟩
  · exact (h s H0 C cl fp).choose_spec.1.run pins s1 σ H v u Q I r (q s H0 C cl fp)
  · exact (h s H0 C cl fp).choose_spec.2 F own B σ H G ρ ρ' v d Q gd r e hG q
/-- D, the new list of a comprehension, is owned under the label 0 while it is made -/
def ownD (own : Own) (N : Addr) : Own := fun a => if a = N then some [0] else own a
omit [Mg] in
theorem ownD_self {own : Own} {N : Addr} : ownD own N N = some [0] := by simp [ownD]
omit [Mg] in
theorem ownD_ne {own : Own} {N a : Addr} (h : a ≠ N) : ownD own N a = own a := by simp [ownD, h]
omit [Mg] in
theorem stk_D {H H' : Hp} {own : Own} {N : Addr} (hD : own N = none) (hH : ∀ a, own a ≠ none → H' a = H a) : StK H own H' (ownD own N) := ⟨fun l n r => by
  by_cases h : l = N
  · subst h
    rw [hD, ownD_self]
    simp
  · rw [ownD_ne h], fun l n r e => hH l (by rw [e]; exact fun z => nomatch z)⟩
theorem VRep.more {K : PySem.W.Frag} {B H H' : Hp} {own : Own} {N : Addr} (hD : own N = none) (hH : ∀ a, own a ≠ none → H' a = H a) {m : Mode} {lab : Lab} {v : V} {d : D} (h : VRep K B H own m lab v d) : VRep K B H' (ownD own N) m lab v d :=
  VRep.carry ⟨Same.refl B, fun l r e => ⟨by rw [ownD_ne (fun z => by rw [z, hD] at e; cases e)]; exact e, hH l (by rw [e]; exact fun z => nomatch z)⟩, stk_D hD hH⟩ h
/-- the heart: the source's items walked, the new list made -/
theorem lc_heart {own0 : List Nat} {wi : TI} {g : TG} {tt : TT} {te : TE} {b : Bnd} {fc : Rho → Res Bool} {f : Rho → Res D} {src : Rho → Res (List D)} {is : List Nat} (hi : EvIB X W G wi src)
    (hg : ∀ (F : Hp) (own : Own) (B : Hp) (σ : L2.St) (H : Hp) (G : List Mode) (ρ ρ' : Rho) (v : V) (d : T.D) (Q : L2.St → Hp → Prop), Good X.K F G ρ own B σ H → Rp X.K B v d → b d ρ = some ρ' → (∀ i ∈ is, G.getD i .fz = .fz) →
      (∀ σ', Good X.K F G ρ' own B σ' H → OnlyAt is σ σ' → Q σ' H) → g v σ H Q)
    (hsub : ∀ i ∈ is, i ∈ own0) (hG : ∀ i ∈ is, G.getD i Mode.fz = Mode.fz) (ht : EvT X W0 G tt fc) (he : Ev X W0 G te f) : EvN X W G (tLc wi g tt te own0) (compV src b fc f own0) := fun F ρ own B σ H Q gd q => by
  refine hi F ρ own B σ H _ gd (Res.has_mono (Res.has_bind q) (fun items q J B1 H1 s1 itr => ?_) fun _ x => x)
  split at q
  case isFalse => exact q.elim
  rename_i hz
  intro D hD
  have g1 := gd.step s1
  have hDo := g1.gr.ofresh hD
  have hDb := g1.gr.bfresh hD
  have hDf := g1.gr.ffresh hD
  -- the state ahead of turn i
  refine ⟨fun i m H' => m = items.length - i ∧ i ≤ items.length ∧ ∃ (B' : Hp) (vs : List V) (ds : List T.D), Step own F B1 H1 B' H' ∧ B' D = none ∧ H' D = some (.lst vs) ∧ RpA X.K B' vs ds ∧ ds.length ≤ i ∧
      (lcM b fc f (wipeR ρ own0) (items.drop i)).has (fun rest => ∀ (p : Addr) (vs : List V) (B' H' : Hp), Step own F B H B' H' → B' p = none → F p = none → own p = none → H' p = some (.lst vs) → RpA X.K B' vs (ds ++ rest) → Q (.ref p) H') (fun _ => False),
    ⟨items.length, by omega, Nat.zero_le _, B1, [], [], .garbage g1.gr _ hD, hDb, upd_same, .nil, Nat.zero_le _, ?_⟩, fun i m H' hW => ?_⟩
  · simp only [List.drop_zero, List.nil_append]
    cases e : lcM b fc f (wipeR ρ own0) items with
    | ok ds =>
      rw [e] at q
      exact q
    | no =>
      rw [e] at q
      exact q
    | ex x =>
      exfalso
      clear q itr
      induction items with
      | nil => cases e
      | cons y ys ih =>
        simp only [lcM] at e
        split at e
        · cases e
        · rename_i ρ' _
          cases h1 : fc ρ' with
          | ok k =>
            rw [h1] at e
            simp only [Res.calm_ok, Res.bind_ok] at e
            split at e
            · cases h2 : f ρ' with
              | ok y' =>
                rw [h2] at e
                simp only [Res.calm_ok, Res.bind_ok] at e
                cases h3 : lcM b fc f (wipeR ρ own0) ys with
                | ok zs =>
                  rw [h3] at e
                  cases e
                | no =>
                  rw [h3] at e
                  cases e
                | ex z =>
                  rw [h3] at e
                  cases e
                  exact ih (by simp only [List.length_cons] at hz; omega) h3
              | ex _ =>
                rw [h2] at e
                cases e
              | no =>
                rw [h2] at e
                cases e
            · exact ih (by simp only [List.length_cons] at hz; omega) e
          | ex _ =>
            rw [h1] at e
            cases e
          | no =>
            rw [h1] at e
            cases e
  · obtain ⟨rfl, hile, B', vs, ds, s2, hBD, hHD, rvs, hlen, rest⟩ := hW
    have g2 := g1.step s2
    -- the ground with D owned
    have grD : Ground F (ownD own D) B' H' := ⟨fun a o e => ⟨(g2.gr.base a o e).1, by
        rw [ownD_ne (fun z => by rw [z, hBD] at e; cases e)]
        exact (g2.gr.base a o e).2⟩, fun a o e => ⟨(g2.gr.frame a o e).1, by
        rw [ownD_ne (fun z => by rw [z, hDf] at e; cases e)]
        exact (g2.gr.frame a o e).2.1, (g2.gr.frame a o e).2.2⟩, fun a h => by
        by_cases ha : a = D
        · rw [ha, hHD]
          exact fun z => nomatch z
        · rw [ownD_ne ha] at h
          exact g2.gr.live a h⟩
    have gdD : Good X.K F G (wipeR ρ own0) (ownD own D) B' (wipe σ own0) H' := by
      have gw := g2.wipe own0
      exact ⟨grD, gw.len, fun j d e => by
        obtain ⟨v, h1, h2⟩ := gw.slots j d e
        exact ⟨v, h1, VRep.more hDo (fun a _ => rfl) h2⟩⟩
    have itr' := itr (ownD own D) B' H' s2.ext (fun a h => ⟨by
      by_cases ha : a = D
      · rw [ha, ownD_self]
        exact fun z => nomatch z
      · rw [ownD_ne ha]
        exact h, (s2.ownd a h).1⟩) grD i
    by_cases hi' : i = items.length
    · refine .inl ⟨itr'.1 hi', ?_⟩
      rw [hi', List.drop_length] at rest
      have rest' : ∀ (p : Addr) (vs : List V) (B' H' : Hp), Step own F B H B' H' → B' p = none → F p = none → own p = none → H' p = some (.lst vs) → RpA X.K B' vs (ds ++ []) → Q (.ref p) H' := rest
      rw [List.append_nil] at rest'
      exact rest' D vs B' H' (s1.trans s2) hBD hDf hDo hHD rvs
    · have hlt : i < items.length := by omega
      have hd : items[i]? = some items[i] := List.getElem?_eq_getElem hlt
      obtain ⟨go, yld⟩ := itr'.2 _ hd
      refine .inr ⟨go, _, fun H4 h4 => ⟨items.length - (i + 1), by omega, h4⟩, fun x H3 hy => ?_⟩
      obtain ⟨B3, s3, rx⟩ := yld x H3 hy
      rw [List.drop_eq_getElem_cons hlt] at rest
      simp only [lcM] at rest
      split at rest
      · exact rest.elim
      · rename_i ρ' hb
        have gd3 := gdD.step s3
        -- what a step over D owned is for own
        have down : ∀ {Ba Ha Bb Hb : Hp}, Step (ownD own D) F Ba Ha Bb Hb → Step own F Ba Ha Bb Hb := fun {Ba Ha Bb Hb} s => ⟨s.ext, s.base, fun a h => s.ownd a (by
          by_cases ha : a = D
          · rw [ha, ownD_self]
            exact fun z => nomatch z
          · rw [ownD_ne ha]
            exact h), s.frame⟩
        refine hg F (ownD own D) B3 (wipe σ own0) H3 G _ ρ' x _ _ gd3 rx hb hG fun σ' gd4 o4 => ⟨wipe_only o4 hsub, ?_⟩
        refine ht F ρ' (ownD own D) B3 σ' H3 _ gd4 (Res.has_mono (Res.has_cb (E' := fun _ => False) rest) (fun k rest B5 H5 s5 => ?_) fun _ x => x.elim)
        have sAll := (s2.trans (down s3)).trans (down s5)
        have dn : ∀ {Ba Ha Bb Hb : Hp}, Step (ownD own D) F Ba Ha Bb Hb → Hb D = Ha D ∧ Bb D = none := fun {Ba Ha Bb Hb} s => s.ownd D (by rw [ownD_self]; exact fun z => nomatch z)
        cases k with
        | false => exact ⟨rfl, by omega, B5, vs, ds, sAll, (dn s5).2, by rw [(dn s5).1, (dn s3).1]; exact hHD, (rvs.mono s3.ext).mono s5.ext, by omega, rest⟩
        | true =>
          refine he F ρ' (ownD own D) B5 σ' H5 _ (gd4.step s5) (Res.has_mono (Res.has_cb (E' := fun _ => False) rest) (fun y rest v B6 H6 s6 r6 => ?_) fun _ x => x.elim)
          have hH6 : H6 D = some (.lst vs) := by rw [(dn s6).1, (dn s5).1, (dn s3).1]; exact hHD
          have sA6 := sAll.trans (down s6)
          refine ⟨vs, hH6, by rw [rvs.len]; omega, rfl, by omega, B6, vs ++ [v], ds ++ [y], ?_, (dn s6).2, upd_same, (((rvs.mono s3.ext).mono s5.ext).mono s6.ext).app (.cons r6 .nil), by simp; omega, ?_⟩
          · exact ⟨sA6.ext, fun a o e => by
              rw [upd_ne (fun z => by rw [z, (dn s6).2] at e; cases e)]
              exact sA6.base a o e, fun a ho => by
              have ne : a ≠ D := fun z => ho (by rw [z]; exact hDo)
              rw [upd_ne ne]
              exact sA6.ownd a ho, fun a o e => by
              rw [upd_ne (fun z => by rw [z, hDf] at e; cases e)]
              exact sA6.frame a o e⟩
          · refine Res.has_mono (Res.has_bind rest) (fun ys q p vs B' H' s7 h1 h2 h3 h4 h5 => ?_) fun _ x => x
            have q' : ∀ (p : Addr) (vs : List V) (B' H' : Hp), Step own F B H B' H' → B' p = none → F p = none → own p = none → H' p = some (.lst vs) → RpA X.K B' vs (ds ++ y :: ys) → Q (.ref p) H' := q
            exact q' p vs B' H' s7 h1 h2 h3 h4 (by simpa using h5)
variable {own0 : List (Str × Nat)} {b : Bnd} {f : Rho → Res D} {fc : Rho → Res Bool} {src : Rho → Res (List D)} {is : List Nat} {pos spos py : Pos}
theorem nj_lc (hc : X.calm = true) (hN : X.N.Nodup) (hi : IBJ X W G tg iter src) (ok : BlkOk X.N X.env.scope scope own0) (hg : ∀ s H C cl fp, GJ (Blk X scope s H C cl fp) tg b is) (hsub : ∀ i ∈ is, i ∈ own0.map (·.2)) (hG : ∀ i ∈ is, G.getD i Mode.fz = Mode.fz)
    (he : ∀ s H C cl fp, EJ (Blk X scope s H C cl fp) W0 G elt f) (hs : ∀ x, foldedSetIterable iter X.env x = pure x := by intro _; rfl) : NJ X W G (.ListComp elt [⟨tg, iter, [], 0⟩] scope pos) (compV src b yesB f (own0.map (·.2))) := by
  obtain ⟨wi, pi, vi⟩ := hi
  obtain ⟨te, pe, ve⟩ := fam_e he
  obtain ⟨g, pg, vg⟩ := fam_g hg
  exact ⟨_, pe_lc hc hN pi ok pg (fun _ _ _ _ _ => pts_nil) pe hs, lc_heart vi vg hsub hG (fun F ρ own B σ H Q gd q => q B H (.refl gd.gr)) ve⟩
theorem nj_lcIf (hc : X.calm = true) (hN : X.N.Nodup) (hi : IBJ X W G tg iter src) (ok : BlkOk X.N X.env.scope scope own0) (hg : ∀ s H C cl fp, GJ (Blk X scope s H C cl fp) tg b is) (hsub : ∀ i ∈ is, i ∈ own0.map (·.2)) (hG : ∀ i ∈ is, G.getD i Mode.fz = Mode.fz)
    (ht : ∀ s H C cl fp, TJ (Blk X scope s H C cl fp) W0 G c fc) (he : ∀ s H C cl fp, EJ (Blk X scope s H C cl fp) W0 G elt f) (hs : ∀ x, foldedSetIterable iter X.env x = pure x := by intro _; rfl) : NJ X W G (.ListComp elt [⟨tg, iter, [c], 0⟩] scope pos) (compV src b fc f (own0.map (·.2))) := by
  obtain ⟨wi, pi, vi⟩ := hi
  obtain ⟨te, pe, ve⟩ := fam_e he
  obtain ⟨tt, pt, vt⟩ := fam_t ht
  obtain ⟨g, pg, vg⟩ := fam_g hg
  exact ⟨_, pe_lc hc hN pi ok pg (fun s H C cl fp => pts_one (pt s H C cl fp)) pe hs, lc_heart vi vg hsub hG vt ve⟩
/-- y = [..], y in slot i -/
def LcJ (X : Cx) (W : WX) (G : List Mode) (y : Str) (py : Pos) (i : Nat) (e : Expr) (spos : Pos) (g : Rho → Res (List D)) : Prop := ∃ te, PS X (.Assign [.Name y py] e spos) (tAsg te (gName i)) ∧ EvN X W G te g
theorem lcj {i : Nat} {y : Str} (hc : X.calm = true) (hN : X.N.Nodup) (hy : X.N[i]? = some y) (hyl : X.env.scope.names.lookup y = some .local)
    (hsw : swapsWith (.ListComp elt [⟨tg, iter, [], 0⟩] scope pos) (some (.Name y py)) spos.line X.env = pure true) (hi : IBJ X W G tg iter src) (ok : BlkOk X.N X.env.scope scope own0) (hg : ∀ s H C cl fp, GJ (Blk X scope s H C cl fp) tg b is) (hsub : ∀ i ∈ is, i ∈ own0.map (·.2))
    (hG : ∀ i ∈ is, G.getD i Mode.fz = Mode.fz) (he : ∀ s H C cl fp, EJ (Blk X scope s H C cl fp) W0 G elt f) (hs : ∀ x, foldedSetIterable iter X.env x = pure x := by intro _; rfl) : LcJ X W G y py i (.ListComp elt [⟨tg, iter, [], 0⟩] scope pos) spos (compV src b yesB f (own0.map (·.2))) := by
  obtain ⟨wi, pi, vi⟩ := hi
  obtain ⟨te, pe, ve⟩ := fam_e he
  obtain ⟨g, pg, vg⟩ := fam_g hg
  exact ⟨_, ps_setLc hc hN hy hyl hsw pi ok pg (fun _ _ _ _ _ => pts_nil) pe hs, lc_heart vi vg hsub hG (fun F ρ own B σ H Q gd q => q B H (.refl gd.gr)) ve⟩
end
end T
set_option Elab.async false
set_option linter.all false
set_option maxRecDepth 100000
set_option maxHeartbeats 4000000
namespace T
open PySem PySem.Spec PyProof.Rows L2
variable [Mg]
inductive Out where
  | nx (ρ : Rho) | rt (d : D) | bk (ρ : Rho) | ct (ρ : Rho) | ex (e : Exn) (ρ : Rho) | no | rl (d : D) (ρ : Rho)
/-- the modes at a break, a continue; the mode of what is returned; what is kept at an exception, at a return with the slots (rl) -/
structure LM where
  bk : List Mode
  ct : List Mode
  rt : Mode
  ex : List Mode
  rl : List Mode
/-- from one ground to a later one: the base grows, the store's things keep their numbers -/
structure Gr (own : Own) (B : Hp) (own' : Own) (B' : Hp) : Prop where
  ext : Ext B B'
  le : ∀ (a : Addr) (n : Nat), own a = some [SH, n] → own' a = some [SH, n]
omit [Mg] in
theorem Gr.refl {own : Own} {B : Hp} : Gr own B own B := ⟨Same.refl B, fun _ _ h => h⟩
omit [Mg] in
theorem Gr.trans {own own' own2 : Own} {B B' B2 : Hp} (s : Gr own B own' B') (t : Gr own' B' own2 B2) : Gr own B own2 B2 := ⟨s.ext.trans t.ext, fun a n h => t.le a n (s.le a n h)⟩
omit [Mg] in
theorem Step.g {own : Own} {F B H B' H' : Hp} (s : Step own F B H B' H') : Gr own B own B' := ⟨s.ext, fun _ _ h => h⟩
omit [Mg] in
theorem Gr.drop {own : Own} {B : Hp} {i : Nat} : Gr own B (dropL own i) B := ⟨Same.refl B, fun _ _ h => dropL_st.mp h⟩
def PostS (X : Cx) (W : WX) (L : LM) (G' : List Mode) (F : Hp) (own : Own) (B : Hp) (D : Ends) : Out → Prop
  | .nx ρ => ∀ (own' : Own) (B' : Hp) (σ : L2.St) (H : Hp), Gr own B own' B' → Good X.K F G' ρ own' B' σ H → D.nx σ H
  | .bk ρ => ∀ (own' : Own) (B' : Hp) (σ : L2.St) (H : Hp), Gr own B own' B' → Good X.K F L.bk ρ own' B' σ H → D.bk σ H
  | .ct ρ => ∀ (own' : Own) (B' : Hp) (σ : L2.St) (H : Hp), Gr own B own' B' → Good X.K F L.ct ρ own' B' σ H → D.ct σ H
  | .rt d => ∀ (v : V) (own' : Own) (B' H : Hp), Ext B B' → Ground F own' B' H → VRep X.K B' H own' L.rt [0] v d → D.rt v H
  | .ex e ρ => ∀ (c : Value) (dx : Option Addr) (own' : Own) (B' : Hp) (σ : L2.St) (H : Hp), Gr own B own' B' → Good X.K F L.ex ρ own' B' σ H → ExR X.K X.mg B' H e c dx → W c dx σ H
  | .no => False
  | .rl d ρ => ∀ (v : V) (own' : Own) (B' : Hp) (σ : L2.St) (H : Hp), Gr own B own' B' → Good X.K F L.rl ρ own' B' σ H → VRep X.K B' H own' L.rt [0] v d → D.rt v H
/-- slot j keeps its mode -/
def keepsM (G G2 : List Mode) (j : Nat) : Bool := decide (G2.getD j Mode.fz = G.getD j Mode.fz) || decide (j + 1 = SH)
def leM (G2 G : List Mode) : Prop := ∀ j : Nat, G2.getD j Mode.fz = G.getD j Mode.fz ∨ G2.getD j Mode.fz = Mode.fz
def EvS (X : Cx) (W : WX) (L : LM) (G : List Mode) (t : TS) (f : Rho → Out) (G' : List Mode) : Prop :=
  leM L.ex G → ∀ (F : Hp) (ρ : Rho) (own : Own) (B : Hp) (σ : L2.St) (H : Hp) (D : Ends), Good X.K F G ρ own B σ H → PostS X W L G' F own B D (f ρ) → t D σ H
def SJ (X : Cx) (W : WX) (L : LM) (G : List Mode) (st : Stmt) (f : Rho → Out) (G' : List Mode) : Prop := ∃ t, PS X st t ∧ EvS X W L G t f G'
def SsJ (X : Cx) (W : WX) (L : LM) (G : List Mode) (st : List Stmt) (f : Rho → Out) (G' : List Mode) : Prop := ∃ t, PSs X st t ∧ EvS X W L G t f G'
theorem PostS.ext {X : Cx} {W : WX} {L : LM} {G' : List Mode} {F : Hp} {own own1 : Own} {B B1 : Hp} {D : Ends} (e : Gr own B own1 B1) : ∀ {o : Out}, PostS X W L G' F own B D o → PostS X W L G' F own1 B1 D o
  | .nx _, q => fun own B' σ H e' => q own B' σ H (e.trans e')
  | .bk _, q => fun own B' σ H e' => q own B' σ H (e.trans e')
  | .ct _, q => fun own B' σ H e' => q own B' σ H (e.trans e')
  | .rt _, q => fun v own B' H e' => q v own B' H (e.ext.trans e')
  | .ex _ _, q => fun c dx own B' σ H e' => q c dx own B' σ H (e.trans e')
  | .no, q => q
  | .rl _ _, q => fun v own B' σ H e' => q v own B' σ H (e.trans e')
theorem ExR.mono {K : PySem.W.Frag} {mg : Str → Option Value} {B B' H : Hp} {e : Exn} {c : Value} {dx : Option Addr} (x : ExR K mg B H e c dx) (h : Ext B B') : ExR K mg B' H e c dx := ⟨x.cls, by
  exact x.fs.mono h⟩
def leB : List Mode → List Mode → Bool
  | [], _ => true
  | m :: ms, [] => decide (m = Mode.fz) && leB ms []
  | m :: ms, n :: ns => (decide (m = n) || decide (m = Mode.fz)) && leB ms ns
omit [Mg] in
theorem leM_of : ∀ {G2 G : List Mode}, leB G2 G = true → leM G2 G
  | [], _, _, j => .inr (by simp)
  | m :: ms, [], h, j => by
    simp only [leB, Bool.and_eq_true, decide_eq_true_eq] at h
    cases j with
    | zero => exact .inr (by simpa using h.1)
    | succ j =>
      have := leM_of h.2 j
      simpa using this
  | m :: ms, n :: ns, h, j => by
    simp only [leB, Bool.and_eq_true, Bool.or_eq_true, decide_eq_true_eq] at h
    cases j with
    | zero => simpa using h.1
    | succ j =>
      have := leM_of h.2 j
      simpa using this
/-- the same, as a proposition -/
def leQ : List Mode → List Mode → Prop
  | [], _ => True
  | m :: ms, [] => m = Mode.fz ∧ leQ ms []
  | m :: ms, n :: ns => (m = n ∨ m = Mode.fz) ∧ leQ ms ns
omit [Mg] in
theorem leM_p : ∀ {G2 G : List Mode}, leQ G2 G → leM G2 G
  | [], _, _, j => .inr (by simp)
  | m :: ms, [], h, j => by
    cases j with
    | zero => exact .inr (by simpa using h.1)
    | succ j =>
      have := leM_p h.2 j
      simpa using this
  | m :: ms, n :: ns, h, j => by
    cases j with
    | zero => simpa using h.1
    | succ j =>
      have := leM_p h.2 j
      simpa using this
/-- what stays owned -/
def ownTo (G G2 : List Mode) (own : Own) : Own := fun a => match own a with
  | some ((j + 1) :: r) => if keepsM G G2 j then some ((j + 1) :: r) else none
  | _ => none
def baseTo (G G2 : List Mode) (own : Own) (B H : Hp) : Hp := fun a => match own a with
  | some ((j + 1) :: _) => if keepsM G G2 j then B a else H a
  | some _ => H a
  | none => B a
section
variable {K : PySem.W.Frag} {F B H : Hp} {own : Own} {G G2 : List Mode} {ρ : Rho} {σ : L2.St}
omit [Mg] in
theorem baseTo_ext (g : Ground F own B H) : Ext B (baseTo G G2 own B H) := fun a o e => by
  unfold baseTo
  rw [(g.base a o e).2]
  exact e
omit [Mg] in
theorem ground_to (g : Ground F own B H) : Ground F (ownTo G G2 own) (baseTo G G2 own B H) H where
  base := fun a o e => by
    unfold baseTo at e
    unfold ownTo
    split at e
    · rename_i j r hj
      rw [hj]
      split at e
      · have := g.bnone (a := a) (by rw [hj]; exact fun z => nomatch z)
        rw [this] at e
        cases e
      · rename_i hk
        simp [e, hk]
    · rename_i l hne hl
      refine ⟨e, ?_⟩
      rw [hl]
      split
      · rename_i j r hj
        cases hj
        exact (hne j r rfl).elim
      · rfl
    · rename_i hl
      rw [hl]
      exact ⟨(g.base a o e).1, rfl⟩
  frame := fun a o e => by
    obtain ⟨h1, h2, h3⟩ := g.frame a o e
    unfold ownTo baseTo
    rw [h2]
    exact ⟨h1, rfl, h3⟩
  live := fun a h => g.live a fun z => h (by unfold ownTo; rw [z])
mutual
theorem VRep.frozen (h0 : ∀ a o, B a = some o → own a = none) : ∀ {m : Mode} {j : Nat} {r : Lab} {v : V} {d : D}, keepsM G G2 j = false → VRep K B H own m ((j + 1) :: r) v d → Rp K (baseTo G G2 own B H) v d
  | .fz, j, r, v, d, hk, h => Rp.mono (fun a o e => by
      unfold baseTo
      rw [h0 a o e]
      exact e) h
  | .raw a dx, j, r, v, d, hk, ⟨h1, fs, h2, h3⟩ => by
    subst h1 h2
    exact .exc _ _
  | .own m, j, r, v, d, hk, ⟨l, vs, ds, hv, hd, ho, hl, hn, h⟩ => by
    subst hv hd
    refine .lst ?_ (RpA.of_get hn fun k v' d' h1 h2 => VRep.frozen h0 (r := r ++ [k]) hk (by simpa using h k v' d' h1 h2))
    unfold baseTo
    rw [ho]
    simp [hk, hl]
  | .dic, j, r, v, d, hk, ⟨l, o, ds, hv, hd, ho, hl, h⟩ => by
    subst hv hd
    refine .ofD (o := o) ?_ (h.mono fun a o e => by
      unfold baseTo
      rw [h0 a o e]
      exact e)
    unfold baseTo
    rw [ho]
    simp [hk, hl]
  | .ins c rm, j, r, v, d, hk, ⟨l, dx, vs, ds, hv, hd, ho, hl, hn, h⟩ => by
    subst hv hd
    refine .ins (dx := dx) ?_ hn (VFs.frozen h0 hk h)
    unfold baseTo
    rw [ho]
    simp [hk, hl]
  | .at a m, j, r, v, d, hk, ⟨h1, h2⟩ => VRep.frozen h0 hk h2
  | .any, j, r, v, d, hk, h => by
    have h' : AnyR K B own v d := h
    rcases h' with ⟨_, h1⟩ | ⟨n, a, h1, h2, _⟩
    · exact Rp.mono (fun a o e => by
        unfold baseTo
        rw [h0 a o e]
        exact e) h1
    · subst h1 h2
      exact .exc _ _
  | .sto, j, r, v, d, hk, ⟨h1, os, h2, h3⟩ => by
    subst h1 h2
    exact .exc _ _
  | .fnil, _, _, _, _, _, h => h.elim
  | .fcons _ _, _, _, _, _, _, h => h.elim
theorem VFs.frozen (h0 : ∀ a o, B a = some o → own a = none) : ∀ {m : Mode} {j : Nat} {r : Lab} {k : Nat} {vs : List V} {ds : List D}, keepsM G G2 j = false → VFs K B H own m ((j + 1) :: r) k vs ds → RpA K (baseTo G G2 own B H) vs ds
  | .fnil, _, _, _, _, _, _, ⟨h1, h2⟩ => by
    subst h1 h2
    exact .nil
  | .fcons m rm, j, r, k, _, _, hk, ⟨v, d, vs', ds', h1, h2, h3, h4⟩ => by
    subst h1 h2
    exact .cons (VRep.frozen h0 (r := r ++ [k]) hk (by simpa using h3)) (VFs.frozen h0 hk h4)
  | .fz, _, _, _, _, _, _, h => h.elim
  | .own _, _, _, _, _, _, _, h => h.elim
  | .raw _ _, _, _, _, _, _, _, h => h.elim
  | .dic, _, _, _, _, _, _, h => h.elim
  | .ins _ _, _, _, _, _, _, _, h => h.elim
  | .at _ _, _, _, _, _, _, _, h => h.elim
  | .any, _, _, _, _, _, _, h => h.elim
  | .sto, _, _, _, _, _, _, h => h.elim
end
omit [Mg] in
theorem ownTo_some {a : Addr} {l : Lab} (h : ownTo G G2 own a = some l) : own a = some l := by
  unfold ownTo at h
  split at h
  · rename_i e
    split at h
    · rw [e]
      exact h
    · cases h
  · cases h
omit [Mg] in
theorem ownTo_st {a : Addr} {r : Lab} : own a = some (SH :: r) ↔ ownTo G G2 own a = some (SH :: r) := by
  refine ⟨fun h => ?_, ownTo_some⟩
  unfold ownTo
  rw [h]
  show (if keepsM G G2 999999 = true then _ else _) = _
  rw [if_pos (by simp [keepsM])]
omit [Mg] in
theorem to_gr (g : Ground F own B H) : Gr own B (ownTo G G2 own) (baseTo G G2 own B H) := ⟨baseTo_ext g, fun _ _ h => ownTo_st.mp h⟩
theorem VRep.kept (h0 : ∀ a o, B a = some o → own a = none) {m : Mode} {j : Nat} {r : Lab} {v : V} {d : D} (hk : keepsM G G2 j = true) (h : VRep K B H own m ((j + 1) :: r) v d) : VRep K (baseTo G G2 own B H) H (ownTo G G2 own) m ((j + 1) :: r) v d :=
  VRep.carry ⟨fun a o e => by
    unfold baseTo
    rw [h0 a o e]
    exact e, fun l r' e => ⟨by
    have e' : own l = some ((j + 1) :: (r ++ r')) := by simpa using e
    unfold ownTo
    rw [e']
    simp [hk], rfl⟩, ⟨fun _ _ _ => ownTo_st, fun _ _ _ _ => rfl⟩⟩ h
/-- GHOST: slots freeze -/
theorem Good.to (g : Good K F G ρ own B σ H) (hle : leM G2 G) : Good K F G2 ρ (ownTo G G2 own) (baseTo G G2 own B H) σ H where
  gr := ground_to g.gr
  len := g.len
  slots := fun i d e => by
    obtain ⟨v, h1, h2⟩ := g.slots i d e
    refine ⟨v, h1, ?_⟩
    have h0 : ∀ a o, B a = some o → own a = none := fun a o e => (g.gr.base a o e).2
    have hi : i + 1 ≠ SH := by
      have h3 := g.len
      have h4 := (List.getElem?_eq_some_iff.mp e).1
      show i + 1 ≠ 1000000
      omega
    by_cases hk : keepsM G G2 i = true
    · have e2 : G2.getD i Mode.fz = G.getD i Mode.fz := by simpa [keepsM, hi] using hk
      rw [e2]
      exact VRep.kept h0 hk h2
    · have hk' : keepsM G G2 i = false := by simpa using hk
      rcases hle i with z | z
      · exact absurd (by unfold keepsM; rw [z]; simp) hk
      · rw [z]
        exact VRep.frozen h0 hk' h2
theorem Good.all (g : Good K F G ρ own B σ H) : ∃ B', Ext B B' ∧ Good K F [] ρ (fun _ => none) B' σ H := by
  have hle : leM [] G := fun j => .inr (by simp)
  have g2 := g.to hle
  refine ⟨_, baseTo_ext (G := G) (G2 := []) g.gr, ⟨⟨fun a o e => ⟨(g2.gr.base a o e).1, rfl⟩, fun a o e => ⟨(g2.gr.frame a o e).1, rfl, (g2.gr.frame a o e).2.2⟩, fun a h => absurd rfl h⟩, g2.len, fun i d e => ?_⟩⟩
  obtain ⟨v, h1, h2⟩ := g2.slots i d e
  exact ⟨v, h1, h2⟩
end
section
variable {X : Cx} {W : WX} {L : LM} {G G' G2 : List Mode} {st : Stmt} {sts : List Stmt} {f : Rho → Out}
theorem ev_to {t : TS} (h : EvS X W L G2 t f G') (hle : leM G2 G) (h2 : leM L.ex G2) : EvS X W L G t f G' := fun hx F ρ own B σ H D gd q =>
  h h2 F ρ _ _ σ H D (gd.to hle) (q.ext (to_gr gd.gr))
theorem ssj_to (h : SsJ X W L G2 sts f G') (hle : leQ G2 G) (h2 : leQ L.ex G2 := by first | exact True.intro | (repeat (first | exact True.intro | refine And.intro (Or.inl rfl) ?_ | refine And.intro (Or.inr rfl) ?_ | refine And.intro rfl ?_))) : SsJ X W L G sts f G' := let ⟨t, p, v⟩ := h; ⟨t, p, ev_to v (leM_p hle) (leM_p h2)⟩
/-- an expression's exception leaves a statement -/
theorem WOk.out {F B H : Hp} {own : Own} {ρ : Rho} {σ : L2.St} {e : Exn} {D : Ends} (hx : leM L.ex G) (g : Good X.K F G ρ own B σ H) (q : PostS X W L G' F own B D (.ex e ρ)) : WOk X.K X.mg W own F B H σ e := fun c dx B' H' s x => by
  have g2 := (g.step s).to hx
  exact q c dx _ _ σ H' (s.g.trans (to_gr (g.step s).gr)) g2 (x.mono (baseTo_ext (g.step s).gr))
/-- what an expression gives goes on -/
def thenS {α : Type} (r : Res α) (ρ : Rho) (k : α → Out) : Out := match r with
  | .ok a => k a
  | .ex e => .ex e ρ
  | .no => .no
theorem thenS_has {α : Type} {r : Res α} {F B H : Hp} {own : Own} {ρ : Rho} {σ : L2.St} {D : Ends} {k : α → Out} (hx : leM L.ex G) (g : Good X.K F G ρ own B σ H) (q : PostS X W L G' F own B D (thenS r ρ k)) : r.has (fun a => PostS X W L G' F own B D (k a)) (WOk X.K X.mg W own F B H σ) := by
  cases r with
  | ok a => exact q
  | ex e => exact WOk.out hx g q
  | no => exact q
def sSkip : Rho → Out := .nx
def sSeq (f g : Rho → Out) : Rho → Out := fun ρ => match f ρ with
  | .nx ρ' => g ρ'
  | o => o
theorem ssj_nil : SsJ X W L G [] sSkip G := ⟨_, pss_nil, fun hx F ρ own B σ H D gd q => q own B σ H Gr.refl gd⟩
theorem ssj_one (h : SJ X W L G st f G') : SsJ X W L G [st] f G' := let ⟨t, p, v⟩ := h; ⟨t, pss_one p, v⟩
theorem ssj_cons {g : Rho → Out} (h : SJ X W L G st f G2) (h' : SsJ X W L G2 sts g G') (h2 : leQ L.ex G2 := by first | exact True.intro | (repeat (first | exact True.intro | refine And.intro (Or.inl rfl) ?_ | refine And.intro (Or.inr rfl) ?_ | refine And.intro rfl ?_))) : SsJ X W L G (st :: sts) (sSeq f g) G' := by
  obtain ⟨t, p, v⟩ := h
  obtain ⟨u, p', v'⟩ := h'
  refine ⟨_, pss_cons p p', fun hx F ρ own B σ H D gd q => ?_⟩
  refine v hx F ρ own B σ H _ gd ?_
  unfold sSeq at q
  cases e : f ρ with
  | nx ρ' =>
    rw [e] at q
    exact fun own B' σ H e' g' => v' (leM_p h2) F ρ' own B' σ H D g' (q.ext e')
  | _ =>
    rw [e] at q
    exact q
def sIf (c : Rho → Res Bool) (f g : Rho → Out) : Rho → Out := fun ρ => thenS (c ρ) ρ fun b => if b = true then f ρ else g ρ
theorem sj_if {c : Expr} {a b : List Stmt} {gc : Rho → Res Bool} {g : Rho → Out} {pos : Pos} (hc : TJ X W G c gc) (ha : SsJ X W L G a f G') (hb : SsJ X W L G b g G') : SJ X W L G (.If c a b pos) (sIf gc f g) G' := by
  obtain ⟨tc, pc, vc⟩ := hc
  obtain ⟨ta, pa, va⟩ := ha
  obtain ⟨tb, pb, vb⟩ := hb
  refine ⟨_, ps_if pc pa pb, fun hx F ρ own B σ H D gd q => ?_⟩
  refine vc F ρ own B σ H _ gd (Res.has_mono (thenS_has hx gd q) (fun b q B' H' s => ?_) fun _ x => x)
  cases b with
  | true => exact va hx F ρ own B' σ H' D (gd.step s) (q.ext s.g)
  | false => exact vb hx F ρ own B' σ H' D (gd.step s) (q.ext s.g)
variable {e : Expr} {x : Str} {i : Nat} {pos px : Pos}
def sSet (i : Nat) (g : Rho → Res D) : Rho → Out := fun ρ => thenS (g ρ) ρ fun d => .nx (ρ.set i (some d))
def sSetN (i : Nat) (g : Rho → Res (List D)) : Rho → Out := fun ρ => thenS (g ρ) ρ fun d => .nx (ρ.set i (some (.lst d)))
theorem ev_set {te : TE} {g : Rho → Res D} (v : Ev X W G te g) : EvS X W L G (tAsg te (gName i)) (sSet i g) (G.set i Mode.fz) := fun hx F ρ own B σ H D gd q => by
  refine v F ρ own B σ H _ gd (Res.has_mono (thenS_has hx gd q) (fun d q u B' H' s r => ?_) fun _ x => x)
  exact q _ B' _ H' (s.g.trans .drop) ((gd.step s).set r)
theorem sj_set {g : Rho → Res D} (hN : X.N.Nodup) (hi : X.N[i]? = some x) (hx : Loc X.env.scope x) (he : EJ X W G e g) (hs : swapsWith e (some (.Name x px)) pos.line X.env = pure false := by rfl)
    (hf : X.fn x = true ∨ X.env.scope.names.lookup x = some .local := by first | exact .inl rfl | exact .inr rfl | assumption) : SJ X W L G (.Assign [.Name x px] e pos) (sSet i g) (G.set i Mode.fz) := by
  obtain ⟨te, pe, ve⟩ := he
  exact ⟨_, ps_set hN hi hx pe hs hf, ev_set ve⟩
omit [Mg] in
theorem new_st {own : Own} {p a : Addr} {i n : Nat} {r : Lab} (ho : own p = none) : own a = some (SH :: n :: r) ↔ (if a = p then some [i + 1] else dropL own (i + 1) a) = some (SH :: n :: r) := by
  by_cases h : a = p
  · subst h
    rw [ho, if_pos rfl]
    simp
  · rw [if_neg h]
    exact dropL_st
/-- a new list becomes the slot's own -/
theorem Good.setN {K : PySem.W.Frag} {F B H B' H' : Hp} {own : Own} {ρ : Rho} {σ : L2.St} {p : Addr} {vs : List V} {ds : List D} (g : Good K F G ρ own B σ H) (s : Step own F B H B' H') (hB : B' p = none) (hF : F p = none) (ho : own p = none) (hp : H' p = some (.lst vs)) (r : RpA K B' vs ds)
    (hi : (G.set i (Mode.own Mode.fz)).getD i Mode.fz = Mode.own Mode.fz) : Good K F (G.set i (Mode.own Mode.fz)) (ρ.set i (some (.lst ds))) (fun a => if a = p then some [i + 1] else dropL own (i + 1) a) B' (σ.set i (some (.ref p))) H' := by
  have g1 := g.step s
  refine ⟨⟨fun a o e => ?_, fun a o e => ?_, fun a h => ?_⟩, by simpa using g.len, fun j d e => ?_⟩
  · have ne : a ≠ p := fun z => by
      rw [z, hB] at e
      cases e
    simp only [ne, if_false]
    exact ⟨(g1.gr.base a o e).1, none_back (fun a l h => dropL_some h) (g1.gr.base a o e).2⟩
  · have ne : a ≠ p := fun z => by
      rw [z, hF] at e
      cases e
    simp only [ne, if_false]
    exact ⟨(g1.gr.frame a o e).1, none_back (fun a l h => dropL_some h) (g1.gr.frame a o e).2.1, (g1.gr.frame a o e).2.2⟩
  · by_cases ha : a = p
    · rw [ha, hp]
      exact fun z => nomatch z
    · simp only [ha, if_false] at h
      exact g1.gr.live a fun z => h (none_back (fun a l h => dropL_some h) z)
  · have hl := g.len
    by_cases hj : i = j
    · subst hj
      have hlt : i < ρ.length := by
        have := (List.getElem?_eq_some_iff.mp e).1
        simpa using this
      rw [List.getElem?_set_self hlt] at e
      cases e
      refine ⟨.ref p, List.getElem?_set_self (by omega), ?_⟩
      rw [hi]
      refine ⟨p, vs, ds, rfl, rfl, by simp, hp, r.len, fun k v' d' h1 h2 => ?_⟩
      obtain ⟨d2, e1, e2⟩ := r.get' h1
      rw [h2] at e1
      cases e1
      exact e2
    · rw [List.getElem?_set_ne hj] at e
      obtain ⟨w, h1, h2⟩ := g1.slots j d e
      refine ⟨w, by rw [List.getElem?_set_ne hj]; exact h1, ?_⟩
      have e1 : (G.set i (Mode.own Mode.fz)).getD j Mode.fz = G.getD j Mode.fz := by simp [List.getD, List.getElem?_set_ne hj]
      rw [e1]
      refine VRep.own_congr (fun a r e => ?_) (fun a n r => new_st ho) h2
      have ne : a ≠ p := fun z => by
        rw [z, ho] at e
        cases e
      simp only [ne, if_false]
      exact dropL_ne e (by omega)
theorem ev_setN {te : TE} {g : Rho → Res (List D)} (v : EvN X W G te g) (hi : (G.set i (Mode.own Mode.fz)).getD i Mode.fz = Mode.own Mode.fz) : EvS X W L G (tAsg te (gName i)) (sSetN i g) (G.set i (Mode.own Mode.fz)) := fun hx F ρ own B σ H D gd q => by
  refine v F ρ own B σ H _ gd (Res.has_mono (thenS_has hx gd q) (fun d q p vs B' H' s hB hF ho hp r => ?_) fun _ x => x)
  exact q _ B' _ H' (s.g.trans ⟨Same.refl _, fun a n h => (new_st ho).mp h⟩) (gd.setN s hB hF ho hp r hi)
theorem sj_setN {g : Rho → Res (List D)} (hN : X.N.Nodup) (hi : X.N[i]? = some x) (hx : Loc X.env.scope x) (he : NJ X W G e g) (hm : (G.set i (Mode.own Mode.fz)).getD i Mode.fz = Mode.own Mode.fz := by rfl) (hs : swapsWith e (some (.Name x px)) pos.line X.env = pure false := by rfl)
    (hf : X.fn x = true ∨ X.env.scope.names.lookup x = some .local := by first | exact .inl rfl | exact .inr rfl | assumption) : SJ X W L G (.Assign [.Name x px] e pos) (sSetN i g) (G.set i (Mode.own Mode.fz)) := by
  obtain ⟨te, pe, ve⟩ := he
  exact ⟨_, ps_set hN hi hx pe hs hf, ev_setN ve hm⟩
theorem sj_lcN {g : Rho → Res (List D)} (h : LcJ X W G x px i e pos g) (hm : (G.set i (Mode.own Mode.fz)).getD i Mode.fz = Mode.own Mode.fz := by rfl) : SJ X W L G (.Assign [.Name x px] e pos) (sSetN i g) (G.set i (Mode.own Mode.fz)) := by
  obtain ⟨te, ps, ve⟩ := h
  exact ⟨_, ps, ev_setN ve hm⟩
/-- a, b, .. = e -/
def sUnp (b : Bnd) (g : Rho → Res D) : Rho → Out := fun ρ => thenS (g ρ) ρ fun d => match b d ρ with
  | some ρ' => .nx ρ'
  | none => .no
section
variable {K : PySem.W.Frag} {F B H : Hp} {own : Own} {ρ : Rho} {σ : L2.St}
theorem Good.ownAt {d : D} (g : Good K F G ρ own B σ H) (hG : G.getD i Mode.fz = Mode.own Mode.fz) (hρ : ρ[i]? = some (some d)) :
    ∃ (l : Addr) (vs : List V) (ds : List D), σ[i]? = some (some (.ref l)) ∧ d = .lst ds ∧ own l = some [i + 1] ∧ H l = some (.lst vs) ∧ RpA K B vs ds := by
  obtain ⟨v, h1, h2⟩ := g.slots i d hρ
  rw [hG] at h2
  obtain ⟨l, vs, ds, rfl, rfl, ho, hl, hn, h⟩ := h2
  exact ⟨l, vs, ds, h1, rfl, ho, hl, RpA.of_get hn h⟩
theorem VRep.upd {l : Addr} {o : HO} {lb : Lab} (ho : own l = some lb) {m : Mode} {lab : Lab} {v : V} {d : D} (ne : ∀ r, lab ++ r ≠ lb) (h : VRep K B H own m lab v d) (hs : ∀ n r, lb ≠ SH :: n :: r := by intro _ _ z; cases z) : VRep K B (upd H l o) own m lab v d :=
  VRep.carry ⟨Same.refl B, fun l' r e => ⟨e, by
    rw [upd_ne]
    intro z
    rw [z, ho] at e
    exact ne r (Option.some.inj e).symm⟩, ⟨fun _ _ _ => .rfl, fun l' n r e => by
    rw [upd_ne]
    intro z
    rw [z, ho] at e
    exact hs n r (Option.some.inj e)⟩⟩ h
theorem Good.mut {l : Addr} {vs : List V} {ds : List D} (g : Good K F G ρ own B σ H) (hG : G.getD i Mode.fz = Mode.own Mode.fz) (hσ : σ[i]? = some (some (.ref l))) (ho : own l = some [i + 1]) (r : RpA K B vs ds) :
    Good K F G (ρ.set i (some (.lst ds))) own B σ (upd H l (.lst vs)) := by
  have hoN : own l ≠ none := by rw [ho]; exact fun z => nomatch z
  refine ⟨⟨fun a o e => ?_, fun a o e => ?_, fun a h => ?_⟩, by simpa using g.len, fun j d e => ?_⟩
  · have ne : a ≠ l := fun z => hoN (by rw [← z]; exact (g.gr.base a o e).2)
    rw [upd_ne ne]
    exact g.gr.base a o e
  · have ne : a ≠ l := fun z => hoN (by rw [← z]; exact (g.gr.frame a o e).2.1)
    rw [upd_ne ne]
    exact g.gr.frame a o e
  · by_cases ha : a = l
    · rw [ha, upd_same]
      exact fun z => nomatch z
    · rw [upd_ne ha]
      exact g.gr.live a h
  · by_cases hj : i = j
    · subst hj
      have hlt : i < ρ.length := by
        have := (List.getElem?_eq_some_iff.mp e).1
        simpa using this
      rw [List.getElem?_set_self hlt] at e
      cases e
      refine ⟨.ref l, hσ, ?_⟩
      rw [hG]
      refine ⟨l, vs, ds, rfl, rfl, ho, upd_same, r.len, fun k v' d' h1 h2 => ?_⟩
      obtain ⟨d2, e1, e2⟩ := r.get' h1
      rw [h2] at e1
      cases e1
      exact e2
    · rw [List.getElem?_set_ne hj] at e
      obtain ⟨w, h1, h2⟩ := g.slots j d e
      refine ⟨w, h1, VRep.upd ho (fun r z => ?_) h2⟩
      have := (List.cons.inj z).1
      omega
end
/-- what the owned list of slot i becomes -/
def atL (i : Nat) (ρ : Rho) (k : List D → Out) : Out := match ρ[i]? with
  | some (some (.lst xs)) => k xs
  | _ => .no
theorem atL_has {F B H : Hp} {own : Own} {ρ : Rho} {σ : L2.St} {D : Ends} {k : List T.D → Out} (g : Good X.K F G ρ own B σ H) (hG : G.getD i Mode.fz = Mode.own Mode.fz) (q : PostS X W L G' F own B D (atL i ρ k)) :
    ∃ (l : Addr) (vs : List V) (ds : List T.D), σ[i]? = some (some (.ref l)) ∧ ρ[i]? = some (some (.lst ds)) ∧ own l = some [i + 1] ∧ H l = some (.lst vs) ∧ RpA X.K B vs ds ∧ PostS X W L G' F own B D (k ds) := by
  unfold atL at q
  split at q
  · rename_i xs hx
    obtain ⟨l, vs, ds, h1, h2, h3, h4, h5⟩ := g.ownAt hG hx
    cases h2
    exact ⟨l, vs, xs, h1, hx, h3, h4, h5, q⟩
  · exact q.elim
def sApp (i : Nat) (g : Rho → Res D) : Rho → Out := fun ρ => atL i ρ fun xs => thenS (g ρ) ρ fun d => if xs.length < sizeLine then .nx (ρ.set i (some (.lst (xs ++ [d])))) else .no
variable {apos cpos : Pos}
theorem sj_app {g : Rho → Res D} (hv : PE X (.Name x px) (tVar i)) (hm : G.getD i Mode.fz = Mode.own Mode.fz) (he : EJ X W G e g)
    (hs : swapsWith (.Call (.Attribute (.Name x px) "append" apos) [e] [] cpos) none pos.line X.env = pure false := by rfl) (hbase : attributeBase (.Name x px) "append" X.env (eval (.Name x px) X.env) = eval (.Name x px) X.env := by rfl)
    (hfew : ((backTo cpos (starEach [e] X.env)).all (fun x => !x.1) && (backToKw cpos (keywordEach [] X.env)).all (fun x => x.1.isSome)
      && decide ([e].length + ([] : List Keyword).length + (if ([] : List Keyword).isEmpty then 0 else 1) < 30)) = true := by rfl)
    (hline : (apos.endLine == cpos.line) = true := by rfl) (hst : starEach [e] X.env = (false, eval e X.env) :: starEach [] X.env := by rfl) (hplain : (backTo cpos (starEach [] X.env)).any (·.1) = false := by rfl) :
    SJ X W L G (.Expr (.Call (.Attribute (.Name x px) "append" apos) [e] [] cpos) pos) (sApp i g) G := by
  obtain ⟨te, pe, ve⟩ := he
  refine ⟨_, ps_expr (pe_bm PySem.F.plainAttrs_list PySem.F.slot_list_append PySem.F.type_list_append mt_append hv (pa_cons pe pa_nil hst) hbase hfew hline hst hplain) hs, fun hx F ρ own B σ H D gd q => ?_⟩
  obtain ⟨l, vs, ds, h1, h2, h3, h4, h5, q⟩ := atL_has gd hm q
  refine ⟨.ref l, h1, .inl ⟨rfl, vs, .inl (.inl h4)⟩, ?_⟩
  refine ve F ρ own B σ H _ gd (Res.has_mono (thenS_has hx gd q) (fun d q u B' H' s r => ?_) fun _ x => x)
  split at q
  · rename_i hz
    have hoN : own l ≠ none := by rw [h3]; exact fun z => nomatch z
    refine ⟨l, vs, u, rfl, rfl, (s.ownd l hoN).1.trans h4, by rw [h5.len]; exact hz, ?_⟩
    exact q own B' σ _ s.g ((gd.step s).mut hm h1 h3 ((h5.mono s.ext).app (.cons r .nil)))
  · exact q.elim
def sSetI (i : Nat) (gk g : Rho → Res D) : Rho → Out := fun ρ => thenS (g ρ) ρ fun d => atL i ρ fun xs => thenS (gk ρ) ρ fun k => match k with
  | .int k => match ixN xs.length k with
    | some j => .nx (ρ.set i (some (.lst (xs.set j d))))
    | none => .no
  | _ => .no
theorem sj_setI {k : Expr} {sp : Pos} {g gk : Rho → Res D} (hv : PE X (.Name x px) (tVar i)) (hm : G.getD i Mode.fz = Mode.own Mode.fz) (he : EJ X W G e g) (hk : BJ X W G k gk)
    (hg : ∀ {to ti : TE}, PE X (.Name x px) to → PE X k ti → PG X (.Subscript (.Name x px) k sp) (gSub to ti rSetL)) (h1 : (assignEach [.Subscript (.Name x px) k sp] X.env).map (·.2) = [assign (.Subscript (.Name x px) k sp) X.env] := by rfl) (hs : swapsWithSole [.Subscript (.Name x px) k sp] e pos.line X.env = pure false := by rfl) (hw : swappedStores [.Subscript (.Name x px) k sp] e X.env = pure none := by rfl) :
    SJ X W L G (.Assign [.Subscript (.Name x px) k sp] e pos) (sSetI i gk g) G := by
  obtain ⟨te, pe, ve⟩ := he
  obtain ⟨tk, pk, vk⟩ := hk
  refine ⟨_, ps_asg pe (hg hv pk) hs hw h1, fun hx F ρ own B σ H D gd q => ?_⟩
  refine ve F ρ own B σ H _ gd (Res.has_mono (thenS_has hx gd q) (fun d q u B' H' s r => ?_) fun _ x => x)
  have g1 := gd.step s
  obtain ⟨l, vs, ds, h1, h2, h3, h4, h5, q⟩ := atL_has g1 hm (q.ext s.g)
  refine ⟨.ref l, h1, ?_⟩
  refine vk F ρ own B' σ H' _ g1 (Res.has_mono (thenS_has hx g1 q) (fun dk q w B2 H2 s2 r2 => ?_) fun _ x => x)
  cases dk with
  | int k =>
    cases r2.int
    simp only at q
    cases hj : ixN ds.length k with
    | none =>
      rw [hj] at q
      exact q.elim
    | some j =>
      rw [hj] at q
      have hoN : own l ≠ none := by rw [h3]; exact fun z => nomatch z
      refine ⟨l, vs, k, j, rfl, rfl, (s2.ownd l hoN).1.trans h4, by rw [h5.len]; exact hj, ?_⟩
      exact q own B2 σ _ s2.g ((g1.step s2).mut hm h1 h3 ((h5.mono s2.ext).set j (r.mono s2.ext)))
  | _ => exact q.elim
def sRet (g : Rho → Res D) : Rho → Out := fun ρ => thenS (g ρ) ρ .rt
def sRetN (g : Rho → Res (List D)) : Rho → Out := fun ρ => thenS (g ρ) ρ fun ds => .rt (.lst ds)
theorem sj_ret {g : Rho → Res D} (he : EJ X W G e g) (hm : L.rt = Mode.fz := by rfl) : SJ X W L G (.Return (some e) pos) (sRet g) G' := by
  obtain ⟨te, pe, ve⟩ := he
  refine ⟨_, ps_ret pe, fun hx F ρ own B σ H D gd q => ?_⟩
  refine ve F ρ own B σ H _ gd (Res.has_mono (thenS_has hx gd q) (fun d q u B' H' s r => ?_) fun _ x => x)
  refine q u own B' H' s.ext (gd.gr.step s) ?_
  rw [hm]
  exact r
def forM (b : Bnd) (body : Rho → Out) : List D → Rho → Out
  | [], ρ => .nx ρ
  | x :: xs, ρ => match b x ρ with
    | none => .no
    | some ρ1 => match body ρ1 with
      | .nx ρ2 => forM b body xs ρ2
      | .ct ρ2 => forM b body xs ρ2
      | .bk ρ2 => .nx ρ2
      | o => o
def sFor (src : Rho → Res (List D)) (b : Bnd) (body : Rho → Out) : Rho → Out := fun ρ => thenS (src ρ) ρ fun items => forM b body items ρ
theorem sj_for {tg iter : Expr} {body : List Stmt} {src : Rho → Res (List D)} {b : Bnd} {is : List Nat} {fb : Rho → Out} (hp : PassesOwn (model X.prog X.w) X.A X.env X.xe) (hc : X.calm = true) (hi : IJ X W G tg iter src) (hg : GJ X tg b is) (hG : ∀ i ∈ is, G.getD i Mode.fz = Mode.fz)
    (hb : SsJ X W ⟨G, G, L.rt, L.ex, L.rl⟩ G body fb G) (hs : ∀ x, foldedSetIterable iter X.env x = pure x := by intro _; rfl) : SJ X W L G (.For tg iter body [] pos) (sFor src b fb) G := by
  obtain ⟨wi, pi, vi⟩ := hi
  obtain ⟨g, pg, vg⟩ := hg
  obtain ⟨tb, pb, vb⟩ := hb
  refine ⟨_, ps_for hp hc pi pg pb hs, fun hx F ρ own B σ H D gd q => ?_⟩
  refine vi F ρ own B σ H _ gd (Res.has_mono (thenS_has hx gd q) (fun items q J B1 H1 s1 itr => ?_) fun _ x => x)
  refine ⟨fun i m σ' H' => m = items.length - i ∧ i ≤ items.length ∧ ∃ (ρ' : Rho) (own' : Own) (B' : Hp), Gr own B1 own' B' ∧ Good X.K F G ρ' own' B' σ' H' ∧ PostS X W L G F own B1 D (forM b fb (items.drop i) ρ'),
    ⟨items.length, by omega, Nat.zero_le _, ρ, own, B1, Gr.refl, gd.step s1, by simpa using q.ext s1.g⟩, fun i m σ' H' hW => ?_⟩
  obtain ⟨rfl, hile, ρ', own', B', e1, g1, q1⟩ := hW
  have itr' := itr own' B' H' e1.ext g1.gr i
  by_cases hi' : i = items.length
  · refine .inl ⟨itr'.1 hi', ?_⟩
    rw [hi', List.drop_length] at q1
    exact q1 own' B' σ' H' e1 g1
  · have hlt : i < items.length := by omega
    have hd : items[i]? = some items[i] := List.getElem?_eq_getElem hlt
    obtain ⟨go, yld⟩ := itr'.2 _ hd
    refine .inr ⟨go, _, fun σ4 H4 h4 => ⟨items.length - (i + 1), by omega, h4⟩, fun x H3 hy => ?_⟩
    obtain ⟨B3, s3, rx⟩ := yld x H3 hy
    rw [List.drop_eq_getElem_cons hlt] at q1
    simp only [forM] at q1
    cases hb : b items[i] ρ' with
    | none =>
      rw [hb] at q1
      exact q1.elim
    | some ρ1 =>
      rw [hb] at q1
      refine vg F own' B3 σ' H3 G ρ' ρ1 x _ _ (g1.step s3) rx hb hG fun σ2 g2 _ => ?_
      have e3 : Gr own B1 own' B3 := e1.trans s3.g
      refine vb hx F ρ1 own' B3 σ2 H3 _ g2 ?_
      simp only at q1
      cases ho : fb ρ1 with
      | nx ρ2 =>
        rw [ho] at q1
        exact fun own4 B4 σ4 H4 e4 g4 => ⟨rfl, by omega, ρ2, own4, B4, e3.trans e4, g4, q1⟩
      | ct ρ2 =>
        rw [ho] at q1
        exact fun own4 B4 σ4 H4 e4 g4 => ⟨rfl, by omega, ρ2, own4, B4, e3.trans e4, g4, q1⟩
      | bk ρ2 =>
        rw [ho] at q1
        exact fun own4 B4 σ4 H4 e4 g4 => q1 own4 B4 σ4 H4 (e3.trans e4) g4
      | rt d =>
        rw [ho] at q1
        exact fun v own4 B4 H4 e4 => q1 v own4 B4 H4 (e3.ext.trans e4)
      | ex x ρ2 =>
        rw [ho] at q1
        exact fun c dx own4 B4 σ4 H4 e4 => q1 c dx own4 B4 σ4 H4 (e3.trans e4)
      | rl d ρ2 =>
        rw [ho] at q1
        exact fun v own4 B4 σ4 H4 e4 => q1 v own4 B4 σ4 H4 (e3.trans e4)
      | no =>
        rw [ho] at q1
        exact q1
end
def startR (N : Nat) (ds : List D) : Rho := ds.map some ++ List.replicate (N - ds.length) none
/-- a def's mirror: n parameters, N names, its body -/
def runF (n N : Nat) (f : Rho → Out) : List D → Res D := fun ds => if ds.length = n then match f (startR N ds) with
    | .nx _ => .ok .non
    | .rt d => .ok d
    | .ex e _ => .ex e
    | _ => .no
  else .no
/-- a def's promise, by its mirror m -/
def spT (K : PySem.W.Frag) (mg : Str → Option Value) (md : Mode) (n : Nat) (m : List D → Res D) : Sp := fun vs H Q E => ∃ (ds : List D) (F B : Hp), ds.length = n ∧ RpA K B vs ds ∧ Ground F (fun _ => none) B H ∧
  (m ds).has (fun d => ∀ (v : V) (own : Own) (B' H' : Hp), Ext B B' → Ground F own B' H' → VRep K B' H' own md [0] v d → Q v H') fun e => ∀ (c : Value) (dx : Option Addr) (B' H' : Hp), Ext B B' → Ground F (fun _ => none) B' H' → ExR K mg B' H' e c dx → E c dx H'
abbrev WE1 (E : XK) : WX := fun cls d _ H => E cls d H
theorem good_start {K : PySem.W.Frag} {F B H : Hp} {G : List Mode} {N : Nat} {vs : List V} {ds : List D} {N' : List Str} (hN : N'.length = N) (hz : ds.length + N < 1000000) (g : Ground F (fun _ => none) B H) (r : RpA K B vs ds) (hG : ∀ j : Nat, G.getD j Mode.fz = Mode.fz) : Good K F G (startR N ds) (fun _ => none) B (L2.start N' vs) H := by
  refine ⟨g, ⟨by simp [startR, L2.start, r.len, hN], by simp [startR]; omega⟩, fun i d e => ?_⟩
  unfold startR at e
  rw [List.getElem?_append] at e
  split at e
  · rename_i hi
    rw [List.getElem?_map] at e
    obtain ⟨d', e1, e2⟩ := Option.map_eq_some_iff.mp e
    cases e2
    obtain ⟨v, h1, h2⟩ := r.get e1
    refine ⟨v, ?_, ?_⟩
    · unfold L2.start
      rw [List.getElem?_append_left (by simpa [r.len] using hi), List.getElem?_map, h1]
      rfl
    · rw [hG]
      exact h2
  · rename_i hi
    rw [List.getElem?_replicate] at e
    split at e <;> cases e
section
variable {P : Program} {w : World} {K : PySem.W.Frag} {mg : Str → Option Value} {base : Heap}
/-- THE RULE for a def -/
theorem fn_ok {x qual : Str} {st : Stmt} {f : Addr} {fd : FuncData} {N ps : List Str} {k : Nat} {md : Mode} {G : List Mode} {fm : Rho → Out} (Fn : Fun K x qual st f fd) (S : FnScope N ps (defScope st)) (n NN : Nat) (hn : ps.length = n := by rfl) (hNN : N.length = NN := by rfl) (hG : leB G [] = true := by rfl) (hsz : n + NN < 1000000 := by decide)
    (hm : ∀ ρ, md = Mode.fz ∨ ∀ ρ', fm ρ ≠ .nx ρ')
    (hbody : ∀ (cdv : Value) (A : Around) (outer : List Env) (s : Shared) (H : Hp) (E : XK), Room k (A.deeper (envOfC qual (defScope st) s.heap.objs.size f cdv)) →
      ∃ G', SsJ (cxOf (L2.CX P w) P w K mg base N qual (defScope st) f cdv A outer s H E) (WE1 E) ⟨[], [], md, [], []⟩ G (defBody st) fm G') : FnOk P w K mg base (L2.CX P w) (k + 1) f fd ps (spT K mg md n (runF n NN fm)) := by
  refine Fn.okX S (fun vs H Q E h => ?_) (fun cdv A outer s H vs Q E hr h => ?_)
  · obtain ⟨ds, F, B, h1, h2, _⟩ := h
    rw [h2.len, h1, hn]
  · obtain ⟨ds, F, B, h1, h2, h3, h4⟩ := h
    obtain ⟨G', t, p, v⟩ := hbody cdv A outer s H E hr
    refine ⟨t, p, v (fun j => .inr (by simp)) F (startR NN ds) (fun _ => none) B _ H _ (good_start hNN (by omega) h3 h2 fun j => ?_) ?_⟩
    · rcases leM_of hG j with z | z
      · rw [z]
        simp
      · exact z
    · unfold runF at h4
      rw [if_pos h1] at h4
      cases e : fm (startR NN ds) with
      | nx ρ' =>
        rw [e] at h4
        rcases hm (startR NN ds) with z | z
        · subst z
          exact fun own B' σ H' e' g' => h4 .non own B' H' e'.ext g'.gr .non
        · exact absurd e (z ρ')
      | rt d =>
        rw [e] at h4
        exact fun v own B' H' e' g' r => h4 v own B' H' e' g' r
      | ex x ρ' =>
        rw [e] at h4
        exact fun c dx own B' σ H' e' g' r => h4 c dx B' H' e'.ext (g'.gr.drop fun a l z => nomatch z) r
      | _ =>
        rw [e] at h4
        exact h4.elim
end
/-- what the caller owns, others' for the callee -/
def lend (own : Own) (F H : Hp) : Hp := fun a => match own a with
  | some _ => H a
  | none => F a
section
variable {F B H B' H' : Hp} {own own' : Own}
omit [Mg] in
theorem ground_lend (g : Ground F own B H) : Ground (lend own F H) (fun _ => none) B H where
  base := fun a o e => ⟨(g.base a o e).1, rfl⟩
  frame := fun a o e => by
    unfold lend at e
    split at e
    · rename_i l hl
      exact ⟨e, rfl, g.bnone (by rw [hl]; exact fun z => nomatch z)⟩
    · exact ⟨(g.frame a o e).1, rfl, (g.frame a o e).2.2⟩
  live := fun a h => absurd rfl h
omit [Mg] in
theorem step_lend (g : Ground F own B H) (e : Ext B B') (g' : Ground (lend own F H) own' B' H') : Step own F B H B' H' where
  ext := e
  base := fun a o z => (g'.base a o z).1
  ownd := fun a h => by
    cases hH : H a with
    | none => exact absurd hH (g.live a h)
    | some o =>
      have hl : lend own F H a = some o := by
        unfold lend
        split
        · exact hH
        · rename_i z
          exact absurd z h
      exact ⟨(g'.frame a o hl).1, (g'.frame a o hl).2.2⟩
  frame := fun a o z => by
    have hl : lend own F H a = some o := by
      unfold lend
      rw [(g.frame a o z).2.1]
      exact z
    exact ⟨(g'.frame a o hl).1, (g'.frame a o hl).2.2⟩
end
section
variable {X : Cx} {W : WX} {G : List Mode} {e : Expr} {es : List Expr} {x : Str} {p pos : Pos} {k n : Nat} {f : Addr} {fd : FuncData} {ps : List Str} {m : List D → Res D}
theorem ej_call {g : Rho → Res (List D)} (hlen : ∀ ds, ds.length ≠ n → m ds = .no) (Fn : FnOk X.prog X.w X.K X.mg X.base (L2.CX X.prog X.w) k f fd ps (spT X.K X.mg Mode.fz n m)) (hr : Room k X.A) (hg : Gl X x) (hm : X.mg x = some (.ref f)) (hk : PySem.W.keepIn X.K (.ref f) = true) (hb : Binds X.K fd ps [])
    (tk : Takes X W) (ha : AJ X W G (e :: es) g) (hdb : (x == ("__debug__" : Str)) = false := by decide) (he : starEach (e :: es) X.env = (false, eval e X.env) :: starEach es X.env := by rfl) (hpl : (backTo pos (starEach es X.env)).any (·.1) = false := by rfl) :
    EJ X W G (.Call (.Name x p) (e :: es) [] pos) (callV m g) := by
  obtain ⟨t, pa, va⟩ := ha
  refine ⟨_, pe_callS Fn hr hg hm hk hb (fun σ => passAt tk σ) pa hdb he hpl, fun F ρ own B σ H Q gd q => ?_⟩
  refine va F ρ own B σ H _ gd (Res.has_mono (Res.has_bind q) (fun ds q vs B1 H1 s1 r => ?_) fun _ x => x)
  have g1 := (gd.step s1).gr
  have hl : ds.length = n := Classical.byContradiction fun z => by
    rw [hlen ds z] at q
    exact q
  refine ⟨ds, lend own F H1, B1, hl, r, ground_lend g1, Res.has_mono q (fun d q v own' B' H' e' g' r' => q v B' H' (s1.trans (step_lend g1 e' g')) r') fun x wk c dx B' H' e' g' xr => wk c dx B' H' (s1.trans (step_lend g1 e' g')) xr⟩
def asL : Res D → Res (List D)
  | .ok (.lst xs) => .ok xs
  | .ok _ => .no
  | .ex e => .ex e
  | .no => .no
def callN (m : List D → Res D) (g : Rho → Res (List D)) : Rho → Res (List D) := fun ρ => (g ρ).bind fun ds => asL (m ds)
omit [Mg] in
theorem runF_len {n N : Nat} {f : Rho → Out} (ds : List D) (h : ds.length ≠ n) : runF n N f ds = .no := by
  unfold runF
  rw [if_neg h]
end
end T
set_option Elab.async false
set_option linter.all false
set_option maxRecDepth 100000
set_option maxHeartbeats 4000000
namespace T
open PySem PySem.Spec PyProof.Rows L2
variable [Mg]
def negV (f : Rho → Res D) : Rho → Res D := fun ρ => (f ρ).bind dNeg
def truV (f : Rho → Res D) : Rho → Res Bool := fun ρ => (f ρ).bind dTru
def itemsV (f : Rho → Res D) : Rho → Res (List D) := fun ρ => (f ρ).bind dItems
def ownItems (f : Rho → Res D) : Rho → Res (List D) := fun ρ => (f ρ).bind fun d => match d with
    | .lst xs => .ok xs
    | _ => .no
def sDrop (g : Rho → Res D) : Rho → Out := fun ρ => thenS (g ρ) ρ fun _ => .nx ρ
section
variable {X : Cx} {W : WX} {G : List Mode} {a b c : Expr} {pos : Pos}
theorem ev_test {t : TE} {g : Rho → Res D} (h : EvB X W G t g) : EvT X W G (tTest t) (toB g) := ev_toB h
theorem tj_cmp {op : CmpOp} {f : D → D → Res D} {ga gb : Rho → Res D} (ho : ∃ r, OpR X (compareOp op) r ∧ OpD X r f) (hf : Calm f) (hm : behindInMarks op b = false) (ha : BJ X W G a ga) (hb : BJ X W G b gb) : TJ X W G (.Compare a [op] [b] pos) (toB (bin f ga gb)) := by
  obtain ⟨r, h1, h2⟩ := ho
  obtain ⟨ta, pa, va⟩ := ha
  obtain ⟨tb, pb, vb⟩ := hb
  exact ⟨_, pt_cmpR h1 pa pb hm, ev_test (ev_op h2 hf va vb).b⟩
theorem tj_chain {op op' : CmpOp} {f g : D → D → Res D} {ga gb gc : Rho → Res D} (ho : ∃ r, OpR X (compareOp op) r ∧ OpD X r f) (hf : Calm f) (ho' : ∃ r, OpR X (compareOp op') r ∧ OpD X r g) (hg : Calm g) (ha : BJ X W G a ga) (hb : BJ X W G b gb) (hc : BJ X W G c gc)
    (hm : lastMarks [op, op'] [b, c] = false := by with_unfolding_all rfl) : TJ X W G (.Compare a [op, op'] [b, c] pos) (toB (chainV f g ga gb gc)) := by
  obtain ⟨r, h1, h2⟩ := ho
  obtain ⟨r', h1', h2'⟩ := ho'
  obtain ⟨ta, pa, va⟩ := ha
  obtain ⟨tb, pb, vb⟩ := hb
  obtain ⟨tc, pc, vc⟩ := hc
  exact ⟨_, pt_chain h1 h1' pa pb pc hm, ev_test (ev_chain h2 hf h2' hg va vb vc).b⟩
end
theorem RpA.of_ints {K : PySem.W.Frag} {B : Hp} : ∀ ys : List Int, RpA K B (ys.map V.int) (ys.map D.int)
  | [] => .nil
  | y :: ys => .cons (.int y) (RpA.of_ints ys)
def spLaw (K : PySem.W.Frag) : Sp := fun vs H Q _ => ∃ (a : Addr) (ns : List Int), vs = [.ref a] ∧ SqL K H a (ns.map V.int) ∧ ns.length ≤ 63 ∧ (∀ z ∈ ns, Builtin.Int.intBits z ≤ 1048576) ∧ ∀ H', Q (.bl true) H'
theorem law_imp {K : PySem.W.Frag} {mg : Str → Option Value} {f : List D → Res D} (goal : ∀ ns : List Int, ns.length ≤ 63 → (∀ z ∈ ns, Builtin.Int.intBits z ≤ 1048576) → f [.scr (ns.map D.int)] = .ok (.bl true)) (vs : List V) (H : Hp) (Q : VK) (E : XK) (h : spLaw K vs H Q E) : spT K mg Mode.fz 1 f vs H Q E := by
  obtain ⟨a, ns, rfl, hS, hl, hb, q⟩ := h
  refine ⟨[.scr (ns.map D.int)], fun _ => none, H, rfl, .cons (.scr hS (RpA.of_ints ns)) .nil, ⟨fun a o e => ⟨e, rfl⟩, fun a o e => (nomatch e), fun a h => absurd rfl h⟩, ?_⟩
  rw [goal ns hl hb]
  intro v own B' H' e g r
  cases r
  exact q H'
omit [Mg] in
theorem cx_false {P : Program} {w : World} {outer : List Env} {H : Hp} {s : Shared} {e : Value} {s' : Shared} (h : L2.CX P w outer H s (fun _ _ _ => False) e s') : False := by
  obtain ⟨_, _, _, _, _, _, _, _, _, _, _, _, z⟩ := h
  exact z
end T
set_option Elab.async false
set_option linter.all false
set_option maxRecDepth 100000
set_option maxHeartbeats 4000000
namespace T
open PySem L2
/-- so that simp does not take a theorem for a definitional one: the kernel would evaluate the tests of sizes -/
theorem mk_eq {α : Sort u} {a b : α} (h : a = b) : a = b := h
section
variable {α β : Type} {ρ : Rho} {f g : Rho → Out} {i : Nat} {d e : D}
theorem x_getV (h : ρ[i]? = some (some d)) : getV i ρ = .ok d := by
  unfold getV
  rw [h]
@[simp] theorem getV_0 {a : D} {r : Rho} : getV 0 (some a :: r) = .ok a := mk_eq rfl
@[simp] theorem getV_s {a : Option D} {r : Rho} : getV (i + 1) (a :: r) = getV i r := mk_eq rfl
@[simp] theorem conD_ap : conD d ρ = .ok d := mk_eq rfl
@[simp] theorem bin_ap {h : D → D → Res α} {a b : Rho → Res D} : bin h a b ρ = (a ρ).bind fun x => (b ρ).bind fun y => h x y := mk_eq rfl
@[simp] theorem toB_ap {a : Rho → Res D} : toB a ρ = (a ρ).bind fun d => match d with
  | .bl b => .ok b
  | _ => .no := rfl
@[simp] theorem truV_ap {a : Rho → Res D} : truV a ρ = (a ρ).bind dTru := mk_eq rfl
@[simp] theorem negV_ap {a : Rho → Res D} : negV a ρ = (a ρ).bind dNeg := mk_eq rfl
@[simp] theorem notV_ap {a : Rho → Res D} : notV a ρ = (a ρ).bind dNotB := mk_eq rfl
@[simp] theorem itemsV_ap {a : Rho → Res D} : itemsV a ρ = (a ρ).bind dItems := mk_eq rfl
@[simp] theorem andB_ap {a b : Rho → Res Bool} : andB a b ρ = (a ρ).bind fun k => if k = true then b ρ else .ok false := mk_eq rfl
@[simp] theorem orB_ap {a b : Rho → Res Bool} : orB a b ρ = (a ρ).bind fun k => if k = true then .ok true else b ρ := mk_eq rfl
@[simp] theorem notB_ap {a : Rho → Res Bool} : notB a ρ = (a ρ).bind fun k => .ok (!k) := mk_eq rfl
@[simp] theorem andV_ap {a b : Rho → Res D} : andV a b ρ = (a ρ).bind fun d => match d with
  | .bl k => if k = true then b ρ else .ok (.bl false)
  | _ => .no := rfl
@[simp] theorem orV_ap {a b : Rho → Res D} : orV a b ρ = (a ρ).bind fun d => match d with
  | .bl k => if k = true then .ok (.bl true) else b ρ
  | _ => .no := rfl
@[simp] theorem ifV_ap {c : Rho → Res Bool} {a b : Rho → Res D} : ifV c a b ρ = (c ρ).bind fun k => if k = true then a ρ else b ρ := mk_eq rfl
@[simp] theorem chainV_ap {h h' : D → D → Res D} {a b c : Rho → Res D} : chainV h h' a b c ρ = (a ρ).bind fun x => (b ρ).bind fun y => (h x y).bind fun z => match z with
  | .bl k => if k = true then (c ρ).bind fun w => h' y w else .ok (.bl false)
  | _ => .no := rfl
@[simp] theorem noA_ap : noA ρ = .ok [] := mk_eq rfl
@[simp] theorem consA_ap {a : Rho → Res D} {b : Rho → Res (List D)} : consA a b ρ = (a ρ).bind fun d => (b ρ).bind fun ds => .ok (d :: ds) := mk_eq rfl
@[simp] theorem callV_ap {h : List D → Res α} {b : Rho → Res (List D)} : callV h b ρ = (b ρ).bind h := mk_eq rfl
@[simp] theorem callN_ap {h : List D → Res D} {b : Rho → Res (List D)} : callN h b ρ = (b ρ).bind fun ds => asL (h ds) := mk_eq rfl
@[simp] theorem asL_lst {xs : List D} : asL (.ok (.lst xs)) = .ok xs := mk_eq rfl
@[simp] theorem lstD_ap {b : Rho → Res (List D)} : lstD b ρ = (b ρ).bind fun ds => .ok (.lst ds) := mk_eq rfl
@[simp] theorem lstV_ap {b : Rho → Res (List D)} : lstV b ρ = (b ρ).bind fun ds => if ds.length ≤ sizeLine then .ok ds else .no := mk_eq rfl
@[simp] theorem tupV_ap {b : Rho → Res (List D)} : tupV b ρ = (b ρ).bind fun ds => if ds.length ≤ sizeLine then .ok (.tup ds) else .no := mk_eq rfl
@[simp] theorem noPart_ap : noPart ρ = .ok none := mk_eq rfl
@[simp] theorem toPart_ap {a : Rho → Res D} : toPart a ρ = (a ρ).bind fun d => match d with
  | .int i => .ok (some i)
  | _ => .no := rfl
@[simp] theorem slV_ap {h : D → Option Int → Option Int → Res α} {a : Rho → Res D} {l k : Rho → Res (Option Int)} : slV h a l k ρ = (a ρ).bind fun x => (l ρ).bind fun l => (k ρ).bind fun k => h x l k := mk_eq rfl
@[simp] theorem methV_ap {n : String} {h : D → List D → Res α} {a : Rho → Res D} {b : Rho → Res (List D)} : methV n h a b ρ = (a ρ).bind fun d => if d.isTy n = true then (b ρ).bind fun ds => h d ds else .no := mk_eq rfl
@[simp] theorem compV_ap {s : Rho → Res (List D)} {b : Bnd} {c : Rho → Res Bool} {h : Rho → Res D} {vs : List Nat} : compV s b c h vs ρ = (s ρ).bind fun items => if items.length ≤ sizeLine then lcM b c h (wipeR ρ vs) items else .no := mk_eq rfl
@[simp] theorem yesB_ap : yesB ρ = .ok true := mk_eq rfl
@[simp] theorem ownItems_ap {a : Rho → Res D} : ownItems a ρ = (a ρ).bind fun d => match d with
    | .lst xs => .ok xs
    | _ => .no := rfl
@[simp] theorem thenS_ok {a : α} {k : α → Out} : thenS (.ok a) ρ k = k a := mk_eq rfl
@[simp] theorem thenS_no {k : α → Out} : thenS (.no : Res α) ρ k = .no := mk_eq rfl
@[simp] theorem thenS_ex {x : Exn} {k : α → Out} : thenS (.ex x : Res α) ρ k = .ex x ρ := mk_eq rfl
@[simp] theorem sSkip_ap : sSkip ρ = .nx ρ := mk_eq rfl
theorem sSeq_ap : sSeq f g ρ = match f ρ with
  | .nx ρ' => g ρ'
  | o => o := rfl
theorem sSeq_nx {ρ' : Rho} (h : f ρ = .nx ρ') : sSeq f g ρ = g ρ' := by rw [sSeq_ap, h]
@[simp] theorem sIf_ap {c : Rho → Res Bool} : sIf c f g ρ = thenS (c ρ) ρ fun b => if b = true then f ρ else g ρ := mk_eq rfl
@[simp] theorem sSet_ap {a : Rho → Res D} : sSet i a ρ = thenS (a ρ) ρ fun d => .nx (ρ.set i (some d)) := mk_eq rfl
@[simp] theorem sSetN_ap {a : Rho → Res (List D)} : sSetN i a ρ = thenS (a ρ) ρ fun d => .nx (ρ.set i (some (.lst d))) := mk_eq rfl
@[simp] theorem sRet_ap {a : Rho → Res D} : sRet a ρ = thenS (a ρ) ρ .rt := mk_eq rfl
@[simp] theorem sRetN_ap {a : Rho → Res (List D)} : sRetN a ρ = thenS (a ρ) ρ fun ds => .rt (.lst ds) := mk_eq rfl
@[simp] theorem sDrop_ap {a : Rho → Res D} : sDrop a ρ = thenS (a ρ) ρ fun _ => .nx ρ := mk_eq rfl
@[simp] theorem sUnp_ap {b : Bnd} {a : Rho → Res D} : sUnp b a ρ = thenS (a ρ) ρ fun d => match b d ρ with
  | some ρ' => .nx ρ'
  | none => .no := rfl
@[simp] theorem sApp_ap {a : Rho → Res D} : sApp i a ρ = atL i ρ fun xs => thenS (a ρ) ρ fun d => if xs.length < sizeLine then .nx (ρ.set i (some (.lst (xs ++ [d])))) else .no := mk_eq rfl
@[simp] theorem sSetI_ap {gk a : Rho → Res D} : sSetI i gk a ρ = thenS (a ρ) ρ fun d => atL i ρ fun xs => thenS (gk ρ) ρ fun k => match k with
  | .int k => match ixN xs.length k with
    | some j => .nx (ρ.set i (some (.lst (xs.set j d))))
    | none => .no
  | _ => .no := rfl
theorem x_atL {xs : List D} {k : List D → Out} (h : ρ[i]? = some (some (.lst xs))) : atL i ρ k = k xs := by
  unfold atL
  rw [h]
@[simp] theorem atL_0 {xs : List D} {r : Rho} {k : List D → Out} : atL 0 (some (.lst xs) :: r) k = k xs := mk_eq rfl
@[simp] theorem sFor_ap {s : Rho → Res (List D)} {b : Bnd} : sFor s b f ρ = thenS (s ρ) ρ fun items => forM b f items ρ := mk_eq rfl
@[simp] theorem bNm_ap : bNm i d ρ = some (ρ.set i (some d)) := mk_eq rfl
@[simp] theorem bNil_ap : bNil [] ρ = some ρ := mk_eq rfl
@[simp] theorem bCons_ap {b : Bnd} {c : BndA} {r : List D} : bCons b c (d :: r) ρ = (b d ρ).bind fun ρ' => c r ρ' := mk_eq rfl
@[simp] theorem bTp_tup {n : Nat} {b : BndA} {ds : List D} : bTp n b (.tup ds) ρ = if ds.length = n then b ds ρ else none := mk_eq rfl
@[simp] theorem bTp_lst {n : Nat} {b : BndA} {ds : List D} : bTp n b (.lst ds) ρ = if ds.length = n then b ds ρ else none := mk_eq rfl
variable {x y : Int} {s t : Str} {p q : Bool} {xs ys : List D}
@[simp] theorem dAdd_i : dAdd (.int x) (.int y) = .ok (.int (x + y)) := mk_eq rfl
@[simp] theorem dAdd_l : dAdd (.lst xs) (.lst ys) = if xs.length + ys.length ≤ sizeLine then .ok (.lst (xs ++ ys)) else .no := mk_eq rfl
@[simp] theorem dAdd_t : dAdd (.tup xs) (.tup ys) = if xs.length + ys.length ≤ sizeLine then .ok (.tup (xs ++ ys)) else .no := mk_eq rfl
@[simp] theorem dAdd_s : dAdd (.str s) (.str t) = if s.length + t.length ≤ sizeLine then .ok (.str (s ++ t)) else .no := mk_eq rfl
@[simp] theorem dCat_l : dCat (.lst xs) (.lst ys) = if xs.length + ys.length ≤ sizeLine then .ok (xs ++ ys) else .no := mk_eq rfl
@[simp] theorem dSub_i : dSub (.int x) (.int y) = .ok (.int (x - y)) := mk_eq rfl
theorem dMul_ok (h : CMulX x y) : dMul (.int x) (.int y) = .ok (.int (x * y)) := if_pos h
theorem dDiv_ok (h : 0 < y ∧ y.natAbs.log2 < 9000) : dDiv (.int x) (.int y) = .ok (.int (x / y)) := if_pos h
theorem dMod_ok (h : 0 < y) : dMod (.int x) (.int y) = .ok (.int (x % y)) := if_pos h
@[simp] theorem dNeg_i : dNeg (.int x) = .ok (.int (-x)) := mk_eq rfl
@[simp] theorem dNotB_b : dNotB (.bl p) = .ok (.bl (!p)) := mk_eq rfl
@[simp] theorem dLt_i : dLt (.int x) (.int y) = .ok (.bl (decide (x < y))) := mk_eq rfl
@[simp] theorem dLe_i : dLe (.int x) (.int y) = .ok (.bl (decide (x ≤ y))) := mk_eq rfl
@[simp] theorem dGt_i : dGt (.int x) (.int y) = .ok (.bl (decide (y < x))) := mk_eq rfl
@[simp] theorem dGe_i : dGe (.int x) (.int y) = .ok (.bl (decide (y ≤ x))) := mk_eq rfl
@[simp] theorem dEq_i : dEq (.int x) (.int y) = .ok (.bl (decide (x = y))) := by
  show Res.ok (D.bl (x == y)) = _
  rw [show (x == y) = decide (x = y) by rw [Bool.eq_iff_iff]; simp]
@[simp] theorem dNe_i : dNe (.int x) (.int y) = .ok (.bl (!decide (x = y))) := by
  show Res.ok (D.bl (!(x == y))) = _
  rw [show (x == y) = decide (x = y) by rw [Bool.eq_iff_iff]; simp]
@[simp] theorem dEq_b : dEq (.bl p) (.bl q) = .ok (.bl (decide (p = q))) := by
  show Res.ok (D.bl (p == q)) = _
  rw [show (p == q) = decide (p = q) by rw [Bool.eq_iff_iff]; simp]
@[simp] theorem dNe_b : dNe (.bl p) (.bl q) = .ok (.bl (!decide (p = q))) := by
  show Res.ok (D.bl (!(p == q))) = _
  rw [show (p == q) = decide (p = q) by rw [Bool.eq_iff_iff]; simp]
@[simp] theorem dEq_s : dEq (.str s) (.str t) = .ok (.bl (decide (s = t))) := by
  show Res.ok (D.bl (s == t)) = _
  rw [show (s == t) = decide (s = t) by rw [Bool.eq_iff_iff]; simp]
@[simp] theorem dNe_s : dNe (.str s) (.str t) = .ok (.bl (!decide (s = t))) := by
  show Res.ok (D.bl (!(s == t))) = _
  rw [show (s == t) = decide (s = t) by rw [Bool.eq_iff_iff]; simp]
theorem dEq_d (h : D.dat 60 d = true) (h' : D.dat 60 e = true) : dEq d e = .ok (.bl (d.eqb e)) := if_pos ⟨h, h'⟩
theorem dNe_d (h : D.dat 60 d = true) (h' : D.dat 60 e = true) : dNe d e = .ok (.bl (!d.eqb e)) := if_pos ⟨h, h'⟩
@[simp] theorem dLen_l : dLen [.lst xs] = .ok (.int xs.length) := mk_eq rfl
@[simp] theorem dLen_t : dLen [.tup xs] = .ok (.int xs.length) := mk_eq rfl
@[simp] theorem dLen_c : dLen [.scr xs] = .ok (.int xs.length) := mk_eq rfl
@[simp] theorem dLen_s : dLen [.str s] = if s.length ≤ sizeLine then .ok (.int s.length) else .no := mk_eq rfl
@[simp] theorem dList_l : dList [.lst xs] = .ok xs := mk_eq rfl
@[simp] theorem dList_t : dList [.tup xs] = .ok xs := mk_eq rfl
@[simp] theorem dTuple_l : dTuple [.lst xs] = .ok (.tup xs) := mk_eq rfl
@[simp] theorem dTuple_t : dTuple [.tup xs] = .ok (.tup xs) := mk_eq rfl
@[simp] theorem dInt_i : dInt [.int x] = .ok (.int x) := mk_eq rfl
@[simp] theorem dMax2_i : dMax2 [.int x, .int y] = .ok (.int (if y > x then y else x)) := mk_eq rfl
@[simp] theorem dMin2_i : dMin2 [.int x, .int y] = .ok (.int (if y < x then y else x)) := mk_eq rfl
@[simp] theorem dItems_l : dItems (.lst xs) = .ok xs := mk_eq rfl
@[simp] theorem dItems_t : dItems (.tup xs) = .ok xs := mk_eq rfl
@[simp] theorem dItems_s : dItems (.str s) = .ok (s.cps.toList.map fun c => .str ⟨#[c]⟩) := mk_eq rfl
@[simp] theorem dTru_b : dTru (.bl p) = .ok p := mk_eq rfl
@[simp] theorem dSl_l {lo hi : Option Int} : dSl (.lst xs) lo hi = .ok (.lst (cutL xs lo hi)) := mk_eq rfl
@[simp] theorem dSl_t {lo hi : Option Int} : dSl (.tup xs) lo hi = .ok (.tup (cutL xs lo hi)) := mk_eq rfl
@[simp] theorem dSlN_l {lo hi : Option Int} : dSlN (.lst xs) lo hi = .ok (cutL xs lo hi) := mk_eq rfl
theorem dIx_l (h : atI xs x = some d) : dIx (.lst xs) (.int x) = .ok d := by
  show (match atI xs x with | some d => Res.ok d | none => .no) = _
  rw [h]
theorem dIx_t (h : atI xs x = some d) : dIx (.tup xs) (.int x) = .ok d := by
  show (match atI xs x with | some d => Res.ok d | none => .no) = _
  rw [h]
theorem dIx_c (h : atI xs x = some d) : dIx (.scr xs) (.int x) = .ok d := by
  show (match atI xs x with | some d => Res.ok d | none => .no) = _
  rw [h]
@[simp] theorem isi_ll : dIsi [.lst xs, .ty "list"] = .ok (.bl true) := by
  show (match kitB "list" "list" with | some r => Res.ok (D.bl r) | none => .no) = _
  rw [show kitB "list" "list" = some true by decide +kernel]
@[simp] theorem isi_tt : dIsi [.tup xs, .ty "tuple"] = .ok (.bl true) := by
  show (match kitB "tuple" "tuple" with | some r => Res.ok (D.bl r) | none => .no) = _
  rw [show kitB "tuple" "tuple" = some true by decide +kernel]
@[simp] theorem isi_ss : dIsi [.str s, .ty "str"] = .ok (.bl true) := by
  show (match kitB "str" "str" with | some r => Res.ok (D.bl r) | none => .no) = _
  rw [show kitB "str" "str" = some true by decide +kernel]
@[simp] theorem isi_ii : dIsi [.int x, .ty "int"] = .ok (.bl true) := by
  show (match kitB "int" "int" with | some r => Res.ok (D.bl r) | none => .no) = _
  rw [show kitB "int" "int" = some true by decide +kernel]
@[simp] theorem isi_ni : dIsi [.non, .ty "int"] = .ok (.bl false) := by
  show (match kitB "NoneType" "int" with | some r => Res.ok (D.bl r) | none => .no) = _
  rw [show kitB "NoneType" "int" = some false by decide +kernel]
@[simp] theorem dIs_n : dIs d .non = .ok (.bl d.isNon) := mk_eq rfl
@[simp] theorem dIs_b : dIs (.bl p) (.bl q) = .ok (.bl (p == q)) := mk_eq rfl
@[simp] theorem dIsNot_n : dIsNot d .non = .ok (.bl (!d.isNon)) := mk_eq rfl
@[simp] theorem dIsNot_b : dIsNot (.bl p) (.bl q) = .ok (.bl (!(p == q))) := mk_eq rfl
end
theorem ints_map : ∀ ns : List Int, D.ints (ns.map D.int) = some ns
  | [] => rfl
  | n :: ns => by simp [D.ints, ints_map ns]
theorem bools_map : ∀ ns : List Bool, D.bools (ns.map D.bl) = some ns
  | [] => rfl
  | n :: ns => by simp [D.bools, bools_map ns]
theorem strs_map : ∀ ns : List Str, D.strs (ns.map D.str) = some ns
  | [] => rfl
  | n :: ns => by simp [D.strs, strs_map ns]
theorem eqbA_map {α : Type} [DecidableEq α] {f : α → D} (h : ∀ a b, (f a).eqb (f b) = decide (a = b)) : ∀ xs ys : List α, D.eqbA (xs.map f) (ys.map f) = decide (xs = ys)
  | [], [] => by simp [D.eqbA]
  | [], _ :: _ => by simp [D.eqbA]
  | _ :: _, [] => by simp [D.eqbA]
  | x :: xs, y :: ys => by
    simp only [List.map_cons, D.eqbA, h, eqbA_map h xs ys]
    by_cases h1 : x = y <;> by_cases h2 : xs = ys <;> simp [h1, h2]
theorem datA_map {α : Type} {f : α → D} {n : Nat} (h : ∀ a, D.dat n (f a) = true) : ∀ xs : List α, D.datA n (xs.map f) = true
  | [] => by simp [D.datA]
  | x :: xs => by simp [D.datA, h, datA_map h xs]
@[simp] theorem dat_int {n : Nat} {x : Int} : D.dat n (.int x) = true := by cases n <;> rfl
@[simp] theorem dat_str {n : Nat} {x : Str} : D.dat n (.str x) = true := by cases n <;> rfl
@[simp] theorem dat_bl {n : Nat} {x : Bool} : D.dat n (.bl x) = true := by cases n <;> rfl
@[simp] theorem dat_non {n : Nat} : D.dat n .non = true := by cases n <;> rfl
@[simp] theorem dat_lst {n : Nat} {xs : List D} : D.dat (n + 1) (.lst xs) = D.datA n xs := mk_eq rfl
@[simp] theorem dat_tup {n : Nat} {xs : List D} : D.dat (n + 1) (.tup xs) = D.datA n xs := mk_eq rfl
@[simp] theorem datA_nil {n : Nat} : D.datA n [] = true := by simp [D.datA]
@[simp] theorem datA_cons {n : Nat} {x : D} {xs : List D} : D.datA n (x :: xs) = (D.dat n x && D.datA n xs) := by simp [D.datA]
@[simp] theorem datA_ints {n : Nat} (ns : List Int) : D.datA n (ns.map D.int) = true := datA_map (fun _ => dat_int) ns
theorem eqb_int (a b : Int) : (D.int a).eqb (.int b) = decide (a = b) := by
  show (a == b) = _
  rw [Bool.eq_iff_iff]
  simp
theorem eqb_str (a b : Str) : (D.str a).eqb (.str b) = decide (a = b) := by
  show (a == b) = _
  rw [Bool.eq_iff_iff]
  simp
theorem eqbA_ints (xs ys : List Int) : D.eqbA (xs.map D.int) (ys.map D.int) = decide (xs = ys) := eqbA_map eqb_int xs ys
/-- a loop that stores: s the state, j what is forgotten; I by the turn -/
theorem forM_foldA {α σ τ : Type} {b : Bnd} {body : Rho → Out} {enc : α → D} (st : σ → τ → Rho) (f : σ → α → σ) (I : Nat → σ → Prop) : ∀ (xs : List α) (k : Nat), (∀ (i : Nat) s j x, xs[i]? = some x → I (k + i) s → ∃ ρ1 j', b (enc x) (st s j) = some ρ1 ∧ (body ρ1 = .nx (st (f s x) j') ∨ body ρ1 = .ct (st (f s x) j')) ∧ I (k + i + 1) (f s x)) →
    ∀ s j, I k s → ∃ j', forM b body (xs.map enc) (st s j) = .nx (st (xs.foldl f s) j') ∧ I (k + xs.length) (xs.foldl f s)
  | [], _, _, s, j, hI => ⟨j, rfl, hI⟩
  | x :: xs, k, h, s, j, hI => by
    obtain ⟨ρ1, j1, h1, h2, h3⟩ := h 0 s j x rfl hI
    obtain ⟨j2, h4, h5⟩ := forM_foldA st f I xs (k + 1) (fun i s j y hy hI => by
      have := h (i + 1) s j y (by simpa using hy) (by rw [show k + (i + 1) = k + 1 + i by omega]; exact hI)
      rw [show k + (i + 1) + 1 = k + 1 + i + 1 by omega] at this
      exact this) (f s x) j1 (by simpa using h3)
    refine ⟨j2, ?_, by rw [show k + (x :: xs).length = k + 1 + xs.length by simp; omega]; exact h5⟩
    simp only [List.map_cons, forM, h1]
    rcases h2 with h2 | h2
    · rw [h2]
      exact h4
    · rw [h2]
      exact h4
theorem forM_fold {α σ τ : Type} {b : Bnd} {body : Rho → Out} {enc : α → D} (st : σ → τ → Rho) (f : σ → α → σ) (I : Nat → σ → Prop) (xs : List α) (h : ∀ (i : Nat) s j x, xs[i]? = some x → I i s → ∃ ρ1 j', b (enc x) (st s j) = some ρ1 ∧ (body ρ1 = .nx (st (f s x) j') ∨ body ρ1 = .ct (st (f s x) j')) ∧ I (i + 1) (f s x))
    (s : σ) (j : τ) (hI : I 0 s) : ∃ j', forM b body (xs.map enc) (st s j) = .nx (st (xs.foldl f s) j') ∧ I xs.length (xs.foldl f s) := by
  have := forM_foldA st f I xs 0 (fun i s j x hx hI => by
    rw [Nat.zero_add] at hI ⊢
    exact h i s j x hx hI) s j hI
  rw [Nat.zero_add] at this
  exact this
theorem runF_rt {n N : Nat} {f : Rho → Out} {ds : List D} {d : D} (h : ds.length = n) (e : f (startR N ds) = .rt d) : runF n N f ds = .ok d := by
  unfold runF
  rw [if_pos h, e]
theorem atI_get {α : Type} {xs : List α} {i : Int} {j : Nat} {x : α} (h : i = (j : Int)) (e : xs[j]? = some x) : atI xs i = some x := by
  subst h
  exact atI_nat e
theorem sz1 {n : Nat} (h : n ≤ 1000000) : n ≤ sizeLine := Nat.le_trans h (by decide)
theorem sz2 {n : Nat} (h : n < 1000000) : n < sizeLine := Nat.lt_of_lt_of_le h (by decide)
end T
set_option Elab.async false
set_option linter.all false
set_option maxRecDepth 100000
set_option maxHeartbeats 4000000
namespace T
open PySem L2
def cell0 (ns : List Int) (k : Nat) : Int := if 0 < ns.length then ns.getD (k % ns.length) 0 else 0
def cell1 (ns : List Int) (k : Nat) : Int := if cell0 ns k < 0 then 1 - 2 * cell0 ns k else cell0 ns k
/-- numbers of at most n bits -/
def Fits (n : Nat) (x : Int) : Prop := x.natAbs < 2 ^ n
theorem Fits.mono {n m : Nat} {x : Int} (h : Fits n x) (e : n ≤ m) : Fits m x := Nat.lt_of_lt_of_le h (Nat.pow_le_pow_right (by decide) e)
theorem Fits.mul {n m : Nat} {x y : Int} (h : Fits n x) (h' : Fits m y) (e : n + m ≤ 134217728) : CMulX x y := mulx_ok h h' e
theorem fits_of_bits {n : Nat} {x : Int} (h : Builtin.Int.intBits x ≤ n) : Fits n x := by
  unfold Builtin.Int.intBits at h
  unfold Fits
  by_cases hx : x = 0
  · subst hx
    simp
    exact Nat.two_pow_pos n
  · have h1 : (x == 0) = false := by simpa using hx
    rw [h1] at h
    simp only [if_neg Bool.false_ne_true] at h
    have h2 : x.natAbs ≠ 0 := by omega
    exact (Nat.log2_lt h2).mp (by omega)
theorem fits_small {x : Int} (h : -(2 ^ 64) < x) (h' : x < 2 ^ 64) : Fits 64 x := by
  unfold Fits
  have : (2 : Nat) ^ 64 = 18446744073709551616 := by decide
  rw [this]
  omega
theorem Fits.two {n : Nat} {x : Int} (h : Fits n x) : Fits (n + 2) (1 - 2 * x) := by
  unfold Fits at *
  have : (2 : Nat) ^ (n + 2) = 4 * 2 ^ n := by rw [Nat.pow_add]; omega
  omega
theorem Fits.pos {n : Nat} {x : Int} (h : Fits n x) (h0 : 0 < n) : 0 < n := h0
section
variable {ns : List Int} {n : Nat} (hn : n ≤ 2000000) (hb : ∀ z ∈ ns, Fits n z)
include hb
theorem cell0_fits (k : Nat) : Fits n (cell0 ns k) := by
  unfold cell0
  by_cases h : 0 < ns.length
  · rw [if_pos h]
    have hlt : k % ns.length < ns.length := Nat.mod_lt _ h
    rw [List.getD_eq_getElem?_getD, List.getElem?_eq_getElem hlt]
    exact hb _ (List.getElem_mem hlt)
  · rw [if_neg h]
    unfold Fits
    simp
    exact Nat.two_pow_pos n
theorem cell1_fits (k : Nat) : Fits (n + 2) (cell1 ns k) := by
  unfold cell1
  split
  · exact (cell0_fits hb k).two
  · exact (cell0_fits hb k).mono (by omega)
omit hb in
theorem cell1_nn (k : Nat) : 0 ≤ cell1 ns k := by
  unfold cell1
  split <;> omega
include hn
theorem draws_e1 (S C L K : D) (x : Nat) : (sIf (toB (bin dLt (getV 4) (conD (.int 0)))) (sSet 4 (bin dSub (conD (.int 1)) (bin dMul (conD (.int 2)) (getV 4)))) sSkip) [some S, some C, some L, some K, some (.int (cell0 ns x))] = .nx [some S, some C, some L, some K, some (.int (cell1 ns x))] := by
  have hmul : CMulX 2 (cell0 ns x) := (fits_small (by decide) (by decide) : Fits 64 2).mul (cell0_fits hb x) (by omega)
  by_cases h : cell0 ns x < 0
  · simp [h, dMul_ok hmul, cell1]
  · simp [h, cell1]
omit hn hb in
theorem draws_app (S C K : D) (s : List Int) (z : Int) (hs : s.length < 100000) : sApp 2 (getV 4) [some S, some C, some (.lst (s.map D.int)), some K, some (.int z)] = .nx [some S, some C, some (.lst ((s ++ [z]).map D.int)), some K, some (.int z)] := by
  have e3 : (s.map D.int).length < sizeLine := sz2 (by simp; omega)
  rw [sApp_ap, x_atL (xs := s.map D.int) rfl, x_getV (d := .int z) rfl, thenS_ok, if_pos e3, List.map_append]
  rfl
omit hn hb in
theorem draws_loop (body : Rho → Out) (cell : Nat → Int) (S : D) (c : Nat) (hc : c ≤ 100000) (h : ∀ (x : Nat), x < 100000 → ∀ (C : D) (a : Option D) (s : List Int), s.length < 100000 → body [some S, some C, some (.lst (s.map D.int)), some (.int (x : Int)), a] = .nx [some S, some C, some (.lst ((s ++ [cell x]).map D.int)), some (.int (x : Int)), some (.int (cell x))]) :
    runF 2 5 (sSeq (sSetN 2 (lstV noA)) (sSeq (sFor (callV dRng1 (consA (getV 1) noA)) (bNm 3) body) (sRet (getV 2)))) [S, .int c] = .ok (.lst (((List.range c).map cell).map D.int)) := by
  refine runF_rt rfl ?_
  rw [sSeq_nx (f := sSetN 2 (lstV noA)) (ρ' := [some S, some (.int c), some (.lst []), none, none]) rfl]
  obtain ⟨j, hj, hI⟩ := forM_fold (b := bNm 3) (enc := fun (i : Nat) => D.int i) (body := body) (fun (s : List Int) (j : Option D × Option D) => [some S, some (.int c), some (.lst (s.map D.int)), j.1, j.2]) (fun s k => s ++ [cell k]) (fun i s => s = (List.range i).map cell) (List.range c) (fun i s j x hx hI => by
    have hx' : x = i ∧ i < c := by
      obtain ⟨h1, h2⟩ := List.getElem?_eq_some_iff.mp hx
      simp at h1 h2
      omega
    obtain ⟨rfl, hic⟩ := hx'
    refine ⟨_, (some (.int (x : Int)), some (.int (cell x))), rfl, .inl (h x (by omega) _ _ s ?_), ?_⟩
    · rw [hI, List.length_map, List.length_range]
      omega
    · rw [hI, List.range_succ, List.map_append]
      rfl) [] (none, none) rfl
  have hr : callV dRng1 (consA (getV 1) noA) [some S, some (.int c), some (.lst []), none, none] = .ok ((List.range c).map fun (i : Nat) => D.int i) := by
    simp only [callV_ap, consA_ap, getV_s, getV_0, Res.bind_ok, noA_ap, dRng1, upFrom]
    rw [if_pos (by omega)]
    simp
  rw [List.length_range] at hI
  rw [hI] at hj
  rw [sSeq_nx (f := sFor (callV dRng1 (consA (getV 1) noA)) (bNm 3) body) (by
    rw [sFor_ap, hr, thenS_ok]
    exact hj)]
  rfl
end
end T
set_option Elab.async false
set_option linter.all false
set_option maxRecDepth 100000
set_option maxHeartbeats 4000000
namespace T
open PySem L2
section
variable {ρ ρ' : Rho} {f g : Rho → Out} {o : Out} {d : D} {c : Rho → Res Bool}
theorem set_ok {i : Nat} {a : Rho → Res D} (h : a ρ = .ok d) : sSet i a ρ = .nx (ρ.set i (some d)) := by rw [sSet_ap, h, thenS_ok]
theorem toB_ok {a : Rho → Res D} {k : Bool} (h : a ρ = .ok (.bl k)) : toB a ρ = .ok k := by rw [toB_ap, h, Res.bind_ok]
theorem bin_ok {α : Type} {h : D → D → Res α} {a b : Rho → Res D} {x y : D} {z : Res α} (ha : a ρ = .ok x) (hb : b ρ = .ok y) (hh : h x y = z) : bin h a b ρ = z := by rw [bin_ap, ha, Res.bind_ok, hb, Res.bind_ok, hh]
end
end T
set_option Elab.async false
set_option linter.all false
set_option maxRecDepth 100000
set_option maxHeartbeats 4000000
namespace T
open PySem PySem.Spec PyProof.Rows L2
variable [Mg]
/-- rows at addresses -/
def RowsAt (K : PySem.W.Frag) (B H : Hp) (ps : List Addr) (rows : List (List D)) : Prop := ps.length = rows.length ∧ ∀ (k : Nat) (a : Addr) (row : List D), ps[k]? = some a → rows[k]? = some row → ∃ vs, H a = some (.lst vs) ∧ RpA K B vs row
theorem RowsAt.step {K : PySem.W.Frag} {F B H B' H' : Hp} {own : Own} {ps : List Addr} {rows : List (List D)} (r : RowsAt K B H ps rows) (s : Step own F B H B' H') (ho : ∀ a ∈ ps, own a ≠ none) : RowsAt K B' H' ps rows :=
  ⟨r.1, fun k a row h1 h2 => by
    obtain ⟨vs, h3, h4⟩ := r.2 k a row h1 h2
    exact ⟨vs, by rw [(s.ownd a (ho a (List.mem_of_getElem? h1))).1]; exact h3, h4.mono s.ext⟩⟩
end T
set_option Elab.async false
set_option linter.all false
set_option maxRecDepth 100000
set_option maxHeartbeats 4000000
namespace T
open PySem L2
theorem cut_from {α : Type} (xs : List α) (i : Nat) (z : Int) (hz : z = (i : Int)) (h : i ≤ xs.length) : cutL xs (some z) none = xs.drop i := by
  subst hz
  have h1 : HT.sIx xs.length 0 (some (i : Int)) = i := by
    rw [HT.sIx_nat]
    omega
  have h2 : HT.sIx xs.length xs.length none = xs.length := rfl
  unfold cutL
  rw [h1, h2]
  exact List.take_of_length_le (by simp)
section
variable {ρ : Rho} {a b : Rho → Res D} {i : Int} {j : Nat}
theorem eq_ok {x y : Int} (ha : a ρ = .ok (.int x)) (hb : b ρ = .ok (.int y)) : toB (bin dEq a b) ρ = .ok (decide (x = y)) := toB_ok (bin_ok ha hb dEq_i)
end
theorem rep_flat {β : Type} (x : β) : ∀ n : Nat, (List.replicate n [x]).flatten = List.replicate n x
  | 0 => rfl
  | n + 1 => by rw [List.replicate_succ, List.flatten_cons, rep_flat x n]; rfl
mutual
theorem D.dat_self : ∀ (d : D) (n : Nat), D.dat n d = true → D.eqb d d = true
  | .non, _, _ => rfl
  | .bl b, _, _ => by simp [D.eqb]
  | .int b, _, _ => by simp [D.eqb]
  | .str b, _, _ => by simp [D.eqb]
  | .lst xs, 0, h => by simp [D.dat] at h
  | .lst xs, n + 1, h => by
    rw [D.eqb]
    exact D.datA_self xs n (by simpa [D.dat] using h)
  | .scr xs, 0, h => by simp [D.dat] at h
  | .scr xs, n + 1, h => by
    rw [D.eqb]
    exact D.datA_self xs n (by simpa [D.dat] using h)
  | .tup xs, 0, h => by simp [D.dat] at h
  | .tup xs, n + 1, h => by
    rw [D.eqb]
    exact D.datA_self xs n (by simpa [D.dat] using h)
  | .dct _, 0, h => by simp [D.dat] at h
  | .dct _, n + 1, h => by simp [D.dat] at h
  | .exc _, 0, h => by simp [D.dat] at h
  | .exc _, n + 1, h => by simp [D.dat] at h
  | .ins _ _, 0, h => by simp [D.dat] at h
  | .ins _ _, n + 1, h => by simp [D.dat] at h
  | .ty _, 0, h => by simp [D.dat] at h
  | .ty _, n + 1, h => by simp [D.dat] at h
theorem D.datA_self : ∀ (ds : List D) (n : Nat), D.datA n ds = true → D.eqbA ds ds = true
  | [], _, _ => by simp [D.eqbA]
  | d :: ds, n, h => by
    simp only [D.datA, Bool.and_eq_true] at h
    rw [D.eqbA, D.dat_self d n h.1, D.datA_self ds n h.2]
    rfl
end
theorem dEq_self {d : D} (h : D.dat 60 d = true) : dEq d d = .ok (.bl true) := by rw [dEq_d h h, D.dat_self d 60 h]
theorem dNe_self {d : D} (h : D.dat 60 d = true) : dNe d d = .ok (.bl false) := by rw [dNe_d h h, D.dat_self d 60 h]; rfl
end T
set_option Elab.async false
set_option linter.all false
set_option maxRecDepth 100000
set_option maxHeartbeats 4000000
namespace T
open PySem PySem.Spec PyProof.Rows L2
variable [Mg]
section
variable {X : Cx} {W : WX} {L : LM} {G G' : List Mode} {C : Addr} {bmB : List Value} {Bs newId initId : String} {x : Str} {e : Expr} {es : List Expr} {p pos pos' : Pos}
/-- raise X(e, ..) -/
def sRaiseA (c : Str) (g : Rho → Res (List D)) : Rho → Out := fun ρ => thenS (g ρ) ρ fun ds => if ds.length ≤ sizeLine then .ex ⟨c, []⟩ ρ else .no
theorem SnA.len {K : PySem.W.Frag} {own : Own} {B H : Hp} : ∀ {vs : List V} {ds : List D}, SnA K own B H vs ds → vs.length = ds.length
  | _, _, .nil => rfl
  | _, _, .cons _ r => congrArg (· + 1) (SnA.len r)
/-- a suite may not raise -/
def noEx : Out → Out
  | .ex _ _ => .no
  | o => o
/-- the first clause that takes it -/
def pickS (sub : Str → Str → Bool) (e : Exn) : List (Str × (Exn → Rho → Out)) → Rho → Out
  | [], ρ => .ex e ρ
  | (c, g) :: r, ρ => if sub e.cls c = true then noEx (g e ρ) else pickS sub e r ρ
def sTry (cl : List Str) (sub : Str → Str → Bool) (f : Rho → Out) (hs : List (Str × (Exn → Rho → Out))) : Rho → Out := fun ρ => match f ρ with
  | .ex e ρ' => if e.cls ∈ cl then pickS sub e hs ρ' else .no
  | o => o
end
end T
set_option Elab.async false
set_option linter.all false
set_option maxRecDepth 100000
set_option maxHeartbeats 4000000
namespace T
open PySem PySem.Spec PyProof.Rows L2
end T
set_option Elab.async false
set_option linter.all false
set_option maxRecDepth 100000
set_option maxHeartbeats 4000000
namespace T
open PySem PySem.Spec PyProof.Rows L2
end T
set_option Elab.async false
set_option linter.all false
set_option maxRecDepth 100000
set_option maxHeartbeats 4000000
namespace T
open PySem L2
abbrev dS (l : List Nat) : D := .str (SX.S l)
theorem dS_of {s : Str} {l : List Nat} (h : s = SX.S l) : (D.str s) = dS l := by rw [h]
section
variable {a b : List Nat}
theorem dLen_S (h : a.length ≤ 1000000) : dLen [dS a] = .ok (.int a.length) := by
  rw [dLen_s, if_pos (sz1 (by rw [SX.S_len]; exact h)), SX.S_len]
theorem dEq_S : dEq (dS a) (dS b) = .ok (.bl (decide (a = b))) := by
  rw [dEq_s]
  refine congrArg Res.ok (congrArg D.bl ?_)
  rw [Bool.eq_iff_iff]
  simp only [decide_eq_true_eq]
  exact ⟨SX.S_inj, fun h => by rw [h]⟩
theorem dNe_S : dNe (dS a) (dS b) = .ok (.bl (!decide (a = b))) := by
  rw [dNe_s]
  refine congrArg Res.ok (congrArg D.bl (congrArg not ?_))
  rw [Bool.eq_iff_iff]
  simp only [decide_eq_true_eq]
  exact ⟨SX.S_inj, fun h => by rw [h]⟩
theorem dIn_S {c : Nat} : dIn (dS [c]) (dS a) = .ok (.bl (decide (c ∈ a))) := by
  show Res.ok (D.bl (!(Builtin.Str.occurrences (SX.S a) (SX.S [c]) 0 (SX.S a).length 1).isEmpty)) = _
  rw [SX.in_one]
theorem dIx_S {i : Int} {j c : Nat} (hi : i = (j : Int)) (h : a[j]? = some c) (hl : a.length ≤ 1000000) : dIx (dS a) (.int i) = .ok (dS [c]) := by
  unfold dIx
  simp only
  rw [if_pos (sz1 (by rw [SX.S_len]; exact hl)), atI_get hi h]
theorem dSl_S {lo hi : Option Int} (h : a.length ≤ 1000000) : dSl (dS a) lo hi = .ok (dS (cutL a lo hi)) := by
  show (if (SX.S a).length ≤ sizeLine then Res.ok (D.str (cutS (SX.S a) lo hi)) else .no) = _
  rw [if_pos (sz1 (by rw [SX.S_len]; exact h))]
  unfold cutS cutL
  rw [SX.S_len]
theorem dSplit_S {c : Nat} (hc : c < 256) (h : a.length + 2 ≤ 1000000) : dSplit (dS a) [dS [c]] = .ok ((TL.spl [c] 0 [] a).map dS) := by
  unfold dSplit
  simp only
  rw [if_pos ⟨by rw [SX.S_len]; rfl, sz1 (by rw [SX.S_len]; exact h)⟩, SX.split_S (List.cons_ne_nil _ _) (by simpa using hc), List.map_map]
  rfl
end
end T
set_option Elab.async false
set_option linter.all false
set_option maxRecDepth 100000
set_option maxHeartbeats 4000000
namespace T
open PySem L2
@[simp] theorem isi_bi {p : Bool} : dIsi [.bl p, .ty "int"] = .ok (.bl true) := by
  show (match kitB "bool" "int" with | some r => Res.ok (D.bl r) | none => .no) = _
  rw [show kitB "bool" "int" = some true by decide +kernel]
end T
set_option Elab.async false
set_option linter.all false
set_option maxRecDepth 100000
set_option maxHeartbeats 4000000
namespace T
open PySem PySem.Spec PyProof.Rows L2
variable [Mg]
section
variable {K : PySem.W.Frag} {F B H : Hp} {own : Own} {G G2 : List Mode} {ρ : Rho} {σ : L2.St} {i : Nat}
theorem Good.raw {a : Addr} {d : Option Addr} {fs : List (Str × D)} {Gx : List Mode} (g : Good K F Gx ρ own B σ H) (h0 : ∀ j, j ≠ i → G.getD j Mode.fz = Gx.getD j Mode.fz) (hi : G.getD i Mode.fz = Mode.raw a d) (hx : ExcFs K B d fs) :
    Good K F G (ρ.set i (some (.exc fs))) own B (σ.set i (some (.ref a))) H where
  gr := g.gr
  len := by simpa using g.len
  slots := fun j e he => by
    by_cases hj : j = i
    · subst hj
      have hl := (List.getElem?_eq_some_iff.mp he).1
      rw [List.length_set] at hl
      rw [List.getElem?_set_self hl] at he
      cases he
      refine ⟨.ref a, ?_, ?_⟩
      · rw [List.getElem?_set_self (by rw [g.len.1]; exact hl)]
      · rw [hi]
        exact ⟨rfl, fs, rfl, hx⟩
    · rw [List.getElem?_set_ne (Ne.symm hj)] at he
      obtain ⟨v, h1, h2⟩ := g.slots j e he
      refine ⟨v, by rw [List.getElem?_set_ne (Ne.symm hj)]; exact h1, ?_⟩
      rw [h0 j hj]
      exact h2
end
/-- alike but at i -/
def alike (i : Nat) (G2 G : List Mode) : Bool := (List.range (max G2.length G.length)).all fun j => j == i || decide (G2.getD j Mode.fz = G.getD j Mode.fz)
end T
set_option Elab.async false
set_option linter.all false
set_option maxRecDepth 100000
set_option maxHeartbeats 4000000
namespace T
open PySem PySem.Spec PyProof.Rows L2
variable [Mg]
section
variable {X : Cx} {W : WX} {G : List Mode} {pos : Pos}
def ConE (X : Cx) (e : Expr) (k : Key) : Prop := PE X e (tC (kV k))
omit [Mg] in
theorem con_i {i : Int} {j p} : ConE X (.Constant (.int i) j p) (.inl i) := pe_int
/-- d[k] -/
def keyOf : D → Option Key
  | .int i => some (.inl i)
  | .str x => some (.inr x)
  | _ => none
def lookD (ds : List (D × D)) (k : Key) : Option D := (ds.find? fun kv => decide (keyOf kv.1 = some k)).map (·.2)
theorem RpP.look {K : PySem.W.Frag} {B : Hp} {k : Key} : ∀ {kvs : List (Key × V)} {ds : List (D × D)} {d : D}, RpP K B kvs ds → lookD ds k = some d → ∃ v, valV kvs k = some v ∧ Rp K B v d
  | _, _, _, .nil, h => by cases h
  | _, _, d, .consI (n := n) (v := v) (d := d0) r rs, h => by
    unfold lookD at h
    unfold valV
    by_cases e : (Sum.inl n : Key) = k
    · subst e
      simp [keyOf] at h ⊢
      subst h
      exact r
    · have e' : ¬ (some (Sum.inl n : Key) = some k) := fun z => e (Option.some.inj z)
      rw [List.find?_cons, show decide (keyOf (D.int n) = some k) = false from decide_eq_false e'] at h
      obtain ⟨v', h1, h2⟩ := RpP.look (k := k) rs h
      refine ⟨v', ?_, h2⟩
      rw [List.find?_cons, show decide ((Sum.inl n : Key) = k) = false from decide_eq_false e]
      exact h1
  | _, _, d, .consS (x := n) (v := v) (d := d0) r rs, h => by
    unfold lookD at h
    unfold valV
    by_cases e : (Sum.inr n : Key) = k
    · subst e
      simp [keyOf] at h ⊢
      subst h
      exact r
    · have e' : ¬ (some (Sum.inr n : Key) = some k) := fun z => e (Option.some.inj z)
      rw [List.find?_cons, show decide (keyOf (D.str n) = some k) = false from decide_eq_false e'] at h
      obtain ⟨v', h1, h2⟩ := RpP.look (k := k) rs h
      refine ⟨v', ?_, h2⟩
      rw [List.find?_cons, show decide ((Sum.inr n : Key) = k) = false from decide_eq_false e]
      exact h1
end
end T
set_option Elab.async false
set_option linter.all false
set_option maxRecDepth 100000
set_option maxHeartbeats 4000000
namespace PySem
end PySem
namespace T
open PySem PySem.Spec PyProof.Rows L2
end T
set_option Elab.async false
set_option linter.all false
set_option maxRecDepth 100000
set_option maxHeartbeats 4000000
namespace T
open PySem PySem.Spec PyProof.Rows L2
theorem look_at {f : Str} {v : V} : ∀ {vs : List (Str × V)} {i : Nat}, (vs.map (·.1))[i]? = some f → f ∉ (vs.map (·.1)).take i → (vs.map (·.2))[i]? = some v → vs.lookup f = some v
  | [], _, h, _, _ => by simp at h
  | (g, x) :: vs, 0, h, _, e => by
    simp at h e
    subst h e
    simp
  | (g, x) :: vs, i + 1, h, n, e => by
    simp only [List.map_cons, List.getElem?_cons_succ] at h e
    simp only [List.map_cons, List.take_succ_cons, List.mem_cons, not_or] at n
    rw [List.lookup_cons, beq_eq_false_iff_ne.mpr n.1]
    exact look_at h n.2 e
theorem look_no {f : Str} : ∀ {vs : List (Str × V)}, f ∉ vs.map (·.1) → vs.lookup f = none
  | [], _ => rfl
  | (g, x) :: vs, n => by
    simp only [List.map_cons, List.mem_cons, not_or] at n
    rw [List.lookup_cons, beq_eq_false_iff_ne.mpr n.1]
    exact look_no n.2
def putN {α : Type} (i : Nat) (y : α) (xs : List α) : List α := if i < xs.length then xs.set i y else xs ++ [y]
theorem put_at {f : Str} {y : V} : ∀ {vs : List (Str × V)} {i : Nat}, i < vs.length → (vs.map (·.1))[i]? = some f → f ∉ (vs.map (·.1)).take i → (putF f y vs).map (·.1) = vs.map (·.1) ∧ (putF f y vs).map (·.2) = (vs.map (·.2)).set i y
  | [], _, h, _, _ => by simp at h
  | (g, x) :: vs, 0, _, h, _ => by
    simp at h
    subst h
    unfold putF
    simp
  | (g, x) :: vs, i + 1, hl, h, n => by
    simp only [List.map_cons, List.getElem?_cons_succ] at h
    simp only [List.map_cons, List.take_succ_cons, List.mem_cons, not_or] at n
    obtain ⟨h1, h2⟩ := put_at (y := y) (by simpa using hl) h n.2
    unfold putF
    rw [if_neg (Ne.symm n.1)]
    simp [h1, h2]
theorem put_end {f : Str} {y : V} : ∀ {vs : List (Str × V)}, f ∉ vs.map (·.1) → putF f y vs = vs ++ [(f, y)]
  | [], _ => rfl
  | (g, x) :: vs, n => by
    simp only [List.map_cons, List.mem_cons, not_or] at n
    unfold putF
    rw [if_neg (Ne.symm n.1), put_end n.2]
    rfl
section
variable {f : Str} {ns lay : List Str} {i : Nat}
theorem pre_get (h : ns <+: lay) (hi : i < ns.length) : ns[i]? = lay[i]? := by
  obtain ⟨t, rfl⟩ := h
  rw [List.getElem?_append_left hi]
theorem pre_take (h : ns <+: lay) (hi : i ≤ ns.length) : ns.take i = lay.take i := by
  obtain ⟨t, rfl⟩ := h
  rw [List.take_append_of_le_length hi]
theorem put_all {vs : List (Str × V)} {y : V} (h : vs.map (·.1) <+: lay) (hf : lay[i]? = some f) (hn : f ∉ lay.take i) (hi : i ≤ vs.length) : (putF f y vs).map (·.1) <+: lay ∧ (putF f y vs).map (·.2) = putN i y (vs.map (·.2)) := by
  have hl : (vs.map (·.1)).length = vs.length := by simp
  rw [← pre_take h (by omega)] at hn
  unfold putN
  by_cases hlt : i < vs.length
  · rw [if_pos (by simpa using hlt)]
    obtain ⟨h1, h2⟩ := put_at (y := y) hlt ((pre_get h (by omega)).trans hf) hn
    rw [h1]
    exact ⟨h, h2⟩
  · have e : i = vs.length := by omega
    rw [if_neg (by simpa using hlt)]
    rw [List.take_of_length_le (by omega)] at hn
    rw [put_end hn]
    refine ⟨?_, by simp⟩
    obtain ⟨t, ht⟩ := h
    rw [← ht] at hf ⊢
    rw [List.getElem?_append_right (by omega), hl, e, Nat.sub_self] at hf
    cases t with
    | nil => simp at hf
    | cons a t =>
      simp at hf
      subst hf
      exact ⟨t, by simp⟩
end
variable [Mg]
/-- f is the i-th attribute of the classes cl, none of which has an f of its own -/
structure Fld (K : PySem.W.Frag) (c : Nat) (f : Str) (i : Nat) : Prop where
  cls : Cls K (Mg.cls c)
  no : NoAttr K (Mg.cls c) f
  at_ : (Mg.lay c)[i]? = some f
  new : f ∉ (Mg.lay c).take i
section
variable {K : PySem.W.Frag} {F B H B' H' : Hp} {own own' : Own}
theorem RpA.nth {vs : List V} {ds : List D} {i : Nat} {d : D} (r : RpA K B vs ds) (h : ds[i]? = some d) : ∃ v, vs[i]? = some v ∧ Rp K B v d := r.get h
theorem Fld.look {c : Nat} {f : Str} {i : Nat} {vs : List (Str × V)} {v : V} (F : Fld K c f i) (h : vs.map (·.1) <+: Mg.lay c) (e : (vs.map (·.2))[i]? = some v) : vs.lookup f = some v := by
  have hi : i < vs.length := by
    have := (List.getElem?_eq_some_iff.mp e).1
    simpa using this
  refine look_at ((pre_get h (by simpa using hi)).trans F.at_) ?_ e
  rw [pre_take h (by simp; omega)]
  exact F.new
end
def Mode.nth : Nat → Mode → Option Mode
  | 0, .fcons m _ => some m
  | i + 1, .fcons _ r => Mode.nth i r
  | _, _ => none
def Mode.putM : Nat → Mode → Mode → Mode
  | 0, m', .fcons _ r => .fcons m' r
  | i + 1, m', .fcons m r => .fcons m (Mode.putM i m' r)
  | 0, m', .fnil => .fcons m' .fnil
  | _, _, m => m
def Mode.len : Mode → Nat
  | .fcons _ r => r.len + 1
  | _ => 0
def Mode.body : Mode → Mode
  | .at _ m => m
  | m => m
section
variable {K : PySem.W.Frag} {F B H B' H' : Hp} {own own' : Own}
theorem VRep.body {m : Mode} {lab : Lab} {v : V} {d : D} (h : VRep K B H own m lab v d) : VRep K B H own m.body lab v d := by
  cases m with
  | «at» a m =>
    unfold VRep at h
    exact h.2
  | _ => exact h
theorem VFs.nth : ∀ {i : Nat} {r : Mode} {lab : Lab} {k : Nat} {m : Mode} {vs : List V} {ds : List D}, VFs K B H own r lab k vs ds → Mode.nth i r = some m → ∃ v d, vs[i]? = some v ∧ ds[i]? = some d ∧ VRep K B H own m (lab ++ [k + i]) v d
  | 0, .fcons m r, lab, k, m', vs, ds, h, e => by
    unfold VFs at h
    obtain ⟨v, d, vs', ds', rfl, rfl, h3, h4⟩ := h
    cases e
    exact ⟨v, d, rfl, rfl, h3⟩
  | i + 1, .fcons m r, lab, k, m', vs, ds, h, e => by
    unfold VFs at h
    obtain ⟨v, d, vs', ds', rfl, rfl, h3, h4⟩ := h
    obtain ⟨v', d', h5, h6, h7⟩ := VFs.nth (i := i) h4 e
    refine ⟨v', d', by simpa using h5, by simpa using h6, ?_⟩
    rw [show k + (i + 1) = k + 1 + i by omega]
    exact h7
theorem VFs.len : ∀ {r : Mode} {lab : Lab} {k : Nat} {vs : List V} {ds : List D}, VFs K B H own r lab k vs ds → vs.length = r.len ∧ ds.length = r.len
  | .fcons m r, lab, k, vs, ds, h => by
    unfold VFs at h
    obtain ⟨v, d, vs', ds', rfl, rfl, h3, h4⟩ := h
    obtain ⟨h5, h6⟩ := VFs.len h4
    simp [Mode.len, h5, h6]
  | .fnil, _, _, _, _, h => by
    unfold VFs at h
    obtain ⟨rfl, rfl⟩ := h
    exact ⟨rfl, rfl⟩
  | .fz, _, _, _, _, h => by unfold VFs at h; exact h.elim
  | .own _, _, _, _, _, h => by unfold VFs at h; exact h.elim
  | .raw _ _, _, _, _, _, h => by unfold VFs at h; exact h.elim
  | .dic, _, _, _, _, h => by unfold VFs at h; exact h.elim
  | .ins _ _, _, _, _, _, h => by unfold VFs at h; exact h.elim
  | .at _ _, _, _, _, _, h => by unfold VFs at h; exact h.elim
theorem VFs.rest {k0 : Nat} : ∀ {r : Mode} {lab : Lab} {k : Nat} {vs : List V} {ds : List D}, VFs K B H own r lab k vs ds → k0 < k → (∀ k', k0 < k' → Carry K B H own (lab ++ [k']) B' H' own' (lab ++ [k'])) → VFs K B' H' own' r lab k vs ds
  | .fcons m r, lab, k, vs, ds, h, hk, c => by
    unfold VFs at h ⊢
    obtain ⟨v, d, vs', ds', h1, h2, h3, h4⟩ := h
    exact ⟨v, d, vs', ds', h1, h2, VRep.carry (c k hk) h3, VFs.rest h4 (by omega) c⟩
  | .fnil, _, _, _, _, h, _, _ => by
    unfold VFs at h ⊢
    exact h
  | .fz, _, _, _, _, h, _, _ => by unfold VFs at h; exact h.elim
  | .own _, _, _, _, _, h, _, _ => by unfold VFs at h; exact h.elim
  | .raw _ _, _, _, _, _, h, _, _ => by unfold VFs at h; exact h.elim
  | .dic, _, _, _, _, h, _, _ => by unfold VFs at h; exact h.elim
  | .ins _ _, _, _, _, _, h, _, _ => by unfold VFs at h; exact h.elim
  | .at _ _, _, _, _, _, h, _, _ => by unfold VFs at h; exact h.elim
/-- an attribute is set; the others are carried over -/
theorem VFs.put {m' : Mode} {y : V} {d' : D} : ∀ {i : Nat} {r : Mode} {lab : Lab} {k : Nat} {vs : List V} {ds : List D}, VFs K B H own r lab k vs ds → i ≤ r.len → (∀ k', k' ≠ k + i → Carry K B H own (lab ++ [k']) B' H' own' (lab ++ [k'])) → VRep K B' H' own' m' (lab ++ [k + i]) y d' →
    VFs K B' H' own' (Mode.putM i m' r) lab k (putN i y vs) (putN i d' ds)
  | 0, .fcons m0 r, lab, k, vs, ds, h, hi, c, q => by
    unfold VFs at h
    obtain ⟨v, d, vs', ds', rfl, rfl, h3, h4⟩ := h
    unfold Mode.putM putN VFs
    simp only [List.length_cons, Nat.zero_lt_succ, if_true, List.set_cons_zero]
    refine ⟨y, d', vs', ds', rfl, rfl, q, ?_⟩
    exact VFs.rest (k0 := k) h4 (Nat.lt_succ_self k) fun k' hk => c k' (by omega)
  | i + 1, .fcons m0 r, lab, k, vs, ds, h, hi, c, q => by
    unfold VFs at h
    obtain ⟨v, d, vs', ds', rfl, rfl, h3, h4⟩ := h
    have e : k + (i + 1) = k + 1 + i := by omega
    rw [e] at q
    have ih := VFs.put (i := i) h4 (by simpa [Mode.len] using hi) (fun k' hk => c k' (by omega)) q
    unfold Mode.putM VFs
    refine ⟨v, d, putN i y vs', putN i d' ds', ?_, ?_, VRep.carry (c k (by omega)) h3, ih⟩
    · unfold putN
      by_cases hl : i < vs'.length
      · rw [if_pos hl, if_pos (by simpa using hl)]
        rfl
      · rw [if_neg hl, if_neg (by simpa using hl)]
        rfl
    · unfold putN
      by_cases hl : i < ds'.length
      · rw [if_pos hl, if_pos (by simpa using hl)]
        rfl
      · rw [if_neg hl, if_neg (by simpa using hl)]
        rfl
  | 0, .fnil, lab, k, vs, ds, h, hi, c, q => by
    unfold VFs at h
    obtain ⟨rfl, rfl⟩ := h
    unfold Mode.putM putN VFs
    refine ⟨y, d', [], [], rfl, rfl, q, ?_⟩
    unfold VFs
    exact ⟨rfl, rfl⟩
  | i + 1, .fnil, _, _, _, _, _, hi, _, _ => by simp [Mode.len] at hi
  | _, .fz, _, _, _, _, h, _, _, _ => by unfold VFs at h; exact h.elim
  | _, .own _, _, _, _, _, h, _, _, _ => by unfold VFs at h; exact h.elim
  | _, .raw _ _, _, _, _, _, h, _, _, _ => by unfold VFs at h; exact h.elim
  | _, .dic, _, _, _, _, h, _, _, _ => by unfold VFs at h; exact h.elim
  | _, .ins _ _, _, _, _, _, h, _, _, _ => by unfold VFs at h; exact h.elim
  | _, .at _ _, _, _, _, _, h, _, _, _ => by unfold VFs at h; exact h.elim
end
end T
set_option Elab.async false
set_option linter.all false
set_option maxRecDepth 100000
set_option maxHeartbeats 4000000
namespace T
open PySem PySem.Spec PyProof.Rows L2
variable [Mg]
structure FldS (c : Nat) : Prop where
  small : (Mg.lay c).length < 1000
theorem pre_small {c : Nat} {us : List (Str × V)} (h : us.map (·.1) <+: Mg.lay c) (S : FldS c) : us.length < 1000 := by
  have h1 := h.length_le
  have h2 := S.small
  simp at h1
  omega
end T
set_option Elab.async false
set_option linter.all false
set_option maxRecDepth 100000
set_option maxHeartbeats 4000000
namespace T
open PySem PySem.Spec PyProof.Rows L2
end T
set_option Elab.async false
set_option linter.all false
set_option maxRecDepth 100000
set_option maxHeartbeats 4000000
namespace T
open PySem PySem.Spec PyProof.Rows L2
mutual
/-- numbers, texts, and tuples of such -/
def D.noL : D → Bool
  | .non | .bl _ | .int _ | .str _ | .ty _ => true
  | .tup xs => D.noLA xs
  | _ => false
def D.noLA : List D → Bool
  | [] => true
  | x :: xs => D.noL x && D.noLA xs
end
variable [Mg]
end T
set_option Elab.async false
set_option linter.all false
set_option maxRecDepth 100000
set_option maxHeartbeats 4000000
namespace T
open PySem PySem.Spec PyProof.Rows L2
end T
set_option Elab.async false
set_option linter.all false
set_option maxRecDepth 100000
set_option maxHeartbeats 4000000
namespace T
open PySem PySem.Spec PyProof.Rows L2
inductive ResM (α : Type) where
  | ok (a : α) (ρ : Rho) | ex (e : Exn) (ρ : Rho) | no
def ResM.has {α : Type} (r : ResM α) (P : α → Rho → Prop) (E : Exn → Rho → Prop) : Prop :=
  match r with
  | .ok a ρ => P a ρ
  | .ex e ρ => E e ρ
  | .no => False
def ResM.bind {α β : Type} (r : ResM α) (f : α → Rho → ResM β) : ResM β := match r with
  | .ok a ρ => f a ρ
  | .ex e ρ => .ex e ρ
  | .no => .no
theorem ResM.has_bind {α β : Type} {r : ResM α} {f : α → Rho → ResM β} {P : β → Rho → Prop} {E : Exn → Rho → Prop} (h : (r.bind f).has P E) : r.has (fun a ρ => (f a ρ).has P E) E := by
  cases r with
  | ok a ρ => exact h
  | ex e ρ => exact h
  | no => exact h
theorem ResM.has_mono {α : Type} {r : ResM α} {P P' : α → Rho → Prop} {E E' : Exn → Rho → Prop} (h : r.has P E) (p : ∀ a ρ, P a ρ → P' a ρ) (q : ∀ e ρ, E e ρ → E' e ρ) : r.has P' E' := by
  cases r with
  | ok a ρ => exact p a ρ h
  | ex e ρ => exact q e ρ h
  | no => exact h
/-- without a change -/
def liftM {α : Type} (r : Res α) (ρ : Rho) : ResM α := match r with
  | .ok a => .ok a ρ
  | .ex e => .ex e ρ
  | .no => .no
def pureM {α : Type} (g : Rho → Res α) : Rho → ResM α := fun ρ => liftM (g ρ) ρ
theorem liftM_has {α : Type} {r : Res α} {ρ : Rho} {P : α → Rho → Prop} {E : Exn → Rho → Prop} (h : (liftM r ρ).has P E) : r.has (fun a => P a ρ) (fun e => E e ρ) := by
  cases r <;> exact h
def refN : D → Option Nat
  | .exc [(_, .int n)] => if 0 ≤ n then some n.toNat else none
  | _ => none
@[simp] theorem refN_ref (n : Nat) : refN (refD n) = some n := by simp [refN, refD]
theorem nref_refN {d : D} (h : d.nref = true) : refN d = none := by
  cases d <;> first | rfl | cases h
@[simp] theorem refD_nref (n : Nat) : (refD n).nref = false := mk_eq0 rfl
def stoOf : D → Option (List D)
  | .exc fs => some (fs.map (·.2))
  | _ => none
@[simp] theorem stoOf_stoD (os : List D) : stoOf (stoD os) = some os := by
  simp only [stoOf, stoD, List.map_map]
  congr 1
  exact List.map_id' os
/-- the store that stands in slot S -/
def stoR (S : Nat) (ρ : Rho) : Option (List D) := match ρ[S]? with
  | some (some d) => stoOf d
  | _ => none
def setS (S : Nat) (os : List D) (ρ : Rho) : Rho := ρ.set S (some (stoD os))
variable [Mg]
section
variable {K : PySem.W.Frag} {F B B' H H' : Hp} {own own' : Own} {os : List D}
/-- what a thing needs to stay: its own labels, and all numbers -/
theorem RootR.keepN {n : Nat} {a : Addr} (ha : own a = some [SH, n]) (e : Ext B B') (s1 : ∀ l m, own l = some [SH, m] → own' l = some [SH, m]) (s2 : ∀ l k, own l = some [SH, n, k] → own' l = some [SH, n, k] ∧ H' l = H l) (s3 : H' a = H a) : ∀ {o : D}, RootR K B H own n a o → RootR K B' H' own' n a o := by
  have anyK : ∀ {v : V} {d : D}, AnyR K B own v d → AnyR K B' own' v d := fun {v d} h => by
    rcases h with ⟨h1, h2⟩ | ⟨m, b, h1, h2, h3⟩
    · exact .inl ⟨h1, h2.mono e⟩
    · exact .inr ⟨m, b, h1, h2, s1 _ _ h3⟩
  have anyA : ∀ {vs : List V} {ds : List D}, AnyA K B own vs ds → AnyA K B' own' vs ds := fun h => ⟨h.1, fun k v d h1 h2 => anyK (h.2 k v d h1 h2)⟩
  have anyD : ∀ {o : HO} {kvs : List (D × D)}, AnyD K B own o kvs → AnyD K B' own' o kvs := fun h => by
    rcases h with ⟨ps, h1, h2, h3⟩ | ⟨ps, h1, hne, h2, h3⟩
    · exact .inl ⟨ps, h1, h2, fun k p q a b => ⟨(h3 k p q a b).1, anyK (h3 k p q a b).2⟩⟩
    · exact .inr ⟨ps, h1, hne, h2, fun k p q a b => ⟨(h3 k p q a b).1, anyK (h3 k p q a b).2⟩⟩
  intro o h
  cases o with
  | ins c ds =>
    obtain ⟨dx, vs, h1, h2, h3, h4⟩ := h
    refine ⟨dx, vs, s3.trans h1, h2, h3, fun k v d a b => ?_⟩
    have h5 := h4 k v d a b
    cases hm : Mg.fm c k with
    | any =>
      rw [hm] at h5
      exact anyK h5
    | lst =>
      rw [hm] at h5
      obtain ⟨l, us, es, e1, e2, e3, e4, e5⟩ := h5
      exact ⟨l, us, es, e1, e2, (s2 _ _ e3).1, (s2 _ _ e3).2.trans e4, anyA e5⟩
    | dct =>
      rw [hm] at h5
      obtain ⟨l, us, es, e1, e2, e3, e4, e5⟩ := h5
      exact ⟨l, us, es, e1, e2, (s2 _ _ e3).1, (s2 _ _ e3).2.trans e4, anyD e5⟩
  | lst ds =>
    obtain ⟨vs, h1, h2⟩ := h
    exact ⟨vs, s3.trans h1, anyA h2⟩
  | dct ds =>
    obtain ⟨vs, h1, h2⟩ := h
    exact ⟨vs, s3.trans h1, anyD h2⟩
  | _ => exact h.elim
theorem StoR.obj (h : StoR K B H own os) {n : Nat} {a : Addr} {o : D} (e : os[n]? = some o) (ha : own a = some [SH, n]) : RootR K B H own n a o := by
  obtain ⟨b, h1, h2⟩ := h.at_ n o e
  have := h.inj a b n [] ha h1
  subst this
  exact h2
/-- one thing changes -/
theorem StoR.mut (h : StoR K B H own os) {n : Nat} {o' : D} (hn : n < os.length) (e : Ext B B')
    (h1 : ∀ (l : Addr) (m : Nat) (r : Lab), m ≠ n → (own l = some (SH :: m :: r) ↔ own' l = some (SH :: m :: r))) (h2 : ∀ l, own l = some [SH, n] ↔ own' l = some [SH, n])
    (h3 : ∀ (l : Addr) (m : Nat) (r : Lab), m ≠ n → own l = some (SH :: m :: r) → H' l = H l) (h4 : ∀ (a a' : Addr) (r : Lab), own' a = some (SH :: n :: r) → own' a' = some (SH :: n :: r) → a = a')
    (h5 : ∀ a, own' a = some [SH, n] → RootR K B' H' own' n a o') : StoR K B' H' own' (os.set n o') where
  at_ := fun m o hm => by
    have s1 : ∀ l m, own l = some [SH, m] → own' l = some [SH, m] := fun l m hl => by
      by_cases hmn : m = n
      · subst hmn
        exact (h2 l).mp hl
      · exact (h1 l m [] hmn).mp hl
    by_cases hmn : m = n
    · subst hmn
      rw [List.getElem?_set_self hn] at hm
      cases hm
      obtain ⟨a, k1, k2⟩ := h.at_ m _ (List.getElem?_eq_getElem hn)
      exact ⟨a, (h2 a).mp k1, h5 a ((h2 a).mp k1)⟩
    · rw [List.getElem?_set_ne (Ne.symm hmn)] at hm
      obtain ⟨a, k1, k2⟩ := h.at_ m o hm
      exact ⟨a, (h1 a m [] hmn).mp k1, k2.keepN k1 e s1 (fun l k hl => ⟨(h1 l m [k] hmn).mp hl, h3 l m [k] hmn hl⟩) (h3 a m [] hmn k1)⟩
  inj := fun a a' m r k1 k2 => by
    by_cases hmn : m = n
    · subst hmn
      exact h4 a a' r k1 k2
    · exact h.inj a a' m r ((h1 a m r hmn).mpr k1) ((h1 a' m r hmn).mpr k2)
  bnd := fun a m r k1 => by
    rw [List.length_set]
    by_cases hmn : m = n
    · subst hmn
      exact hn
    · exact h.bnd a m r ((h1 a m r hmn).mpr k1)
/-- a new thing -/
theorem StoR.new (h : StoR K B H own os) {p : Addr} {o : D} (e : Ext B B') (ho : own p = none) (hH : ∀ (l : Addr) (n : Nat) (r : Lab), own l = some (SH :: n :: r) → H' l = H l)
    (hr : RootR K B' H' (fun a => if a = p then some [SH, os.length] else own a) os.length p o) : StoR K B' H' (fun a => if a = p then some [SH, os.length] else own a) (os ++ [o]) := by
  have k1 : ∀ (l : Addr) (n : Nat) (r : Lab), own l = some (SH :: n :: r) → (if l = p then some [SH, os.length] else own l) = some (SH :: n :: r) := fun l n r hl => by
    rw [if_neg fun z => by rw [z, ho] at hl; cases hl]
    exact hl
  refine ⟨fun n d hn => ?_, fun a a' n r h1 h2 => ?_, fun a n r h1 => ?_⟩
  · by_cases hl : n < os.length
    · rw [List.getElem?_append_left hl] at hn
      obtain ⟨a, h1, h2⟩ := h.at_ n d hn
      exact ⟨a, k1 _ _ _ h1, h2.keepN h1 e (fun l m hl => k1 _ _ _ hl) (fun l k hl => ⟨k1 _ _ _ hl, hH _ _ _ hl⟩) (hH _ _ _ h1)⟩
    · have hn' : n = os.length := by
        have := (List.getElem?_eq_some_iff.mp hn).1
        rw [List.length_append, List.length_singleton] at this
        omega
      subst hn'
      rw [List.getElem?_append_right (Nat.le_refl _), Nat.sub_self] at hn
      cases hn
      exact ⟨p, if_pos rfl, hr⟩
  · by_cases ha : a = p <;> by_cases ha' : a' = p
    · rw [ha, ha']
    · rw [if_pos ha] at h1
      rw [if_neg ha'] at h2
      have hb := h.bnd _ _ _ h2
      cases h1
      exact absurd hb (Nat.lt_irrefl _)
    · rw [if_neg ha] at h1
      rw [if_pos ha'] at h2
      have hb := h.bnd _ _ _ h1
      cases h2
      exact absurd hb (Nat.lt_irrefl _)
    · rw [if_neg ha] at h1
      rw [if_neg ha'] at h2
      exact h.inj a a' n r h1 h2
  · rw [List.length_append, List.length_singleton]
    by_cases ha : a = p
    · rw [if_pos ha] at h1
      cases h1
      omega
    · rw [if_neg ha] at h1
      have := h.bnd _ _ _ h1
      omega
end
def Mode.flat : Mode → Bool
  | .fz | .any | .raw _ _ => true
  | .own .fz => true
  | _ => false
def flatG (S : Nat) (G : List Mode) : Bool := (List.range G.length).all fun i => i == S || (G.getD i Mode.fz).flat
omit [Mg] in
theorem flatG_at {S : Nat} {G : List Mode} (h : flatG S G = true) {i : Nat} (hi : i ≠ S) : (G.getD i Mode.fz).flat = true := by
  by_cases hl : i < G.length
  · have := List.all_eq_true.mp h i (List.mem_range.mpr hl)
    simp only [Bool.or_eq_true, beq_iff_eq] at this
    exact this.resolve_left hi
  · rw [List.getD_eq_getElem?_getD, List.getElem?_eq_none (by omega)]
    rfl
section
variable {K : PySem.W.Frag} {F B B' H H' : Hp} {own own' : Own} {os os' : List D} {G : List Mode} {ρ : Rho} {σ : L2.St} {S : Nat}
theorem VRep.flat {m : Mode} (hm : m.flat = true) {lab : Lab} {v : V} {d : D} (e : Ext B B') (c : ∀ (l : Addr) (r : Lab), own l = some (lab ++ r) → own' l = some (lab ++ r) ∧ H' l = H l) (s : ∀ (a : Addr) (n : Nat), own a = some [SH, n] → own' a = some [SH, n]) (h : VRep K B H own m lab v d) : VRep K B' H' own' m lab v d := by
  cases m with
  | fz => exact Rp.mono e h
  | any =>
    rcases (h : AnyR K B own v d) with ⟨h1, h2⟩ | ⟨n, a, h1, h2, h3⟩
    · exact .inl ⟨h1, h2.mono e⟩
    · exact .inr ⟨n, a, h1, h2, s _ _ h3⟩
  | raw a dx =>
    obtain ⟨h1, fs, h2, h3⟩ := h
    exact ⟨h1, fs, h2, h3.mono e⟩
  | own m' =>
    cases m' with
    | fz =>
      obtain ⟨l, vs, ds, h1, h2, h3, h4, h5, h6⟩ := h
      have := c l [] (by simpa using h3)
      exact ⟨l, vs, ds, h1, h2, by simpa using this.1, this.2.trans h4, h5, fun k v' d' a b => Rp.mono e (h6 k v' d' a b)⟩
    | _ => cases hm
  | _ => cases hm
theorem Good.sto (g : Good K F G ρ own B σ H) (hS : G.getD S Mode.fz = .sto) (hρ : stoR S ρ = some os) : StoR K B H own os := by
  unfold stoR at hρ
  split at hρ
  · rename_i d e
    obtain ⟨v, h1, h2⟩ := g.slots S d e
    rw [hS] at h2
    obtain ⟨h3, os', h4, h5⟩ := h2
    subst h4
    rw [stoOf_stoD] at hρ
    cases hρ
    exact h5
  · cases hρ
/-- the store changes -/
theorem Good.setS (g : Good K F G ρ own B σ H) (hS : G.getD S Mode.fz = .sto) (hfl : flatG S G = true) (hρ : stoR S ρ = some os) (gr : Ground F own' B' H') (st : StoR K B' H' own' os') (e : Ext B B')
    (c : ∀ (l : Addr) (i : Nat) (r : Lab), i + 1 ≠ SH → own l = some ((i + 1) :: r) → own' l = some ((i + 1) :: r) ∧ H' l = H l) (s : ∀ (a : Addr) (n : Nat), own a = some [SH, n] → own' a = some [SH, n]) :
    Good K F G (T.setS S os' ρ) own' B' σ H' where
  gr := gr
  len := by simpa [T.setS] using g.len
  slots := fun i d hd => by
    unfold T.setS at hd
    by_cases hi : S = i
    · subst hi
      have hl : S < ρ.length := by
        have := (List.getElem?_eq_some_iff.mp hd).1
        simpa using this
      rw [List.getElem?_set_self hl] at hd
      cases hd
      unfold stoR at hρ
      split at hρ
      · rename_i d0 e0
        obtain ⟨v, h1, h2⟩ := g.slots S d0 e0
        rw [hS] at h2 ⊢
        exact ⟨v, h1, h2.1, os', rfl, st⟩
      · cases hρ
    · rw [List.getElem?_set_ne hi] at hd
      obtain ⟨v, h1, h2⟩ := g.slots i d hd
      have hl := (List.getElem?_eq_some_iff.mp hd).1
      have hg := g.len
      refine ⟨v, h1, VRep.flat (flatG_at hfl (Ne.symm hi)) e (fun l r hl' => c l i r (by show i + 1 ≠ 1000000; omega) hl') s h2⟩
theorem AnyR.step {own : Own} {F B H B' H' : Hp} {v : V} {d : D} (h : AnyR K B own v d) (s : Step own F B H B' H') : AnyR K B' own v d := h.keep s.ext fun _ _ _ h => h
theorem AnyR.gr {v : V} {d : D} (h : AnyR K B own v d) (s : Gr own B own' B') : AnyR K B' own' v d := by
  rcases h with ⟨h1, h2⟩ | ⟨n, a, h1, h2, h3⟩
  · exact .inl ⟨h1, h2.mono s.ext⟩
  · exact .inr ⟨n, a, h1, h2, s.le _ _ h3⟩
theorem AnyR.fz {v : V} {d : D} (h : AnyR K B own v d) (n : d.nref = true) : Rp K B v d := by
  rcases h with ⟨h1, h2⟩ | ⟨m, a, h1, h2, h3⟩
  · exact h2
  · subst h1
    cases n
theorem AnyR.ref {v : V} {d : D} {n : Nat} (h : AnyR K B own v d) (e : refN d = some n) : ∃ a, d = refD n ∧ v = .ref a ∧ own a = some [SH, n] := by
  rcases h with ⟨h1, h2⟩ | ⟨m, a, h1, h2, h3⟩
  · rw [nref_refN h1] at e
    cases e
  · subst h1
    rw [refN_ref] at e
    cases e
    exact ⟨a, rfl, h2, h3⟩
/-- a slot takes any value -/
theorem Good.setA (g : Good K F G ρ own B σ H) {i : Nat} {v : V} {d : D} (hG : G.getD i .fz = .any) (r : AnyR K B own v d) : Good K F G (ρ.set i (some d)) own B (σ.set i (some v)) H where
  gr := g.gr
  len := by simpa using g.len
  slots := fun j e he => by
    have hl := g.len
    by_cases hj : i = j
    · subst hj
      have hlt : i < ρ.length := by
        have := (List.getElem?_eq_some_iff.mp he).1
        simpa using this
      rw [List.getElem?_set_self hlt] at he
      cases he
      refine ⟨v, List.getElem?_set_self (by omega), ?_⟩
      rw [hG]
      exact r
    · rw [List.getElem?_set_ne hj] at he
      obtain ⟨w, h1, h2⟩ := g.slots j e he
      exact ⟨w, by rw [List.getElem?_set_ne hj]; exact h1, h2⟩
end
end T
set_option Elab.async false
set_option linter.all false
set_option maxRecDepth 100000
set_option maxHeartbeats 4000000
namespace T
open PySem PySem.Spec PyProof.Rows L2
/-- frozen values only -/
def nrR (d : D) : Res D := if d.nref = true then .ok d else .no
def nrV (g : Rho → Res D) : Rho → Res D := fun ρ => (g ρ).bind nrR
/-- an attribute: by classes its place, what it holds -/
abbrev FT := List (Nat × Nat × FM)
def fldD (tab : FT) (so : Option (List D)) (d : D) : Res D := match refN d with
  | some n => match so with
    | some os => match os[n]? with
      | some (.ins c ds) => match tab.lookup c with
        | some (k, .any) => match ds[k]? with
          | some x => .ok x
          | none => .no
        | _ => .no
      | _ => .no
    | none => .no
  | none => match d with
    | .ins c ds => match tab.lookup c with
      | some (k, _) => match ds[k]? with
        | some x => nrR x
        | none => .no
      | none => .no
    | _ => .no
def fldS (S : Nat) (tab : FT) (g : Rho → Res D) : Rho → Res D := fun ρ => (g ρ).bind fun d => fldD tab (stoR S ρ) d
/-- the content of a thing (references in it: nothing known of them) -/
def cntR (d : D) : Res D := match d with
  | .lst _ | .dct _ => .ok d
  | _ => .no
def conD2 (tab : FT) (so : Option (List D)) (d : D) : Res D := match refN d with
  | some n => match so with
    | some os => match os[n]? with
      | some (.ins c ds) => match tab.lookup c with
        | some (k, .any) => .no
        | some (k, _) => match ds[k]? with
          | some x => cntR x
          | none => .no
        | none => .no
      | _ => .no
    | none => .no
  | none => .no
/-- a list or dict of its own, in an attribute, read -/
def conS (S : Nat) (tab : FT) (g : Rho → Res D) : Rho → Res D := fun ρ => (g ρ).bind fun d => conD2 tab (stoR S ρ) d
/-- a value, read: a thing of the store by its content -/
def derD (so : Option (List D)) (d : D) : Res D := match refN d with
  | some n => match so with
    | some os => match os[n]? with
      | some x => cntR x
      | none => .no
    | none => .no
  | none => nrR d
def derS (S : Nat) (g : Rho → Res D) : Rho → Res D := fun ρ => (g ρ).bind fun d => derD (stoR S ρ) d
variable [Mg]
def FldT (K : PySem.W.Frag) (f : Str) (tab : FT) : Prop := ∀ (c k : Nat) (m : FM), tab.lookup c = some (k, m) → Fld K c f k ∧ Mg.fm c k = m
def EvP (X : Cx) (W : WX) (G : List Mode) (t : TE) (g : Rho → Res D) : Prop :=
  ∀ (F : Hp) (ρ : Rho) (own : Own) (B : Hp) (σ : L2.St) (H : Hp) (Q : VK), Good X.K F G ρ own B σ H →
    (g ρ).has (fun d => ∀ (v : V) (B' H' : Hp), Step own F B H B' H' → AnyR X.K B' own v d → Q v H') (WOk X.K X.mg W own F B H σ) → t σ H Q
/-- any value, the store unchanged -/
def PJ (X : Cx) (W : WX) (G : List Mode) (e : Expr) (g : Rho → Res D) : Prop := ∃ t, PE X e t ∧ EvP X W G t g
section
variable {K : PySem.W.Frag} {B H : Hp} {own : Own}
omit [Mg] in
theorem nrR_has {d : D} {P : D → Prop} {E : Exn → Prop} (h : (nrR d).has P E) : d.nref = true ∧ P d := by
  unfold nrR at h
  split at h
  · rename_i hn
    exact ⟨hn, h⟩
  · exact h.elim
theorem AnyA.fz {vs : List V} {ds : List D} (h : AnyA K B own vs ds) (n : ds.all D.nref = true) : RpA K B vs ds :=
  RpA.of_get h.1 fun k v d h1 h2 => (h.2 k v d h1 h2).fz (List.all_eq_true.mp n d (List.mem_of_getElem? h2))
theorem AnyD.fz {o : HO} {kvs : List (D × D)} (h : AnyD K B own o kvs) (n : kvs.all (fun p => p.2.nref) = true) : RpD K B o kvs := by
  rcases h with ⟨ps, h1, h2, h3⟩ | ⟨ps, h1, hne, h2, h3⟩
  · refine .inl ⟨ps, h1, ?_⟩
    clear h1
    induction ps generalizing kvs with
    | nil =>
      cases kvs with
      | nil => exact .nil
      | cons _ _ => cases h2
    | cons p ps ih =>
      cases kvs with
      | nil => cases h2
      | cons q kvs =>
        obtain ⟨a, b⟩ := h3 0 p q rfl rfl
        have hn := List.all_cons.symm.trans n
        rw [Bool.and_eq_true] at hn
        have r := ih (kvs := kvs) hn.2 (by simpa using h2) (fun k p' q' e1 e2 => h3 (k + 1) p' q' (by simpa using e1) (by simpa using e2))
        obtain ⟨key, v⟩ := p
        obtain ⟨kd, d⟩ := q
        simp only at a b hn
        subst a
        cases key with
        | inl i => exact .consI (b.fz hn.1) r
        | inr i => exact .consS (b.fz hn.1) r
  · refine .inr ⟨ps, h1, ?_⟩
    clear h1 hne
    induction ps generalizing kvs with
    | nil =>
      cases kvs with
      | nil => exact .nil
      | cons _ _ => cases h2
    | cons p ps ih =>
      cases kvs with
      | nil => cases h2
      | cons q kvs =>
        obtain ⟨a, b⟩ := h3 0 p q rfl rfl
        have hn := List.all_cons.symm.trans n
        rw [Bool.and_eq_true] at hn
        have r := ih (kvs := kvs) hn.2 (by simpa using h2) (fun k p' q' e1 e2 => h3 (k + 1) p' q' (by simpa using e1) (by simpa using e2))
        obtain ⟨key, v⟩ := p
        obtain ⟨kd, d⟩ := q
        simp only at a b hn
        subst a
        exact .cons (b.fz hn.1) r
theorem AnyR.rp {v : V} {d : D} (h : AnyR K B own v d) : Rp K B v d := by
  rcases h with ⟨_, h⟩ | ⟨n, a, rfl, rfl, _⟩
  · exact h
  · exact .exc _ _
theorem AnyA.rp {vs : List V} {ds : List D} (h : AnyA K B own vs ds) : RpA K B vs ds := RpA.of_get h.1 fun k v d h1 h2 => (h.2 k v d h1 h2).rp
theorem AnyD.rp {o : HO} {kvs : List (D × D)} (h : AnyD K B own o kvs) : RpD K B o kvs := by
  rcases h with ⟨ps, h1, h2, h3⟩ | ⟨ps, h1, hne, h2, h3⟩
  · refine .inl ⟨ps, h1, ?_⟩
    clear h1
    induction ps generalizing kvs with
    | nil =>
      cases kvs with
      | nil => exact .nil
      | cons _ _ => cases h2
    | cons p ps ih =>
      cases kvs with
      | nil => cases h2
      | cons q kvs =>
        obtain ⟨a, b⟩ := h3 0 p q rfl rfl
        have r := ih (kvs := kvs) (by simpa using h2) (fun k p' q' e1 e2 => h3 (k + 1) p' q' (by simpa using e1) (by simpa using e2))
        obtain ⟨key, v⟩ := p
        obtain ⟨kd, d⟩ := q
        simp only at a b
        subst a
        cases key with
        | inl i => exact .consI b.rp r
        | inr i => exact .consS b.rp r
  · refine .inr ⟨ps, h1, ?_⟩
    clear h1 hne
    induction ps generalizing kvs with
    | nil =>
      cases kvs with
      | nil => exact .nil
      | cons _ _ => cases h2
    | cons p ps ih =>
      cases kvs with
      | nil => cases h2
      | cons q kvs =>
        obtain ⟨a, b⟩ := h3 0 p q rfl rfl
        have r := ih (kvs := kvs) (by simpa using h2) (fun k p' q' e1 e2 => h3 (k + 1) p' q' (by simpa using e1) (by simpa using e2))
        obtain ⟨key, v⟩ := p
        obtain ⟨kd, d⟩ := q
        simp only at a b
        subst a
        exact .cons b.rp r
end
section
variable {X : Cx} {W : WX} {G : List Mode} {e o : Expr} {x f : Str} {pos : Pos} {i S : Nat}
theorem pj_ej {g : Rho → Res D} (h : EJ X W G e g) : PJ X W G e (nrV g) := by
  obtain ⟨t, pe, ve⟩ := h
  refine ⟨t, pe, fun F ρ own B σ H Q gd q => ve F ρ own B σ H Q gd (Res.has_mono (Res.has_bind q) (fun d q v B' H' s r => ?_) fun _ x => x)⟩
  obtain ⟨hn, q⟩ := nrR_has q
  exact q v B' H' s (.inl ⟨hn, r⟩)
theorem ej_pj {g : Rho → Res D} (h : PJ X W G e g) : EJ X W G e (nrV g) := by
  obtain ⟨t, pe, ve⟩ := h
  refine ⟨t, pe, fun F ρ own B σ H Q gd q => ve F ρ own B σ H Q gd (Res.has_mono (Res.has_bind q) (fun d q v B' H' s r => ?_) fun _ x => x)⟩
  obtain ⟨hn, q⟩ := nrR_has q
  exact q v B' H' s (r.fz hn)
theorem pj_var {i : Nat} (h : PE X (.Name x pos) (tVar i)) (hm : G.getD i .fz = .any := by rfl) : PJ X W G (.Name x pos) (getV i) := ⟨_, h, fun F ρ own B σ H Q gd q => by
  unfold getV at q
  split at q
  · rename_i d e
    obtain ⟨v, h1, h2⟩ := gd.slots i d e
    rw [hm] at h2
    exact ⟨v, h1, q v B H (.refl gd.gr) h2⟩
  · exact q.elim⟩
/-- e.f -/
theorem pj_fld {tab : FT} {g : Rho → Res D} (hf : FldT X.K f tab) (he : PJ X W G e g) (hS : G.getD S .fz = .sto := by rfl) (hb : attributeBase e f X.env (eval e X.env) = eval e X.env := by rfl) : PJ X W G (.Attribute e f pos) (fldS S tab g) := by
  obtain ⟨t, pe, ve⟩ := he
  refine ⟨_, pe_fld pe hb, fun F ρ own B σ H Q gd q => ?_⟩
  refine ve F ρ own B σ H _ gd (Res.has_mono (Res.has_bind q) (fun d q v B' H' s r => ?_) fun _ x => x)
  unfold fldD at q
  split at q
  · rename_i n hn
    obtain ⟨a, rfl, rfl, ho⟩ := r.ref hn
    split at q
    · rename_i os hos
      split at q
      · rename_i c ds hc
        split at q
        · rename_i k hk
          split at q
          · rename_i y hy
            have st := (gd.step s).sto hS hos
            obtain ⟨dx, vs, h1, h2, h3, h4⟩ := st.obj hc ho
            obtain ⟨hF, hM⟩ := hf c k _ hk
            have hkl : k < vs.length := by rw [h3]; exact (List.getElem?_eq_some_iff.mp hy).1
            have hu : (vs.map (·.2))[k]? = some (vs[k]'hkl).2 := by rw [List.getElem?_map, List.getElem?_eq_getElem hkl]; rfl
            have h5 := h4 k _ _ hu hy
            rw [hM] at h5
            exact ⟨_, _, _, _, _, rfl, h1, hF.cls, hF.no, hF.look h2 hu, q _ B' H' s h5⟩
          · exact q.elim
        · exact q.elim
      · exact q.elim
    · exact q.elim
  · split at q
    · rename_i c ds _
      split at q
      · rename_i k m hk
        split at q
        · rename_i y hy
          obtain ⟨hn, q⟩ := nrR_has q
          have hF := (hf c k _ hk).1
          have r' := r.fz (d := .ins c ds) rfl
          cases r' with
          | ins hB hk2 ra =>
            obtain ⟨u, hu, ru⟩ := ra.nth hy
            exact ⟨_, _, _, _, u, rfl, s.base _ _ hB, hF.cls, hF.no, hF.look hk2 hu, q u B' H' s (.inl ⟨hn, ru⟩)⟩
        · exact q.elim
      · exact q.elim
    · exact q.elim
omit [Mg] in
theorem cntR_has {d : D} {P : D → Prop} {E : Exn → Prop} (h : (cntR d).has P E) : P d ∧ ((∃ xs, d = .lst xs) ∨ ∃ kvs, d = .dct kvs) := by
  unfold cntR at h
  split at h
  · rename_i xs
    exact ⟨h, .inl ⟨xs, rfl⟩⟩
  · rename_i xs
    exact ⟨h, .inr ⟨xs, rfl⟩⟩
  · exact h.elim
/-- a value, read -/
theorem bj_der {g : Rho → Res D} (he : PJ X W G e g) (hS : G.getD S .fz = .sto := by rfl) : BJ X W G e (derS S g) := by
  obtain ⟨t, pe, ve⟩ := he
  refine ⟨t, pe, fun F ρ own B σ H Q gd q => ?_⟩
  refine ve F ρ own B σ H _ gd (Res.has_mono (Res.has_bind q) (fun d q v B' H' s r => ?_) fun _ x => x)
  unfold derD at q
  split at q
  · rename_i n hn
    obtain ⟨a, rfl, rfl, ho⟩ := r.ref hn
    split at q
    case h_2 => exact q.elim
    rename_i os hos
    split at q
    case h_2 => exact q.elim
    rename_i y hy
    have st := (gd.step s).sto hS hos
    have hr := st.obj hy ho
    obtain ⟨q, hcn⟩ := cntR_has q
    refine q _ B' H' s ?_
    have hno : own a ≠ none := by rw [ho]; exact fun z => nomatch z
    rcases hcn with ⟨xs, rfl⟩ | ⟨xs, rfl⟩
    · obtain ⟨us, e4, e5⟩ := hr
      exact .inr (.inl ⟨a, us, xs, rfl, rfl, hno, e4, e5.rp⟩)
    · obtain ⟨us, e4, e5⟩ := hr
      exact .inr (.inr ⟨a, us, xs, rfl, rfl, hno, e4, e5.rp⟩)
  · obtain ⟨hn, q⟩ := nrR_has q
    exact q v B' H' s (.inl (r.fz hn))
end
def WMk (X : Cx) (W : WX) (G : List Mode) (F : Hp) (own : Own) (B : Hp) (σ : L2.St) (e : Exn) (ρ' : Rho) : Prop :=
  ∀ (c : Value) (dx : Option Addr) (own' : Own) (B' H' : Hp), Gr own B own' B' → Good X.K F G ρ' own' B' σ H' → ExR X.K X.mg B' H' e c dx → W c dx σ H'
theorem WMk.ext {X : Cx} {W : WX} {G : List Mode} {F : Hp} {own own' : Own} {B B' : Hp} {σ : L2.St} {e : Exn} {ρ' : Rho} (w : WMk X W G F own B σ e ρ') (h : Gr own B own' B') : WMk X W G F own' B' σ e ρ' := fun c dx own2 B2 H2 e2 => w c dx own2 B2 H2 (h.trans e2)
theorem WMk.ok {X : Cx} {W : WX} {G : List Mode} {F B H : Hp} {own : Own} {ρ : Rho} {σ : L2.St} {e : Exn} (g : Good X.K F G ρ own B σ H) (w : WMk X W G F own B σ e ρ) : WOk X.K X.mg W own F B H σ e := fun c dx B' H' s x => w c dx own B' H' s.g (g.step s) x
def EvM (X : Cx) (W : WX) (G : List Mode) (md : Mode) (t : TE) (g : Rho → ResM D) : Prop :=
  ∀ (F : Hp) (ρ : Rho) (own : Own) (B : Hp) (σ : L2.St) (H : Hp) (Q : VK), Good X.K F G ρ own B σ H →
    (g ρ).has (fun d ρ' => ∀ (v : V) (own' : Own) (B' H' : Hp), Gr own B own' B' → Good X.K F G ρ' own' B' σ H' → VRep X.K B' H' own' md [0] v d → Q v H') (WMk X W G F own B σ) → t σ H Q
def EvMA (X : Cx) (W : WX) (G : List Mode) (t : TA) (g : Rho → ResM (List D)) : Prop :=
  ∀ (F : Hp) (ρ : Rho) (own : Own) (B : Hp) (σ : L2.St) (H : Hp) (Q : List V → Hp → Prop), Good X.K F G ρ own B σ H →
    (g ρ).has (fun ds ρ' => ∀ (us : List V) (own' : Own) (B' H' : Hp), Gr own B own' B' → Good X.K F G ρ' own' B' σ H' → AnyA X.K B' own' us ds → Q us H') (WMk X W G F own B σ) → t σ H Q
/-- e gives a thing of mode md, and may change the store -/
def MJ (X : Cx) (W : WX) (G : List Mode) (md : Mode) (e : Expr) (g : Rho → ResM D) : Prop := ∃ t, PE X e t ∧ EvM X W G md t g
def MAJ (X : Cx) (W : WX) (G : List Mode) (es : List Expr) (g : Rho → ResM (List D)) : Prop := ∃ t, PA X es t ∧ EvMA X W G t g
def noM : Rho → ResM (List D) := fun ρ => .ok [] ρ
def consM (g : Rho → ResM D) (h : Rho → ResM (List D)) : Rho → ResM (List D) := fun ρ => (g ρ).bind fun d ρ1 => (h ρ1).bind fun ds ρ2 => .ok (d :: ds) ρ2
def nrM (g : Rho → ResM D) : Rho → ResM D := fun ρ => (g ρ).bind fun d ρ1 => liftM (nrR d) ρ1
section
variable {K : PySem.W.Frag} {B B' : Hp} {own own' : Own}
theorem AnyA.nil : AnyA K B own [] [] := ⟨rfl, fun k v d h => by simp at h⟩
theorem AnyA.cons {v : V} {vs : List V} {d : D} {ds : List D} (h : AnyR K B own v d) (h' : AnyA K B own vs ds) : AnyA K B own (v :: vs) (d :: ds) := ⟨by simp [h'.1], fun k u e h1 h2 => by
  cases k with
  | zero =>
    simp at h1 h2
    subst h1 h2
    exact h
  | succ k => exact h'.2 k u e (by simpa using h1) (by simpa using h2)⟩
theorem AnyA.gr {vs : List V} {ds : List D} (h : AnyA K B own vs ds) (s : Gr own B own' B') : AnyA K B' own' vs ds := ⟨h.1, fun k v d h1 h2 => (h.2 k v d h1 h2).gr s⟩
end
section
variable {X : Cx} {W : WX} {G : List Mode} {md : Mode} {e a b : Expr} {es : List Expr} {x : Str} {pos : Pos}
theorem mj_pj {g : Rho → Res D} (h : PJ X W G e g) : MJ X W G .any e (pureM g) := by
  obtain ⟨t, pe, ve⟩ := h
  exact ⟨t, pe, fun F ρ own B σ H Q gd q => ve F ρ own B σ H Q gd (Res.has_mono (liftM_has q) (fun d q v B' H' s r => q v own B' H' s.g (gd.step s) r) fun e x => WMk.ok gd x)⟩
theorem mj_ej {g : Rho → Res D} (h : EJ X W G e g) : MJ X W G .fz e (pureM g) := by
  obtain ⟨t, pe, ve⟩ := h
  exact ⟨t, pe, fun F ρ own B σ H Q gd q => ve F ρ own B σ H Q gd (Res.has_mono (liftM_has q) (fun d q v B' H' s r => q v own B' H' s.g (gd.step s) r) fun e x => WMk.ok gd x)⟩
omit [Mg] in
theorem nrM_has {d : D} {ρ : Rho} {P : D → Rho → Prop} {E : Exn → Rho → Prop} (h : (liftM (nrR d) ρ).has P E) : d.nref = true ∧ P d ρ := nrR_has (liftM_has h)
theorem mj_fz {g : Rho → ResM D} (h : MJ X W G .any e g) : MJ X W G .fz e (nrM g) := by
  obtain ⟨t, pe, ve⟩ := h
  refine ⟨t, pe, fun F ρ own B σ H Q gd q => ve F ρ own B σ H Q gd (ResM.has_mono (ResM.has_bind q) (fun d ρ1 q v own' B' H' s g1 r => ?_) fun _ _ x => x)⟩
  obtain ⟨hn, q⟩ := nrM_has q
  exact q v own' B' H' s g1 (AnyR.fz r hn)
theorem mj_any {g : Rho → ResM D} (h : MJ X W G .fz e g) : MJ X W G .any e (nrM g) := by
  obtain ⟨t, pe, ve⟩ := h
  refine ⟨t, pe, fun F ρ own B σ H Q gd q => ve F ρ own B σ H Q gd (ResM.has_mono (ResM.has_bind q) (fun d ρ1 q v own' B' H' s g1 r => ?_) fun _ _ x => x)⟩
  obtain ⟨hn, q⟩ := nrM_has q
  exact q v own' B' H' s g1 (.inl ⟨hn, r⟩)
theorem maj_nil : MAJ X W G [] noM := ⟨_, pa_nil, fun F ρ own B σ H Q gd q => q [] own B H .refl gd .nil⟩
theorem maj_cons {g : Rho → ResM D} {h : Rho → ResM (List D)} (he : MJ X W G .any e g) (hr : MAJ X W G es h) (hs : starEach (e :: es) X.env = (false, eval e X.env) :: starEach es X.env := by rfl) : MAJ X W G (e :: es) (consM g h) := by
  obtain ⟨t, pe, ve⟩ := he
  obtain ⟨u, pu, vu⟩ := hr
  refine ⟨_, pa_cons pe pu hs, fun F ρ own B σ H Q gd q => ?_⟩
  refine ve F ρ own B σ H _ gd (ResM.has_mono (ResM.has_bind q) (fun d ρ1 q v own1 B1 H1 e1 g1 r1 => ?_) fun _ _ x => x)
  refine vu F ρ1 own1 B1 σ H1 _ g1 (ResM.has_mono (ResM.has_bind q) (fun ds ρ2 q us own2 B2 H2 e2 g2 r2 => ?_) fun _ _ x => x.ext e1)
  exact q (v :: us) own2 B2 H2 (e1.trans e2) g2 (.cons (AnyR.gr r1 e2) r2)
variable {op : Operator}
def binM (f : D → D → Res D) (ga gb : Rho → ResM D) : Rho → ResM D := fun ρ => (ga ρ).bind fun x ρ1 => (gb ρ1).bind fun y ρ2 => liftM (f x y) ρ2
theorem ev_opM {r : R2} {f : D → D → Res D} {ta tb : TE} {ga gb : Rho → ResM D} (ho : OpD X r f) (hf : Calm f) (ha : EvM X W G Mode.fz ta ga) (hb : EvM X W G Mode.fz tb gb) : EvM X W G Mode.fz (tOp r ta tb) (binM f ga gb) := fun F ρ own B σ H Q gd q => by
  refine ha F ρ own B σ H _ gd (ResM.has_mono (ResM.has_bind q) (fun dx ρ1 q v own1 B1 H1 e1 g1 r1 => ?_) fun _ _ x => x)
  refine hb F ρ1 own1 B1 σ H1 _ g1 (ResM.has_mono (ResM.has_bind q) (fun dy ρ2 q w own2 B2 H2 e2 g2 r2 => ?_) fun _ _ x => x.ext e1)
  have r1' : Rp X.K B1 v dx := r1
  have r2' : Rp X.K B2 w dy := r2
  refine ho F own2 B2 H2 v w dx dy Q g2.gr (.inl (r1'.mono e2.ext)) (.inl r2') (Res.has_calm (hf dx dy) (liftM_has q) fun d q v' B' H' s3 r3 => q v' own2 B' H' ((e1.trans e2).trans s3.g) (g2.step s3) r3)
def tupM (g : Rho → ResM (List D)) : Rho → ResM D := fun ρ => (g ρ).bind fun ds ρ1 => if ds.all D.nref = true ∧ ds.length ≤ sizeLine then .ok (.tup ds) ρ1 else .no
def callP (m : List D → Res D) (g : Rho → ResM (List D)) : Rho → ResM D := fun ρ => (g ρ).bind fun ds ρ1 => if ds.all D.nref = true then liftM (m ds) ρ1 else .no
variable {id Ty : String} {p : Pos} {k n : Nat} {fd : FuncData} {ps : List Str}
end
end T
set_option Elab.async false
set_option linter.all false
set_option maxRecDepth 100000
set_option maxHeartbeats 4000000
namespace T
open PySem PySem.Spec PyProof.Rows L2
variable [Mg]
def EvTM (X : Cx) (W : WX) (G : List Mode) (t : TT) (g : Rho → ResM Bool) : Prop :=
  ∀ (F : Hp) (ρ : Rho) (own : Own) (B : Hp) (σ : L2.St) (H : Hp) (Q : Bool → Hp → Prop), Good X.K F G ρ own B σ H →
    (g ρ).has (fun b ρ' => ∀ (own' : Own) (B' H' : Hp), Gr own B own' B' → Good X.K F G ρ' own' B' σ H' → Q b H') (WMk X W G F own B σ) → t σ H Q
def TMJ (X : Cx) (W : WX) (G : List Mode) (e : Expr) (g : Rho → ResM Bool) : Prop := ∃ t, PT X e t ∧ EvTM X W G t g
def toBM (g : Rho → ResM D) : Rho → ResM Bool := fun ρ => (g ρ).bind fun d ρ1 => match d with
  | .bl b => .ok b ρ1
  | _ => .no
def notM (g : Rho → ResM Bool) : Rho → ResM Bool := fun ρ => (g ρ).bind fun b ρ1 => .ok (!b) ρ1
def andM (g h : Rho → ResM Bool) : Rho → ResM Bool := fun ρ => (g ρ).bind fun b ρ1 => if b = true then h ρ1 else .ok false ρ1
def orM (g h : Rho → ResM Bool) : Rho → ResM Bool := fun ρ => (g ρ).bind fun b ρ1 => if b = true then .ok true ρ1 else h ρ1
section
variable {X : Cx} {W : WX} {L : LM} {G G' : List Mode} {md : Mode} {e a b : Expr} {x : Str} {px pos : Pos} {i : Nat}
theorem ev_testM {t : TE} {g : Rho → ResM D} (h : EvM X W G Mode.fz t g) : EvTM X W G (tTest t) (toBM g) := fun F ρ own B σ H Q gd q => by
  refine h F ρ own B σ H _ gd (ResM.has_mono (ResM.has_bind q) (fun d ρ1 q v own1 B1 H1 e1 g1 r => ?_) fun _ _ x => x)
  have r' : Rp X.K B1 v d := r
  cases d with
  | bl b =>
    cases r'
    exact ⟨b, rfl, q own1 B1 H1 e1 g1⟩
  | _ => exact q.elim
theorem tmj_cmp {op : CmpOp} {f : D → D → Res D} {ga gb : Rho → ResM D} (ho : ∃ r, OpR X (compareOp op) r ∧ OpD X r f) (hf : Calm f) (hm : behindInMarks op b = false) (ha : MJ X W G Mode.fz a ga) (hb : MJ X W G Mode.fz b gb) : TMJ X W G (.Compare a [op] [b] pos) (toBM (binM f ga gb)) := by
  obtain ⟨r, h1, h2⟩ := ho
  obtain ⟨ta, pa, va⟩ := ha
  obtain ⟨tb, pb, vb⟩ := hb
  exact ⟨_, pt_cmpR h1 pa pb hm, ev_testM (ev_opM h2 hf va vb)⟩
theorem tmj_val {g : Rho → ResM D} (h : MJ X W G Mode.fz e g) (he : ∀ whole, isTrue e X.env whole = (do let v ← whole; standAt e.pos; holding [v] (truthy v)) := by intro _; rfl) : TMJ X W G e (toBM g) := by
  obtain ⟨t, p, v⟩ := h
  exact ⟨_, pt_val p he, ev_testM v⟩
theorem tmj_pure {g : Rho → Res Bool} (h : TJ X W G e g) : TMJ X W G e (pureM g) := by
  obtain ⟨t, pe, ve⟩ := h
  exact ⟨t, pe, fun F ρ own B σ H Q gd q => ve F ρ own B σ H Q gd (Res.has_mono (liftM_has q) (fun d q B' H' s => q own B' H' s.g (gd.step s)) fun e x => WMk.ok gd x)⟩
theorem tmj_not {g : Rho → ResM Bool} (h : TMJ X W G a g) : TMJ X W G (.UnaryOp .Not a pos) (notM g) := by
  obtain ⟨t, p, v⟩ := h
  exact ⟨_, pt_not p, fun F ρ own B σ H Q gd q => v F ρ own B σ H _ gd (ResM.has_mono (ResM.has_bind q) (fun b ρ1 q own1 B1 H1 e1 g1 => q own1 B1 H1 e1 g1) fun _ _ x => x)⟩
def WMJ (X : Cx) (W : WX) (G : List Mode) (e : Expr) (g : Rho → ResM Bool) : Prop := ∃ t, PW X e t ∧ EvTM X W G t g
theorem wmj_and {rest : List Expr} {g h : Rho → ResM Bool} (ha : TMJ X W G a g) (hb : WMJ X W G (.BoolOp .And (b :: rest) pos) h) : WMJ X W G (.BoolOp .And (a :: b :: rest) pos) (andM g h) := by
  obtain ⟨t, p, v⟩ := ha
  obtain ⟨u, p', v'⟩ := hb
  refine ⟨_, pw_and p p', fun F ρ own B σ H Q gd q => ?_⟩
  refine v F ρ own B σ H _ gd (ResM.has_mono (ResM.has_bind q) (fun b ρ1 q own1 B1 H1 e1 g1 => ?_) fun _ _ x => x)
  cases b with
  | true => exact v' F ρ1 own1 B1 σ H1 _ g1 (ResM.has_mono q (fun b ρ2 q own2 B2 H2 e2 g2 => q own2 B2 H2 (e1.trans e2) g2) fun _ _ x => x.ext e1)
  | false => exact q own1 B1 H1 e1 g1
theorem wmj_or {rest : List Expr} {g h : Rho → ResM Bool} (ha : TMJ X W G a g) (hb : WMJ X W G (.BoolOp .Or (b :: rest) pos) h) : WMJ X W G (.BoolOp .Or (a :: b :: rest) pos) (orM g h) := by
  obtain ⟨t, p, v⟩ := ha
  obtain ⟨u, p', v'⟩ := hb
  refine ⟨_, pw_or p p', fun F ρ own B σ H Q gd q => ?_⟩
  refine v F ρ own B σ H _ gd (ResM.has_mono (ResM.has_bind q) (fun b ρ1 q own1 B1 H1 e1 g1 => ?_) fun _ _ x => x)
  cases b with
  | true => exact q own1 B1 H1 e1 g1
  | false => exact v' F ρ1 own1 B1 σ H1 _ g1 (ResM.has_mono q (fun b ρ2 q own2 B2 H2 e2 g2 => q own2 B2 H2 (e1.trans e2) g2) fun _ _ x => x.ext e1)
theorem wmj_and1 {g : Rho → ResM Bool} (ha : TMJ X W G a g) : WMJ X W G (.BoolOp .And [a] pos) g := let ⟨_, p, v⟩ := ha; ⟨_, pw_and1 p, v⟩
theorem wmj_or1 {g : Rho → ResM Bool} (ha : TMJ X W G a g) : WMJ X W G (.BoolOp .Or [a] pos) g := let ⟨_, p, v⟩ := ha; ⟨_, pw_or1 p, v⟩
theorem WMJ.tmj {g : Rho → ResM Bool} (h : WMJ X W G e g) : TMJ X W G e g := let ⟨_, p, v⟩ := h; ⟨_, p.pt, v⟩
def thenM {α : Type} (r : ResM α) (k : α → Rho → Out) : Out := match r with
  | .ok a ρ => k a ρ
  | .ex e ρ => .ex e ρ
  | .no => .no
theorem thenM_has {α : Type} {r : ResM α} {F : Hp} {own : Own} {B : Hp} {σ : L2.St} {D : Ends} {k : α → Rho → Out} (hx : leM L.ex G) (q : PostS X W L G' F own B D (thenM r k)) : r.has (fun a ρ' => PostS X W L G' F own B D (k a ρ')) (WMk X W G F own B σ) := by
  cases r with
  | ok a ρ => exact q
  | ex e ρ => exact fun c dx own' B' H' e' g' x => q c dx _ _ σ H' (e'.trans (to_gr g'.gr)) (g'.to hx) (x.mono (baseTo_ext g'.gr))
  | no => exact q
def sIfM (c : Rho → ResM Bool) (f g : Rho → Out) : Rho → Out := fun ρ => thenM (c ρ) fun b ρ1 => if b = true then f ρ1 else g ρ1
theorem sj_ifM {c : Expr} {a b : List Stmt} {gc : Rho → ResM Bool} {f g : Rho → Out} (hc : TMJ X W G c gc) (ha : SsJ X W L G a f G') (hb : SsJ X W L G b g G') : SJ X W L G (.If c a b pos) (sIfM gc f g) G' := by
  obtain ⟨tc, pc, vc⟩ := hc
  obtain ⟨ta, pa, va⟩ := ha
  obtain ⟨tb, pb, vb⟩ := hb
  refine ⟨_, ps_if pc pa pb, fun hx F ρ own B σ H D gd q => ?_⟩
  refine vc F ρ own B σ H _ gd (ResM.has_mono (thenM_has hx q) (fun b ρ1 q own1 B1 H1 e1 g1 => ?_) fun _ _ x => x)
  cases b with
  | true => exact va hx F ρ1 own1 B1 σ H1 D g1 (q.ext e1)
  | false => exact vb hx F ρ1 own1 B1 σ H1 D g1 (q.ext e1)
/-- a slot of any value takes it -/
def sSetA (i : Nat) (g : Rho → ResM D) : Rho → Out := fun ρ => thenM (g ρ) fun d ρ1 => .nx (ρ1.set i (some d))
theorem sj_setA {g : Rho → ResM D} (hN : X.N.Nodup) (hi : X.N[i]? = some x) (hx : Loc X.env.scope x) (he : MJ X W G .any e g) (hm : G.getD i Mode.fz = .any := by rfl) (hs : swapsWith e (some (.Name x px)) pos.line X.env = pure false := by rfl)
    (hf : X.fn x = true ∨ X.env.scope.names.lookup x = some .local := by first | exact .inl rfl | exact .inr rfl | assumption) : SJ X W L G (.Assign [.Name x px] e pos) (sSetA i g) G := by
  obtain ⟨te, pe, ve⟩ := he
  refine ⟨_, ps_set hN hi hx pe hs hf, fun hx F ρ own B σ H D gd q => ?_⟩
  refine ve F ρ own B σ H _ gd (ResM.has_mono (thenM_has hx q) (fun d ρ1 q u own1 B1 H1 e1 g1 r => ?_) fun _ _ x => x)
  exact q own1 B1 _ H1 e1 (g1.setA hm r)
/-- .. the store unchanged -/
def sSetP (i : Nat) (g : Rho → Res D) : Rho → Out := fun ρ => thenS (g ρ) ρ fun d => .nx (ρ.set i (some d))
def sDropM (g : Rho → ResM D) : Rho → Out := fun ρ => thenM (g ρ) fun _ ρ1 => .nx ρ1
/-- return e, the slots are kept -/
def sRetM (g : Rho → ResM D) : Rho → Out := fun ρ => thenM (g ρ) fun d ρ1 => .rl d ρ1
theorem sj_retM {g : Rho → ResM D} (he : MJ X W G .any e g) (hrt : L.rt = .any := by rfl) (hl : leM L.rl G := by exact leM_p (by first | exact True.intro | (repeat (first | exact True.intro | refine And.intro (Or.inl rfl) ?_ | refine And.intro (Or.inr rfl) ?_ | refine And.intro rfl ?_)))) : SJ X W L G (.Return (some e) pos) (sRetM g) G' := by
  obtain ⟨t, pe, ve⟩ := he
  refine ⟨_, ps_ret pe, fun hx F ρ own B σ H D gd q => ?_⟩
  refine ve F ρ own B σ H _ gd (ResM.has_mono (thenM_has hx q) (fun d ρ1 q u own1 B1 H1 e1 g1 r => ?_) fun _ _ x => x)
  refine q u _ _ σ H1 (e1.trans (to_gr g1.gr)) (g1.to hl) ?_
  rw [hrt]
  exact AnyR.gr r (to_gr g1.gr)
/-- bare return -/
def sRet0 : Rho → Out := fun ρ => .rl .non ρ
end
end T
set_option Elab.async false
set_option linter.all false
set_option maxRecDepth 100000
set_option maxHeartbeats 4000000
namespace T
open PySem PySem.Spec PyProof.Rows L2
/-- what a def gives, with the store -/
inductive ResS where
  | ok (d : D) (os : List D) | ex (e : Exn) (os : List D) | no
/-- a def's mirror; the store stands in the last slot -/
def runS (n NN : Nat) (f : Rho → Out) (os : List D) (ds : List D) : ResS := if ds.length = n then match f (startR (NN - 1) ds ++ [some (stoD os)]) with
    | .nx ρ => match stoR (NN - 1) ρ with
      | some os' => .ok .non os'
      | none => .no
    | .rl d ρ => match stoR (NN - 1) ρ with
      | some os' => .ok d os'
      | none => .no
    | .ex e ρ => match stoR (NN - 1) ρ with
      | some os' => .ex e os'
      | none => .no
    | _ => .no
  else .no
theorem runS_len {n NN : Nat} {f : Rho → Out} (os ds : List D) (h : ds.length ≠ n) : runS n NN f os ds = .no := by
  unfold runS
  rw [if_neg h]
/-- a slot that the text does not see -/
theorem inv_unseen {X : Cx} {pins : List (Addr × Obj)} {σ : L2.St} {H : Hp} {s : Shared} {S : Nat} {x : Str} {v : V} (I : Inv X pins σ H s) (hN : X.N[S]? = some x) (hx : X.env.scope.names.lookup x = none) : Inv X pins (σ.set S (some v)) H s where
  ok := I.ok
  os := I.os
  bare := I.bare
  base := I.base
  loc := by
    obtain ⟨m, h1, h2⟩ := I.loc
    refine ⟨m, h1, fun i y u h3 h4 h5 => ?_⟩
    by_cases hi : S = i
    · subst hi
      rw [hN] at h3
      cases h3
      unfold Vis at h5
      rw [hx] at h5
      rcases h5 with h | h | h <;> cases h
    · rw [List.getElem?_set_ne hi] at h4
      exact h2 i y u h3 h4 h5
  cell := I.cell
  free := I.free
  freeC := I.freeC
  pin := I.pin
  hok := I.hok
  len := by rw [List.length_set]; exact I.len
theorem pss_unseen {X : Cx} {sts : List Stmt} {t : TS} {S : Nat} {x : Str} {v : V} (h : PSs X sts t) (hN : X.N[S]? = some x) (hx : X.env.scope.names.lookup x = none) : PSs X sts (fun D σ H => t D (σ.set S (some v)) H) :=
  ⟨fun pins s σ H D I q => h.run pins s _ H D (inv_unseen I hN hx) q⟩
def isS : Lab → Bool
  | h :: _ :: _ => h == SH
  | _ => false
def lendS (own : Own) : Own := fun a => (own a).filter isS
def lendSF (own : Own) (F H : Hp) : Hp := fun a => match own a with
  | some l => if isS l = true then none else H a
  | none => F a
def backS (own own' : Own) : Own := fun a => match own a with
  | some l => if isS l = true then (own' a).filter isS else some l
  | none => (own' a).filter isS
theorem isS_sh {n : Nat} {r : Lab} : isS (SH :: n :: r) = true := by simp [isS]
theorem isS_no {i : Nat} {r : Lab} (h : i + 1 ≠ SH) : isS ((i + 1) :: r) = false := by
  cases r with
  | nil => rfl
  | cons _ _ => simp only [isS, beq_eq_false_iff_ne]; exact h
theorem lendS_some {own : Own} {a : Addr} {l : Lab} : lendS own a = some l ↔ own a = some l ∧ isS l = true := by
  unfold lendS
  rw [Option.filter_eq_some_iff]
section
variable {F B H B' H' : Hp} {own own' : Own}
theorem lendS_ground (g : Ground F own B H) : Ground (lendSF own F H) (lendS own) B H where
  base := fun a o e => ⟨(g.base a o e).1, by unfold lendS; rw [(g.base a o e).2]; rfl⟩
  frame := fun a o e => by
    unfold lendSF at e
    cases ho : own a with
    | none =>
      rw [ho] at e
      obtain ⟨h1, h2, h3⟩ := g.frame a o e
      exact ⟨h1, by unfold lendS; rw [ho]; rfl, h3⟩
    | some l =>
      rw [ho] at e
      simp only at e
      split at e
      · cases e
      · rename_i hn
        refine ⟨e, ?_, g.bnone (by rw [ho]; exact fun z => nomatch z)⟩
        unfold lendS
        rw [ho, Option.filter_some, if_neg hn]
  live := fun a h => g.live a fun z => h (by unfold lendS; rw [z]; rfl)
/-- what is not the store's stays -/
theorem backS_stay (g : Ground F own B H) (g' : Ground (lendSF own F H) own' B' H') {a : Addr} {l : Lab} (ho : own a = some l) (hn : isS l = false) : backS own own' a = some l ∧ H' a = H a ∧ own' a = none ∧ B' a = none := by
  have hH := g.live a (by rw [ho]; exact fun z => nomatch z)
  cases hh : H a with
  | none => exact absurd hh hH
  | some u =>
    have : lendSF own F H a = some u := by
      unfold lendSF
      rw [ho]
      simp only [hn, hh]
      rfl
    obtain ⟨h1, h2, h3⟩ := g'.frame a u this
    refine ⟨?_, h1, h2, h3⟩
    unfold backS
    rw [ho]
    simp [hn]
theorem backS_ground (g : Ground F own B H) (g' : Ground (lendSF own F H) own' B' H') : Ground F (backS own own') B' H' where
  base := fun a o e => by
    obtain ⟨h1, h2⟩ := g'.base a o e
    refine ⟨h1, ?_⟩
    cases ho : own a with
    | none =>
      unfold backS
      rw [ho, h2]
      rfl
    | some l =>
      by_cases hn : isS l = true
      · unfold backS
        rw [ho, h2]
        simp [hn]
      · have := (backS_stay g g' ho (by simpa using hn)).2.2.2
        rw [e] at this
        cases this
  frame := fun a o e => by
    obtain ⟨h1, h2, h3⟩ := g.frame a o e
    have : lendSF own F H a = some o := by
      unfold lendSF
      rw [h2]
      exact e
    obtain ⟨h4, h5, h6⟩ := g'.frame a o this
    refine ⟨h4, ?_, h6⟩
    unfold backS
    rw [h2, h5]
    rfl
  live := fun a h => by
    cases ho : own a with
    | none =>
      unfold backS at h
      rw [ho] at h
      exact g'.live a fun z => h (by rw [z]; rfl)
    | some l =>
      by_cases hn : isS l = true
      · unfold backS at h
        rw [ho] at h
        simp only [hn, if_true] at h
        exact g'.live a fun z => h (by rw [z]; rfl)
      · rw [(backS_stay g g' ho (by simpa using hn)).2.1]
        exact g.live a (by rw [ho]; exact fun z => nomatch z)
theorem backS_sh (g : Ground F own B H) (g' : Ground (lendSF own F H) own' B' H') {a : Addr} {n : Nat} {r : Lab} : own' a = some (SH :: n :: r) ↔ backS own own' a = some (SH :: n :: r) := by
  cases ho : own a with
  | none =>
    unfold backS
    rw [ho]
    simp only [Option.filter_eq_some_iff]
    exact ⟨fun h => ⟨h, isS_sh⟩, fun h => h.1⟩
  | some l =>
    by_cases hn : isS l = true
    · unfold backS
      rw [ho]
      simp only [hn, if_true, Option.filter_eq_some_iff]
      exact ⟨fun h => ⟨h, isS_sh⟩, fun h => h.1⟩
    · obtain ⟨h1, _, h3, _⟩ := backS_stay g g' ho (by simpa using hn)
      rw [h1, h3]
      refine ⟨fun z => (nomatch z), fun z => ?_⟩
      cases z
      exact absurd isS_sh hn
end
variable [Mg]
/-- the promise of a def that is lent the store -/
def spS (K : PySem.W.Frag) (mg : Str → Option Value) (n : Nat) (m : List D → List D → ResS) : Sp := fun vs H Q E => ∃ (ds os : List D) (F : Hp) (own : Own) (B : Hp), ds.length = n ∧ AnyA K B own vs ds ∧ Ground F own B H ∧ StoR K B H own os ∧
  match m os ds with
  | .ok d os' => ∀ (v : V) (own' : Own) (B' H' : Hp), Gr own B own' B' → Ground F own' B' H' → StoR K B' H' own' os' → AnyR K B' own' v d → Q v H'
  | .ex e os' => ∀ (c : Value) (dx : Option Addr) (own' : Own) (B' H' : Hp), Gr own B own' B' → Ground F own' B' H' → StoR K B' H' own' os' → ExR K mg B' H' e c dx → E c dx H'
  | .no => False
section
variable {P : Program} {w : World} {K : PySem.W.Frag} {mg : Str → Option Value} {base : Heap}
/-- the slots at the start -/
theorem good_startS {F B H : Hp} {own : Own} {G : List Mode} {N : Nat} {vs : List V} {ds os : List D} {N' : List Str} (hN : N'.length = N) (hN1 : 1 ≤ N) (hn : ds.length ≤ N - 1) (hz : N < 1000000) (g : Ground F own B H) (r : AnyA K B own vs ds) (st : StoR K B H own os)
    (hG : ∀ j, j < ds.length → G.getD j Mode.fz = .any) (hS : G.getD (N - 1) Mode.fz = .sto) : Good K F G (startR (N - 1) ds ++ [some (stoD os)]) own B ((L2.start N' vs).set (N - 1) (some (.ref 0))) H := by
  have hl : (startR (N - 1) ds).length = N - 1 := by simp [startR]; omega
  have hσ : (L2.start N' vs).length = N := by simp [L2.start, r.1, hN]; omega
  refine ⟨g, ⟨by rw [List.length_set, hσ, List.length_append, hl]; simp; omega, by rw [List.length_append, hl]; simp; omega⟩, fun i d e => ?_⟩
  by_cases hi : i < N - 1
  · rw [List.getElem?_append_left (by omega)] at e
    unfold startR at e
    rw [List.getElem?_append] at e
    split at e
    · rename_i hd
      rw [List.getElem?_map] at e
      obtain ⟨d', e1, e2⟩ := Option.map_eq_some_iff.mp e
      cases e2
      have hd' : i < ds.length := by simpa using hd
      have hv : i < vs.length := by rw [r.1]; exact hd'
      refine ⟨vs[i], ?_, ?_⟩
      · rw [List.getElem?_set_ne (by omega)]
        unfold L2.start
        rw [List.getElem?_append_left (by simpa using hv), List.getElem?_map, List.getElem?_eq_getElem hv]
        rfl
      · rw [hG i hd']
        exact r.2 i _ _ (List.getElem?_eq_getElem hv) e1
    · rw [List.getElem?_replicate] at e
      split at e <;> cases e
  · have hi' : i = N - 1 := by
      have := (List.getElem?_eq_some_iff.mp e).1
      rw [List.length_append, hl] at this
      simp at this
      omega
    subst hi'
    rw [List.getElem?_append_right (by omega), hl, Nat.sub_self] at e
    cases e
    refine ⟨.ref 0, List.getElem?_set_self (by omega), ?_⟩
    rw [hS]
    exact ⟨rfl, os, rfl, st⟩
def anyN (n : Nat) (G : List Mode) : Bool := (List.range n).all fun j => decide (G.getD j Mode.fz = .any)
omit [Mg] in
theorem anyN_at {n : Nat} {G : List Mode} (h : anyN n G = true) {j : Nat} (hj : j < n) : G.getD j Mode.fz = .any := of_decide_eq_true (List.all_eq_true.mp h j (List.mem_range.mpr hj))
/-- THE RULE for a def that is lent the store -/
theorem fnS_ok {x qual : Str} {st : Stmt} {f : Addr} {fd : FuncData} {N ps : List Str} {k : Nat} {G0 : List Mode} {fm : Rho → Out} (Fn : Fun K x qual st f fd) (Sc : FnScope N ps (defScope st)) (n NN : Nat) (hn : ps.length = n) (hNN : N.length = NN) (hle : n ≤ NN - 1 ∧ 1 ≤ NN ∧ NN < 1000000) (y : Str) (hy : N[NN - 1]? = some y) (hyn : (defScope st).names.lookup y = none)
    (hG : anyN n G0 = true) (hS : G0.getD (NN - 1) Mode.fz = .sto) (GX : List Mode) (hGX : GX.getD (NN - 1) Mode.fz = .sto) (hXG : leM GX G0)
    (hbody : ∀ (cdv : Value) (A : Around) (outer : List Env) (s : Shared) (H : Hp) (E : XK), Room k (A.deeper (envOfC qual (defScope st) s.heap.objs.size f cdv)) →
      ∃ G', SsJ (cxOf (L2.CX P w) P w K mg base N qual (defScope st) f cdv A outer s H E) (WE1 E) ⟨[], [], .any, GX, GX⟩ G0 (defBody st) fm G' ∧ G'.getD (NN - 1) Mode.fz = .sto) :
    FnOk P w K mg base (L2.CX P w) (k + 1) f fd ps (spS K mg n (runS n NN fm)) := by
  refine Fn.okX Sc (fun vs H Q E h => ?_) (fun cdv A outer s H vs Q E hroom h => ?_)
  · obtain ⟨ds, os, F, own, B, h1, h2, _⟩ := h
    rw [h2.1, h1, hn]
  · obtain ⟨ds, os, F, own, B, h1, h2, h3, h4, h5⟩ := h
    obtain ⟨G', ⟨t, p, v⟩, hG'⟩ := hbody cdv A outer s H E hroom
    refine ⟨_, pss_unseen (S := NN - 1) (v := .ref 0) p hy hyn, v hXG F (startR (NN - 1) ds ++ [some (stoD os)]) own B _ H _ (good_startS hNN hle.2.1 (by omega) hle.2.2 h3 h2 h4 (fun j hj => anyN_at hG (by omega)) hS) ?_⟩
    unfold runS at h5
    rw [if_pos h1] at h5
    cases e : fm (startR (NN - 1) ds ++ [some (stoD os)]) with
    | nx ρ' =>
      rw [e] at h5
      simp only at h5
      intro own' B' σ H' e' g'
      cases hp : stoR (NN - 1) ρ' with
      | none =>
        rw [hp] at h5
        exact h5.elim
      | some os' =>
        rw [hp] at h5
        exact h5 .non own' B' H' e' g'.gr (g'.sto hG' hp) (.inl ⟨rfl, .non⟩)
    | rl d ρ' =>
      rw [e] at h5
      simp only at h5
      intro u own' B' σ H' e' g' r'
      cases hp : stoR (NN - 1) ρ' with
      | none =>
        rw [hp] at h5
        exact h5.elim
      | some os' =>
        rw [hp] at h5
        exact h5 u own' B' H' e' g'.gr (g'.sto hGX hp) r'
    | ex x ρ' =>
      rw [e] at h5
      simp only at h5
      intro c dx own' B' σ H' e' g' r'
      cases hp : stoR (NN - 1) ρ' with
      | none =>
        rw [hp] at h5
        exact h5.elim
      | some os' =>
        rw [hp] at h5
        exact h5 c dx own' B' H' e' g'.gr (g'.sto hGX hp) r'
    | _ =>
      rw [e] at h5
      exact h5.elim
end
def callS (m : List D → List D → ResS) (S : Nat) (g : Rho → ResM (List D)) : Rho → ResM D := fun ρ => (g ρ).bind fun ds ρ1 => match stoR S ρ1 with
  | some os => match m os ds with
    | .ok d os' => .ok d (setS S os' ρ1)
    | .ex e os' => .ex e (setS S os' ρ1)
    | .no => .no
  | none => .no
section
variable {K : PySem.W.Frag} {F B H B' H' : Hp} {own own' : Own} {G : List Mode} {ρ : Rho} {σ : L2.St} {S : Nat} {os os' : List D}
omit [Mg] in
theorem lendS_gr : Gr own B (lendS own) B := ⟨Same.refl B, fun a n h => lendS_some.mpr ⟨h, isS_sh⟩⟩
theorem lendS_sto (h : StoR K B H own os) : StoR K B H (lendS own) os := h.keep (Same.refl B) ⟨fun l n r => ⟨fun h => lendS_some.mpr ⟨h, isS_sh⟩, fun h => (lendS_some.mp h).1⟩, fun _ _ _ _ => rfl⟩
omit [Mg] in
theorem backS_gr (g : Ground F own B H) (g' : Ground (lendSF own F H) own' B' H') (e : Gr (lendS own) B own' B') : Gr own B (backS own own') B' :=
  ⟨e.ext, fun a n h => (backS_sh g g').mp (e.le a n (lendS_some.mpr ⟨h, isS_sh⟩))⟩
theorem backS_good (g : Good K F G ρ own B σ H) (hS : G.getD S .fz = .sto) (hfl : flatG S G = true) (hρ : stoR S ρ = some os) (g' : Ground (lendSF own F H) own' B' H') (e : Gr (lendS own) B own' B') (st : StoR K B' H' own' os') :
    Good K F G (setS S os' ρ) (backS own own') B' σ H' := by
  refine g.setS hS hfl hρ (backS_ground g.gr g') (st.keep (Same.refl B') ⟨fun l n r => backS_sh g.gr g', fun _ _ _ _ => rfl⟩) e.ext (fun l i r hi h => ?_) (backS_gr g.gr g' e).le
  obtain ⟨h1, h2, _⟩ := backS_stay g.gr g' h (isS_no hi)
  exact ⟨h1, h2⟩
theorem AnyR.back {v : V} {d : D} (g : Ground F own B H) (g' : Ground (lendSF own F H) own' B' H') (h : AnyR K B' own' v d) : AnyR K B' (backS own own') v d := by
  rcases h with ⟨h1, h2⟩ | ⟨n, a, h1, h2, h3⟩
  · exact .inl ⟨h1, h2⟩
  · exact .inr ⟨n, a, h1, h2, (backS_sh g g').mp h3⟩
end
section
variable {X : Cx} {W : WX} {G : List Mode} {e o : Expr} {es : List Expr} {x f m : Str} {p pos apos : Pos} {k n c S : Nat} {a : Addr} {fd : FuncData} {ps : List Str} {mm : List D → List D → ResS}
theorem callS_core {t : TA} {g : Rho → ResM (List D)} (hlen : ∀ os ds, ds.length ≠ n → mm os ds = .no) (va : EvMA X W G t g) (hS : G.getD S .fz = .sto) (hfl : flatG S G = true)
    {F : Hp} {ρ : Rho} {own : Own} {B : Hp} {σ : L2.St} {H : Hp} {Q : VK} (gd : Good X.K F G ρ own B σ H) (q : (callS mm S g ρ).has (fun d ρ' => ∀ (v : V) (own' : Own) (B' H' : Hp), Gr own B own' B' → Good X.K F G ρ' own' B' σ H' → VRep X.K B' H' own' .any [0] v d → Q v H') (WMk X W G F own B σ)) :
    t σ H fun vs H1 => spS X.K X.mg n mm vs H1 Q (fun c dx H' => W c dx σ H') := by
  refine va F ρ own B σ H _ gd (ResM.has_mono (ResM.has_bind q) (fun ds ρ1 q us own1 B1 H1 e1 g1 r1 => ?_) fun _ _ x => x)
  cases hg : stoR S ρ1 with
  | none =>
    rw [hg] at q
    exact q.elim
  | some os =>
    rw [hg] at q
    simp only at q
    have hds : ds.length = n := Classical.byContradiction fun z => by
      rw [hlen _ _ z] at q
      exact q
    refine ⟨ds, os, lendSF own1 F H1, lendS own1, B1, hds, r1.gr lendS_gr, lendS_ground g1.gr, lendS_sto (g1.sto hS hg), ?_⟩
    cases hr : mm os ds with
    | no =>
      rw [hr] at q
      exact q.elim
    | ok d os' =>
      rw [hr] at q
      exact fun v own' B' H' e' g' st r' => q v _ B' H' (e1.trans (backS_gr g1.gr g' e')) (backS_good g1 hS hfl hg g' e' st) (AnyR.back g1.gr g' r')
    | ex e os' =>
      rw [hr] at q
      exact fun c dx own' B' H' e' g' st x => q c dx _ B' H' (e1.trans (backS_gr g1.gr g' e')) (backS_good g1 hS hfl hg g' e' st) x
/-- f(e, ..) -/
theorem mj_callS {g : Rho → ResM (List D)} (hlen : ∀ os ds, ds.length ≠ n → mm os ds = .no) (Fn : FnOk X.prog X.w X.K X.mg X.base (L2.CX X.prog X.w) k a fd ps (spS X.K X.mg n mm)) (hr : Room k X.A) (hg : Gl X f) (hm : X.mg f = some (.ref a)) (hk : PySem.W.keepIn X.K (.ref a) = true) (hb : Binds X.K fd ps [])
    (tk : Takes X W) (ha : MAJ X W G (e :: es) g) (hS : G.getD S .fz = .sto := by rfl) (hfl : flatG S G = true := by rfl) (hdb : (f == ("__debug__" : Str)) = false := by decide) (he : starEach (e :: es) X.env = (false, eval e X.env) :: starEach es X.env := by rfl) (hpl : (backTo pos (starEach es X.env)).any (·.1) = false := by rfl) :
    MJ X W G .any (.Call (.Name f p) (e :: es) [] pos) (callS mm S g) := by
  obtain ⟨t, pa, va⟩ := ha
  exact ⟨_, pe_callS Fn hr hg hm hk hb (fun σ => passAt tk σ) pa hdb he hpl, fun F ρ own B σ H Q gd q => callS_core hlen va hS hfl gd q⟩
end
end T
set_option Elab.async false
set_option linter.all false
set_option maxRecDepth 100000
set_option maxHeartbeats 4000000
namespace T
open PySem PySem.Spec PyProof.Rows L2
def tMethP (C : Addr) (m : Str) (sp : Sp) (E : L2.St → XK) (ta : TE) (t : TA) : TE := fun σ H Q => ta σ H fun x H1 => ∃ a dx fs, x = .ref a ∧ H1 a = some (.ins C dx fs) ∧ fs.lookup m = none ∧ t σ H1 fun vs H2 => sp (x :: vs) H2 Q (E σ)
section
variable {X : Cx} {CX : CXT} {k : Nat} {f C : Addr} {fd : FuncData} {ps : List Str} {sp : Sp} {E : L2.St → XK} {x m : Str} {p pos apos : Pos} {e o : Expr} {es : List Expr} {ta : TE} {t : TA}
theorem pe_methP {pl : Sem Bool} (he : PE X o ta) (c : Cls X.K C) (hm : Meth X.K C m f) (F : FnOk X.prog X.w X.K X.mg X.base CX k f fd ps sp) (hr : Room k X.A) (hb : Binds X.K fd ps []) (hx : ∀ σ, PassesAt CX X σ (E σ)) (ha : PA X (e :: es) t)
    (hst : starEach (e :: es) X.env = (false, eval e X.env) :: starEach es X.env := by rfl) (hpl : (backTo pos (starEach es X.env)).any (·.1) = false := by rfl)
    (ht : eval (.Call (.Attribute o m apos) (e :: es) [] pos) X.env = (do
      let ov ← eval o X.env
      standAt apos.atName
      let (f, first) ← holding [ov] (getMethod ov m pl)
      callWith pos f first (backTo pos (starEach (e :: es) X.env)) (backToKw pos (keywordEach [] X.env))) := by rfl) :
    PE X (.Call (.Attribute o m apos) (e :: es) [] pos) (tMethP C m sp E ta t) := by
  refine ⟨fun pins s σ H Q I h => ?_⟩
  refine PySem.W.methodCall_KW (pl := pl) (thn (he.run pins s σ H _ I h) fun u s1 ⟨x, H1, I1, rx, a, dx, fs, ex, ea, l, q⟩ => ?_) ht
  subst ex
  obtain rfl : u = Value.ref a := rx
  refine getmeth_ok I1 ea c hm l ?_
  refine PySem.W.callWith_K (first := [.ref a]) (h₀ := X.base) I.ok.mod.kin hm.kp (thn (ha.run pos pins s1 σ H1 _ I1 q) fun us s2 ⟨vs, H2, I2, r, q2⟩ => ⟨I2.kIn, ?_⟩) hst hpl
  exact run_fnS (us := .ref a :: us) (vs := .ref a :: vs) F hr hb (hx σ) I2 (.cons rfl r) q2
theorem pe_methP0 {pl : Sem Bool} (he : PE X o ta) (c : Cls X.K C) (hm : Meth X.K C m f) (F : FnOk X.prog X.w X.K X.mg X.base CX k f fd ps sp) (hr : Room k X.A) (hb : Binds X.K fd ps []) (hx : ∀ σ, PassesAt CX X σ (E σ))
    (ht : eval (.Call (.Attribute o m apos) [] [] pos) X.env = (do
      let ov ← eval o X.env
      standAt apos.atName
      let (f, first) ← holding [ov] (getMethod ov m pl)
      callWith pos f first (backTo pos (starEach [] X.env)) (backToKw pos (keywordEach [] X.env))) := by rfl) :
    PE X (.Call (.Attribute o m apos) [] [] pos) (tMethP C m sp E ta tNil) := by
  refine ⟨fun pins s σ H Q I h => ?_⟩
  refine PySem.W.methodCall_KW (pl := pl) (thn (he.run pins s σ H _ I h) fun u s1 ⟨x, H1, I1, rx, a, dx, fs, ex, ea, l, q⟩ => ?_) ht
  subst ex
  obtain rfl : u = Value.ref a := rx
  refine getmeth_ok I1 ea c hm l ?_
  exact PySem.W.callWith_K0 (first := [.ref a]) I1.kIn hm.kp (run_fnS (us := [.ref a]) (vs := [.ref a]) F hr hb (hx σ) I1 (.cons rfl .nil) q)
end
def tMakeP (C : Addr) (sp : Sp) (E : L2.St → XK) (t : TA) : TE := fun σ H Q => t σ H fun vs H1 => ∀ x dx, H1 x = none → H1 dx = none → dx ≠ x →
  sp (.ref x :: vs) (upd (upd H1 dx (.own x)) x (.ins C dx [])) (fun v H2 => v = .non ∧ Q (.ref x) H2) (E σ)
section
variable {X : Cx} {CX : CXT} {k : Nat} {f C : Addr} {fd : FuncData} {ps : List Str} {sp : Sp} {E : L2.St → XK} {x : Str} {p pos : Pos} {e : Expr} {es : List Expr} {t : TA}
theorem run_makeP {pins : List (Addr × Obj)} {σ : L2.St} {H : Hp} {s : Shared} {Q : VK} {us : List Value} {vs : List V} (M : Mk X.K C f) (F : FnOk X.prog X.w X.K X.mg X.base CX k f fd ps sp) (hr : Room (k + 1) X.A) (hb : Binds X.K fd ps [])
    (hx : PassesAt CX X σ (E σ)) (I : Inv X pins σ H s) (r : Vals vs us)
    (h : ∀ x dx, H x = none → H dx = none → dx ≠ x → sp (.ref x :: vs) (upd (upd H dx (.own x)) x (.ins C dx [])) (fun v H2 => v = .non ∧ Q (.ref x) H2) (E σ)) :
    wpAny (model X.prog X.w) X.A (call (.ref C) us) (EP X pins σ Q) X.xe s := by
  have hq := h (s.heap.objs.size + 1) s.heap.objs.size (I.hok.fresh (Nat.le_succ _)) (I.hok.fresh (Nat.le_refl _)) (Nat.ne_of_lt (Nat.lt_succ_self _))
  have I2 := Inv.made (C := C) I
  have r2 : Vals (V.ref (s.heap.objs.size + 1) :: vs) (Value.ref (s.heap.objs.size + 1) :: us) := .cons rfl r
  have hl : (Value.ref (s.heap.objs.size + 1) :: us).length = ps.length := by
    have e := r2.length
    rw [F.len _ _ _ _ hq] at e
    exact e.symm
  have b := hb _ (Value.ref (s.heap.objs.size + 1) :: us) I2.kIn (by rw [List.append_nil]; exact hl)
  rw [List.append_nil] at b
  refine wpAny_call (make_map (f := f) I.kIn M.makes M.init (beq_iff_eq.mp M.fn) (codeAny_mono (F.run _ X.stack _ _ ⟨Value.ref (s.heap.objs.size + 1) :: us, []⟩ (Value.ref (s.heap.objs.size + 1) :: us) _ _ (E σ) (hr.make C us [])
    (I2.env0.make C us []) b r2 hq) fun r s' hq' => ?_))
  cases r with
  | error e => exact hx pins _ _ e s' I2 hq'
  | ok fl =>
    cases fl with
    | ret u =>
      obtain ⟨v, H', I3, rv, ev, q3⟩ := I2.after hq'
      subst ev
      exact ⟨rv, ⟨V.ref (s.heap.objs.size + 1), H', I3, rfl, q3⟩⟩
    | next => exact False.elim hq'
    | brk => exact False.elim hq'
    | cont => exact False.elim hq'
theorem pe_makeP0 (M : Mk X.K C f) (F : FnOk X.prog X.w X.K X.mg X.base CX k f fd ps sp) (hr : Room (k + 1) X.A) (hg : Gl X x) (hm : X.mg x = some (.ref C)) (hb : Binds X.K fd ps []) (hx : ∀ σ, PassesAt CX X σ (E σ))
    (hdb : (x == ("__debug__" : Str)) = false := by decide) : PE X (.Call (.Name x p) [] [] pos) (tMakeP C sp E tNil) := by
  refine ⟨fun pins s σ H Q I h => ?_⟩
  refine wpAny_Call_Name_kw (ld_glob I hg hm ?_ hdb)
  exact PySem.W.callWith_K0 I.kIn M.kp (run_makeP (us := []) M F hr hb (hx σ) I .nil h)
end
variable [Mg]
/-- the class c has the method m, and no attribute of that name -/
structure MethC (K : PySem.W.Frag) (c : Nat) (m : Str) (f : Addr) : Prop where
  cls : Cls K (Mg.cls c)
  meth : Meth K (Mg.cls c) m f
  no : m ∉ Mg.lay c
omit [Mg] in
theorem pre_no {m : Str} {us : List (Str × V)} {lay : List Str} (h : us.map (·.1) <+: lay) (n : m ∉ lay) : us.lookup m = none := look_no fun z => n (h.subset z)
/-- the receiver is a thing of class c in the store -/
def isClsS (c : Nat) (so : Option (List D)) (d : D) : Bool := match refN d, so with
  | some n, some os => match os[n]? with
    | some (.ins c' _) => c' == c
    | _ => false
  | _, _ => false
def callR (m : List D → List D → ResS) (S : Nat) (ds : List D) (ρ1 : Rho) : ResM D := match stoR S ρ1 with
  | some os => match m os ds with
    | .ok d os' => .ok d (setS S os' ρ1)
    | .ex e os' => .ex e (setS S os' ρ1)
    | .no => .no
  | none => .no
/-- o.m(..) -/
def methS (c : Nat) (m : List D → List D → ResS) (S : Nat) (go : Rho → Res D) (g : Rho → ResM (List D)) : Rho → ResM D := fun ρ => (liftM (go ρ) ρ).bind fun d ρ1 => if isClsS c (stoR S ρ1) d = true then (g ρ1).bind fun ds ρ2 => callR m S (d :: ds) ρ2 else .no
section
variable {X : Cx} {W : WX} {G : List Mode} {e o : Expr} {es : List Expr} {x f m : Str} {p pos apos : Pos} {k n c S : Nat} {a : Addr} {fd : FuncData} {ps : List Str} {mm : List D → List D → ResS}
theorem callR_at (hlen : ∀ os ds, ds.length ≠ n → mm os ds = .no) (hS : G.getD S .fz = .sto) (hfl : flatG S G = true) {F : Hp} {ρ1 : Rho} {own own1 : Own} {B B1 : Hp} {σ : L2.St} {H1 : Hp} {Q : VK} {us : List V} {ds : List D}
    (e1 : Gr own B own1 B1) (g1 : Good X.K F G ρ1 own1 B1 σ H1) (r1 : AnyA X.K B1 own1 us ds) (q : (callR mm S ds ρ1).has (fun d ρ' => ∀ (v : V) (own' : Own) (B' H' : Hp), Gr own B own' B' → Good X.K F G ρ' own' B' σ H' → VRep X.K B' H' own' .any [0] v d → Q v H') (WMk X W G F own B σ)) :
    spS X.K X.mg n mm us H1 Q (fun c dx H' => W c dx σ H') := by
  unfold callR at q
  cases hg : stoR S ρ1 with
  | none =>
    rw [hg] at q
    exact q.elim
  | some os =>
    rw [hg] at q
    simp only at q
    have hds : ds.length = n := Classical.byContradiction fun z => by
      rw [hlen _ _ z] at q
      exact q
    refine ⟨ds, os, lendSF own1 F H1, lendS own1, B1, hds, r1.gr lendS_gr, lendS_ground g1.gr, lendS_sto (g1.sto hS hg), ?_⟩
    cases hr : mm os ds with
    | no =>
      rw [hr] at q
      exact q.elim
    | ok d os' =>
      rw [hr] at q
      exact fun v own' B' H' e' g' st r' => q v _ B' H' (e1.trans (backS_gr g1.gr g' e')) (backS_good g1 hS hfl hg g' e' st) (AnyR.back g1.gr g' r')
    | ex e os' =>
      rw [hr] at q
      exact fun c dx own' B' H' e' g' st x => q c dx _ B' H' (e1.trans (backS_gr g1.gr g' e')) (backS_good g1 hS hfl hg g' e' st) x
theorem meth_core {to : TE} {t : TA} {go : Rho → Res D} {g : Rho → ResM (List D)} (M : MethC X.K c m a) (hlen : ∀ os ds, ds.length ≠ n → mm os ds = .no) (vo : EvP X W G to go) (va : EvMA X W G t g) (hS : G.getD S .fz = .sto) (hfl : flatG S G = true) :
    EvM X W G .any (tMethP (Mg.cls c) m (spS X.K X.mg n mm) (fun σ c dx H' => W c dx σ H') to t) (methS c mm S go g) := fun F ρ own B σ H Q gd q => by
  have q := ResM.has_bind q
  refine vo F ρ own B σ H _ gd (Res.has_mono (liftM_has q) (fun d q v B' H' s r => ?_) fun e x => WMk.ok gd x)
  split at q
  case isFalse => exact q.elim
  rename_i hc
  have gd1 := gd.step s
  unfold isClsS at hc
  split at hc
  case h_2 => cases hc
  rename_i j os hn hos
  split at hc
  case h_2 => cases hc
  rename_i c' ds' hj
  have hcc : c' = c := by simpa using hc
  subst hcc
  obtain ⟨b, rfl, rfl, ho⟩ := r.ref hn
  obtain ⟨dx, vs, h1, h2, h3, h4⟩ := (gd1.sto hS hos).obj hj ho
  refine ⟨b, dx, vs, rfl, h1, pre_no h2 M.no, ?_⟩
  refine va F ρ own B' σ H' _ gd1 (ResM.has_mono (ResM.has_bind q) (fun ds ρ2 q us own2 B2 H2 e2 g2 r2 => ?_) fun e ρ2 x => x.ext s.g)
  exact callR_at hlen hS hfl (s.g.trans e2) g2 (.cons (r.gr e2) r2) q
theorem mj_methS {go : Rho → Res D} {g : Rho → ResM (List D)} {pl : Sem Bool} (M : MethC X.K c m a) (hlen : ∀ os ds, ds.length ≠ n → mm os ds = .no) (Fn : FnOk X.prog X.w X.K X.mg X.base (L2.CX X.prog X.w) k a fd ps (spS X.K X.mg n mm)) (hr : Room k X.A) (hb : Binds X.K fd ps []) (tk : Takes X W) (ho : PJ X W G o go) (ha : MAJ X W G (e :: es) g)
    (hS : G.getD S .fz = .sto := by rfl) (hfl : flatG S G = true := by rfl) (hst : starEach (e :: es) X.env = (false, eval e X.env) :: starEach es X.env := by rfl) (hpl : (backTo pos (starEach es X.env)).any (·.1) = false := by rfl)
    (ht : eval (.Call (.Attribute o m apos) (e :: es) [] pos) X.env = (do
      let ov ← eval o X.env
      standAt apos.atName
      let (f, first) ← holding [ov] (getMethod ov m pl)
      callWith pos f first (backTo pos (starEach (e :: es) X.env)) (backToKw pos (keywordEach [] X.env))) := by rfl) :
    MJ X W G .any (.Call (.Attribute o m apos) (e :: es) [] pos) (methS c mm S go g) := by
  obtain ⟨to, po, vo⟩ := ho
  obtain ⟨t, pa, va⟩ := ha
  exact ⟨_, pe_methP (pl := pl) po M.cls M.meth Fn hr hb (fun σ => passAt tk σ) pa hst hpl ht, meth_core M hlen vo va hS hfl⟩
theorem mj_methS0 {go : Rho → Res D} {pl : Sem Bool} (M : MethC X.K c m a) (hlen : ∀ os ds, ds.length ≠ n → mm os ds = .no) (Fn : FnOk X.prog X.w X.K X.mg X.base (L2.CX X.prog X.w) k a fd ps (spS X.K X.mg n mm)) (hr : Room k X.A) (hb : Binds X.K fd ps []) (tk : Takes X W) (ho : PJ X W G o go)
    (hS : G.getD S .fz = .sto := by rfl) (hfl : flatG S G = true := by rfl)
    (ht : eval (.Call (.Attribute o m apos) [] [] pos) X.env = (do
      let ov ← eval o X.env
      standAt apos.atName
      let (f, first) ← holding [ov] (getMethod ov m pl)
      callWith pos f first (backTo pos (starEach [] X.env)) (backToKw pos (keywordEach [] X.env))) := by rfl) :
    MJ X W G .any (.Call (.Attribute o m apos) [] [] pos) (methS c mm S go noM) := by
  obtain ⟨to, po, vo⟩ := ho
  exact ⟨_, pe_methP0 (pl := pl) po M.cls M.meth Fn hr hb (fun σ => passAt tk σ) ht, meth_core (t := tNil) M hlen vo (fun F ρ own B σ H Q gd q => q [] own B H .refl gd .nil) hS hfl⟩
end
def makeS (c : Nat) (m : List D → List D → ResS) (S : Nat) (g : Rho → ResM (List D)) : Rho → ResM D := fun ρ => (g ρ).bind fun ds ρ1 => match stoR S ρ1 with
  | some os => match m (os ++ [.ins c []]) (refD os.length :: ds) with
    | .ok .non os' => .ok (refD os.length) (setS S os' ρ1)
    | .ex e os' => .ex e (setS S os' ρ1)
    | _ => .no
  | none => .no
def newS (own : Own) (x : Addr) (n : Nat) : Own := fun a => if a = x then some [SH, n] else lendS own a
section
variable {K : PySem.W.Frag} {F B H B' H' : Hp} {own own' : Own} {G : List Mode} {ρ : Rho} {σ : L2.St} {x dx : Addr} {S n : Nat} {os : List D}
omit [Mg] in
theorem newS_ground {C : Addr} (g : Ground F own B H) (hx : H x = none) (hd : H dx = none) (ne : dx ≠ x) : Ground (lendSF own F H) (newS own x n) B (upd (upd H dx (.own x)) x (.ins C dx [])) := by
  have gl := lendS_ground g
  have st : ∀ a u, H a = some u → upd (upd H dx (.own x)) x (.ins C dx []) a = some u ∧ a ≠ x := fun a u h => by
    have n1 : a ≠ x := fun z => by rw [z, hx] at h; cases h
    have n2 : a ≠ dx := fun z => by rw [z, hd] at h; cases h
    rw [upd_ne n1, upd_ne n2]
    exact ⟨h, n1⟩
  refine ⟨fun a u e => ?_, fun a u e => ?_, fun a h => ?_⟩
  · obtain ⟨h1, h2⟩ := gl.base a u e
    refine ⟨(st a u h1).1, ?_⟩
    unfold newS
    rw [if_neg (st a u h1).2]
    exact h2
  · obtain ⟨h1, h2, h3⟩ := gl.frame a u e
    refine ⟨(st a u h1).1, ?_, h3⟩
    unfold newS
    rw [if_neg (st a u h1).2]
    exact h2
  · by_cases ha : a = x
    · rw [ha, upd_same]
      exact fun z => nomatch z
    · unfold newS at h
      rw [if_neg ha] at h
      have := gl.live a h
      cases hh : H a with
      | none => exact absurd hh this
      | some u =>
        rw [(st a u hh).1]
        exact fun z => nomatch z
theorem newS_sto {c : Nat} (g : Good K F G ρ own B σ H) (st : StoR K B H own os) (hx : H x = none) (hd : H dx = none) (ne : dx ≠ x) : StoR K B (upd (upd H dx (.own x)) x (.ins (Mg.cls c) dx [])) (newS own x os.length) (os ++ [.ins c []]) := by
  have ho : lendS own x = none := by
    unfold lendS
    rw [g.gr.ofresh hx]
    rfl
  refine (lendS_sto st).new (Same.refl B) ho (fun l n r h => ?_) ?_
  · have hl := g.gr.live l (by rw [(lendS_some.mp h).1]; exact fun z => nomatch z)
    rw [upd_ne fun z => hl (by rw [z]; exact hx), upd_ne fun z => hl (by rw [z]; exact hd)]
  · exact ⟨dx, [], upd_same, List.nil_prefix, rfl, fun k v d h => by simp at h⟩
omit [Mg] in
theorem newS_gr (g : Ground F own B H) (hx : H x = none) : Gr (lendS own) B (newS own x n) B := ⟨Same.refl B, fun a m h => by
  unfold newS
  rw [if_neg fun z => ?_]
  · exact h
  · have := g.ofresh hx
    rw [← z, (lendS_some.mp h).1] at this
    cases this⟩
end
section
variable {X : Cx} {W : WX} {G : List Mode} {e : Expr} {es : List Expr} {x : Str} {p pos : Pos} {k n c S : Nat} {f : Addr} {fd : FuncData} {ps : List Str} {mm : List D → List D → ResS}
theorem make_core {t : TA} {g : Rho → ResM (List D)} (hlen : ∀ os ds, ds.length ≠ n → mm os ds = .no) (va : EvMA X W G t g) (hS : G.getD S .fz = .sto) (hfl : flatG S G = true) :
    EvM X W G .any (tMakeP (Mg.cls c) (spS X.K X.mg n mm) (fun σ c dx H' => W c dx σ H') t) (makeS c mm S g) := fun F ρ own B σ H Q gd q => by
  refine va F ρ own B σ H _ gd (ResM.has_mono (ResM.has_bind q) (fun ds ρ1 q us own1 B1 H1 e1 g1 r1 => ?_) fun _ _ x => x)
  intro x dx hx hd ne
  cases hg : stoR S ρ1 with
  | none =>
    rw [hg] at q
    exact q.elim
  | some os =>
    rw [hg] at q
    simp only at q
    have hds : (refD os.length :: ds).length = n := Classical.byContradiction fun z => by
      rw [hlen _ _ z] at q
      exact q
    have st := g1.sto hS hg
    refine ⟨refD os.length :: ds, os ++ [.ins c []], lendSF own1 F H1, newS own1 x os.length, B1, hds, .cons (.inr ⟨_, x, rfl, rfl, if_pos rfl⟩) ((r1.gr lendS_gr).gr (newS_gr g1.gr hx)), newS_ground g1.gr hx hd ne, newS_sto g1 st hx hd ne, ?_⟩
    cases hr : mm (os ++ [.ins c []]) (refD os.length :: ds) with
    | no =>
      rw [hr] at q
      exact q.elim
    | ex e os' =>
      rw [hr] at q
      exact fun c dx own' B' H' e' g' st x => q c dx _ B' H' (e1.trans (backS_gr g1.gr g' ((newS_gr g1.gr hx).trans e'))) (backS_good g1 hS hfl hg g' ((newS_gr g1.gr hx).trans e') st) x
    | ok d os' =>
      rw [hr] at q
      intro v own' B' H' e' g' st r'
      split at q
      · rename_i h
        cases h
        have rv := r'.fz (d := .non) rfl
        cases rv
        refine ⟨rfl, ?_⟩
        have hxo : own' x = some [SH, os.length] := e'.le x _ (if_pos rfl)
        exact q _ _ B' H' (e1.trans (backS_gr g1.gr g' ((newS_gr g1.gr hx).trans e'))) (backS_good g1 hS hfl hg g' ((newS_gr g1.gr hx).trans e') st) (AnyR.back g1.gr g' (.inr ⟨_, x, rfl, rfl, hxo⟩))
      · rename_i h
        cases h
      · exact q.elim
theorem mj_makeS0 (M : Mk X.K (Mg.cls c) f) (hlen : ∀ os ds, ds.length ≠ n → mm os ds = .no) (Fn : FnOk X.prog X.w X.K X.mg X.base (L2.CX X.prog X.w) k f fd ps (spS X.K X.mg n mm)) (hr : Room (k + 1) X.A) (hg : Gl X x) (hm : X.mg x = some (.ref (Mg.cls c))) (hb : Binds X.K fd ps [])
    (tk : Takes X W) (hS : G.getD S .fz = .sto := by rfl) (hfl : flatG S G = true := by rfl) (hdb : (x == ("__debug__" : Str)) = false := by decide) : MJ X W G .any (.Call (.Name x p) [] [] pos) (makeS c mm S noM) :=
  ⟨_, pe_makeP0 M Fn hr hg hm hb (fun σ => passAt tk σ) hdb, make_core (t := tNil) (g := noM) hlen (fun F ρ own B σ H Q gd q => q [] own B H .refl gd .nil) hS hfl⟩
end
end T
set_option Elab.async false
set_option linter.all false
set_option maxRecDepth 100000
set_option maxHeartbeats 4000000
namespace T
open PySem PySem.Spec PyProof.Rows L2
abbrev Pl := Nat × Option Nat
def labP (p : Pl) : Lab := match p.2 with
  | none => [SH, p.1]
  | some k => [SH, p.1, k]
def getC (os : List D) (p : Pl) : Option D := match p.2 with
  | none => os[p.1]?
  | some k => match os[p.1]? with
    | some (.ins _ ds) => ds[k]?
    | _ => none
def putC (os : List D) (p : Pl) (d : D) : List D := match p.2 with
  | none => os.set p.1 d
  | some k => match os[p.1]? with
    | some (.ins c ds) => os.set p.1 (.ins c (ds.set k d))
    | _ => os
def isCt : D → Bool
  | .lst _ | .dct _ => true
  | _ => false
variable [Mg]
/-- what stands at a place -/
def CtR (K : PySem.W.Frag) (B H : Hp) (own : Own) (l : Addr) : D → Prop
  | .lst ds => ∃ vs, H l = some (.lst vs) ∧ AnyA K B own vs ds
  | .dct kvs => ∃ o, H l = some o ∧ AnyD K B own o kvs
  | _ => False
/-- a place in the store os -/
def PlOk (os : List D) (p : Pl) : Prop := match p.2 with
  | none => True
  | some k => ∃ c ds, os[p.1]? = some (.ins c ds) ∧ Mg.fm c k ≠ .any
def sameC : D → D → Bool
  | .lst _, .lst _ => true
  | .dct _, .dct _ => true
  | _, _ => false
section
variable {K : PySem.W.Frag} {F B B' H H' : Hp} {own own' : Own} {os os' : List D} {G : List Mode} {ρ : Rho} {σ : L2.St} {S : Nat} {p : Pl} {l : Addr} {d d' : D} {o : HO}
theorem CtR.gr (h : CtR K B H own l d) (s : Gr own B own' B') (e : H' l = H l) : CtR K B' H' own' l d := by
  cases d with
  | lst ds =>
    obtain ⟨vs, h1, h2⟩ := h
    exact ⟨vs, e.trans h1, h2.gr s⟩
  | dct ds =>
    obtain ⟨vs, h1, h2⟩ := h
    refine ⟨vs, e.trans h1, ?_⟩
    rcases h2 with ⟨ps, a, b, c⟩ | ⟨ps, a, z, b, c⟩
    · exact .inl ⟨ps, a, b, fun k p q x y => ⟨(c k p q x y).1, (c k p q x y).2.gr s⟩⟩
    · exact .inr ⟨ps, a, z, b, fun k p q x y => ⟨(c k p q x y).1, (c k p q x y).2.gr s⟩⟩
  | _ => exact h
/-- a place is found -/
theorem StoR.place (st : StoR K B H own os) (hp : PlOk os p) (hd : getC os p = some d) (hc : isCt d = true) (ho : own l = some (labP p)) : CtR K B H own l d := by
  obtain ⟨n, ok⟩ := p
  cases ok with
  | none =>
    have hr := st.obj (n := n) hd ho
    cases d with
    | lst ds => exact hr
    | dct ds => exact hr
    | _ => cases hc
  | some k =>
    obtain ⟨c, ds, h1, h2⟩ := hp
    unfold getC at hd
    simp only at hd h1
    rw [h1] at hd
    obtain ⟨a, h3, dx, vs, h4, h5, h6, h7⟩ := st.at_ n _ h1
    have hkl : k < vs.length := by rw [h6]; exact (List.getElem?_eq_some_iff.mp hd).1
    have hu : (vs.map (·.2))[k]? = some (vs[k]'hkl).2 := by rw [List.getElem?_map, List.getElem?_eq_getElem hkl]; rfl
    have h8 := h7 k _ _ hu hd
    cases hm : Mg.fm c k with
    | any => exact absurd hm h2
    | lst =>
      rw [hm] at h8
      obtain ⟨l', us, es, e1, e2, e3, e4, e5⟩ := h8
      subst e2
      have := st.inj l l' n [k] ho e3
      subst this
      exact ⟨us, e4, e5⟩
    | dct =>
      rw [hm] at h8
      obtain ⟨l', us, es, e1, e2, e3, e4, e5⟩ := h8
      subst e2
      have := st.inj l l' n [k] ho e3
      subst this
      exact ⟨us, e4, e5⟩
omit [Mg] in
theorem ground_upd {a : Addr} (g : Ground F own B H) (ho : own a ≠ none) : Ground F own B (upd H a o) := by
  refine ⟨fun b u e => ?_, fun b u e => ?_, fun b h => ?_⟩
  · have ne : b ≠ a := fun z => ho (by rw [← z]; exact (g.base b u e).2)
    rw [upd_ne ne]
    exact g.base b u e
  · have ne : b ≠ a := fun z => ho (by rw [← z]; exact (g.frame b u e).2.1)
    rw [upd_ne ne]
    exact g.frame b u e
  · by_cases hb : b = a
    · rw [hb, upd_same]
      exact fun z => nomatch z
    · rw [upd_ne hb]
      exact g.live b h
/-- a thing changes where it stands -/
theorem Good.put (g : Good K F G ρ own B σ H) (hS : G.getD S Mode.fz = .sto) (hfl : flatG S G = true) (hρ : stoR S ρ = some os) {n : Nat} {r : Lab} {o' : D} (hn : n < os.length) (ho : own l = some (SH :: n :: r)) (hr : ∀ a, own a = some [SH, n] → RootR K B (upd H l o) own n a o') : Good K F G (T.setS S (os.set n o') ρ) own B σ (upd H l o) := by
  have st := g.sto hS hρ
  refine g.setS hS hfl hρ (ground_upd g.gr (by rw [ho]; exact fun z => nomatch z)) (st.mut hn (Same.refl B) (fun _ _ _ _ => .rfl) (fun _ => .rfl) (fun b m r' hm hb => ?_) (fun a a' r' h1 h2 => st.inj a a' n r' h1 h2) hr) (Same.refl B) (fun b i r' hi hb => ⟨hb, ?_⟩) (fun _ _ h => h)
  · rw [upd_ne fun z => ?_]
    rw [z, ho] at hb
    simp only [Option.some.injEq, List.cons.injEq] at hb
    exact hm hb.2.1.symm
  · rw [upd_ne fun z => ?_]
    rw [z, ho] at hb
    simp only [Option.some.injEq, List.cons.injEq] at hb
    exact hi hb.1.symm
/-- a list or dict changes at its place -/
theorem Good.putC (g : Good K F G ρ own B σ H) (hS : G.getD S Mode.fz = .sto) (hfl : flatG S G = true) (hρ : stoR S ρ = some os) (hp : PlOk os p) (hd : getC os p = some d) (ho : own l = some (labP p)) (hc : sameC d d' = true) (hr : CtR K B (upd H l o) own l d') :
    Good K F G (T.setS S (T.putC os p d') ρ) own B σ (upd H l o) := by
  have st := g.sto hS hρ
  obtain ⟨n, ok⟩ := p
  cases ok with
  | none =>
    have hn : n < os.length := (List.getElem?_eq_some_iff.mp (show os[n]? = some d from hd)).1
    refine g.put hS hfl hρ hn (r := []) ho fun a ha => ?_
    have := st.inj a l n [] ha ho
    subst this
    cases d' with
    | lst ds => exact hr
    | dct ds => exact hr
    | _ => exact hr.elim
  | some k =>
    obtain ⟨c, ds, h1, h2⟩ := hp
    simp only at h1
    unfold getC at hd
    simp only at hd
    rw [h1] at hd
    have hn : n < os.length := (List.getElem?_eq_some_iff.mp h1).1
    have e : T.putC os (n, some k) d' = os.set n (.ins c (ds.set k d')) := by
      unfold T.putC
      simp only
      rw [h1]
    rw [e]
    refine g.put hS hfl hρ hn (r := [k]) ho fun a ha => ?_
    obtain ⟨dx, vs, h4, h5, h6, h7⟩ := st.obj h1 ha
    have hla : a ≠ l := fun z => by
      rw [z, ho] at ha
      cases ha
    refine ⟨dx, vs, by rw [upd_ne hla]; exact h4, h5, by rw [List.length_set]; exact h6, fun j v y hv hy => ?_⟩
    by_cases hjk : k = j
    · subst hjk
      have hkl : k < ds.length := (List.getElem?_eq_some_iff.mp hd).1
      rw [List.getElem?_set_self hkl] at hy
      cases hy
      have h8 := h7 k v d hv hd
      cases hm : Mg.fm c k with
      | any => exact absurd hm h2
      | lst =>
        rw [hm] at h8
        obtain ⟨l', us, es, e1, e2, e3, e4, e5⟩ := h8
        subst e2
        have := st.inj l l' n [k] ho e3
        subst this
        cases d' with
        | lst es' =>
          obtain ⟨us', k1, k2⟩ := hr
          exact ⟨l, us', es', e1, rfl, e3, k1, k2⟩
        | _ => cases hc
      | dct =>
        rw [hm] at h8
        obtain ⟨l', us, es, e1, e2, e3, e4, e5⟩ := h8
        subst e2
        have := st.inj l l' n [k] ho e3
        subst this
        cases d' with
        | dct es' =>
          obtain ⟨us', k1, k2⟩ := hr
          exact ⟨l, us', es', e1, rfl, e3, k1, k2⟩
        | _ => cases hc
    · rw [List.getElem?_set_ne hjk] at hy
      have h8 := h7 j v y hv hy
      cases hm : Mg.fm c j with
      | any =>
        rw [hm] at h8
        exact h8
      | lst =>
        rw [hm] at h8
        obtain ⟨l', us, es, e1, e2, e3, e4, e5⟩ := h8
        exact ⟨l', us, es, e1, e2, e3, by rw [upd_ne fun z => by rw [z, ho] at e3; simp only [labP, Option.some.injEq, List.cons.injEq] at e3; exact hjk e3.2.2.1]; exact e4, e5⟩
      | dct =>
        rw [hm] at h8
        obtain ⟨l', us, es, e1, e2, e3, e4, e5⟩ := h8
        exact ⟨l', us, es, e1, e2, e3, by rw [upd_ne fun z => by rw [z, ho] at e3; simp only [labP, Option.some.injEq, List.cons.injEq] at e3; exact hjk e3.2.2.1]; exact e4, e5⟩
end
def EvC (X : Cx) (W : WX) (G : List Mode) (S : Nat) (t : TE) (g : Rho → Res (Pl × D)) : Prop :=
  ∀ (F : Hp) (ρ : Rho) (own : Own) (B : Hp) (σ : L2.St) (H : Hp) (Q : VK), Good X.K F G ρ own B σ H →
    (g ρ).has (fun r => ∀ (os : List D) (l : Addr) (B' H' : Hp), Step own F B H B' H' → stoR S ρ = some os → PlOk os r.1 → getC os r.1 = some r.2 → own l = some (labP r.1) → CtR X.K B' H' own l r.2 → Q (.ref l) H') (WOk X.K X.mg W own F B H σ) → t σ H Q
def PlJ (X : Cx) (W : WX) (G : List Mode) (S : Nat) (e : Expr) (g : Rho → Res (Pl × D)) : Prop := ∃ t, PE X e t ∧ EvC X W G S t g
/-- a value, a list or dict in the store -/
def plD (so : Option (List D)) (d : D) : Res (Pl × D) := match refN d, so with
  | some n, some os => match os[n]? with
    | some x => if isCt x = true then .ok ((n, none), x) else .no
    | none => .no
  | _, _ => .no
def plR (S : Nat) (g : Rho → Res D) : Rho → Res (Pl × D) := fun ρ => (g ρ).bind fun d => plD (stoR S ρ) d
def plFD (tab : FT) (so : Option (List D)) (d : D) : Res (Pl × D) := match refN d, so with
  | some n, some os => match os[n]? with
    | some (.ins c ds) => match tab.lookup c with
      | some (k, .any) => .no
      | some (k, _) => match ds[k]? with
        | some x => if isCt x = true then .ok ((n, some k), x) else .no
        | none => .no
      | none => .no
    | _ => .no
  | _, _ => .no
def plF (S : Nat) (tab : FT) (g : Rho → Res D) : Rho → Res (Pl × D) := fun ρ => (g ρ).bind fun d => plFD tab (stoR S ρ) d
section
variable {X : Cx} {W : WX} {G : List Mode} {e : Expr} {f : Str} {pos : Pos} {S : Nat}
theorem cj_val {g : Rho → Res D} (he : PJ X W G e g) (hS : G.getD S .fz = .sto := by rfl) : PlJ X W G S e (plR S g) := by
  obtain ⟨t, pe, ve⟩ := he
  refine ⟨t, pe, fun F ρ own B σ H Q gd q => ?_⟩
  refine ve F ρ own B σ H _ gd (Res.has_mono (Res.has_bind q) (fun d q v B' H' s r => ?_) fun _ x => x)
  unfold plD at q
  split at q
  case h_2 => exact q.elim
  rename_i n os hn hos
  obtain ⟨a, rfl, rfl, ho⟩ := r.ref hn
  split at q
  case h_2 => exact q.elim
  rename_i x hx
  split at q
  case isFalse => exact q.elim
  rename_i hc
  have st := (gd.step s).sto hS hos
  exact q os a B' H' s hos trivial hx ho (st.place (p := (n, none)) trivial hx hc ho)
end
end T
set_option Elab.async false
set_option linter.all false
set_option maxRecDepth 100000
set_option maxHeartbeats 4000000
namespace T
open PySem PySem.Spec PyProof.Rows L2
/-- an attribute of any value, set -/
def putF2 (tab : FT) (so : Option (List D)) (d y : D) : Option (List D) := match refN d, so with
  | some n, some os => match os[n]? with
    | some (.ins c ds) => match tab.lookup c with
      | some (k, .any) => if k ≤ ds.length then some (os.set n (.ins c (putN k y ds))) else none
      | _ => none
    | _ => none
  | _, _ => none
variable [Mg]
section
variable {X : Cx} {W : WX} {L : LM} {G G' : List Mode} {e o : Expr} {f x : Str} {pos pos' apos cpos tpos : Pos} {S i : Nat}
def sFldS (S : Nat) (tab : FT) (go : Rho → Res D) (g : Rho → ResM D) : Rho → Out := fun ρ => thenM (g ρ) fun y ρ1 => thenS (go ρ1) ρ1 fun d => match putF2 tab (stoR S ρ1) d y with
  | some os' => .nx (setS S os' ρ1)
  | none => .no
/-- o.f = e -/
theorem sj_fsetS {tab : FT} {go : Rho → Res D} {g : Rho → ResM D} (hf : FldT X.K f tab) (hsm : ∀ c k m, tab.lookup c = some (k, m) → FldS c) (ho : PJ X W G o go) (he : MJ X W G .any e g) (hS : G.getD S .fz = .sto := by rfl) (hfl : flatG S G = true := by rfl)
    (hs : swapsWith e (some (.Attribute o f pos')) pos.line X.env = pure false := by rfl) : SJ X W L G (.Assign [.Attribute o f pos'] e pos) (sFldS S tab go g) G := by
  obtain ⟨te, pe, ve⟩ := he
  obtain ⟨to, po, vo⟩ := ho
  refine ⟨_, ps_fld po pe hs, fun hx F ρ own B σ H D gd q => ?_⟩
  refine ve F ρ own B σ H _ gd (ResM.has_mono (thenM_has hx q) (fun y ρ1 q u own1 B1 H1 e1 g1 ry => ?_) fun _ _ x => x)
  refine vo F ρ1 own1 B1 σ H1 _ g1 (Res.has_mono (thenS_has hx g1 (q.ext e1)) (fun d q v B' H' s r => ?_) fun _ x => x)
  have g2 := g1.step s
  unfold putF2 at q
  split at q
  case h_2 => exact q.elim
  rename_i os' hp
  split at hp
  case h_2 => cases hp
  rename_i n os hn hos
  obtain ⟨a, rfl, rfl, hao⟩ := r.ref hn
  split at hp
  case h_2 => cases hp
  rename_i c ds hc
  split at hp
  case h_2 => cases hp
  rename_i k hk
  split at hp
  case isFalse => cases hp
  rename_i hkl
  cases hp
  have st := g2.sto hS hos
  obtain ⟨dx, vs, h1, h2, h3, h4⟩ := st.obj hc hao
  obtain ⟨hF, hM⟩ := hf c k _ hk
  refine ⟨a, _, dx, vs, rfl, h1, hF.cls, hF.no, pre_small h2 (hsm c k _ hk), ?_⟩
  obtain ⟨p1, p2⟩ := put_all (y := u) h2 hF.at_ hF.new (i := k) (by omega)
  have hnl : n < os.length := (List.getElem?_eq_some_iff.mp hc).1
  refine q own1 B' σ _ s.g (g2.put hS hfl hos hnl (r := []) hao fun a' ha' => ?_)
  have := st.inj a' a n [] ha' hao
  subst this
  have ry' : AnyR X.K B' own1 u y := AnyR.gr ry s.g
  have hlen : (vs.map (·.2)).length = ds.length := by rw [List.length_map]; exact h3
  refine ⟨dx, _, upd_same, p1, ?_, fun j v d hv hd => ?_⟩
  · have := congrArg List.length p2
    rw [List.length_map] at this
    rw [this]
    unfold putN
    rw [hlen]
    split <;> simp [hlen]
  · rw [p2] at hv
    by_cases hjk : j = k
    · subst hjk
      have hv' : v = u := by
        unfold putN at hv
        split at hv
        · rename_i hl
          rw [List.getElem?_set_self hl] at hv
          cases hv
          rfl
        · rename_i hl
          have : j = (vs.map (·.2)).length := by omega
          rw [this, List.getElem?_append_right (Nat.le_refl _), Nat.sub_self] at hv
          cases hv
          rfl
      have hd' : d = y := by
        unfold putN at hd
        split at hd
        · rename_i hl
          rw [List.getElem?_set_self hl] at hd
          cases hd
          rfl
        · rename_i hl
          have : j = ds.length := by omega
          rw [this, List.getElem?_append_right (Nat.le_refl _), Nat.sub_self] at hd
          cases hd
          rfl
      rw [hv', hd', hM]
      exact ry'
    · have hv' : (vs.map (·.2))[j]? = some v := by
        unfold putN at hv
        split at hv
        · rwa [List.getElem?_set_ne (Ne.symm hjk)] at hv
        · rename_i hl
          have hj : j < (vs.map (·.2)).length := by
            have := (List.getElem?_eq_some_iff.mp hv).1
            rw [List.length_append, List.length_singleton] at this
            omega
          rwa [List.getElem?_append_left hj] at hv
      have hd' : ds[j]? = some d := by
        unfold putN at hd
        split at hd
        · rwa [List.getElem?_set_ne (Ne.symm hjk)] at hd
        · rename_i hl
          have hj : j < ds.length := by
            have := (List.getElem?_eq_some_iff.mp hd).1
            rw [List.length_append, List.length_singleton] at this
            omega
          rwa [List.getElem?_append_left hj] at hd
      have h5 := h4 j v d hv' hd'
      cases hm : Mg.fm c j with
      | any =>
        rw [hm] at h5
        exact h5
      | lst =>
        rw [hm] at h5
        obtain ⟨l', us, es, k1, k2, k3, k4, k5⟩ := h5
        exact ⟨l', us, es, k1, k2, k3, by rw [upd_ne fun z => by rw [z, hao] at k3; cases k3]; exact k4, k5⟩
      | dct =>
        rw [hm] at h5
        obtain ⟨l', us, es, k1, k2, k3, k4, k5⟩ := h5
        exact ⟨l', us, es, k1, k2, k3, by rw [upd_ne fun z => by rw [z, hao] at k3; cases k3]; exact k4, k5⟩
def rootN (S : Nat) (g : Rho → Res (List D)) : Rho → ResM D := fun ρ => (liftM (g ρ) ρ).bind fun ds ρ1 => match stoR S ρ1 with
  | some os => if ds.all D.nref = true then .ok (refD os.length) (setS S (os ++ [.lst ds]) ρ1) else .no
  | none => .no
theorem good_new {K : PySem.W.Frag} {F B H : Hp} {own : Own} {os : List D} {ρ : Rho} {σ : L2.St} {p : Addr} {d : D} (g : Good K F G ρ own B σ H) (hS : G.getD S .fz = .sto) (hfl : flatG S G = true) (hos : stoR S ρ = some os) (hB : B p = none) (hF : F p = none) (ho : own p = none) (hp : H p ≠ none) (hc : CtR K B H own p d) :
    Gr own B (fun a => if a = p then some [SH, os.length] else own a) B ∧ Good K F G (setS S (os ++ [d]) ρ) (fun a => if a = p then some [SH, os.length] else own a) B σ H := by
  have gr : Gr own B (fun a => if a = p then some [SH, os.length] else own a) B := ⟨Same.refl B, fun a n h => by
    have ne : a ≠ p := fun z => by rw [z, ho] at h; cases h
    simp only [ne, if_false]
    exact h⟩
  refine ⟨gr, g.setS hS hfl hos ⟨fun a u e => ⟨(g.gr.base a u e).1, ?_⟩, fun a u e => ⟨(g.gr.frame a u e).1, ?_, (g.gr.frame a u e).2.2⟩, fun a h => ?_⟩ ((g.sto hS hos).new (Same.refl B) ho (fun _ _ _ _ => rfl) ?_) (Same.refl B) (fun l i r _ h => ⟨?_, rfl⟩) gr.le⟩
  · have ne : a ≠ p := fun z => by rw [z, hB] at e; cases e
    simp only [ne, if_false]
    exact (g.gr.base a u e).2
  · have ne : a ≠ p := fun z => by rw [z, hF] at e; cases e
    simp only [ne, if_false]
    exact (g.gr.frame a u e).2.1
  · by_cases ha : a = p
    · rw [ha]
      exact hp
    · simp only [ha, if_false] at h
      exact g.gr.live a h
  · have hc' := hc.gr gr rfl
    cases d with
    | lst ds => exact hc'
    | dct ds => exact hc'
    | _ => exact hc'.elim
  · have ne : l ≠ p := fun z => by rw [z, ho] at h; cases h
    simp only [ne, if_false]
    exact h
theorem anyA_of {K : PySem.W.Frag} {B : Hp} {own : Own} {vs : List V} {ds : List D} (r : RpA K B vs ds) (n : ds.all D.nref = true) : AnyA K B own vs ds := ⟨r.len, fun k v d h1 h2 => by
  obtain ⟨d', h3, h4⟩ := r.get' h1
  rw [h2] at h3
  cases h3
  exact .inl ⟨List.all_eq_true.mp n d (List.mem_of_getElem? h2), h4⟩⟩
theorem mj_rootN {g : Rho → Res (List D)} (h : NJ X W G e g) (hS : G.getD S .fz = .sto := by rfl) (hfl : flatG S G = true := by rfl) : MJ X W G .any e (rootN S g) := by
  obtain ⟨t, pe, ve⟩ := h
  refine ⟨t, pe, fun F ρ own B σ H Q gd q => ?_⟩
  have q := ResM.has_bind q
  refine ve F ρ own B σ H Q gd (Res.has_mono (liftM_has q) (fun ds q p vs B' H' s hB hF ho hp r => ?_) fun e x => WMk.ok gd x)
  split at q
  case h_2 => exact q.elim
  rename_i os hos
  split at q
  case isFalse => exact q.elim
  rename_i hn
  obtain ⟨k1, k2⟩ := good_new (d := .lst ds) (gd.step s) hS hfl hos hB hF ho (by rw [hp]; exact fun z => nomatch z) ⟨vs, hp, anyA_of r hn⟩
  exact q (.ref p) _ B' H' (s.g.trans k1) k2 (.inr ⟨_, p, rfl, rfl, if_pos rfl⟩)
/-- {} -/
def rootD (S : Nat) : Rho → ResM D := fun ρ => match stoR S ρ with
  | some os => .ok (refD os.length) (setS S (os ++ [.dct []]) ρ)
  | none => .no
def atC (S : Nat) (gp : Rho → Res (Pl × D)) (ρ : Rho) (k : List D → Pl → List D → Out) : Out := thenS (gp ρ) ρ fun r => match stoR S ρ, r.2 with
  | some os, .lst ds => k os r.1 ds
  | _, _ => .no
/-- p.append(e) -/
def sAppC (S : Nat) (gp : Rho → Res (Pl × D)) (g : Rho → Res D) : Rho → Out := fun ρ => atC S gp ρ fun os p ds => thenS (g ρ) ρ fun y => if ds.length < sizeLine then .nx (setS S (putC os p (.lst (ds ++ [y]))) ρ) else .no
theorem AnyA.app {K : PySem.W.Frag} {B : Hp} {own : Own} {vs us : List V} {ds es : List D} (h : AnyA K B own vs ds) (h' : AnyA K B own us es) : AnyA K B own (vs ++ us) (ds ++ es) := ⟨by simp [h.1, h'.1], fun k v d h1 h2 => by
  by_cases hk : k < vs.length
  · rw [List.getElem?_append_left hk] at h1
    rw [List.getElem?_append_left (by rw [← h.1]; exact hk)] at h2
    exact h.2 k v d h1 h2
  · rw [List.getElem?_append_right (by omega)] at h1
    rw [List.getElem?_append_right (by rw [← h.1]; omega), ← h.1] at h2
    exact h'.2 _ v d h1 h2⟩
theorem AnyA.set {K : PySem.W.Frag} {B : Hp} {own : Own} {vs : List V} {ds : List D} {j : Nat} {v : V} {d : D} (h : AnyA K B own vs ds) (r : AnyR K B own v d) : AnyA K B own (vs.set j v) (ds.set j d) := ⟨by simp [h.1], fun k u y h1 h2 => by
  by_cases hk : j = k
  · subst hk
    have hl := (List.getElem?_eq_some_iff.mp h1).1
    rw [List.length_set] at hl
    rw [List.getElem?_set_self hl] at h1
    rw [List.getElem?_set_self (by rw [← h.1]; exact hl)] at h2
    cases h1
    cases h2
    exact r
  · rw [List.getElem?_set_ne hk] at h1 h2
    exact h.2 k u y h1 h2⟩
end
end T
set_option Elab.async false
set_option linter.all false
set_option maxRecDepth 100000
set_option maxHeartbeats 4000000
namespace T
open PySem PySem.Spec PyProof.Rows L2
variable [Mg]
section
variable {X : Cx} {W : WX} {L : LM} {G G' : List Mode} {e o i : Expr} {f x : Str} {pos pos' apos cpos tpos : Pos} {S : Nat}
theorem AnyA.at {K : PySem.W.Frag} {B : Hp} {own : Own} {vs : List V} {ds : List D} {i : Int} {d : D} (r : AnyA K B own vs ds) (h : atI ds i = some d) : ∃ v, atI vs i = some v ∧ AnyR K B own v d := by
  unfold atI at h ⊢
  rw [r.1]
  obtain ⟨j, h1, h2⟩ := Option.bind_eq_some_iff.mp h
  rw [h1]
  have hj : j < vs.length := by rw [r.1]; exact (List.getElem?_eq_some_iff.mp h2).1
  exact ⟨vs[j], List.getElem?_eq_getElem hj, r.2 j _ d (List.getElem?_eq_getElem hj) h2⟩
/-- p[i], a list's item -/
def ixC (S : Nat) (gp : Rho → Res (Pl × D)) (gi : Rho → Res D) : Rho → Res D := fun ρ => (gp ρ).bind fun r => (gi ρ).bind fun k => match r.2, k with
  | .lst ds, .int j => match atI ds j with
    | some d => .ok d
    | none => .no
  | _, _ => .no
/-- p[i] = e -/
def sSetIC (S : Nat) (gp : Rho → Res (Pl × D)) (gk g : Rho → Res D) : Rho → Out := fun ρ => thenS (g ρ) ρ fun y => atC S gp ρ fun os p ds => thenS (gk ρ) ρ fun k => match k with
  | .int k => match ixN ds.length k with
    | some j => .nx (setS S (putC os p (.lst (ds.set j y))) ρ)
    | none => .no
  | _ => .no
theorem sj_setIC {k : Expr} {sp : Pos} {gp : Rho → Res (Pl × D)} {g gk : Rho → Res D} (hv : PlJ X W G S o gp) (he : PJ X W G e g) (hk : BJ X W G k gk) (hS : G.getD S .fz = .sto := by rfl) (hfl : flatG S G = true := by rfl)
    (hg : ∀ {to ti : TE}, PE X o to → PE X k ti → PG X (.Subscript o k sp) (gSub to ti rSetL)) (h1 : (assignEach [.Subscript o k sp] X.env).map (·.2) = [assign (.Subscript o k sp) X.env] := by rfl) (hs : swapsWithSole [.Subscript o k sp] e pos.line X.env = pure false := by rfl) (hw : swappedStores [.Subscript o k sp] e X.env = pure none := by rfl) :
    SJ X W L G (.Assign [.Subscript o k sp] e pos) (sSetIC S gp gk g) G := by
  obtain ⟨te, pe, ve⟩ := he
  obtain ⟨tk, pk, vk⟩ := hk
  obtain ⟨to, po, vo⟩ := hv
  refine ⟨_, ps_asg pe (hg po pk) hs hw h1, fun hx F ρ own B σ H D gd q => ?_⟩
  refine ve F ρ own B σ H _ gd (Res.has_mono (thenS_has hx gd q) (fun y q u B' H' s r => ?_) fun _ x => x)
  have g1 := gd.step s
  have q := q.ext s.g
  unfold atC at q
  refine vo F ρ own B' σ H' _ g1 (Res.has_mono (thenS_has hx g1 q) (fun r2 q os l B2 H2 s2 hos hpl hgc hol hct => ?_) fun _ x => x)
  rw [hos] at q
  obtain ⟨p, d⟩ := r2
  cases d with
  | lst ds =>
    simp only at q hct hgc hpl hol
    obtain ⟨vs, h3, h4⟩ := hct
    have g2 := g1.step s2
    refine vk F ρ own B2 σ H2 _ g2 (Res.has_mono (thenS_has hx g2 (q.ext s2.g)) (fun dk q w B3 H3 s3 r3 => ?_) fun _ x => x)
    cases dk with
    | int k =>
      cases r3.int
      simp only at q
      cases hj : ixN ds.length k with
      | none =>
        rw [hj] at q
        exact q.elim
      | some j =>
        rw [hj] at q
        have hoN : own l ≠ none := by rw [hol]; exact fun z => nomatch z
        refine ⟨l, vs, k, j, rfl, rfl, (s3.ownd l hoN).1.trans h3, by rw [h4.1]; exact hj, ?_⟩
        exact q own B3 σ _ s3.g ((g2.step s3).putC hS hfl hos hpl hgc hol rfl ⟨_, upd_same, (h4.gr s3.g).set ((r.step s2).step s3)⟩)
    | _ => exact q.elim
  | _ => exact q.elim
end
end T
set_option Elab.async false
set_option linter.all false
set_option maxRecDepth 100000
set_option maxHeartbeats 4000000
namespace T
open PySem PySem.Spec PyProof.Rows L2
variable [Mg]
def fldM (S : Nat) (tab : FT) (g : Rho → ResM D) : Rho → ResM D := fun ρ => (g ρ).bind fun d ρ1 => liftM (fldD tab (stoR S ρ1) d) ρ1
def plVM (S : Nat) (g : Rho → ResM D) : Rho → ResM (Pl × D) := fun ρ => (g ρ).bind fun d ρ1 => liftM (plD (stoR S ρ1) d) ρ1
def plFM (S : Nat) (tab : FT) (g : Rho → ResM D) : Rho → ResM (Pl × D) := fun ρ => (g ρ).bind fun d ρ1 => liftM (plFD tab (stoR S ρ1) d) ρ1
def ixCM (S : Nat) (gp : Rho → ResM (Pl × D)) (gi : Rho → Res D) : Rho → ResM D := fun ρ => (gp ρ).bind fun r ρ1 => (liftM (gi ρ1) ρ1).bind fun k ρ2 => match r.2, k with
  | .lst ds, .int j => match atI ds j with
    | some d => .ok d ρ2
    | none => .no
  | _, _ => .no
section
variable {X : Cx} {W : WX} {L : LM} {G G' : List Mode} {e o i : Expr} {f : Str} {pos : Pos} {S : Nat}
def andVM (f g : Rho → ResM D) : Rho → ResM D := fun ρ => (f ρ).bind fun d ρ1 => match d with
  | .bl b => if b = true then g ρ1 else .ok (.bl false) ρ1
  | _ => .no
def orVM (f g : Rho → ResM D) : Rho → ResM D := fun ρ => (f ρ).bind fun d ρ1 => match d with
  | .bl b => if b = true then .ok (.bl true) ρ1 else g ρ1
  | _ => .no
theorem mj_andV {a b : Expr} {rest : List Expr} {f g : Rho → ResM D} (ha : MJ X W G .fz a f) (hb : MJ X W G .fz (.BoolOp .And (b :: rest) pos) g) : MJ X W G .fz (.BoolOp .And (a :: b :: rest) pos) (andVM f g) := by
  obtain ⟨ta, pa, va⟩ := ha
  obtain ⟨tb, pb, vb⟩ := hb
  refine ⟨_, pe_and pa pb, fun F ρ own B σ H Q gd q => ?_⟩
  refine va F ρ own B σ H _ gd (ResM.has_mono (ResM.has_bind q) (fun d ρ1 q v own1 B1 H1 e1 g1 r => ?_) fun _ _ x => x)
  replace r : Rp X.K B1 v d := r
  cases d with
  | bl c =>
    cases r
    refine ⟨c, rfl, ?_⟩
    cases c with
    | true => exact vb F ρ1 own1 B1 σ H1 Q g1 (ResM.has_mono q (fun b ρ2 q v own2 B2 H2 e2 => q v own2 B2 H2 (e1.trans e2)) fun _ _ x => x.ext e1)
    | false => exact q _ own1 B1 H1 e1 g1 (.bl _)
  | _ => exact q.elim
theorem mj_one {a : Expr} {op : BoolOp} {md : Mode} {f : Rho → ResM D} (ha : MJ X W G md a f) : MJ X W G md (.BoolOp op [a] pos) f := let ⟨_, p, v⟩ := ha; ⟨_, pe_one p, v⟩
end
end T
set_option Elab.async false
set_option linter.all false
set_option maxRecDepth 100000
set_option maxHeartbeats 4000000
namespace T
open PySem PySem.Spec PyProof.Rows L2
/-- the variables of a comprehension get back what they had -/
def unW : List Nat → Rho → Rho → Rho
  | [], _, ρ2 => ρ2
  | i :: is, ρ, ρ2 => (unW is ρ ρ2).set i ((ρ[i]?).getD none)
def lcMM (b : Bnd) (f : Rho → ResM D) (is : List Nat) : List D → Rho → ResM (List D)
  | [], ρ => .ok [] ρ
  | x :: xs, ρ => match b x (wipeR ρ is) with
    | none => .no
    | some ρ1 => match f ρ1 with
      | .ok y ρ2 => match lcMM b f is xs (unW is ρ ρ2) with
        | .ok ys ρ3 => .ok (y :: ys) ρ3
        | _ => .no
      | _ => .no
def compM (src : Rho → Res (List D)) (b : Bnd) (f : Rho → ResM D) (is : List Nat) : Rho → ResM (List D) := fun ρ => (liftM (src ρ) ρ).bind fun items ρ1 => if items.length ≤ sizeLine then match lcMM b f is items ρ1 with
    | .ok ds ρ2 => .ok ds ρ2
    | _ => .no
  else .no
variable [Mg]
def rootL (S : Nat) (g : Rho → ResM (List D)) : Rho → ResM D := fun ρ => (g ρ).bind fun ds ρ1 => match stoR S ρ1 with
  | some os => .ok (refD os.length) (setS S (os ++ [.lst ds]) ρ1)
  | none => .no
def frzL (g : Rho → ResM (List D)) : Rho → ResM D := fun ρ => (g ρ).bind fun ds ρ1 => if ds.all D.nref = true then .ok (.lst ds) ρ1 else .no
def runE (n NN : Nat) (f : Rho → Out) : List D → Res D := fun ds => if ds.length = n then match f (startR (NN - 1) ds ++ [some (stoD [])]) with
    | .nx _ => .ok .non
    | .rl d _ => nrR d
    | .ex e _ => .ex e
    | _ => .no
  else .no
def fzN (n : Nat) (G : List Mode) : Bool := (List.range n).all fun j => decide (G.getD j Mode.fz = .fz)
omit [Mg] in
theorem fzN_at {n : Nat} {G : List Mode} (h : fzN n G = true) {j : Nat} (hj : j < n) : G.getD j Mode.fz = .fz := of_decide_eq_true (List.all_eq_true.mp h j (List.mem_range.mpr hj))
section
variable {P : Program} {w : World} {K : PySem.W.Frag} {mg : Str → Option Value} {base : Heap}
theorem good_startE {F B H : Hp} {G : List Mode} {N : Nat} {vs : List V} {ds : List D} {N' : List Str} (hN : N'.length = N) (hN1 : 1 ≤ N) (hn : ds.length ≤ N - 1) (hz : N < 1000000) (g : Ground F (fun _ => none) B H) (r : RpA K B vs ds)
    (hG : ∀ j, j < ds.length → G.getD j Mode.fz = .fz) (hS : G.getD (N - 1) Mode.fz = .sto) : Good K F G (startR (N - 1) ds ++ [some (stoD [])]) (fun _ => none) B ((L2.start N' vs).set (N - 1) (some (.ref 0))) H := by
  have hl : (startR (N - 1) ds).length = N - 1 := by simp [startR]; omega
  have hσ : (L2.start N' vs).length = N := by simp [L2.start, r.len, hN]; omega
  refine ⟨g, ⟨by rw [List.length_set, hσ, List.length_append, hl]; simp; omega, by rw [List.length_append, hl]; simp; omega⟩, fun i d e => ?_⟩
  by_cases hi : i < N - 1
  · rw [List.getElem?_append_left (by omega)] at e
    unfold startR at e
    rw [List.getElem?_append] at e
    split at e
    · rename_i hd
      rw [List.getElem?_map] at e
      obtain ⟨d', e1, e2⟩ := Option.map_eq_some_iff.mp e
      cases e2
      have hd' : i < ds.length := by simpa using hd
      obtain ⟨v, h1, h2⟩ := r.get e1
      refine ⟨v, ?_, ?_⟩
      · rw [List.getElem?_set_ne (by omega)]
        unfold L2.start
        rw [List.getElem?_append_left (by simpa [r.len] using hd'), List.getElem?_map, h1]
        rfl
      · rw [hG i hd']
        exact h2
    · rw [List.getElem?_replicate] at e
      split at e <;> cases e
  · have hi' : i = N - 1 := by
      have := (List.getElem?_eq_some_iff.mp e).1
      rw [List.length_append, hl] at this
      simp at this
      omega
    subst hi'
    rw [List.getElem?_append_right (by omega), hl, Nat.sub_self] at e
    cases e
    refine ⟨.ref 0, List.getElem?_set_self (by omega), ?_⟩
    rw [hS]
    exact ⟨rfl, [], rfl, ⟨fun n o h => (by simp at h), fun a a' n r h => (nomatch h), fun a n r h => (nomatch h)⟩⟩
theorem fnE_ok {x qual : Str} {st : Stmt} {f : Addr} {fd : FuncData} {N ps : List Str} {k : Nat} {G0 : List Mode} {fm : Rho → Out} (Fn : Fun K x qual st f fd) (Sc : FnScope N ps (defScope st)) (n NN : Nat) (hn : ps.length = n) (hNN : N.length = NN) (hle : n ≤ NN - 1 ∧ 1 ≤ NN ∧ NN < 1000000) (y : Str) (hy : N[NN - 1]? = some y) (hyn : (defScope st).names.lookup y = none)
    (hG : fzN n G0 = true) (hS : G0.getD (NN - 1) Mode.fz = .sto) (GX : List Mode) (hXG : leM GX G0)
    (hbody : ∀ (cdv : Value) (A : Around) (outer : List Env) (s : Shared) (H : Hp) (E : XK), Room k (A.deeper (envOfC qual (defScope st) s.heap.objs.size f cdv)) →
      ∃ G', SsJ (cxOf (L2.CX P w) P w K mg base N qual (defScope st) f cdv A outer s H E) (WE1 E) ⟨[], [], .any, GX, GX⟩ G0 (defBody st) fm G') :
    FnOk P w K mg base (L2.CX P w) (k + 1) f fd ps (spT K mg Mode.fz n (runE n NN fm)) := by
  refine Fn.okX Sc (fun vs H Q E h => ?_) (fun cdv A outer s H vs Q E hroom h => ?_)
  · obtain ⟨ds, F, B, h1, h2, _⟩ := h
    rw [h2.len, h1, hn]
  · obtain ⟨ds, F, B, h1, h2, h3, h5⟩ := h
    obtain ⟨G', ⟨t, p, v⟩⟩ := hbody cdv A outer s H E hroom
    refine ⟨_, pss_unseen (S := NN - 1) (v := .ref 0) p hy hyn, v hXG F (startR (NN - 1) ds ++ [some (stoD [])]) (fun _ => none) B _ H _ (good_startE hNN hle.2.1 (by omega) hle.2.2 h3 h2 (fun j hj => fzN_at hG (by omega)) hS) ?_⟩
    unfold runE at h5
    rw [if_pos h1] at h5
    cases e : fm (startR (NN - 1) ds ++ [some (stoD [])]) with
    | nx ρ' =>
      rw [e] at h5
      simp only at h5
      intro own' B' σ H' e' g'
      exact h5 .non own' B' H' e'.ext g'.gr .non
    | rl d ρ' =>
      rw [e] at h5
      simp only at h5
      intro u own' B' σ H' e' g' r'
      obtain ⟨hn, h5⟩ := nrR_has h5
      have r' : AnyR K B' own' u d := r'
      exact h5 u own' B' H' e'.ext g'.gr (r'.fz hn)
    | ex x ρ' =>
      rw [e] at h5
      simp only at h5
      intro c dx own' B' σ H' e' g' r'
      exact h5 c dx B' H' e'.ext (g'.gr.drop fun a l z => nomatch z) r'
    | _ =>
      rw [e] at h5
      exact h5.elim
end
end T
set_option Elab.async false
set_option linter.all false
set_option maxRecDepth 100000
set_option maxHeartbeats 4000000
namespace T
open PySem PySem.Spec PyProof.Rows L2
def putFL (tab : FT) (so : Option (List D)) (d : D) (es : List D) : Option (List D) := match refN d, so with
  | some n, some os => match os[n]? with
    | some (.ins c ds) => match tab.lookup c with
      | some (k, .lst) => if k ≤ ds.length then some (os.set n (.ins c (putN k (.lst es) ds))) else none
      | _ => none
    | _ => none
  | _, _ => none
def sFldL (S : Nat) (tab : FT) (i : Nat) (g : Rho → ResM (List D)) : Rho → Out := fun ρ => thenM (g ρ) fun es ρ1 => thenS (getV i ρ1) ρ1 fun d => match putFL tab (stoR S ρ1) d es with
  | some os' => .nx (setS S os' ρ1)
  | none => .no
def nmV (g : Rho → Res (List D)) : Rho → ResM (List D) := fun ρ => (liftM (g ρ) ρ).bind fun ds ρ1 => if ds.all D.nref = true then .ok ds ρ1 else .no
variable [Mg]
end T
set_option Elab.async false
set_option linter.all false
set_option maxRecDepth 100000
set_option maxHeartbeats 4000000
namespace T
open PySem PySem.Spec PyProof.Rows L2
variable [Mg]
/-- v, read as d for now -/
def Sb (K : PySem.W.Frag) (own : Own) (F B H : Hp) (v : V) (d : D) : Prop := ∃ B2 : Hp, Ext B B2 ∧ (∀ a o, B2 a = some o → H a = some o ∧ (B a = some o ∨ own a ≠ none ∨ F a = some o)) ∧ Rp K B2 v d
def SbA (K : PySem.W.Frag) (own : Own) (F B H : Hp) (vs : List V) (ds : List D) : Prop := ∃ B2 : Hp, Ext B B2 ∧ (∀ a o, B2 a = some o → H a = some o ∧ (B a = some o ∨ own a ≠ none ∨ F a = some o)) ∧ RpA K B2 vs ds
def unB (B C : Hp) : Hp := fun a => match B a with
  | some o => some o
  | none => C a
section
variable {K : PySem.W.Frag} {own : Own} {F F' B B' H H' C : Hp} {v : V} {d : D} {vs : List V} {ds : List D}
omit [Mg] in
theorem unB_l : Ext B (unB B C) := fun a o h => by
  unfold unB
  rw [h]
omit [Mg] in
theorem unB_r (h : ∀ a o, B a = some o → H a = some o) (h' : ∀ a o, C a = some o → H a = some o) : Ext C (unB B C) := fun a o e => by
  unfold unB
  cases hb : B a with
  | none => exact e
  | some u => exact (h a u hb).symm.trans (h' a o e)
omit [Mg] in
theorem unB_of {P : Addr → HO → Prop} (h : ∀ a o, B a = some o → P a o) (h' : ∀ a o, C a = some o → P a o) : ∀ a o, unB B C a = some o → P a o := fun a o e => by
  unfold unB at e
  cases hb : B a with
  | none =>
    rw [hb] at e
    exact h' a o e
  | some u =>
    rw [hb] at e
    cases e
    exact h a _ hb
/-- what is known of the entries, later -/
theorem sb_keep {B2 : Hp} (g : Ground F own B H) (s : Step own F B H B' H') (hF : ∀ a o, F a = some o → F' a = some o) (c : ∀ a o, B2 a = some o → H a = some o ∧ (B a = some o ∨ own a ≠ none ∨ F a = some o)) :
    Ext B' (unB B' B2) ∧ Ext B2 (unB B' B2) ∧ ∀ a o, unB B' B2 a = some o → H' a = some o ∧ (B' a = some o ∨ own a ≠ none ∨ F' a = some o) := by
  have c' : ∀ a o, B2 a = some o → H' a = some o ∧ (B' a = some o ∨ own a ≠ none ∨ F' a = some o) := fun a o e => by
    obtain ⟨h1, h2 | h2 | h2⟩ := c a o e
    · exact ⟨s.base a o (s.ext a o h2), .inl (s.ext a o h2)⟩
    · exact ⟨(s.ownd a h2).1.trans h1, .inr (.inl h2)⟩
    · exact ⟨(s.frame a o h2).1, .inr (.inr (hF a o h2))⟩
  exact ⟨unB_l, unB_r (fun a o e => s.base a o e) (fun a o e => (c' a o e).1), unB_of (fun a o e => ⟨s.base a o e, .inl e⟩) c'⟩
theorem Sb.keep (h : Sb K own F B H v d) (g : Ground F own B H) (s : Step own F B H B' H') (hF : ∀ a o, F a = some o → F' a = some o) : Sb K own F' B' H' v d := by
  obtain ⟨B2, h1, h2, h3⟩ := h
  obtain ⟨k1, k2, k3⟩ := sb_keep g s hF h2
  exact ⟨_, k1, k3, h3.mono k2⟩
theorem Sb.cons (g : Ground F own B H) (h : Sb K own F B H v d) (h' : SbA K own F B H vs ds) : SbA K own F B H (v :: vs) (d :: ds) := by
  obtain ⟨B2, h1, h2, h3⟩ := h
  obtain ⟨B3, h4, h5, h6⟩ := h'
  have e3 : Ext B3 (unB B2 B3) := unB_r (fun a o e => (h2 a o e).1) (fun a o e => (h5 a o e).1)
  exact ⟨unB B2 B3, fun a o e => unB_l a o (h1 a o e), unB_of h2 h5, .cons (h3.mono unB_l) (h6.mono e3)⟩
end
structure StF (own : Own) (F B H F' B' H' : Hp) : Prop where
  s : Step own F B H B' H'
  f : ∀ a o, F a = some o → F' a = some o
section
variable {own : Own} {F B H F' B' H' F2 B2 H2 : Hp}
omit [Mg] in
theorem Step.less (s : Step own F' B H B' H') (hF : ∀ a o, F a = some o → F' a = some o) : Step own F B H B' H' := ⟨s.ext, s.base, s.ownd, fun a o h => s.frame a o (hF a o h)⟩
omit [Mg] in
theorem StF.trans (s : StF own F B H F' B' H') (t : StF own F' B' H' F2 B2 H2) : StF own F B H F2 B2 H2 := ⟨s.s.trans (t.s.less s.f), fun a o h => t.f a o (s.f a o h)⟩
theorem WOk.f {K : PySem.W.Frag} {mg : Str → Option Value} {W : WX} {σ : L2.St} {e : Exn} (w : WOk K mg W own F B H σ e) (s : StF own F B H F' B' H') : WOk K mg W own F' B' H' σ e := fun c dx B2 H2 t x => w c dx B2 H2 (s.s.trans (t.less s.f)) x
end
omit [Mg] in
theorem fz_nil {G : List Mode} : ∀ i ∈ ([] : List Nat), G.getD i Mode.fz = Mode.fz := fun i hi => by cases hi
omit [Mg] in
theorem fz_cons {G : List Mode} {j : Nat} {is : List Nat} (h : G.getD j Mode.fz = Mode.fz) (h' : ∀ i ∈ is, G.getD i Mode.fz = Mode.fz) : ∀ i ∈ j :: is, G.getD i Mode.fz = Mode.fz := fun i hi => by
  rcases List.mem_cons.mp hi with rfl | hi
  · exact h
  · exact h' i hi
theorem ft_nil {K : PySem.W.Frag} {f : Str} : FldT K f [] := fun c k m h => by simp at h
theorem ft_cons {K : PySem.W.Frag} {f : Str} {c k : Nat} {m : FM} {tab : FT} (h : Fld K c f k) (e : Mg.fm c k = m) (r : FldT K f tab) : FldT K f ((c, (k, m)) :: tab) := fun c' k' m' h' => by
  rw [List.lookup_cons] at h'
  split at h'
  · rename_i hc
    cases h'
    have := beq_iff_eq.mp hc
    subst this
    exact ⟨h, e⟩
  · exact r c' k' m' h'
end T
set_option Elab.async false
set_option linter.all false
set_option maxRecDepth 100000
set_option maxHeartbeats 4000000
namespace T
open PySem PySem.Spec PyProof.Rows L2
/-- a list that is a thing: its number -/
def lstN (so : Option (List D)) (d : D) : Res (Nat × List D) := match refN d, so with
  | some n, some os => match os[n]? with
    | some (.lst ds) => .ok (n, ds)
    | _ => .no
  | _, _ => .no
variable [Mg]
end T
set_option Elab.async false
set_option linter.all false
set_option maxRecDepth 100000
set_option maxHeartbeats 4000000
namespace T
open PySem PySem.Spec PyProof.Rows L2
def ixAD (so : Option (List D)) (d k : D) : Res D := match refN d with
  | some n => match so with
    | some os => match os[n]? with
      | some (.lst ds) => match k with
        | .int j => match atI ds j with
          | some d => .ok d
          | none => .no
        | _ => .no
      | _ => .no
    | none => .no
  | none => (dIx d k).bind nrR
def ixA (S : Nat) (g gi : Rho → Res D) : Rho → Res D := fun ρ => (g ρ).bind fun d => (gi ρ).bind fun k => ixAD (stoR S ρ) d k
def ixAM (S : Nat) (g : Rho → ResM D) (gi : Rho → Res D) : Rho → ResM D := fun ρ => (g ρ).bind fun d ρ1 => liftM ((gi ρ1).bind fun k => ixAD (stoR S ρ1) d k) ρ1
variable [Mg]
section
variable {X : Cx} {W : WX} {L : LM} {G G' : List Mode} {e iter elt tg : Expr} {x y : Str} {px py pos spos p : Pos} {scope : Scope} {S v i : Nat} {b : Bnd} {is : List Nat} {own0 : List (Str × Nat)} {f : Rho → ResM D} {src : Rho → Res (List D)}
theorem ixAD_core {F : Hp} {ρ : Rho} {own : Own} {B H : Hp} {σ : L2.St} {u w : V} {d k : D} {Q : VK} (g : Good X.K F G ρ own B σ H) (hS : G.getD S .fz = .sto) (r : AnyR X.K B own u d) (rk : Sn X.K own B H w k)
    (q : (ixAD (stoR S ρ) d k).has (fun d => ∀ (v : V) (B' H' : Hp), Step own F B H B' H' → AnyR X.K B' own v d → Q v H') (fun _ => False)) : rIx X.K u w H Q := by
  unfold ixAD at q
  split at q
  · rename_i n hn
    obtain ⟨a, rfl, rfl, hao⟩ := r.ref hn
    split at q
    case h_2 => exact q.elim
    rename_i os hos
    split at q
    case h_2 => exact q.elim
    rename_i ds hd
    split at q
    case h_2 => exact q.elim
    rename_i j
    split at q
    case h_2 => exact q.elim
    rename_i y hy
    cases rk.int
    obtain ⟨vs, h1, h2⟩ := (g.sto hS hos).obj hd hao
    obtain ⟨v, h3, h4⟩ := h2.at hy
    exact .inl ⟨a, vs, j, v, rfl, rfl, .inl (.inl h1), h3, q v B H (.refl g.gr) h4⟩
  · rename_i hn
    have r' : Rp X.K B u d := r.rp
    refine op_ix F own B H u w d k Q g.gr (.inl r') rk ?_
    have q := Res.has_bind q
    cases hd : dIx d k with
    | ok y =>
      rw [hd] at q
      intro v B' H' s ry
      obtain ⟨hn, q⟩ := nrR_has q
      exact q v B' H' s (.inl ⟨hn, ry⟩)
    | ex e => exact absurd hd (calm_ix d k e)
    | no =>
      rw [hd] at q
      exact q.elim
theorem ixAD_calm {so : Option (List D)} {d k : D} {P : D → Prop} {E : Exn → Prop} (q : (ixAD so d k).has P E) : (ixAD so d k).has P (fun _ => False) := by
  cases h : ixAD so d k with
  | ok y =>
    rw [h] at q
    exact q
  | no =>
    rw [h] at q
    exact q
  | ex x =>
    exfalso
    unfold ixAD at h
    split at h
    · repeat' split at h
      all_goals cases h
    · cases hd : dIx d k with
      | ok y =>
        rw [hd] at h
        simp only [Res.bind_ok] at h
        unfold nrR at h
        split at h <;> cases h
      | ex e => exact calm_ix d k e hd
      | no =>
        rw [hd] at h
        cases h
theorem pj_ixA {o k : Expr} {g gi : Rho → Res D} (ho : PJ X W G o g) (hi : BJ X W G k gi) (hS : G.getD S .fz = .sto := by rfl) (hs : PlainIx k := by exact fun _ _ => rfl) : PJ X W G (.Subscript o k pos) (ixA S g gi) := by
  obtain ⟨to, po, vo⟩ := ho
  obtain ⟨ti, pi, vi⟩ := hi
  refine ⟨_, pe_ix ix_seq po pi hs, fun F ρ own B σ H Q gd q => ?_⟩
  refine vo F ρ own B σ H _ gd (Res.has_mono (Res.has_bind q) (fun d q u B1 H1 s1 r => ?_) fun _ x => x)
  have g1 := gd.step s1
  refine vi F ρ own B1 σ H1 _ g1 (Res.has_mono (Res.has_bind q) (fun k q w B2 H2 s2 r2 => ?_) fun _ x => x.step s1)
  refine ixAD_core (g1.step s2) hS (r.step s2) r2 (ixAD_calm (Res.has_mono q (fun d q v B' H' s => q v B' H' ((s1.trans s2).trans s)) fun _ x => x))
end
end T
set_option Elab.async false
set_option linter.all false
set_option maxRecDepth 100000
set_option maxHeartbeats 4000000
namespace T
open PySem PySem.Spec PyProof.Rows L2
theorem hu1 {n : Nat} (h : n + 64 < cLine) : n + 1 < cLine := Nat.lt_of_le_of_lt (Nat.add_le_add_left (by decide : 1 ≤ 64) _) h
variable [Mg]
/-- d[k] = y -/
def putD (kvs : List (D × D)) (k : Key) (y : D) : List (D × D) := if (lookD kvs k).isSome = true then kvs.map (fun kv => if keyOf kv.1 = some k then (kv.1, y) else kv) else kvs ++ [(keyD k, y)]
def keyedD (kvs : List (D × D)) : Bool := kvs.all fun kv => (keyOf kv.1).isSome
theorem keyOf_keyD (k : Key) : keyOf (keyD k) = some k := by
  cases k <;> rfl
theorem lookD_pos {q : D × D} {r : List (D × D)} {k : Key} (e : keyOf q.1 = some k) : lookD (q :: r) k = some q.2 := by simp [lookD, List.find?_cons, e]
theorem lookD_neg {q : D × D} {r : List (D × D)} {k : Key} (e : ¬ keyOf q.1 = some k) : lookD (q :: r) k = lookD r k := by simp [lookD, List.find?_cons, e]
section
variable {K : PySem.W.Frag} {B : Hp} {own : Own}
/-- a dict of ints and texts, pair by pair -/
def KVR (K : PySem.W.Frag) (B : Hp) (own : Own) (ps : List (Key × V)) (kvs : List (D × D)) : Prop := ps.length = kvs.length ∧ ∀ (k : Nat) (p : Key × V) (q : D × D), ps[k]? = some p → kvs[k]? = some q → q.1 = keyD p.1 ∧ AnyR K B own p.2 q.2
theorem KVR.anyD {ps : List (Key × V)} {kvs : List (D × D)} (h : KVR K B own ps kvs) : AnyD K B own (.dK ps) kvs := .inl ⟨ps, rfl, h.1, h.2⟩
theorem AnyD.keyed {o : HO} {kvs : List (D × D)} (h : AnyD K B own o kvs) (hk : keyedD kvs = true) : ∃ ps, o = .dK ps ∧ KVR K B own ps kvs := by
  rcases h with ⟨ps, h1, h2, h3⟩ | ⟨ps, h1, hne, h2, h3⟩
  · exact ⟨ps, h1, h2, h3⟩
  · cases kvs with
    | nil => exact (hne rfl).elim
    | cons q r =>
      cases ps with
      | nil => cases h2
      | cons p ps =>
        obtain ⟨a, _⟩ := h3 0 p q rfl rfl
        unfold keyedD at hk
        rw [List.all_cons, Bool.and_eq_true, a] at hk
        cases hk.1
theorem AnyD.lookK {o : HO} {kvs : List (D × D)} {k : Key} {d : D} (h : AnyD K B own o kvs) (hl : lookD kvs k = some d) : ∃ ps, o = .dK ps ∧ KVR K B own ps kvs := by
  rcases h with ⟨ps, h1, h2, h3⟩ | ⟨ps, h1, hne, h2, h3⟩
  · exact ⟨ps, h1, h2, h3⟩
  · unfold lookD at hl
    obtain ⟨q, hq, _⟩ := Option.map_eq_some_iff.mp hl
    have hm := List.mem_of_find?_eq_some hq
    have hp := List.find?_some hq
    obtain ⟨i, hi⟩ := List.getElem?_of_mem hm
    have hil := (List.getElem?_eq_some_iff.mp hi).1
    obtain ⟨a, _⟩ := h3 i _ q (List.getElem?_eq_getElem (by omega)) hi
    rw [a] at hp
    cases of_decide_eq_true hp
theorem KVR.tail {p : Key × V} {q : D × D} {ps : List (Key × V)} {kvs : List (D × D)} (h : KVR K B own (p :: ps) (q :: kvs)) : KVR K B own ps kvs := ⟨by simpa using h.1, fun k a b e1 e2 => h.2 (k + 1) a b (by simpa using e1) (by simpa using e2)⟩
theorem KVR.look : ∀ {ps : List (Key × V)} {kvs : List (D × D)} (h : KVR K B own ps kvs) (k : Key), (lookD kvs k = none ∧ valV ps k = none) ∨ ∃ d v, lookD kvs k = some d ∧ valV ps k = some v ∧ AnyR K B own v d
  | [], [], _, k => .inl ⟨rfl, rfl⟩
  | [], _ :: _, h, _ => nomatch h.1
  | _ :: _, [], h, _ => nomatch h.1
  | p :: ps, q :: kvs, h, k => by
    obtain ⟨a, b⟩ := h.2 0 p q rfl rfl
    by_cases e : p.1 = k
    · have e' : keyOf q.1 = some k := by rw [a, keyOf_keyD, e]
      exact .inr ⟨q.2, p.2, lookD_pos e', valV_pos e, b⟩
    · have e' : ¬ keyOf q.1 = some k := by rw [a, keyOf_keyD]; exact fun z => e (Option.some.inj z)
      rw [lookD_neg e', valV_neg e]
      exact KVR.look h.tail k
theorem KVR.put {ps : List (Key × V)} {kvs : List (D × D)} {k : Key} {v : V} {d : D} (h : KVR K B own ps kvs) (r : AnyR K B own v d) : KVR K B own (putK ps k v) (putD kvs k d) := by
  unfold putK putD
  rcases h.look k with ⟨e1, e2⟩ | ⟨d0, v0, e1, e2, _⟩
  · rw [valV_any, e1, e2]
    rw [if_neg (by simp), if_neg (by simp)]
    refine ⟨by simp [h.1], fun j p q a b => ?_⟩
    by_cases hj : j < ps.length
    · rw [List.getElem?_append_left hj] at a
      rw [List.getElem?_append_left (by rw [← h.1]; exact hj)] at b
      exact h.2 j p q a b
    · rw [List.getElem?_append_right (by omega)] at a
      rw [List.getElem?_append_right (by rw [← h.1]; omega), ← h.1] at b
      cases hz : j - ps.length with
      | zero =>
        rw [hz] at a b
        cases a
        cases b
        exact ⟨rfl, r⟩
      | succ n =>
        rw [hz] at a
        simp at a
  · rw [valV_any, e1, e2, if_pos (by simp), if_pos (by simp)]
    refine ⟨by simp [h.1], fun j p q a b => ?_⟩
    rw [List.getElem?_map] at a b
    obtain ⟨p', ha, rfl⟩ := Option.map_eq_some_iff.mp a
    obtain ⟨q', hb, rfl⟩ := Option.map_eq_some_iff.mp b
    obtain ⟨c1, c2⟩ := h.2 j p' q' ha hb
    by_cases e : p'.1 = k
    · have e' : keyOf q'.1 = some k := by rw [c1, keyOf_keyD, e]
      rw [if_pos e, if_pos e']
      exact ⟨c1, r⟩
    · have e' : ¬ keyOf q'.1 = some k := by rw [c1, keyOf_keyD]; exact fun z => e (Option.some.inj z)
      rw [if_neg e, if_neg e']
      exact ⟨c1, c2⟩
theorem Sn.keyOf {H : Hp} {y : V} {d : D} {k : Key} (h : Sn K own B H y d) (e : keyOf d = some k) : y = kV k := by
  unfold T.keyOf at e
  split at e
  · cases e
    exact h.int
  · cases e
    exact h.str
  · cases e
theorem KVR.gr {ps : List (Key × V)} {kvs : List (D × D)} {own' : Own} {B' : Hp} (h : KVR K B own ps kvs) (s : Gr own B own' B') : KVR K B' own' ps kvs := ⟨h.1, fun k p q a b => ⟨(h.2 k p q a b).1, (h.2 k p q a b).2.gr s⟩⟩
end
section
variable {X : Cx} {W : WX} {L : LM} {G G' : List Mode} {e o i : Expr} {f x : Str} {pos pos' apos cpos tpos : Pos} {S : Nat}
/-- p[k], a dict's value -/
def dkC (S : Nat) (gp : Rho → Res (Pl × D)) (gi : Rho → Res D) : Rho → Res D := fun ρ => (gp ρ).bind fun r => (gi ρ).bind fun k => match r.2, keyOf k with
  | .dct kvs, some k => match lookD kvs k with
    | some d => .ok d
    | none => .no
  | _, _ => .no
theorem pj_dkC {gp : Rho → Res (Pl × D)} {gi : Rho → Res D} (hu : X.A.units + 1 < cLine) (ho : PlJ X W G S o gp) (hi : BJ X W G i gi) (hS : G.getD S .fz = .sto := by rfl) (hs : NoSl i := by exact fun _ _ => rfl) : PJ X W G (.Subscript o i pos) (dkC S gp gi) := by
  obtain ⟨to, po, vo⟩ := ho
  obtain ⟨ti, pi, vi⟩ := hi
  refine ⟨_, pe_dget hu po pi hs, fun F ρ own B σ H Q gd q => ?_⟩
  unfold dkC at q
  refine vo F ρ own B σ H _ gd (Res.has_mono (Res.has_bind q) (fun r q os l B' H' s hos hpl hgc hol hct => ?_) fun _ x => x)
  obtain ⟨p, d⟩ := r
  have g1 := gd.step s
  refine vi F ρ own B' σ H' _ g1 (Res.has_mono (Res.has_bind q) (fun k q2 w B2 H2 s2 r2 => ?_) fun _ x => x.step s)
  clear q
  simp only at q2
  split at q2
  case h_2 => exact q2.elim
  rename_i kvs k' hk
  split at q2
  case h_2 => exact q2.elim
  rename_i y hy
  obtain ⟨o', h3, h4⟩ := hct
  have hoN : own l ≠ none := by rw [hol]; exact fun z => nomatch z
  obtain ⟨ps, rfl, h5⟩ := (h4.keep s2.ext fun _ _ _ h => h).lookK hy
  rcases h5.look k' with ⟨e1, _⟩ | ⟨d', v, e1, e2, h6⟩
  · rw [e1] at hy
    cases hy
  · rw [e1] at hy
    cases hy
    have ey := r2.keyOf hk
    subst ey
    refine ⟨l, v, rfl, ?_, q2 v B2 H2 (s.trans s2) h6⟩
    rw [← e2]
    exact DGet.k ((s2.ownd l hoN).1.trans h3)
/-- p[k] = e, a dict's -/
def atD (S : Nat) (gp : Rho → Res (Pl × D)) (ρ : Rho) (k : List D → Pl → List (D × D) → Out) : Out := thenS (gp ρ) ρ fun r => match stoR S ρ, r.2 with
  | some os, .dct kvs => k os r.1 kvs
  | _, _ => .no
def sSetDC (S : Nat) (gp : Rho → Res (Pl × D)) (gk : Rho → Res D) (g : Rho → ResM D) : Rho → Out := fun ρ => thenM (g ρ) fun y ρ1 => atD S gp ρ1 fun os p kvs => thenS (gk ρ1) ρ1 fun kd => match keyOf kd with
  | some k => if kvs.length < sizeLine ∧ keyedD kvs = true then .nx (setS S (putC os p (.dct (putD kvs k y))) ρ1) else .no
  | none => .no
theorem sj_setDC {k : Expr} {sp : Pos} {gp : Rho → Res (Pl × D)} {gk : Rho → Res D} {g : Rho → ResM D} (hu : X.A.units + 1 < cLine) (hv : PlJ X W G S o gp) (he : MJ X W G .any e g) (hk : BJ X W G k gk) (hS : G.getD S .fz = .sto := by rfl) (hfl : flatG S G = true := by rfl)
    (hs : swapsWith e (some (.Subscript o k sp)) pos.line X.env = pure false := by rfl) :
    SJ X W L G (.Assign [.Subscript o k sp] e pos) (sSetDC S gp gk g) G := by
  obtain ⟨te, pe, ve⟩ := he
  obtain ⟨tk, pk, vk⟩ := hk
  obtain ⟨to, po, vo⟩ := hv
  refine ⟨_, ps_dput hu po pk pe hs, fun hx F ρ own B σ H D gd q => ?_⟩
  refine ve F ρ own B σ H _ gd (ResM.has_mono (thenM_has hx q) (fun y ρ1 q u own1 B1 H1 e1 g1 r => ?_) fun _ _ x => x)
  have q := q.ext e1
  unfold atD at q
  refine vo F ρ1 own1 B1 σ H1 _ g1 (Res.has_mono (thenS_has hx g1 q) (fun r2 q os l B2 H2 s2 hos hpl hgc hol hct => ?_) fun _ x => x)
  rw [hos] at q
  obtain ⟨p, d⟩ := r2
  cases d with
  | dct kvs =>
    simp only at q hct hgc hpl hol
    obtain ⟨o', h3, h4⟩ := hct
    have g2 := g1.step s2
    refine vk F ρ1 own1 B2 σ H2 _ g2 (Res.has_mono (thenS_has hx g2 (q.ext s2.g)) (fun dk q w B3 H3 s3 r3 => ?_) fun _ x => x)
    split at q
    case h_2 => exact q.elim
    rename_i k' hk'
    split at q
    case isFalse => exact q.elim
    rename_i hc
    have hoN : own1 l ≠ none := by rw [hol]; exact fun z => nomatch z
    obtain ⟨ps, rfl, h5⟩ := (h4.keep s3.ext fun _ _ _ h => h).keyed hc.2
    have ey := r3.keyOf hk'
    subst ey
    have ra : AnyR X.K B3 own1 u y := (AnyR.step r s2).step s3
    refine ⟨l, _, rfl, DPut.k ((s3.ownd l hoN).1.trans h3) (by rw [h5.1]; exact hc.1), ?_⟩
    exact q own1 B3 σ _ s3.g ((g2.step s3).putC hS hfl hos hpl hgc hol rfl ⟨_, upd_same, (h5.put ra).anyD⟩)
  | _ => exact q.elim
/-- p[i] = e, a list's, e over changes -/
def sSetICM (S : Nat) (gp : Rho → Res (Pl × D)) (gk : Rho → Res D) (g : Rho → ResM D) : Rho → Out := fun ρ => thenM (g ρ) fun y ρ1 => atC S gp ρ1 fun os p ds => thenS (gk ρ1) ρ1 fun k => match k with
  | .int k => match ixN ds.length k with
    | some j => .nx (setS S (putC os p (.lst (ds.set j y))) ρ1)
    | none => .no
  | _ => .no
theorem mergeK_nd : ∀ (more kvs : List (Key × V)), ((kvs ++ more).map (·.1)).Nodup → mergeK kvs more = kvs ++ more
  | [], kvs, _ => by simp [mergeK]
  | p :: more, kvs, h => by
    have hn : valV kvs p.1 = none := by
      have hd : ∀ q ∈ kvs, q.1 ≠ p.1 := fun q hq z => by
        rw [List.map_append, List.nodup_append] at h
        exact h.2.2 q.1 (List.mem_map_of_mem hq) p.1 (by simp) z
      unfold valV
      rw [List.find?_eq_none.mpr fun q hq => by simpa using hd q hq]
      rfl
    have ih := mergeK_nd more (kvs ++ [p]) (by simpa using h)
    show mergeK (putK kvs p.1 p.2) more = _
    rw [putK_new p.2 hn]
    simpa using ih
/-- the pairs of a display: keys constant, values over changes -/
def PMJ (X : Cx) (W : WX) (G : List Mode) (pos : Pos) (ks : List (Option Expr)) (vs : List Expr) (keys : List Key) (g : Rho → ResM (List D)) : Prop :=
  ∃ trs, PPs X pos ks vs trs ∧ ∀ (F : Hp) (ρ : Rho) (own : Own) (B : Hp) (σ : L2.St) (H : Hp) (Q : List (V × V) → Hp → Prop), Good X.K F G ρ own B σ H →
    (g ρ).has (fun ds ρ' => ∀ (us : List V) (own' : Own) (B' H' : Hp), Gr own B own' B' → Good X.K F G ρ' own' B' σ H' → AnyA X.K B' own' us ds → us.length = keys.length → Q ((keys.zip us).map fun kv => (kV kv.1, kv.2)) H') (WMk X W G F own B σ) → tPairs trs σ H Q
theorem pmj_nil : PMJ X W G pos [] [] [] noM := ⟨_, pps_nil, fun F ρ own B σ H Q gd q => q [] own B H .refl gd .nil rfl⟩
theorem pmj_cons {k v : Expr} {ks : List (Option Expr)} {vs : List Expr} {a : Key} {keys : List Key} {g : Rho → ResM D} {h : Rho → ResM (List D)} (hk : ConE X k a) (hv : MJ X W G .any v g) (hr : PMJ X W G pos ks vs keys h) : PMJ X W G pos (some k :: ks) (v :: vs) (a :: keys) (consM g h) := by
  obtain ⟨t, pe, ve⟩ := hv
  obtain ⟨trs, h1, h2⟩ := hr
  refine ⟨_, pps_cons hk pe h1, fun F ρ own B σ H Q gd q => ?_⟩
  show t σ H _
  refine ve F ρ own B σ H _ gd (ResM.has_mono (ResM.has_bind q) (fun d ρ1 q v own1 B1 H1 e1 g1 r1 => ?_) fun _ _ x => x)
  refine h2 F ρ1 own1 B1 σ H1 _ g1 (ResM.has_mono (ResM.has_bind q) (fun ds ρ2 q us own2 B2 H2 e2 g2 r2 hl => ?_) fun _ _ x => x.ext e1)
  exact q (v :: us) own2 B2 H2 (e1.trans e2) g2 (.cons (AnyR.gr r1 e2) r2) (by simp [hl])
def dispM (S : Nat) (keys : List Key) (g : Rho → ResM (List D)) : Rho → ResM D := fun ρ => match stoR S ρ with
  | some os => (g (setS S (os ++ [.dct []]) ρ)).bind fun ds ρ1 => match stoR S ρ1 with
    | some os1 => match os1[os.length]? with
      | some (.dct []) => if ds.length = keys.length then .ok (refD os.length) (setS S (os1.set os.length (.dct ((keys.map keyD).zip ds))) ρ1) else .no
      | _ => .no
    | none => .no
  | none => .no
theorem mj_disp {ks : List (Option Expr)} {vs : List Expr} {keys : List Key} {g : Rho → ResM (List D)} (h : PMJ X W G pos ks vs keys g) (hn : keys.Nodup) (hall : ks.all (·.isSome) = true) (hl : ks.length = vs.length) (h0 : ks ≠ []) (h15 : ks.length ≤ 15) (hz : keys.length ≤ 15)
    (hS : G.getD S .fz = .sto := by rfl) (hfl : flatG S G = true := by rfl) : MJ X W G .any (.Dict ks vs pos) (dispM S keys g) := by
  obtain ⟨trs, h1, h2⟩ := h
  refine ⟨_, pe_disp h1 hall hl h0 h15, fun F ρ own B σ H Q gd q => ?_⟩
  intro p hp
  unfold dispM at q
  split at q
  case h_2 => exact q.elim
  rename_i os hos
  have gd1 := gd.step (Step.garbage gd.gr (.dK []) hp)
  obtain ⟨k1, k2⟩ := good_new (d := .dct []) gd1 hS hfl hos (gd.gr.bfresh hp) (gd.gr.ffresh hp) (gd.gr.ofresh hp) (by rw [upd_same]; exact fun z => nomatch z) ⟨.dK [], upd_same, .inl ⟨[], rfl, rfl, fun k p q h => by simp at h⟩⟩
  refine h2 F _ _ B σ _ _ k2 (ResM.has_mono (ResM.has_bind q) (fun ds ρ1 q us own1 B1 H1 e1 g1 r1 hlen => ?_) fun _ _ x => x.ext k1)
  split at q
  case h_2 => exact q.elim
  rename_i os1 hos1
  split at q
  case h_2 => exact q.elim
  rename_i hgt
  split at q
  case isFalse => exact q.elim
  rename_i hdl
  have hown : own1 p = some [SH, os.length] := e1.le p os.length (if_pos rfl)
  have st := g1.sto hS hos1
  obtain ⟨o', h3, h4⟩ := st.obj hgt hown
  obtain ⟨ps, rfl, h5⟩ := h4.keyed rfl
  have hps : ps = [] := List.eq_nil_of_length_eq_zero (by simpa using h5.1)
  subst hps
  have hml : ((keys.zip us).map (·.1)) = keys := by
    rw [List.map_fst_zip]
    omega
  have hmg : mergeK [] (keys.zip us) = keys.zip us := by
    have := mergeK_nd (keys.zip us) [] (by rw [List.nil_append, hml]; exact hn)
    simpa using this
  refine ⟨h3, keys.zip us, rfl, by rw [List.length_zip]; omega, ?_⟩
  rw [hmg]
  have hkv : KVR X.K B1 own1 (keys.zip us) ((keys.map keyD).zip ds) := ⟨by simp [hlen, hdl], fun j a b ha hb => by
    rw [List.getElem?_zip_eq_some] at ha hb
    refine ⟨?_, r1.2 j _ _ ha.2 hb.2⟩
    have := hb.1
    rw [List.getElem?_map, ha.1] at this
    exact (Option.some.inj this).symm⟩
  exact q (.ref p) own1 B1 _ (k1.trans e1) (g1.putC (p := (os.length, none)) hS hfl hos1 trivial hgt hown rfl ⟨_, upd_same, hkv.anyD⟩) (.inr ⟨_, p, rfl, rfl, hown⟩)
def binMB (f : D → D → Res D) (ga : Rho → ResM D) (gb : Rho → Res D) : Rho → ResM D := fun ρ => (ga ρ).bind fun x ρ1 => liftM ((gb ρ1).bind fun y => f x y) ρ1
end
end T
set_option Elab.async false
set_option linter.all false
set_option maxRecDepth 100000
set_option maxHeartbeats 4000000
namespace T
open PySem PySem.Spec PyProof.Rows L2
/-- C(e, ..), defaults behind -/
def tMakeD (C : Addr) (sp : Sp) (E : L2.St → XK) (dvs : List V) (t : TA) : TE := fun σ H Q => t σ H fun vs H1 => ∀ x dx, H1 x = none → H1 dx = none → dx ≠ x →
  sp (.ref x :: (vs ++ dvs)) (upd (upd H1 dx (.own x)) x (.ins C dx [])) (fun v H2 => v = .non ∧ Q (.ref x) H2) (E σ)
/-- C(e, .., k = v, ..) -/
def tMakeKP (C : Addr) (n m : Nat) (sp : Sp) (E : L2.St → XK) (t tk : TA) : TE := fun σ H Q => t σ H fun vs H1 => tk σ H1 fun zs H2 => vs.length = n ∧ zs.length = m ∧ ∀ x dx, H2 x = none → H2 dx = none → dx ≠ x →
  sp (.ref x :: (vs ++ zs)) (upd (upd H2 dx (.own x)) x (.ins C dx [])) (fun v H3 => v = .non ∧ Q (.ref x) H3) (E σ)
section
variable {X : Cx} {CX : CXT} {k n : Nat} {f C : Addr} {fd : FuncData} {ps ks : List Str} {sp : Sp} {E : L2.St → XK} {x : Str} {p pos : Pos} {e : Expr} {es : List Expr} {t tk : TA} {kws : List Keyword} {ds : List Value} {dvs : List V}
theorem run_makeD {pins : List (Addr × Obj)} {σ : L2.St} {H : Hp} {s : Shared} {Q : VK} {us : List Value} {vs : List V} (M : Mk X.K C f) (F : FnOk X.prog X.w X.K X.mg X.base CX k f fd ps sp) (hr : Room (k + 1) X.A) (hb : Binds X.K fd ps ds) (hd : Vals dvs ds)
    (hx : PassesAt CX X σ (E σ)) (I : Inv X pins σ H s) (r : Vals vs us)
    (h : ∀ x dx, H x = none → H dx = none → dx ≠ x → sp (.ref x :: (vs ++ dvs)) (upd (upd H dx (.own x)) x (.ins C dx [])) (fun v H2 => v = .non ∧ Q (.ref x) H2) (E σ)) :
    wpAny (model X.prog X.w) X.A (call (.ref C) us) (EP X pins σ Q) X.xe s := by
  have hq := h (s.heap.objs.size + 1) s.heap.objs.size (I.hok.fresh (Nat.le_succ _)) (I.hok.fresh (Nat.le_refl _)) (Nat.ne_of_lt (Nat.lt_succ_self _))
  have I2 := Inv.made (C := C) I
  have r2 : Vals (V.ref (s.heap.objs.size + 1) :: (vs ++ dvs)) ((Value.ref (s.heap.objs.size + 1) :: us) ++ ds) := .cons rfl (r.append hd)
  have hl : ((Value.ref (s.heap.objs.size + 1) :: us) ++ ds).length = ps.length := by
    have e := r2.length
    rw [F.len _ _ _ _ hq] at e
    exact e.symm
  have b := hb _ (Value.ref (s.heap.objs.size + 1) :: us) I2.kIn hl
  refine wpAny_call (make_map (f := f) I.kIn M.makes M.init (beq_iff_eq.mp M.fn) (codeAny_mono (F.run _ X.stack _ _ ⟨Value.ref (s.heap.objs.size + 1) :: us, []⟩ ((Value.ref (s.heap.objs.size + 1) :: us) ++ ds) _ _ (E σ) (hr.make C us [])
    (I2.env0.make C us []) b r2 hq) fun r s' hq' => ?_))
  cases r with
  | error e => exact hx pins _ _ e s' I2 hq'
  | ok fl =>
    cases fl with
    | ret u =>
      obtain ⟨v, H', I3, rv, ev, q3⟩ := I2.after hq'
      subst ev
      exact ⟨rv, ⟨V.ref (s.heap.objs.size + 1), H', I3, rfl, q3⟩⟩
    | next => exact False.elim hq'
    | brk => exact False.elim hq'
    | cont => exact False.elim hq'
theorem pe_makeD (M : Mk X.K C f) (F : FnOk X.prog X.w X.K X.mg X.base CX k f fd ps sp) (hr : Room (k + 1) X.A) (hg : Gl X x) (hm : X.mg x = some (.ref C)) (hb : Binds X.K fd ps ds) (hd : Vals dvs ds) (hx : ∀ σ, PassesAt CX X σ (E σ))
    (ha : PA X (e :: es) t) (hdb : (x == ("__debug__" : Str)) = false := by decide) (he : starEach (e :: es) X.env = (false, eval e X.env) :: starEach es X.env := by rfl) (hpl : (backTo pos (starEach es X.env)).any (·.1) = false := by rfl) :
    PE X (.Call (.Name x p) (e :: es) [] pos) (tMakeD C sp E dvs t) := by
  refine ⟨fun pins s σ H Q I h => ?_⟩
  refine wpAny_Call_Name_kw (ld_glob I hg hm ?_ hdb)
  refine PySem.W.callWith_K (h₀ := X.base) I.ok.mod.kin M.kp (thn (ha.run pos pins s σ H _ I h) fun us s1 ⟨vs, H1, I1, r, q⟩ => ⟨I1.kIn, ?_⟩) he hpl
  exact run_makeD M F hr hb hd (hx σ) I1 r q
theorem run_makeKP {pins : List (Addr × Obj)} {σ : L2.St} {H : Hp} {s : Shared} {Q : VK} {us ws : List Value} {vs zs : List V} (M : Mk X.K C f) (F : FnOk X.prog X.w X.K X.mg X.base CX k f fd ps sp) (hr : Room (k + 1) X.A) (hb : KBn X.K fd ps (n + 1) ks (fun us ws => us ++ ws) (fun vs zs => vs ++ zs)) (hx : PassesAt CX X σ (E σ))
    (I : Inv X pins σ H s) (r : Vals vs us) (rz : Vals zs ws) (l1 : vs.length = n) (l2 : zs.length = ks.length)
    (h : ∀ x dx, H x = none → H dx = none → dx ≠ x → sp (.ref x :: (vs ++ zs)) (upd (upd H dx (.own x)) x (.ins C dx [])) (fun v H2 => v = .non ∧ Q (.ref x) H2) (E σ)) :
    wpAny (model X.prog X.w) X.A (call (.ref C) us (ks.zip ws)) (EP X pins σ Q) X.xe s := by
  have hq := h (s.heap.objs.size + 1) s.heap.objs.size (I.hok.fresh (Nat.le_succ _)) (I.hok.fresh (Nat.le_refl _)) (Nat.ne_of_lt (Nat.lt_succ_self _))
  have I2 := Inv.made (C := C) I
  have r1 : Vals (V.ref (s.heap.objs.size + 1) :: vs) (Value.ref (s.heap.objs.size + 1) :: us) := .cons rfl r
  have r2 := hb.rel r1 rz
  have n1 : (Value.ref (s.heap.objs.size + 1) :: us).length = n + 1 := by
    rw [List.length_cons, ← r.length, l1]
  refine wpAny_call (make_map (f := f) I.kIn M.makes M.init (beq_iff_eq.mp M.fn) (codeAny_mono (F.run _ X.stack _ _ ⟨Value.ref (s.heap.objs.size + 1) :: us, ks.zip ws⟩ ((Value.ref (s.heap.objs.size + 1) :: us) ++ ws) _ _ (E σ) (hr.make C us (ks.zip ws))
    (I2.env0.make C us (ks.zip ws)) (hb.to _ (Value.ref (s.heap.objs.size + 1) :: us) ws I2.kIn n1 (rz.length.symm.trans l2)) r2 hq) fun r s' hq' => ?_))
  cases r with
  | error e => exact hx pins _ _ e s' I2 hq'
  | ok fl =>
    cases fl with
    | ret u =>
      obtain ⟨v, H', I3, rv, ev, q3⟩ := I2.after hq'
      subst ev
      exact ⟨rv, ⟨V.ref (s.heap.objs.size + 1), H', I3, rfl, q3⟩⟩
    | next => exact False.elim hq'
    | brk => exact False.elim hq'
    | cont => exact False.elim hq'
theorem pe_makeKP (M : Mk X.K C f) (F : FnOk X.prog X.w X.K X.mg X.base CX k f fd ps sp) (hr : Room (k + 1) X.A) (hg : Gl X x) (hm : X.mg x = some (.ref C)) (hb : KBn X.K fd ps (n + 1) ks (fun us ws => us ++ ws) (fun vs zs => vs ++ zs)) (hx : ∀ σ, PassesAt CX X σ (E σ)) (ha : PA X (e :: es) t) (hkw : PK X kws tk)
    (hall : (backToKw pos (keywordEach kws X.env)).all (·.1.isSome) = true := by rfl) (hks : (backToKw pos (keywordEach kws X.env)).filterMap (·.1) = ks := by rfl) (hdb : (x == ("__debug__" : Str)) = false := by decide)
    (he : starEach (e :: es) X.env = (false, eval e X.env) :: starEach es X.env := by rfl) (hpl : ((backTo pos (starEach (e :: es) X.env)).any (·.1) || (backToKw pos (keywordEach kws X.env)).any (·.1.isNone)) = false := by rfl) :
    PE X (.Call (.Name x p) (e :: es) kws pos) (tMakeKP C n ks.length sp E t tk) := by
  refine ⟨fun pins s σ H Q I h => ?_⟩
  refine wpAny_Call_Name_kw (ld_glob I hg hm ?_ hdb)
  refine PySem.W.callWith_KW (h₀ := X.base) I.ok.mod.kin M.kp hall (thn (ha.run pos pins s σ H _ I h) fun us s1 ⟨vs, H1, I1, r, q⟩ => ?_) hpl he
  refine thn (hkw.run pos pins s1 σ H1 _ I1 q) fun ws s2 ⟨zs, H2, I2, rz, l1, l2, q2⟩ => ⟨I2.kIn, ?_⟩
  rw [hks]
  exact run_makeKP M F hr hb (hx σ) I2 r rz l1 l2 q2
end
variable [Mg]
section
variable {X : Cx} {W : WX} {G : List Mode} {e : Expr} {es : List Expr} {x : Str} {p pos : Pos} {k n c S : Nat} {f : Addr} {fd : FuncData} {ps : List Str} {mm : List D → List D → ResS}
/-- one more list of frozen values behind -/
def plusM (g : Rho → ResM (List D)) (dd : List D) : Rho → ResM (List D) := fun ρ => (g ρ).bind fun ds ρ1 => .ok (ds ++ dd) ρ1
theorem AnyA.plus {K : PySem.W.Frag} {B : Hp} {own : Own} {vs us : List V} {ds es : List D} (h : AnyA K B own vs ds) (h' : AnyA K B own us es) : AnyA K B own (vs ++ us) (ds ++ es) := h.app h'
/-- C(e, ..) with defaults dd behind -/
theorem mj_makeSD {g : Rho → ResM (List D)} {dvs : List V} {dd : List D} (M : Mk X.K (Mg.cls c) f) (hlen : ∀ os ds, ds.length ≠ n → mm os ds = .no) (Fn : FnOk X.prog X.w X.K X.mg X.base (L2.CX X.prog X.w) k f fd ps (spS X.K X.mg n mm)) (hr : Room (k + 1) X.A) (hg : Gl X x) (hm : X.mg x = some (.ref (Mg.cls c)))
    (hb : ∃ ds, Vals dvs ds ∧ Binds X.K fd ps ds) (hdd : ∀ B, RpA X.K B dvs dd) (hnr : dd.all D.nref = true)
    (tk : Takes X W) (ha : MAJ X W G (e :: es) g) (hS : G.getD S .fz = .sto := by rfl) (hfl : flatG S G = true := by rfl) (hdb : (x == ("__debug__" : Str)) = false := by decide) (he : starEach (e :: es) X.env = (false, eval e X.env) :: starEach es X.env := by rfl) (hpl : (backTo pos (starEach es X.env)).any (·.1) = false := by rfl) :
    MJ X W G .any (.Call (.Name x p) (e :: es) [] pos) (makeS c mm S (plusM g dd)) := by
  obtain ⟨t, pa, va⟩ := ha
  obtain ⟨ds, hd, hb⟩ := hb
  refine ⟨_, pe_makeD M Fn hr hg hm hb hd (fun σ => passAt tk σ) pa hdb he hpl, fun F ρ own B σ H Q gd q => ?_⟩
  have := make_core (X := X) (W := W) (c := c) (t := fun σ H Q => t σ H fun vs H1 => Q (vs ++ dvs) H1) (g := plusM g dd) hlen (fun F ρ own B σ H Q gd q => va F ρ own B σ H _ gd (ResM.has_mono (ResM.has_bind q) (fun ds ρ1 q us own1 B1 H1 e1 g1 r1 => q _ own1 B1 H1 e1 g1 (r1.plus (anyA_of (hdd B1) hnr))) fun _ _ x => x)) hS hfl
  exact this F ρ own B σ H Q gd q
/-- positional arguments, then keyword's -/
def kwM (n m : Nat) (g h : Rho → ResM (List D)) : Rho → ResM (List D) := fun ρ => (g ρ).bind fun ds ρ1 => (h ρ1).bind fun es ρ2 => if ds.length = n ∧ es.length = m then .ok (ds ++ es) ρ2 else .no
def KMJ (X : Cx) (W : WX) (G : List Mode) (kws : List Keyword) (g : Rho → ResM (List D)) : Prop := ∃ t, PK X kws t ∧ EvMA X W G t g
theorem kmj_nil : KMJ X W G [] noM := ⟨_, pk_nil, fun F ρ own B σ H Q gd q => q [] own B H .refl gd .nil⟩
theorem kmj_cons {nm : Option Str} {kpos : Pos} {kws : List Keyword} {g : Rho → ResM D} {h : Rho → ResM (List D)} (he : MJ X W G .any e g) (hr : KMJ X W G kws h) : KMJ X W G (⟨nm, e, kpos⟩ :: kws) (consM g h) := by
  obtain ⟨t, pe, ve⟩ := he
  obtain ⟨u, pu, vu⟩ := hr
  refine ⟨_, pk_cons pe pu, fun F ρ own B σ H Q gd q => ?_⟩
  refine ve F ρ own B σ H _ gd (ResM.has_mono (ResM.has_bind q) (fun d ρ1 q v own1 B1 H1 e1 g1 r1 => ?_) fun _ _ x => x)
  refine vu F ρ1 own1 B1 σ H1 _ g1 (ResM.has_mono (ResM.has_bind q) (fun ds ρ2 q us own2 B2 H2 e2 g2 r2 => ?_) fun _ _ x => x.ext e1)
  exact q (v :: us) own2 B2 H2 (e1.trans e2) g2 (.cons (AnyR.gr r1 e2) r2)
theorem mj_makeSK {np : Nat} {ks : List Str} {kws : List Keyword} {g h : Rho → ResM (List D)} (M : Mk X.K (Mg.cls c) f) (hlen : ∀ os ds, ds.length ≠ n → mm os ds = .no) (Fn : FnOk X.prog X.w X.K X.mg X.base (L2.CX X.prog X.w) k f fd ps (spS X.K X.mg n mm)) (hr : Room (k + 1) X.A) (hg : Gl X x) (hm : X.mg x = some (.ref (Mg.cls c)))
    (hb : KBn X.K fd ps (np + 1) ks (fun us ws => us ++ ws) (fun vs zs => vs ++ zs)) (tk : Takes X W) (ha : MAJ X W G (e :: es) g) (hkw : KMJ X W G kws h) (hS : G.getD S .fz = .sto := by rfl) (hfl : flatG S G = true := by rfl)
    (hall : (backToKw pos (keywordEach kws X.env)).all (·.1.isSome) = true := by rfl) (hks : (backToKw pos (keywordEach kws X.env)).filterMap (·.1) = ks := by rfl) (hdb : (x == ("__debug__" : Str)) = false := by decide)
    (he : starEach (e :: es) X.env = (false, eval e X.env) :: starEach es X.env := by rfl) (hpl : ((backTo pos (starEach (e :: es) X.env)).any (·.1) || (backToKw pos (keywordEach kws X.env)).any (·.1.isNone)) = false := by rfl) :
    MJ X W G .any (.Call (.Name x p) (e :: es) kws pos) (makeS c mm S (kwM np ks.length g h)) := by
  obtain ⟨t, pa, va⟩ := ha
  obtain ⟨u, pu, vu⟩ := hkw
  refine ⟨_, pe_makeKP M Fn hr hg hm hb (fun σ => passAt tk σ) pa pu hall hks hdb he hpl, fun F ρ own B σ H Q gd q => ?_⟩
  have := make_core (X := X) (W := W) (c := c) (t := fun σ H Q => t σ H fun vs H1 => u σ H1 fun zs H2 => vs.length = np ∧ zs.length = ks.length ∧ Q (vs ++ zs) H2) (g := kwM np ks.length g h) hlen (fun F ρ own B σ H Q gd q => by
    refine va F ρ own B σ H _ gd (ResM.has_mono (ResM.has_bind q) (fun ds ρ1 q us own1 B1 H1 e1 g1 r1 => ?_) fun _ _ x => x)
    refine vu F ρ1 own1 B1 σ H1 _ g1 (ResM.has_mono (ResM.has_bind q) (fun es ρ2 q zs own2 B2 H2 e2 g2 r2 => ?_) fun _ _ x => x.ext e1)
    split at q
    · rename_i hl
      exact ⟨r1.1.trans hl.1, r2.1.trans hl.2, q _ own2 B2 H2 (e1.trans e2) g2 ((r1.gr e2).plus r2)⟩
    · exact q.elim) hS hfl
  refine this F ρ own B σ H Q gd q |> fun z => ?_
  exact z
end
end T
set_option Elab.async false
set_option linter.all false
set_option maxRecDepth 100000
set_option maxHeartbeats 4000000
namespace T
open PySem PySem.Spec PyProof.Rows L2
variable [Mg]
section
variable {X : Cx} {W : WX} {L : LM} {G G' : List Mode} {e : Expr} {es : List Expr} {x y z : Str} {p pos : Pos} {S i2 i3 : Nat}
/-- *e, a tuple -/
def starM (g : Rho → Res D) (h : Rho → ResM (List D)) : Rho → ResM (List D) := fun ρ => (liftM (g ρ) ρ).bind fun d ρ1 => match d with
  | .tup ds => if ds.all D.nref = true then (h ρ1).bind fun es ρ2 => .ok (ds ++ es) ρ2 else .no
  | _ => .no
/-- the slot i is there, and empty -/
def slotN (ρ : Rho) (i : Nat) : Bool := match ρ[i]? with
  | some none => true
  | _ => false
def sDisp (gk g2 : Rho → Res D) (tab : List (Str × (List D → List D → ResS))) (i2 i3 S : Nat) (ga : Rho → ResM (List D)) : Rho → Out := fun ρ => thenS (gk ρ) ρ fun k => match k with
  | .str nm => match tab.lookup nm with
    | some mm => if slotN ρ i2 = true then thenS (g2 ρ) ρ fun r => thenM (callS mm S ga (ρ.set i3 (some r))) fun d ρ1 => .rl d ρ1 else .no
    | none => .no
  | _ => .no
end
end T
set_option Elab.async false
set_option linter.all false
set_option maxRecDepth 100000
set_option maxHeartbeats 4000000
namespace T
open PySem PySem.Spec PyProof.Rows L2
variable [Mg]
def pyE (d : D) : PyData := d.py.getD .none
def leG (d e : D) : Bool := PySem.W.dataLe false pyE d e
def sortG (ds : List D) : List D := ds.mergeSort leG
def alikeG (ds : List D) : Bool := ds.all fun d => ds.all fun e => PySem.W.alike (pyE d) (pyE e)
def tupG : D → Bool
  | .tup (_ :: _) => true
  | _ => false
def othG : D → Bool
  | .non => false
  | .tup _ => false
  | _ => true
def sortableG (ds : List D) : Bool := ds.all tupG || ds.all othG
def dSortedG : List D → Res (List D)
  | [.lst ds] => if D.datA 60 ds = true ∧ alikeG ds = true ∧ sortableG ds = true then .ok (sortG ds) else .no
  | _ => .no
section
variable {K : PySem.W.Frag} {B H : Hp}
theorem datA_each : ∀ {ds : List D} {n : Nat}, D.datA n ds = true → ∀ d ∈ ds, D.dat n d = true
  | [], _, _, d, hd => by cases hd
  | x :: xs, n, h, d, hd => by
    rw [D.datA, Bool.and_eq_true] at h
    rcases List.mem_cons.mp hd with rfl | hd
    · exact h.1
    · exact datA_each h.2 d hd
theorem pyE_of {d : D} {n : Nat} (h : D.dat n d = true) : d.py = some (pyE d) ∧ (pyE d).depth ≤ n := by
  obtain ⟨p, h1, _, h3⟩ := D.dat_py d n h
  unfold pyE
  rw [h1]
  exact ⟨rfl, h3⟩
theorem allAlike_of {ds : List D} (h : alikeG ds = true) : PySem.W.AllAlike (ds.map pyE) := by
  intro p hp q hq
  obtain ⟨d, hd, rfl⟩ := List.mem_map.mp hp
  obtain ⟨e, he, rfl⟩ := List.mem_map.mp hq
  unfold alikeG at h
  exact List.all_eq_true.mp (List.all_eq_true.mp h d hd) e he
theorem pyE_tup {d : D} {n : Nat} (hd : D.dat n d = true) (h : tupG d = true) : ∃ x r, pyE d = .tuple (x :: r) := by
  cases d with
  | tup xs =>
    cases xs with
    | nil => cases h
    | cons x xs =>
      obtain ⟨h1, _⟩ := pyE_of hd
      rw [D.py] at h1
      obtain ⟨ps, h2, h3⟩ := Option.map_eq_some_iff.mp h1
      rw [D.pyA] at h2
      cases hx : x.py with
      | none => simp [hx] at h2
      | some p =>
        cases hy : D.pyA xs with
        | none => simp [hx, hy] at h2
        | some qs =>
          simp [hx, hy] at h2
          subst h2
          exact ⟨p, qs, h3.symm⟩
  | _ => cases h
theorem pyE_oth {d : D} {n : Nat} (hd : D.dat n d = true) (h : othG d = true) : pyE d ≠ .none ∧ ∀ xs, pyE d ≠ .tuple xs := by
  obtain ⟨h1, _⟩ := pyE_of hd
  generalize pyE d = p at h1
  cases d with
  | non => cases h
  | tup xs => cases h
  | bl b => rw [D.py] at h1; cases h1; exact ⟨fun z => (nomatch z), fun _ z => (nomatch z)⟩
  | int b => rw [D.py] at h1; cases h1; exact ⟨fun z => (nomatch z), fun _ z => (nomatch z)⟩
  | str b => rw [D.py] at h1; cases h1; exact ⟨fun z => (nomatch z), fun _ z => (nomatch z)⟩
  | lst xs =>
    rw [D.py] at h1
    obtain ⟨ps, _, rfl⟩ := Option.map_eq_some_iff.mp h1
    exact ⟨fun z => (nomatch z), fun _ z => (nomatch z)⟩
  | scr xs =>
    rw [D.py] at h1
    obtain ⟨ps, _, rfl⟩ := Option.map_eq_some_iff.mp h1
    exact ⟨fun z => (nomatch z), fun _ z => (nomatch z)⟩
  | _ => cases n <;> simp [D.dat] at hd
theorem sortable_of {ds : List D} (hd : D.datA 60 ds = true) (h : sortableG ds = true) : PySem.W.Sortable (ds.map pyE) := by
  unfold sortableG at h
  rw [Bool.or_eq_true] at h
  rcases h with h | h
  · refine .inl fun p hp => ?_
    obtain ⟨d, hm, rfl⟩ := List.mem_map.mp hp
    exact pyE_tup (datA_each hd d hm) (List.all_eq_true.mp h d hm)
  · refine .inr fun p hp => ?_
    obtain ⟨d, hm, rfl⟩ := List.mem_map.mp hp
    exact pyE_oth (datA_each hd d hm) (List.all_eq_true.mp h d hm)
theorem eachIs_of : ∀ {vs : List V} {us : List Value} {ds : List D}, Vals vs us → vs.length = ds.length → PySem.W.EachIs (fun u d => ∃ v, RelV v u ∧ (v, d) ∈ vs.zip ds) us ds
  | [], _, [], .nil, _ => .nil
  | [], _, _ :: _, _, h => nomatch h
  | _ :: _, _, [], _, h => nomatch h
  | v :: vs, _, d :: ds, .cons r rs, h => .cons ⟨v, r, by simp⟩ ((eachIs_of rs (by simpa using h)).mono fun _ _ ⟨v, h1, h2⟩ => ⟨v, h1, by rw [List.zip_cons_cons]; exact List.mem_cons_of_mem _ h2⟩)
theorem eachIs_back {P : V → D → Prop} : ∀ {us : List Value} {ds : List D}, PySem.W.EachIs (fun u d => ∃ v, RelV v u ∧ P v d) us ds → ∃ vs, Vals vs us ∧ vs.length = ds.length ∧ ∀ (k : Nat) (v : V) (d : D), vs[k]? = some v → ds[k]? = some d → P v d
  | _, _, .nil => ⟨[], .nil, rfl, fun k v d h => by simp at h⟩
  | _, _, .cons ⟨v, r, h⟩ t => by
    obtain ⟨vs, rs, hl, hs⟩ := eachIs_back t
    refine ⟨v :: vs, .cons r rs, by simp [hl], fun k x d e1 e2 => ?_⟩
    cases k with
    | zero =>
      cases e1
      cases e2
      exact h
    | succ k => exact hs k x d (by simpa using e1) (by simpa using e2)
theorem zip_rp {vs : List V} {ds : List D} (h : RpA K H vs ds) {v : V} {d : D} (hm : (v, d) ∈ vs.zip ds) : Rp K H v d := by
  obtain ⟨k, hk⟩ := List.getElem?_of_mem hm
  rw [List.getElem?_zip_eq_some] at hk
  obtain ⟨d', h1, h2⟩ := h.get' hk.1
  rw [hk.2] at h1
  cases h1
  exact h2
end
def rSortG (K : PySem.W.Frag) : List V → Hp → VK → Prop := fun vs H Q => ∃ (a : Addr) (xs : List V) (ds : List D), vs = [V.ref a] ∧ SqL K H a xs ∧ RpA K H xs ds ∧ D.datA 60 ds = true ∧ alikeG ds = true ∧ sortableG ds = true ∧
  ∀ (p : Addr) (ys : List V), H p = none → ys.length = (sortG ds).length → (∀ (k : Nat) (v : V) (d : D), ys[k]? = some v → (sortG ds)[k]? = some d → (v, d) ∈ xs.zip ds) → Q (.ref p) (upd H p (.lst ys))
theorem cr_sortedG {X : Cx} (hu : X.A.units + 64 < cLine) : CallR X (.builtin "sorted") (rSortG X.K) := by
  intro pins s σ H vs us Q I r h
  obtain ⟨a, xs, ds, rfl, hs, hr, hdat, hal, hsr, q⟩ := h
  obtain ⟨its, rv, hl, hz⟩ := I.list hs
  obtain ⟨u, rfl, ru⟩ := vals1 r
  obtain rfl : u = Value.ref a := ru
  have e0 := eachIs_of rv hr.len
  have er : PySem.W.EachIs (fun u d => ∃ as, Reads s.heap u (pyE d) as) its ds := by
    have e1 := e0
    have key : ∀ {us : List Value} {es : List D}, (∀ d ∈ es, d ∈ ds) → PySem.W.EachIs (fun u d => ∃ v, RelV v u ∧ (v, d) ∈ xs.zip ds) us es → PySem.W.EachIs (fun u d => ∃ as, Reads s.heap u (pyE d) as) us es := by
      intro us es hsub h
      induction h with
      | nil => exact .nil
      | @cons u d us es h t ih =>
        obtain ⟨v, h1, h2⟩ := h
        have hd := datA_each hdat d (hsub d (by simp))
        exact .cons (Rp.reads I d v u _ (zip_rp hr h2) h1 (pyE_of hd).1) (ih fun d hd => hsub d (by simp [hd]))
    exact key (fun d hd => hd) e0
  refine PySem.W.sorted_data (enc := pyE) hl.isList e0 er (allAlike_of hal) (sortable_of hdat hsr) (by rw [← hr.len]; exact hz) (fun d hd => ?_) fun out ho eo => ?_
  · have := (pyE_of (datA_each hdat d hd)).2
    omega
  · obtain ⟨ys, ry, hyl, hy⟩ := eachIs_back eo
    obtain ⟨c, hc⟩ := PyProof.Rows.sortedAll_at s.heap its out.toArray
    refine ⟨.ref (s.heap.objs.size + 1), upd H (s.heap.objs.size + 1) (.lst ys), I.laid (t' := s.toks) (fun _ _ => PyProof.Rows.sortedAll_old) (Nat.le_succ _) ⟨?_, out, c, ry, hc⟩, rfl, q _ ys (I.hok.fresh (Nat.le_succ _)) hyl hy⟩
    rw [hyl]
    show (ds.mergeSort _).length ≤ _
    rw [List.length_mergeSort, ← hr.len]
    exact hz
theorem fn_sortedG {X : Cx} (hu : X.A.units + 64 < cLine) : ∃ r, CallR X (.builtin "sorted") r ∧ CallN X r dSortedG := by
  refine ⟨_, cr_sortedG hu, fun ds e h => ?_, fun F own B H vs ds Q g hx q => ?_⟩
  · unfold dSortedG at h
    split at h
    · split at h <;> cases h
    · cases h
  · unfold dSortedG at q
    split at q
    · rename_i xs
      split at q
      · rename_i hc
        obtain ⟨v, rfl, hv⟩ := hx.one
        obtain ⟨l, vs, rfl, hl, rv⟩ := hv.lst g
        refine ⟨l, vs, xs, rfl, .inl (.inl hl), rv.mono g.same, hc.1, hc.2.1, hc.2.2, fun p ys hn hlen hy => ?_⟩
        exact new_lstN g (RpA.of_get hlen fun k v d h1 h2 => zip_rp rv (hy k v d h1 h2)) q p hn
      · exact q.elim
    · exact q.elim
end T
set_option Elab.async false
set_option linter.all false
set_option maxRecDepth 100000
set_option maxHeartbeats 4000000
namespace T
open PySem PySem.Spec PyProof.Rows L2
variable [Mg]
def dropD (kvs : List (D × D)) (k : Key) : List (D × D) := kvs.filter fun kv => decide (keyOf kv.1 ≠ some k)
section
variable {K : PySem.W.Frag} {B : Hp} {own : Own}
theorem KVR.cons {p : Key × V} {q : D × D} {ps : List (Key × V)} {kvs : List (D × D)} (h1 : q.1 = keyD p.1) (h2 : AnyR K B own p.2 q.2) (h : KVR K B own ps kvs) : KVR K B own (p :: ps) (q :: kvs) := ⟨by simp [h.1], fun k a b e1 e2 => by
  cases k with
  | zero =>
    cases e1
    cases e2
    exact ⟨h1, h2⟩
  | succ k => exact h.2 k a b (by simpa using e1) (by simpa using e2)⟩
theorem KVR.drop {k : Key} : ∀ {ps : List (Key × V)} {kvs : List (D × D)}, KVR K B own ps kvs → KVR K B own (dropK ps k) (dropD kvs k)
  | [], [], _ => ⟨rfl, fun j p q e => by simp [dropK] at e⟩
  | [], _ :: _, h => nomatch h.1
  | _ :: _, [], h => nomatch h.1
  | p :: ps, q :: kvs, h => by
    obtain ⟨a, b⟩ := h.2 0 p q rfl rfl
    have ih := KVR.drop (k := k) h.tail
    unfold dropK dropD at ih ⊢
    rw [List.filter_cons, List.filter_cons]
    by_cases e : p.1 = k
    · have e' : keyOf q.1 = some k := by rw [a, keyOf_keyD, e]
      rw [if_neg (by simp [e]), if_neg (by simp [e'])]
      exact ih
    · have e' : ¬ keyOf q.1 = some k := by rw [a, keyOf_keyD]; exact fun z => e (Option.some.inj z)
      rw [if_pos (by simp [e]), if_pos (by simp [e'])]
      exact KVR.cons a b ih
end
section
variable {X : Cx} {W : WX} {L : LM} {G G' : List Mode} {e o i : Expr} {f x : Str} {pos pos' apos cpos tpos : Pos} {S : Nat}
/-- del p[k] -/
def sDelDC (S : Nat) (gp : Rho → Res (Pl × D)) (gk : Rho → Res D) : Rho → Out := fun ρ => atD S gp ρ fun os p kvs => thenS (gk ρ) ρ fun kd => match keyOf kd with
  | some k => if (lookD kvs k).isSome = true then .nx (setS S (putC os p (.dct (dropD kvs k))) ρ) else .no
  | none => .no
/-- k in p, a dict -/
def dinC (S : Nat) (neg : Bool) (gi : Rho → Res D) (gp : Rho → Res (Pl × D)) : Rho → Res D := fun ρ => (gi ρ).bind fun k => (gp ρ).bind fun r => match r.2, keyOf k with
  | .dct kvs, some k => if keyedD kvs = true then .ok (.bl (if neg = true then !(lookD kvs k).isSome else (lookD kvs k).isSome)) else .no
  | _, _ => .no
/-- p.pop(k), a dict's -/
def popDC (S : Nat) (gp : Rho → Res (Pl × D)) (gi : Rho → Res D) : Rho → ResM D := fun ρ => (liftM (gp ρ) ρ).bind fun r ρ1 => match stoR S ρ1, r.2 with
  | some os, .dct kvs => (liftM (gi ρ1) ρ1).bind fun k ρ2 => match keyOf k with
    | some k => match lookD kvs k with
      | some y => .ok y (setS S (putC os r.1 (.dct (dropD kvs k))) ρ2)
      | none => .no
    | none => .no
  | _, _ => .no
/-- o[k], k over changes -/
def dkKM (S : Nat) (go : Rho → Res D) (gi : Rho → ResM D) : Rho → ResM D := fun ρ => (liftM (go ρ) ρ).bind fun d ρ0 => (gi ρ0).bind fun k ρ1 => match plD (stoR S ρ1) d, keyOf k with
  | .ok r, some k => match r.2 with
    | .dct kvs => match lookD kvs k with
      | some y => .ok y ρ1
      | none => .no
    | _ => .no
  | _, _ => .no
/-- a, b, .. = e over changes -/
def sUnpM (b : Bnd) (g : Rho → ResM D) : Rho → Out := fun ρ => thenM (g ρ) fun d ρ1 => match b d ρ1 with
  | some ρ' => .nx ρ'
  | none => .no
end
def dLenD : List D → Res D
  | [.dct ds] => .ok (.int ds.length)
  | _ => .no
theorem RpP.len {K : PySem.W.Frag} {B : Hp} : ∀ {kvs : List (Key × V)} {ds : List (D × D)}, RpP K B kvs ds → kvs.length = ds.length
  | _, _, .nil => rfl
  | _, _, .consI _ r => by simp [RpP.len r]
  | _, _, .consS _ r => by simp [RpP.len r]
theorem RpT.len {K : PySem.W.Frag} {B : Hp} : ∀ {kvs : List (List Key × V)} {ds : List (D × D)}, RpT K B kvs ds → kvs.length = ds.length
  | _, _, .nil => rfl
  | _, _, .cons _ r => by simp [RpT.len r]
def rListDD (K : PySem.W.Frag) : List V → Hp → VK → Prop := fun xs H Q => rListD xs H Q ∨ ∃ d, xs = [V.ref d] ∧ H d = some (.dT []) ∧ ∀ p, H p = none → Q (.ref p) (upd H p (.lst []))
theorem call_listDD {X : Cx} (hc : X.calm = true) : CallR X (.type "list") (rListDD X.K) := by
  intro pins s σ H xs us Q I r h
  rcases h with h | ⟨d, rfl, hd, q⟩
  · exact call_list_dK hc pins s σ H xs us Q I r h
  · refine call_list_dT hc pins s σ H _ us Q I r ⟨d, [], rfl, .inl hd, fun p bs hp hk => ?_⟩
    cases hk
    exact q p hp
def dListD : List D → Res (List D)
  | [.dct ds] => if keyedD ds = true then .ok (ds.map (·.1)) else .no
  | _ => .no
theorem RpP.keys {K : PySem.W.Frag} {B : Hp} : ∀ {kvs : List (Key × V)} {ds : List (D × D)}, RpP K B kvs ds → RpA K B (kvs.map fun kv => kV kv.1) (ds.map (·.1))
  | _, _, .nil => .nil
  | _, _, .consI _ r => .cons (.int _) (RpP.keys r)
  | _, _, .consS _ r => .cons (.str _) (RpP.keys r)
theorem fn_listD {X : Cx} (hc : X.calm = true) : ∃ r, CallR X (.type "list") r ∧ CallN X r dListD := by
  refine ⟨_, call_listDD hc, fun ds e h => ?_, fun F own B H vs ds Q g hx q => ?_⟩
  · unfold dListD at h
    split at h
    · split at h <;> cases h
    · cases h
  · unfold dListD at q
    split at q
    · rename_i xs
      split at q
      · rename_i hk
        obtain ⟨v, rfl, hv⟩ := hx.one
        obtain ⟨l, o, rfl, hl, rv⟩ := hv.dct g
        rcases rv with ⟨ps, rfl, r⟩ | ⟨ps, rfl, r⟩
        · exact .inl ⟨l, ps, rfl, hl, fun p hn => new_lstN g r.keys q p hn⟩
        · cases r with
          | nil => exact .inr ⟨l, rfl, hl, fun p hn => new_lstN g .nil q p hn⟩
          | cons _ _ =>
            unfold keyedD at hk
            rw [List.all_cons, Bool.and_eq_true] at hk
            cases hk.1
      · exact q.elim
    · exact q.elim
end T
set_option Elab.async false
set_option linter.all false
set_option maxRecDepth 100000
set_option maxHeartbeats 4000000
namespace T
open PySem PySem.Spec PyProof.Rows L2
variable [Mg]
section
variable {X : Cx} {W : WX} {L : LM} {G G' : List Mode} {e o i : Expr} {f x : Str} {pos pos' apos cpos tpos : Pos} {S : Nat}
/-- p.remove(e): the list holds texts, e among them -/
def sRemC (S : Nat) (gp : Rho → Res (Pl × D)) (g : Rho → Res D) : Rho → Out := fun ρ => atC S gp ρ fun os p ds => thenS (g ρ) ρ fun y => match y, D.strs ds with
  | .str k, some ns => if ns.idxOf k < ns.length then .nx (setS S (putC os p (.lst (ds.eraseIdx (ns.idxOf k)))) ρ) else .no
  | _, _ => .no
@[simp] theorem sRemC_ap {gp : Rho → Res (Pl × D)} {g : Rho → Res D} {ρ : Rho} : sRemC S gp g ρ = atC S gp ρ fun os p ds => thenS (g ρ) ρ fun y => match y, D.strs ds with
  | .str k, some ns => if ns.idxOf k < ns.length then .nx (setS S (putC os p (.lst (ds.eraseIdx (ns.idxOf k)))) ρ) else .no
  | _, _ => .no := mk_eq rfl
end
end T
set_option Elab.async false
set_option linter.all false
set_option maxRecDepth 100000
set_option maxHeartbeats 4000000
namespace T
open PySem PySem.Spec PyProof.Rows L2
/-- as FnOk, where it is known that nothing is being displayed -/
structure FnG (P : Program) (w : World) (K : PySem.W.Frag) (mg : Str → Option Value) (base : Heap) (k : Nat) (f : Addr) (fd : FuncData) (ps : List Str) (sp : Sp) : Prop where
  len : ∀ vs H Q E, sp vs H Q E → vs.length = ps.length
  run : ∀ (A : Around) (outer : List Env) (s : Shared) (H : Hp) (us : List Value) (vs : List V) (Q : VK) (E : XK), A.guards = some [] → Room k A → Env0 P w K mg base A outer s H →
    BindsTo s fd ⟨us, []⟩ (ps.zip us) → Vals vs us → sp vs H Q E → codeAny (model P w) A (.call (.ref f) ⟨us, []⟩) (CR (L2.CX P w) outer P w H s Q E) s
theorem FnG.imp {P : Program} {w : World} {K : PySem.W.Frag} {mg : Str → Option Value} {base : Heap} {k : Nat} {f : Addr} {fd : FuncData} {ps : List Str} {sp sp' : Sp} (F : FnG P w K mg base k f fd ps sp) (h : ∀ vs H Q E, sp' vs H Q E → sp vs H Q E) : FnG P w K mg base k f fd ps sp' :=
  ⟨fun vs H Q E z => F.len vs H Q E (h _ _ _ _ z), fun A outer s H us vs Q E hg hr e0 hb r z => F.run A outer s H us vs Q E hg hr e0 hb r (h _ _ _ _ z)⟩
variable [Mg]
end T
set_option Elab.async false
set_option linter.all false
set_option maxRecDepth 100000
set_option maxHeartbeats 4000000
namespace T
open PySem PySem.Spec PyProof.Rows L2
end T
set_option Elab.async false
set_option linter.all false
set_option maxRecDepth 100000
set_option maxHeartbeats 4000000
namespace T
open PySem PySem.Spec PyProof.Rows L2
end T
set_option Elab.async false
set_option linter.all false
set_option maxRecDepth 100000
set_option maxHeartbeats 4000000
namespace T
open PySem PySem.Spec PyProof.Rows L2
end T
set_option Elab.async false
set_option linter.all false
set_option maxRecDepth 100000
set_option maxHeartbeats 4000000
namespace T
open PySem PySem.Spec PyProof.Rows L2
def dStripC : D → List D → Res D
  | .str a, [.str b] => if a.length ≤ sizeLine then .ok (.str (Txt.stripChars a b)) else .no
  | _, _ => .no
variable [Mg] {X : Cx}
theorem mth_strip : ∃ r, MtR X "str.strip" r ∧ MethD X r dStripC := by
  refine ⟨_, mt_stripChars, fun d ds e h => ?_, fun F own B H v d vs ds Q g hv hx q => ?_⟩
  · unfold dStripC at h
    split at h <;> (try split at h) <;> cases h
  · unfold dStripC at q
    split at q
    · cases hv.str
      obtain ⟨v, rfl, hv⟩ := hx.one
      cases hv.str
      split at q
      · rename_i hz
        exact ⟨_, _, rfl, rfl, hz, q _ _ _ (.refl g) (.str _)⟩
      · exact q.elim
    · exact q.elim
end T
set_option Elab.async false
set_option linter.all false
set_option maxRecDepth 100000
set_option maxHeartbeats 4000000
namespace T
open PySem PySem.Spec PyProof.Rows L2
def kvsAt (os : List D) (d : D) : Res (List (D × D)) := match refN d with
  | some n => match os[n]? with
    | some (.dct kvs) => if keyedD kvs = true then .ok kvs else .no
    | _ => .no
  | none => .no
/-- dict(d), a thing of its own -/
def dcopyM (S : Nat) (g : Rho → Res D) : Rho → ResM D := fun ρ => match stoR S ρ with
  | some os => (liftM ((g ρ).bind fun d => kvsAt os d) ρ).bind fun kvs ρ1 => .ok (refD os.length) (setS S (os ++ [.dct kvs]) ρ1)
  | none => .no
variable [Mg]
section
variable {X : Cx} {W : WX} {G : List Mode} {e : Expr} {p pos : Pos} {S : Nat}
theorem mj_dictC {g : Rho → Res D} (he : PJ X W G e g) (hg : Gl X "dict") (hm : X.mg "dict" = none) (hse : starEach [e] X.env = (false, eval e X.env) :: starEach [] X.env := by rfl) (hpl : (backTo pos (starEach [] X.env)).any (·.1) = false := by rfl)
    (hS : G.getD S .fz = .sto := by rfl) (hfl : flatG S G = true := by rfl) : MJ X W G .any (.Call (.Name "dict" p) [e] [] pos) (dcopyM S g) := by
  obtain ⟨te, pe, ve⟩ := he
  refine ⟨_, pe_callTy call_dictD hg hm PyProof.Rows.boot_dict (pa_cons pe pa_nil hse) (by decide) (by decide) hse hpl, fun F ρ own B σ H Q gd q => ?_⟩
  unfold dcopyM at q
  split at q
  case h_2 => exact q.elim
  rename_i os hos
  have q := ResM.has_bind q
  refine ve F ρ own B σ H _ gd (Res.has_mono (Res.has_bind (liftM_has q)) (fun d q v B1 H1 s1 r => ?_) fun _ x => WMk.ok gd x)
  have g1 := gd.step s1
  unfold kvsAt at q
  split at q
  case h_2 => exact q.elim
  rename_i n hn
  split at q
  case h_2 => exact q.elim
  rename_i kvs hds
  split at q
  case isFalse => exact q.elim
  rename_i hk
  obtain ⟨a, rfl, rfl, hao⟩ := r.ref hn
  obtain ⟨o, h3, h4⟩ := (g1.sto hS hos).obj hds hao
  obtain ⟨ps, rfl, h5⟩ := h4.keyed hk
  refine ⟨a, ps, rfl, .inl h3, fun pp hp => ?_⟩
  have g2 := g1.step (Step.garbage g1.gr (.dK ps) hp)
  obtain ⟨k1, k2⟩ := good_new (d := .dct kvs) g2 hS hfl hos (g1.gr.bfresh hp) (g1.gr.ffresh hp) (g1.gr.ofresh hp) (by rw [upd_same]; exact fun z => nomatch z) ⟨.dK ps, upd_same, h5.anyD⟩
  exact q (.ref pp) _ B1 _ (s1.g.trans k1) k2 (.inr ⟨_, pp, rfl, rfl, if_pos rfl⟩)
end
end T
set_option Elab.async false
set_option linter.all false
set_option maxRecDepth 100000
set_option maxHeartbeats 4000000
namespace T
open PySem PySem.Spec PyProof.Rows L2
def EqArg (K : PySem.W.Frag) (C : Addr) (y : V) (H : Hp) : Prop := (∃ z, y = .str z) ∨ ∃ b, y = .ref b ∧ ((∃ dx vs, H b = some (.ins C dx vs)) ∨ ∃ xs, SqT K H b xs)
theorem nf_str {K : PySem.W.Frag} {C : Addr} : PySem.W.notFirst K C (.type "str") = true := by
  unfold PySem.W.notFirst
  have : PySem.W.subIn K (.type "str") (.ref C) = some false := by first | rfl | kernel_rfl
  rw [this]
  simp
theorem nf_tup {K : PySem.W.Frag} {C : Addr} : PySem.W.notFirst K C (.type "tuple") = true := by
  unfold PySem.W.notFirst
  have : PySem.W.subIn K (.type "tuple") (.ref C) = some false := by first | rfl | kernel_rfl
  rw [this]
  simp
theorem looks_str {M : Model} {h : Heap} {z : Str} {t : Tok} : PySem.W.Looks M h (typeOf (.str z t)) (.type "str") := by
  have : typeOf (.str z t) = pure (.type "str") := rfl
  rw [this]
  exact .now
def rOwn (K : PySem.W.Frag) (C : Addr) (sp : Sp) : R2 := fun x y H Q => (∃ a dx vs, x = .ref a ∧ H a = some (.ins C dx vs)) ∧ EqArg K C y H ∧ sp [x, y] H (fun v H' => ∃ c, v = .bl c ∧ Q v H') (fun _ _ _ => False)
theorem op_own {X : Cx} {n : Nat} {C f : Addr} {fd : FuncData} {ps : List Str} {sp : Sp} (F : FnOk X.prog X.w X.K X.mg X.base (L2.CX X.prog X.w) n f fd ps sp)
    (hs : PySem.W.findIn X.K (.ref C) "__eq__" = some (some (.ref f))) (hf : PySem.W.isFn X.K (.ref f) = true) (hb : Binds X.K fd ps []) (hr : Room n X.A) : OpR X (compareOp .Eq) (rOwn X.K C sp) := by
  intro pins s σ H x y u v Q I rx ry hq
  obtain ⟨⟨a, dx, fs, rfl, ha⟩, hy, hsp⟩ := hq
  cases rx
  obtain ⟨mA, J, _⟩ := ins_get I.hok ha
  obtain ⟨od, J, _⟩ := J.look
  obtain ⟨m, hF⟩ := I.fr
  show wpAny (model X.prog X.w) X.A (richCompare .Eq (.ref a) v) (EP X pins σ Q) X.xe s
  have hty : ∃ tb, PySem.W.Looks (model X.prog X.w) s.heap (typeOf v) tb ∧ PySem.W.notFirst X.K C tb = true := by
    rcases hy with ⟨z, rfl⟩ | ⟨b, rfl, hb' | ⟨xs, hb'⟩⟩
    · obtain ⟨t, rfl⟩ := ry
      exact ⟨.type "str", looks_str, nf_str⟩
    · cases ry
      obtain ⟨dy, gs, hb'⟩ := hb'
      obtain ⟨mB, J', _⟩ := ins_get I.hok hb'
      obtain ⟨od', J', _⟩ := J'.look
      exact ⟨_, J'.type, by simp [PySem.W.notFirst]⟩
    · cases ry
      obtain ⟨its, r, ht, _⟩ := I.tuple hb'
      obtain ⟨o, ho, hc⟩ := ht.typeIs
      exact ⟨.type "tuple", hc ▸ (PySem.W.Looks.ld ho).andThen .now, nf_tup⟩
  obtain ⟨tb, hlk, hnf⟩ := hty
  refine PySem.W.cmp_K (op := .Eq) (tb := tb) hr.units0 hF I.ok.mod.kin J hlk hnf hs hf ?_
  have e0 : Env0 X.prog X.w X.K X.mg X.base X.A X.stack s H := I.env0
  have hl := F.len _ _ _ _ hsp
  have r2 : Vals [V.ref a, y] [Value.ref a, v] := .cons rfl (.cons ry .nil)
  refine wpAny_call (codeAny_mono (F.run X.A X.stack s H ⟨[.ref a, v], []⟩ [.ref a, v] [.ref a, y] _ _ hr e0 (by
    have := hb s [.ref a, v] I.kIn (by simpa using hl)
    simpa using this) r2 hsp) fun r s' hq => ?_)
  cases r with
  | error e =>
    obtain ⟨_, _, _, _, _, _, _, _, _, _, _, _, h⟩ := hq
    exact h.elim
  | ok fl =>
    cases fl with
    | ret w =>
      obtain ⟨z, H', I', rz, ⟨c, ez, q⟩⟩ := I.after hq
      subst ez
      cases rz
      exact ⟨.bl c, H', I', rfl, q⟩
    | next => exact False.elim hq
    | brk => exact False.elim hq
    | cont => exact False.elim hq
def okArgS (c : Nat) (so : Option (List D)) (d : D) : Bool := isClsS c so d || match d with
  | .str _ => true
  | .tup _ => true
  | _ => false
/-- a == b by the __eq__ m of class c -/
def eqS (c : Nat) (m : List D → List D → ResS) (S : Nat) (go : Rho → Res D) (gb : Rho → ResM D) : Rho → ResM D := fun ρ => (liftM (go ρ) ρ).bind fun dx ρ1 => (gb ρ1).bind fun dy ρ2 =>
  if isClsS c (stoR S ρ2) dx = true ∧ okArgS c (stoR S ρ2) dy = true then match callR m S [dx, dy] ρ2 with
    | .ok (.bl b) ρ3 => .ok (.bl b) ρ3
    | _ => .no
  else .no
variable [Mg]
section
variable {X : Cx} {W : WX} {G : List Mode} {o b : Expr} {pos : Pos} {k n c S : Nat} {a : Addr} {fd : FuncData} {ps : List Str} {mm : List D → List D → ResS}
theorem cls_ins {F B H : Hp} {own : Own} {ρ : Rho} {σ : L2.St} {v : V} {d : D} (gd : Good X.K F G ρ own B σ H) (hS : G.getD S .fz = .sto) (hc : isClsS c (stoR S ρ) d = true) (r : AnyR X.K B own v d) : ∃ b dx vs, v = .ref b ∧ H b = some (.ins (Mg.cls c) dx vs) := by
  unfold isClsS at hc
  split at hc
  case h_2 => cases hc
  rename_i j os hn hos
  split at hc
  case h_2 => cases hc
  rename_i c' ds' hj
  have hcc : c' = c := by simpa using hc
  subst hcc
  obtain ⟨b, rfl, rfl, ho⟩ := r.ref hn
  obtain ⟨dx, vs, h1, h2, h3, h4⟩ := (gd.sto hS hos).obj hj ho
  exact ⟨b, dx, vs, rfl, h1⟩
theorem ev_eqS {to tb : TE} {go : Rho → Res D} {gb : Rho → ResM D} (hlen : ∀ os ds, ds.length ≠ n → mm os ds = .no) (vo : EvP X W G to go) (vb : EvM X W G .any tb gb) (hS : G.getD S .fz = .sto) (hfl : flatG S G = true) : EvM X W G .fz (tOp (rOwn X.K (Mg.cls c) (spS X.K X.mg n mm)) to tb) (eqS c mm S go gb) := fun F ρ own B σ H Q gd q => by
  have q := ResM.has_bind q
  refine vo F ρ own B σ H _ gd (Res.has_mono (liftM_has q) (fun dx q v B' H' s r => ?_) fun e x => WMk.ok gd x)
  have gd1 := gd.step s
  refine vb F ρ own B' σ H' _ gd1 (ResM.has_mono (ResM.has_bind q) (fun dy ρ2 q u own2 B2 H2 e2 g2 r2 => ?_) fun e ρ2 x => x.ext s.g)
  split at q
  case isFalse => exact q.elim
  rename_i hc
  have rx := r.gr e2
  have r2' : AnyR X.K B2 own2 u dy := r2
  refine ⟨cls_ins g2 hS hc.1 rx, ?_, ?_⟩
  · have h2 := hc.2
    unfold okArgS at h2
    rw [Bool.or_eq_true] at h2
    rcases h2 with h2 | h2
    · obtain ⟨b, dx, vs, e1, e2⟩ := cls_ins g2 hS h2 r2'
      exact .inr ⟨b, e1, .inl ⟨dx, vs, e2⟩⟩
    · split at h2
      · rename_i z
        have rp := r2'.fz rfl
        cases rp
        exact .inl ⟨_, rfl⟩
      · rename_i xs
        rcases r2' with ⟨hn, rp⟩ | ⟨n, a, h1, _⟩
        · obtain ⟨l, vs, e, h, _⟩ := rp.tupI
          exact .inr ⟨l, e, .inr ⟨vs, SqT.ext h g2.gr.same⟩⟩
        · cases h1
      · cases h2
  · refine callR_at (W := fun _ _ _ _ => False) (mm := mm) (S := S) (ds := [dx, dy]) (Q := fun v H' => ∃ c, v = .bl c ∧ Q v H') hlen hS hfl (s.g.trans e2) g2 (.cons rx (.cons r2' .nil)) ?_
    cases hcr : callR mm S [dx, dy] ρ2 with
    | no =>
      rw [hcr] at q
      exact q.elim
    | ex e ρ3 =>
      rw [hcr] at q
      exact q.elim
    | ok d ρ3 =>
      rw [hcr] at q
      cases d with
      | bl c =>
        intro v own' B3 H3 e3 g3 rv
        have rv' : AnyR X.K B3 own' v (.bl c) := rv
        have rp := rv'.fz rfl
        have q2 := q v own' B3 H3 e3 g3 rp
        cases rp
        exact ⟨c, rfl, q2⟩
      | _ => exact q.elim
theorem mj_eqS {go : Rho → Res D} {gb : Rho → ResM D} (M : MethC X.K c "__eq__" a) (hlen : ∀ os ds, ds.length ≠ n → mm os ds = .no) (Fn : FnOk X.prog X.w X.K X.mg X.base (L2.CX X.prog X.w) k a fd ps (spS X.K X.mg n mm)) (hr : Room k X.A) (hb : Binds X.K fd ps []) (ho : PJ X W G o go) (hv : MJ X W G .any b gb)
    (hS : G.getD S .fz = .sto := by rfl) (hfl : flatG S G = true := by rfl) (hm : behindInMarks .Eq b = false := by rfl) : MJ X W G .fz (.Compare o [.Eq] [b] pos) (eqS c mm S go gb) := by
  obtain ⟨to, po, vo⟩ := ho
  obtain ⟨tb, pb, vb⟩ := hv
  exact ⟨_, pe_cmpR (op_own Fn M.meth.at_ M.meth.fn hb hr) po pb hm, ev_eqS hlen vo vb hS hfl⟩
theorem tmj_eqS {go : Rho → Res D} {gb : Rho → ResM D} (M : MethC X.K c "__eq__" a) (hlen : ∀ os ds, ds.length ≠ n → mm os ds = .no) (Fn : FnOk X.prog X.w X.K X.mg X.base (L2.CX X.prog X.w) k a fd ps (spS X.K X.mg n mm)) (hr : Room k X.A) (hb : Binds X.K fd ps []) (ho : PJ X W G o go) (hv : MJ X W G .any b gb)
    (hS : G.getD S .fz = .sto := by rfl) (hfl : flatG S G = true := by rfl) (hm : behindInMarks .Eq b = false := by rfl) : TMJ X W G (.Compare o [.Eq] [b] pos) (toBM (eqS c mm S go gb)) := by
  obtain ⟨to, po, vo⟩ := ho
  obtain ⟨tb, pb, vb⟩ := hv
  exact ⟨_, pt_cmpR (op_own Fn M.meth.at_ M.meth.fn hb hr) po pb hm, ev_testM (ev_eqS hlen vo vb hS hfl)⟩
structure InsX (K : PySem.W.Frag) (C : Addr) : Prop where
  ins : C8.InsC K C
  st : PySem.W.kitOne K (.type "str") (.ref C) = some false
  tp : PySem.W.kitOne K (.type "tuple") (.ref C) = some false
theorem kit_tn {K : PySem.W.Frag} {C : Addr} {n : String} (hn : PySem.W.subIn K (.type n) (.ref C) = some false) (hd : PySem.W.hasDictIn K C = true) (ht : PySem.W.typeIn K (.ref C) = some (.type "type")) : PySem.W.kitOne K (.type n) (.ref C) = some false := by
  have hc : (PySem.W.clsIn K C).isSome = true := by
    unfold PySem.W.hasDictIn at hd
    cases h : PySem.W.clsIn K C with
    | none => rw [h] at hd; cases hd
    | some _ => rfl
  unfold PySem.W.kitOne
  rw [if_neg (by simp)]
  unfold PySem.W.kitCls
  simp only
  rw [if_pos (by rw [hc, ht]; simp), hn]
theorem insx_of {K : PySem.W.Frag} {C : Addr} (cl : Cls K C) (ha : PySem.W.findIn K (.ref C) "__class__" = some (some (.builtin "object.__class__"))) (hn : PySem.W.specialIn K (.builtin "object.__class__") "__get__" = some (some (.builtin "getset_descriptor.__get__")))
    (htk : PySem.W.takesIn K (.builtin "object.__class__") = some true) (hm : PySem.W.mroIn K C (.type "object") = some true) (ht : PySem.W.typeIn K (.ref C) = some (.type "type")) : InsX K C :=
  ⟨⟨cl, ha, hn, htk, hm, by unfold PySem.W.kitOne; rw [if_pos (by simp)]⟩, kit_tn (by first | rfl | kernel_rfl) cl.hd ht, kit_tn (by first | rfl | kernel_rfl) cl.hd ht⟩
def isiS (c S : Nat) (g : Rho → Res D) : Rho → Res D := fun ρ => (g ρ).bind fun d => if isClsS c (stoR S ρ) d = true then .ok (.bl true) else match d with
  | .str _ => .ok (.bl false)
  | .tup _ => .ok (.bl false)
  | _ => .no
theorem ej_isiC {e : Expr} {g : Rho → Res D} {cn : Str} {p p2 : Pos} (Tx : InsX X.K (Mg.cls c)) (he : PJ X W G e g) (hg : Gl X "isinstance") (hm : X.mg "isinstance" = none) (hgc : Gl X cn) (hmc : X.mg cn = some (.ref (Mg.cls c)))
    (hS : G.getD S .fz = .sto := by rfl) (hd : (cn == ("__debug__" : Str)) = false := by decide)
    (h1 : starEach [e, .Name cn p2] X.env = (false, eval e X.env) :: starEach [.Name cn p2] X.env := by rfl) (h2 : starEach [.Name cn p2] X.env = (false, eval (.Name cn p2) X.env) :: starEach [] X.env := by rfl)
    (hpl : (backTo pos (starEach [.Name cn p2] X.env)).any (·.1) = false := by rfl) : EJ X W G (.Call (.Name "isinstance" p) [e, .Name cn p2] [] pos) (isiS c S g) := by
  obtain ⟨te, pe, ve⟩ := he
  refine ⟨_, pe_callB call_isi hg hm boot_isinstance (pa_cons pe (pa_cons (C8.pe_gc (v := .ref (Mg.cls c)) hgc ⟨.ref (Mg.cls c), hmc, rfl⟩ hd) pa_nil h2) h1) (by decide) (by decide) h1 hpl, fun F ρ own B σ H Q gd q => ?_⟩
  refine ve F ρ own B σ H _ gd (Res.has_mono (Res.has_bind q) (fun d q v B' H' s r => ?_) fun _ x => x)
  show rIsi X.K [v, .ref (Mg.cls c)] H' Q
  split at q
  · rename_i hc
    have hc' : isClsS c (stoR S ρ) d = true := hc
    obtain ⟨b, dx, vs, rfl, h3⟩ := cls_ins (gd.step s) hS hc' r
    exact ⟨_, _, _, _, true, rfl, .own _, .base (TyOf.ins h3 Tx.ins.cl Tx.ins.ha Tx.ins.hn Tx.ins.htk Tx.ins.hm), Tx.ins.me, q _ B' H' s (.bl true)⟩
  · split at q
    · have rp := r.fz rfl
      cases rp
      exact ⟨_, _, _, _, false, rfl, .own _, .base (.str _), Tx.st, q _ B' H' s (.bl false)⟩
    · rename_i xs _
      rcases r with ⟨hn, rp⟩ | ⟨n, a, h3, _⟩
      · obtain ⟨l, vs, rfl, h, _⟩ := rp.tupI
        exact ⟨_, _, _, _, false, rfl, .own _, SqT.tyx (SqT.ext h (gd.step s).gr.same), Tx.tp, q _ B' H' s (.bl false)⟩
      · cases h3
    · exact q.elim
end
end T
set_option Elab.async false
set_option linter.all false
set_option maxRecDepth 100000
set_option maxHeartbeats 4000000
namespace T
open PySem PySem.Spec PyProof.Rows L2
end T
set_option Elab.async false
set_option linter.all false
set_option maxRecDepth 100000
set_option maxHeartbeats 4000000
namespace T
open PySem PySem.Spec PyProof.Rows L2
end T
set_option Elab.async false
set_option linter.all false
set_option maxRecDepth 100000
set_option maxHeartbeats 4000000
namespace T
open PySem PySem.Spec PyProof.Rows L2
end T
set_option Elab.async false
set_option linter.all false
set_option maxRecDepth 100000
set_option maxHeartbeats 4000000
namespace T
open PySem PySem.Spec PyProof.Rows L2
end T
set_option Elab.async false
set_option linter.all false
set_option maxRecDepth 100000
set_option maxHeartbeats 4000000
namespace T
open PySem PySem.Spec PyProof.Rows L2
end T
set_option Elab.async false
set_option linter.all false
set_option maxRecDepth 100000
set_option maxHeartbeats 4000000
namespace T
open PySem L2
/-- how a block ends: by itself, by continue, by break, by return -/
inductive Fl (S R : Type) where
  | nx (s : S) | ct (s : S) | bk (s : S) | rt (r : R)
def Fl.all {S R β : Type} (f : Fl S R) (nx : S → β) (ct : S → β) (bk : S → β) (rt : R → β) : β := match f with
  | .nx s => nx s
  | .ct s => ct s
  | .bk s => bk s
  | .rt r => rt r
@[simp] theorem Fl.all_nx {S R β : Type} {s : S} {nx ct bk : S → β} {rt : R → β} : (Fl.nx s : Fl S R).all nx ct bk rt = nx s := mk_eq rfl
@[simp] theorem Fl.all_ct {S R β : Type} {s : S} {nx ct bk : S → β} {rt : R → β} : (Fl.ct s : Fl S R).all nx ct bk rt = ct s := mk_eq rfl
@[simp] theorem Fl.all_bk {S R β : Type} {s : S} {nx ct bk : S → β} {rt : R → β} : (Fl.bk s : Fl S R).all nx ct bk rt = bk s := mk_eq rfl
@[simp] theorem Fl.all_rt {S R β : Type} {r : R} {nx ct bk : S → β} {rt : R → β} : (Fl.rt r : Fl S R).all nx ct bk rt = rt r := mk_eq rfl
def foldR {S γ : Type} (f : S → γ → Res S) : List γ → S → Res S
  | [], s => .ok s
  | x :: xs, s => (f s x).bind fun s' => foldR f xs s'
/-- a loop that may break or return -/
def foldF {S R γ : Type} (f : S → γ → Res (Fl S R)) : List γ → S → Res (Fl S R)
  | [], s => .ok (.nx s)
  | x :: xs, s => (f s x).bind fun r => r.all (fun s' => foldF f xs s') (fun s' => foldF f xs s') (fun s' => .ok (.nx s')) (fun d => .ok (.rt d))
/-- a comprehension -/
def mapR {α γ : Type} (f : γ → Res α) : List γ → Res (List α)
  | [] => .ok []
  | x :: xs => (f x).calm.bind fun y => (mapR f xs).bind fun ys => .ok (y :: ys)
def filR {γ α : Type} (c : γ → Res Bool) (f : γ → Res α) : List γ → Res (List α)
  | [] => .ok []
  | x :: xs => (c x).calm.bind fun k => if k = true then (f x).calm.bind fun y => (filR c f xs).bind fun ys => .ok (y :: ys) else filR c f xs
/-- at most as long as may be -/
def szR {α : Type} (xs : List α) : Res (List α) := if xs.length ≤ sizeLine then .ok xs else .no
def asB : D → Res Bool
  | .bl b => .ok b
  | _ => .no
def asI : D → Res (Option Int)
  | .int i => .ok (some i)
  | _ => .no
def asLs : D → Res (List D)
  | .lst xs => .ok xs
  | _ => .no
def asS : D → Res Str
  | .str s => .ok s
  | _ => .no
def un1 {α : Type} (x : D) (k : D → Res α) : Res α := match x with
  | .tup [a] => k a
  | .lst [a] => k a
  | _ => .no
def un2 {α : Type} (x : D) (k : D → D → Res α) : Res α := match x with
  | .tup [a, b] => k a b
  | .lst [a, b] => k a b
  | _ => .no
def un3 {α : Type} (x : D) (k : D → D → D → Res α) : Res α := match x with
  | .tup [a, b, c] => k a b c
  | .lst [a, b, c] => k a b c
  | _ => .no
def un4 {α : Type} (x : D) (k : D → D → D → D → Res α) : Res α := match x with
  | .tup [a, b, c, d] => k a b c d
  | .lst [a, b, c, d] => k a b c d
  | _ => .no
def un5 {α : Type} (x : D) (k : D → D → D → D → D → Res α) : Res α := match x with
  | .tup [a, b, c, d, e] => k a b c d e
  | .lst [a, b, c, d, e] => k a b c d e
  | _ => .no
def un6 {α : Type} (x : D) (k : D → D → D → D → D → D → Res α) : Res α := match x with
  | .tup [a, b, c, d, e, f] => k a b c d e f
  | .lst [a, b, c, d, e, f] => k a b c d e f
  | _ => .no
def un7 {α : Type} (x : D) (k : D → D → D → D → D → D → D → Res α) : Res α := match x with
  | .tup [a, b, c, d, e, f, g] => k a b c d e f g
  | .lst [a, b, c, d, e, f, g] => k a b c d e f g
  | _ => .no
@[simp] theorem un1_t {α : Type} {a : D} {k : D → Res α} : un1 (.tup [a]) k = k a := mk_eq rfl
@[simp] theorem un1_l {α : Type} {a : D} {k : D → Res α} : un1 (.lst [a]) k = k a := mk_eq rfl
@[simp] theorem un2_t {α : Type} {a b : D} {k : D → D → Res α} : un2 (.tup [a, b]) k = k a b := mk_eq rfl
@[simp] theorem un2_l {α : Type} {a b : D} {k : D → D → Res α} : un2 (.lst [a, b]) k = k a b := mk_eq rfl
@[simp] theorem un3_t {α : Type} {a b c : D} {k : D → D → D → Res α} : un3 (.tup [a, b, c]) k = k a b c := mk_eq rfl
@[simp] theorem un3_l {α : Type} {a b c : D} {k : D → D → D → Res α} : un3 (.lst [a, b, c]) k = k a b c := mk_eq rfl
@[simp] theorem un4_t {α : Type} {a b c d : D} {k : D → D → D → D → Res α} : un4 (.tup [a, b, c, d]) k = k a b c d := mk_eq rfl
@[simp] theorem un5_t {α : Type} {a b c d e : D} {k : D → D → D → D → D → Res α} : un5 (.tup [a, b, c, d, e]) k = k a b c d e := mk_eq rfl
@[simp] theorem un6_t {α : Type} {a b c d e f : D} {k : D → D → D → D → D → D → Res α} : un6 (.tup [a, b, c, d, e, f]) k = k a b c d e f := mk_eq rfl
@[simp] theorem un7_t {α : Type} {a b c d e f g : D} {k : D → D → D → D → D → D → D → Res α} : un7 (.tup [a, b, c, d, e, f, g]) k = k a b c d e f g := mk_eq rfl
@[simp] theorem asB_b {b : Bool} : asB (.bl b) = .ok b := mk_eq rfl
@[simp] theorem asI_i {i : Int} : asI (.int i) = .ok (some i) := mk_eq rfl
@[simp] theorem asLs_l {xs : List D} : asLs (.lst xs) = .ok xs := mk_eq rfl
@[simp] theorem asS_s {s : Str} : asS (.str s) = .ok s := mk_eq rfl
def pushR (xs : List D) (d : D) : Res D := if xs.length < sizeLine then .ok (.lst (xs ++ [d])) else .no
def extR (xs : List D) (d : D) : Res D := match d with
  | .lst ys => if xs.length + ys.length ≤ sizeLine then .ok (.lst (xs ++ ys)) else .no
  | _ => .no
def putR (xs : List D) (k d : D) : Res D := match k with
  | .int k => match ixN xs.length k with
    | some j => .ok (.lst (xs.set j d))
    | none => .no
  | _ => .no
def cutR (xs : List D) (l u : Option Int) (d : D) : Res D := match d, l, u with
  | .lst ys, some a, some c => if 0 ≤ a ∧ a ≤ c ∧ c ≤ xs.length ∧ xs.length + ys.length ≤ sizeLine then .ok (.lst (xs.take a.toNat ++ ys ++ xs.drop c.toNat)) else .no
  | _, _, _ => .no
def asN : D → Res Int
  | .int i => .ok i
  | _ => .no
@[simp] theorem asN_i {i : Int} : asN (.int i) = .ok i := mk_eq rfl
def asIns : D → Res (Nat × List D)
  | .ins c es => .ok (c, es)
  | _ => .no
@[simp] theorem asIns_i {c : Nat} {es : List D} : asIns (.ins c es) = .ok (c, es) := mk_eq rfl
def lkR (tab : List (Str × D)) (k : Str) : Res D := match tab.lookup k with
  | some d => .ok d
  | none => .no
/-- what is borrowed is not in the result -/
def noLR : Res D → Res D
  | .ok d => if d.noL = true then .ok d else .no
  | .ex e => if e.fs.isEmpty = true then .ex e else .no
  | .no => .no
/-- a try: the classes, what is tried, the suites -/
def tryR {α : Type} (cl : List Str) (P : Res α) (h : Exn → Res α) : Res α := match P with
  | .ex e => if e.cls ∈ cl then h e else .no
  | r => r
@[simp] theorem tryR_ok {α : Type} {cl : List Str} {a : α} {h : Exn → Res α} : tryR cl (.ok a) h = .ok a := mk_eq rfl
@[simp] theorem tryR_ex {α : Type} {cl : List Str} {e : Exn} {h : Exn → Res α} : tryR cl (.ex e : Res α) h = if e.cls ∈ cl then h e else .no := mk_eq rfl
abbrev Gb := Nat → Option D
def nth : Rho → Gb
  | [], _ => none
  | a :: _, 0 => a
  | _ :: l, n + 1 => nth l n
section
variable {α β S R : Type} {X : Rho → Prop} {C : α → Out → Prop} {ρ : Rho} {i : Nat}
def SatD (X : Rho → Prop) (C : α → Out → Prop) (P : Res α) (o : Out) : Prop := match P with
  | .no => True
  | .ex e => ∃ ρ, o = .ex e ρ ∧ X ρ
  | .ok a => C a o
/-- (a structure: so it is not evaluated) -/
structure Sat (X : Rho → Prop) (C : α → Out → Prop) (P : Res α) (o : Out) : Prop where
  val : SatD X C P o
theorem sat_then {γ : Type} {e E : Res γ} {k : γ → Res α} {K : γ → Out} (he : e = E) (hx : X ρ) (h : ∀ d, Sat X C (k d) (K d)) : Sat X C (E.bind k) (thenS e ρ K) := by
  subst he
  cases e with
  | ok a => exact h a
  | ex e => exact ⟨⟨ρ, rfl, hx⟩⟩
  | no => exact ⟨trivial⟩
/-- the ends of a def -/
def CT (d : D) (o : Out) : Prop := o = .rt d ∨ (d = .non ∧ ∃ ρ, o = .nx ρ)
def CF (Γ : S → Gb → Rho) (RC : R → Out → Prop) (f : Fl S R) (o : Out) : Prop := match f with
  | .nx s => ∃ g, o = .nx (Γ s g)
  | .ct s => ∃ g, o = .ct (Γ s g)
  | .bk s => ∃ g, o = .bk (Γ s g)
  | .rt r => RC r o
/-- what a return is, apart from the slots -/
def RT (d : D) (o : Out) : Prop := o = .rt d
theorem sat_last {s : Rho → Out} {P : Res α} (h : Sat X C P (sSeq s sSkip ρ)) : Sat X C P (s ρ) := by
  have e : sSeq s sSkip ρ = s ρ := by
    unfold sSeq sSkip
    cases s ρ <;> rfl
  rwa [e] at h
theorem sat_assoc {a b c : Rho → Out} {P : Res α} (h : Sat X C P (sSeq a (sSeq b c) ρ)) : Sat X C P (sSeq (sSeq a b) c ρ) := by
  have e : sSeq (sSeq a b) c ρ = sSeq a (sSeq b c) ρ := by
    unfold sSeq
    cases a ρ <;> rfl
  rwa [e]
theorem sat_skip {b : Rho → Out} {P : Res α} (h : Sat X C P (b ρ)) : Sat X C P (sSeq sSkip b ρ) := h
variable {b f g : Rho → Out}
theorem seq_then {γ : Type} {r : Res γ} {K : γ → Out} {s : Rho → Out} (h : s ρ = thenS r ρ K) : sSeq s b ρ = thenS r ρ fun d => match K d with
    | .nx ρ' => b ρ'
    | o => o := by
  unfold sSeq
  rw [h]
  cases r <;> rfl
theorem thenS_bind {γ δ : Type} {A : Res γ} {h : γ → Res δ} {K : δ → Out} : thenS (A.bind h) ρ K = thenS A ρ fun a => thenS (h a) ρ K := by cases A <;> rfl
theorem bind_assoc {γ δ ε : Type} {A : Res γ} {h : γ → Res δ} {k : δ → Res ε} : (A.bind h).bind k = A.bind fun a => (h a).bind k := by cases A <;> rfl
/-- a statement that stores -/
theorem sat_stmt {γ : Type} {s : Rho → Out} {E : Res γ} {F : γ → Rho} {k : γ → Res α} (hs : s ρ = thenS E ρ fun d => .nx (F d)) (hx : X ρ) (h : ∀ d, Sat X C (k d) (b (F d))) : Sat X C (E.bind k) (sSeq s b ρ) := by
  rw [seq_then hs]
  exact sat_then rfl hx h
theorem nth_get {d : D} : ∀ {ρ : Rho} {i : Nat}, nth ρ i = some d → ρ[i]? = some (some d)
  | [], i, h => by cases h
  | a :: l, 0, h => by
    have h : a = some d := h
    subst h
    rfl
  | a :: l, i + 1, h => nth_get (ρ := l) (i := i) h
section
variable {d : D} {e gk ga : Rho → Res D} {E EK EA : Res D} {en : Rho → Res (List D)} {EN : Res (List D)}
theorem s_set (he : e ρ = E) : sSet i e ρ = thenS E ρ fun d => .nx (ρ.set i (some d)) := by rw [← he]; rfl
theorem s_setN (he : en ρ = EN) : sSetN i en ρ = thenS EN ρ fun d => .nx (ρ.set i (some (.lst d))) := by rw [← he]; rfl
theorem atL_n {k : List D → Out} (ha : nth ρ i = some d) : atL i ρ k = thenS (asLs d) ρ k := by
  unfold atL
  rw [nth_get ha]
  cases d <;> rfl
theorem s_setI (ha : nth ρ i = some d) (he : e ρ = E) (hk : gk ρ = EK) : sSetI i gk e ρ = thenS (E.bind fun y => (asLs d).bind fun xs => EK.bind fun k => putR xs k y) ρ fun d => .nx (ρ.set i (some d)) := by
  subst he hk
  unfold sSetI
  rw [thenS_bind]
  congr 1
  funext y
  rw [atL_n ha, thenS_bind]
  congr 1
  funext xs
  rw [thenS_bind]
  congr 1
  funext k
  cases k with
  | int k =>
    simp only [putR]
    cases ixN xs.length k <;> rfl
  | _ => rfl
end
theorem sat_retT {e : Rho → Res D} {E : Res D} (he : e ρ = E) (hx : X ρ) : Sat X CT E (sRet e ρ) := by
  subst he
  unfold sRet
  cases e ρ with
  | ok d => exact ⟨.inl rfl⟩
  | ex e => exact ⟨⟨ρ, rfl, hx⟩⟩
  | no => exact ⟨trivial⟩
theorem sat_retF {Γ : S → Gb → Rho} {e : Rho → Res D} {E : Res D} (he : e ρ = E) (hx : X ρ) : Sat X (CF Γ RT) (E.bind fun d => .ok (.rt d)) (sRet e ρ) := by
  subst he
  unfold sRet
  cases e ρ with
  | ok d => exact ⟨rfl⟩
  | ex e => exact ⟨⟨ρ, rfl, hx⟩⟩
  | no => exact ⟨trivial⟩
theorem sat_endF {Γ : S → Gb → Rho} {RC : R → Out → Prop} {s : S} (h : ρ = Γ s (nth ρ)) : Sat X (CF Γ RC) (.ok (.nx s)) (sSkip ρ) := ⟨⟨nth ρ, congrArg Out.nx h⟩⟩
/-- a test, and what follows behind each arm -/
theorem sat_ifS {c : Rho → Res Bool} {E : Res Bool} {P Q : Res α} (hc : c ρ = E) (hx : X ρ) (h1 : Sat X C P (sSeq f b ρ)) (h2 : Sat X C Q (sSeq g b ρ)) : Sat X C (E.bind fun k => if k = true then P else Q) (sSeq (sIf c f g) b ρ) := by
  subst hc
  unfold sSeq sIf at *
  cases c ρ with
  | ok k => cases k <;> assumption
  | ex e => exact ⟨⟨ρ, rfl, hx⟩⟩
  | no => exact ⟨trivial⟩
/-- an arm that never ends by itself -/
theorem sat_cut {P : Res α} {s : Rho → Out} (h : Sat X C P (s ρ)) (n : ∀ ρ', s ρ ≠ .nx ρ') : Sat X C P (sSeq s b ρ) := by
  have e : sSeq s b ρ = s ρ := by
    unfold sSeq
    cases h : s ρ with
    | nx ρ' => exact absurd h (n ρ')
    | _ => rfl
  rwa [e]
/-- a block with ways out, and what follows; its ways out are those of the whole -/
theorem sat_seqF {Γ : S → Gb → Rho} {RC : R → Out → Prop} {P : Res (Fl S R)} {k : S → Res α} {kc kb : S → Res α} {kr : R → Res α} {s : Rho → Out} (h : Sat X (CF Γ RC) P (s ρ)) (h2 : ∀ s g, Sat X C (k s) (b (Γ s g)))
    (hc : ∀ s g, Sat X C (kc s) (.ct (Γ s g))) (hb : ∀ s g, Sat X C (kb s) (.bk (Γ s g))) (hr : ∀ r o, RC r o → Sat X C (kr r) o ∧ ∀ ρ', o ≠ .nx ρ') : Sat X C (P.bind fun r => r.all k kc kb kr) (sSeq s b ρ) := by
  unfold sSeq
  cases P with
  | ok a =>
    cases a with
    | nx a =>
      obtain ⟨g, e⟩ := h.val
      rw [e]
      exact h2 a g
    | ct a =>
      obtain ⟨g, e⟩ := h.val
      rw [e]
      exact hc a g
    | bk a =>
      obtain ⟨g, e⟩ := h.val
      rw [e]
      exact hb a g
    | rt r =>
      obtain ⟨q, n⟩ := hr r _ h.val
      cases e : s ρ with
      | nx ρ' => exact absurd e (n ρ')
      | _ =>
        rw [e] at q
        exact q
  | ex e =>
    obtain ⟨ρ', e, hx⟩ := h.val
    rw [e]
    exact ⟨⟨ρ', rfl, hx⟩⟩
  | no => exact ⟨trivial⟩
theorem rt_T {d : D} {o : Out} (h : RT d o) : Sat X CT (.ok d) o ∧ ∀ ρ', o ≠ .nx ρ' := by
  unfold RT at h
  subst h
  exact ⟨⟨.inl rfl⟩, fun ρ' z => nomatch z⟩
theorem nn_then {γ : Type} {r : Res γ} {K : γ → Out} (h : ∀ a ρ', K a ≠ .nx ρ') : ∀ ρ', thenS r ρ K ≠ .nx ρ' := fun ρ' z => by
  cases r with
  | ok a => exact h a ρ' z
  | ex e => cases z
  | no => cases z
theorem nn_ret {e : Rho → Res D} : ∀ ρ', sRet e ρ ≠ .nx ρ' := nn_then fun _ _ z => nomatch z
/-- what follows a test, named -/
theorem sat_join {σ : Type} {J : σ → Res α} {Γ : σ → Gb → Rho} {P : Res α} {s : Rho → Out} (hJ : ∀ s g, Sat X C (J s) (b (Γ s g))) (h : (∀ s ρ', ρ' = Γ s (nth ρ') → Sat X C (J s) (b ρ')) → Sat X C P (sSeq s b ρ)) : Sat X C P (sSeq s b ρ) :=
  h fun s ρ' e => by
    have q := hJ s (nth ρ')
    rwa [← e] at q
def bodyB (b : Bnd) (body : Rho → Out) (x : D) (ρ : Rho) : Out := match b x ρ with
  | some ρ1 => body ρ1
  | none => .no
def bodyE {α : Type} (b : Bnd) (f : Rho → Res α) (x : D) (ρ : Rho) : Res α := match b x ρ with
  | some ρ1 => f ρ1
  | none => .no
theorem forM_cons {bn : Bnd} {body : Rho → Out} {x : D} {xs : List D} : forM bn body (x :: xs) ρ = match bodyB bn body x ρ with
    | .nx ρ2 => forM bn body xs ρ2
    | .ct ρ2 => forM bn body xs ρ2
    | .bk ρ2 => .nx ρ2
    | o => o := by
  unfold bodyB
  rw [forM]
  cases bn x ρ <;> rfl
theorem forM_satF {Γ : S → Gb → Rho} {RC : R → Out → Prop} {bn : Bnd} {body : Rho → Out} {f : S → D → Res (Fl S R)} (hr : ∀ r o, RC r o → (∃ d, o = .rt d) ∨ ∃ d ρ, o = .rl d ρ) (h : ∀ s x g, Sat X (CF Γ RC) (f s x) (bodyB bn body x (Γ s g))) : ∀ (xs : List D) (s : S) (g : Gb), Sat X (CF Γ RC) (foldF f xs s) (forM bn body xs (Γ s g))
  | [], s, g => ⟨⟨g, rfl⟩⟩
  | x :: xs, s, g => by
    rw [forM_cons, foldF]
    have h1 := h s x g
    cases e : f s x with
    | ok r =>
      rw [e] at h1
      cases r with
      | nx s' =>
        obtain ⟨g', e'⟩ := h1.val
        rw [e']
        exact forM_satF hr h xs s' g'
      | ct s' =>
        obtain ⟨g', e'⟩ := h1.val
        rw [e']
        exact forM_satF hr h xs s' g'
      | bk s' =>
        obtain ⟨g', e'⟩ := h1.val
        rw [e']
        exact ⟨⟨g', rfl⟩⟩
      | rt r =>
        have h1 : RC r _ := h1.val
        rcases hr r _ h1 with ⟨d, e2⟩ | ⟨d, ρ2, e2⟩ <;> rw [e2] at h1 ⊢ <;> exact ⟨h1⟩
    | ex z =>
      rw [e] at h1
      obtain ⟨ρ', e', hx⟩ := h1.val
      rw [e']
      exact ⟨⟨ρ', rfl, hx⟩⟩
    | no => exact ⟨trivial⟩
theorem sat_forF {Γ : S → Gb → Rho} {RC : R → Out → Prop} {src : Rho → Res (List D)} {E : Res (List D)} {bn : Bnd} {body : Rho → Out} {fp : S → D → Res (Fl S R)} {s0 : S} (hr : ∀ r o, RC r o → (∃ d, o = .rt d) ∨ ∃ d ρ, o = .rl d ρ) (he : src ρ = E) (hx : X ρ) (h0 : ρ = Γ s0 (nth ρ)) (h : ∀ s x g, Sat X (CF Γ RC) (fp s x) (bodyB bn body x (Γ s g))) :
    Sat X (CF Γ RC) (E.bind fun xs => foldF fp xs s0) (sFor src bn body ρ) := by
  unfold sFor
  refine sat_then he hx fun xs => ?_
  have q := forM_satF hr h xs s0 (nth ρ)
  rwa [← h0] at q
theorem rc_T : ∀ (r : D) o, RT r o → (∃ d, o = .rt d) ∨ ∃ d ρ, o = .rl d ρ := fun r o h => .inl ⟨r, h⟩
end
end T
set_option Elab.async false
set_option linter.all false
set_option maxRecDepth 100000
set_option maxHeartbeats 4000000
namespace T
open PySem L2
section
variable {α β S R : Type} {X : Rho → Prop} {C : α → Out → Prop} {ρ : Rho} {i : Nat}
section
variable {a b c : Rho → Res D} {A B Cc : Res D} {p q : Rho → Res Bool} {P Q : Res Bool} {as bs : Rho → Res (List D)} {AS BS : Res (List D)} {l h : Rho → Res (Option Int)} {L H : Res (Option Int)} {γ : Type}
theorem e_get {d : D} (h : nth ρ i = some d) : getV i ρ = .ok d := by
  unfold getV
  rw [nth_get h]
theorem e_con {d : D} : conD d ρ = .ok d := rfl
theorem e_bin {f : D → D → Res γ} (ha : a ρ = A) (hb : b ρ = B) : bin f a b ρ = A.bind fun x => B.bind fun y => f x y := by rw [← ha, ← hb]; rfl
theorem e_toB (ha : a ρ = A) : toB a ρ = A.bind asB := by
  rw [← ha]
  unfold toB
  congr 1
theorem e_tru (ha : a ρ = A) : truV a ρ = A.bind dTru := by rw [← ha]; rfl
theorem e_items (ha : a ρ = A) : itemsV a ρ = A.bind dItems := by rw [← ha]; rfl
theorem e_and (hp : p ρ = P) (hq : q ρ = Q) : andB p q ρ = P.bind fun k => if k = true then Q else .ok false := by rw [← hp, ← hq]; rfl
theorem e_or (hp : p ρ = P) (hq : q ρ = Q) : orB p q ρ = P.bind fun k => if k = true then .ok true else Q := by rw [← hp, ← hq]; rfl
theorem e_not (hp : p ρ = P) : notB p ρ = P.bind fun k => .ok (!k) := by rw [← hp]; rfl
theorem e_andV (ha : a ρ = A) (hb : b ρ = B) : andV a b ρ = A.bind fun d => (asB d).bind fun k => if k = true then B else .ok (.bl false) := by
  rw [← ha, ← hb]
  unfold andV
  congr 1
  funext d
  cases d <;> rfl
theorem e_orV (ha : a ρ = A) (hb : b ρ = B) : orV a b ρ = A.bind fun d => (asB d).bind fun k => if k = true then .ok (.bl true) else B := by
  rw [← ha, ← hb]
  unfold orV
  congr 1
  funext d
  cases d <;> rfl
theorem e_chain {f g : D → D → Res D} (ha : a ρ = A) (hb : b ρ = B) (hc : c ρ = Cc) : chainV f g a b c ρ = A.bind fun x => B.bind fun y => (f x y).bind fun z => (asB z).bind fun k => if k = true then Cc.bind fun w => g y w else .ok (.bl false) := by
  rw [← ha, ← hb, ← hc]
  unfold chainV
  congr 1
  funext x
  congr 1
  funext y
  congr 1
  funext z
  cases z <;> rfl
theorem e_noA : noA ρ = .ok [] := rfl
theorem e_consA (ha : a ρ = A) (hs : as ρ = AS) : consA a as ρ = A.bind fun d => AS.bind fun ds => .ok (d :: ds) := by rw [← ha, ← hs]; rfl
theorem e_call {f : List D → Res γ} (hs : as ρ = AS) : callV f as ρ = AS.bind f := by rw [← hs]; rfl
theorem e_lstD (hs : as ρ = AS) : lstD as ρ = AS.bind fun ds => .ok (.lst ds) := by rw [← hs]; rfl
theorem e_lstV (hs : as ρ = AS) : lstV as ρ = AS.bind szR := by rw [← hs]; rfl
theorem e_tup (hs : as ρ = AS) : tupV as ρ = AS.bind fun ds => (szR ds).bind fun ds => .ok (.tup ds) := by
  rw [← hs]
  unfold tupV szR
  congr 1
  funext ds
  split <;> rfl
theorem e_noPart : noPart ρ = .ok none := rfl
theorem e_part (ha : a ρ = A) : toPart a ρ = A.bind asI := by
  rw [← ha]
  unfold toPart
  congr 1
theorem e_sl {f : D → Option Int → Option Int → Res γ} (ha : a ρ = A) (hl : l ρ = L) (hh : h ρ = H) : slV f a l h ρ = A.bind fun x => L.bind fun l => H.bind fun u => f x l u := by rw [← ha, ← hl, ← hh]; rfl
theorem e_meth {n : String} {f : D → List D → Res γ} (ha : a ρ = A) (hs : as ρ = AS) : methV n f a as ρ = A.bind fun d => if d.isTy n = true then AS.bind fun ds => f d ds else .no := by rw [← ha, ← hs]; rfl
theorem lcM_eq {bn : Bnd} {f : Rho → Res D} {F : D → Res D} (hf : ∀ x, bodyE bn f x ρ = F x) : ∀ xs : List D, lcM bn yesB f ρ xs = mapR F xs
  | [] => rfl
  | x :: xs => by
    rw [mapR, ← hf x, ← lcM_eq hf xs, lcM]
    unfold bodyE
    cases bn x ρ <;> rfl
theorem e_comp {bn : Bnd} {f : Rho → Res D} {vs : List Nat} {F : D → Res D} (hs : as ρ = AS) (hf : ∀ x, bodyE bn f x (wipeR ρ vs) = F x) : compV as bn yesB f vs ρ = AS.bind fun xs => (szR xs).bind fun xs => mapR F xs := by
  rw [← hs]
  unfold compV szR
  congr 1
  funext xs
  rw [lcM_eq hf]
  split <;> rfl
theorem lcM_eqF {bn : Bnd} {c : Rho → Res Bool} {f : Rho → Res D} {Cd : D → Res Bool} {F : D → Res D} (hc : ∀ x, bodyE bn c x ρ = Cd x) (hf : ∀ x, bodyE bn f x ρ = F x) : ∀ xs : List D, lcM bn c f ρ xs = filR Cd F xs
  | [] => rfl
  | x :: xs => by
    rw [filR, ← hc x, ← hf x, ← lcM_eqF hc hf xs, lcM]
    unfold bodyE
    cases bn x ρ <;> rfl
theorem e_compF {bn : Bnd} {c : Rho → Res Bool} {f : Rho → Res D} {vs : List Nat} {Cd : D → Res Bool} {F : D → Res D} (hs : as ρ = AS) (hc : ∀ x, bodyE bn c x (wipeR ρ vs) = Cd x) (hf : ∀ x, bodyE bn f x (wipeR ρ vs) = F x) : compV as bn c f vs ρ = AS.bind fun xs => (szR xs).bind fun xs => filR Cd F xs := by
  rw [← hs]
  unfold compV szR
  congr 1
  funext xs
  rw [lcM_eqF hc hf]
  split <;> rfl
def excR (sub : Str → Str → Bool) (e : Exn) (c : Str) (d : D) : Res D := match d with
  | .exc [] => .ok (.bl (sub e.cls c))
  | _ => .no
@[simp] theorem excR_n {sub : Str → Str → Bool} {e : Exn} {c : Str} : excR sub e c (.exc []) = .ok (.bl (sub e.cls c)) := mk_eq rfl
end
theorem runF_sat {n N : Nat} {m : Rho → Out} {ds : List D} {P : Res D} (hn : ds.length = n) (h : Sat (fun _ => True) CT P (m (startR N ds))) : P = .no ∨ runF n N m ds = P := by
  unfold runF
  rw [if_pos hn]
  cases P with
  | no => exact .inl rfl
  | ok d =>
    rcases h.val with h | ⟨h1, ρ, h⟩
    · rw [h]
      exact .inr rfl
    · rw [h, h1]
      exact .inr rfl
  | ex e =>
    obtain ⟨ρ, h, _⟩ := h.val
    rw [h]
    exact .inr rfl
theorem of_sat {P r : Res D} {d : D} (h : P = .no ∨ r = P) (e : P = .ok d) : r = .ok d := by
  rcases h with h | h
  · rw [h] at e
    cases e
  · rw [h, e]
end
end T
set_option Elab.async false
set_option linter.all false
set_option maxRecDepth 100000
set_option maxHeartbeats 4000000
namespace T
open PySem L2
section
variable {α β S R : Type} {X : Rho → Prop} {C : α → Out → Prop} {ρ : Rho} {i : Nat} {b : Rho → Out}
theorem sat_nm {body : Rho → Out} {x : D} {P : Res α} (h : Sat X C P (body (ρ.set i (some x)))) : Sat X C P (bodyB (bNm i) body x ρ) := h
end
end T
set_option Elab.async false
set_option linter.all false
set_option maxRecDepth 100000
set_option maxHeartbeats 4000000
namespace T
open PySem L2
section
variable {α β γ δ S R : Type} {x y : Int} {a b c d e f : D} {xs ys : List D} {l : List D}
@[simp] theorem rbind_assoc {A : Res α} {h : α → Res β} {k : β → Res γ} : (A.bind h).bind k = A.bind fun a => (h a).bind k := bind_assoc
@[simp] theorem rite_ok {p : Prop} [Decidable p] {a b : α} : (if p then Res.ok a else Res.ok b) = Res.ok (if p then a else b) := by split <;> rfl
@[simp] theorem ite_int {p : Prop} [Decidable p] : (if p then D.int x else D.int y) = D.int (if p then x else y) := by split <;> rfl
@[simp] theorem ite_bl {p : Prop} [Decidable p] {x y : Bool} : (if p then D.bl x else D.bl y) = D.bl (if p then x else y) := by split <;> rfl
@[simp] theorem ite_str {p : Prop} [Decidable p] {x y : Str} : (if p then D.str x else D.str y) = D.str (if p then x else y) := by split <;> rfl
theorem size_line : sizeLine = 16777216 := by decide
@[simp] theorem ite_size {n : Nat} {A B : α} (h : n ≤ 16777216) : (if n ≤ sizeLine then A else B) = A := if_pos (by rw [size_line]; exact h)
@[simp] theorem ite_sizeL {n : Nat} {A B : α} (h : n < 16777216) : (if n < sizeLine then A else B) = A := if_pos (by rw [size_line]; exact h)
@[simp] theorem szR_ok {xs : List α} (h : xs.length ≤ 16777216) : szR xs = .ok xs := by unfold szR; rw [ite_size h]
@[simp] theorem pushR_ok (h : xs.length < 16777216) : pushR xs d = .ok (.lst (xs ++ [d])) := by unfold pushR; rw [ite_sizeL h]
@[simp] theorem extR_ok (h : xs.length + ys.length ≤ 16777216) : extR xs (.lst ys) = .ok (.lst (xs ++ ys)) := by unfold extR; simp only; rw [ite_size h]
@[simp] theorem dMod_k (h : 0 < y) : dMod (.int x) (.int y) = .ok (.int (x % y)) := dMod_ok h
theorem pos_log {k : Int} (h : 0 < k) (h' : k ≤ 1000000000000) : 0 < k ∧ k.natAbs.log2 < 9000 := ⟨h, by
  have h2 : k.natAbs < 2 ^ 9000 := Nat.lt_of_le_of_lt (m := 1000000000000) (by omega) (Nat.lt_of_lt_of_le (by decide : 1000000000000 < 2 ^ 40) (Nat.pow_le_pow_right (by decide) (by decide)))
  exact (Nat.log2_lt (by omega)).mpr h2⟩
@[simp] theorem dDiv_k (h : 0 < y) (h' : y ≤ 1000000000000) : dDiv (.int x) (.int y) = .ok (.int (x / y)) := dDiv_ok (pos_log h h')
theorem cm_ss (h1 : -(2 ^ 64) < x) (h2 : x < 2 ^ 64) (h3 : -(2 ^ 64) < y) (h4 : y < 2 ^ 64) : CMulX x y := T.Fits.mul (fits_small h1 h2) (fits_small h3 h4) (by decide)
/-- at most some millions of bits -/
def Wd (x : Int) : Prop := Fits 2000000 x
theorem Wd.small (h1 : -(2 ^ 64) < x) (h2 : x < 2 ^ 64) : Wd x := (fits_small h1 h2).mono (by decide)
theorem cm_ww (h : Wd x) (h' : Wd y) : CMulX x y := T.Fits.mul h h' (by decide)
theorem cm_sw (h1 : -(2 ^ 64) < x) (h2 : x < 2 ^ 64) (h : Wd y) : CMulX x y := cm_ww (.small h1 h2) h
theorem cm_ws (h : Wd x) (h1 : -(2 ^ 64) < y) (h2 : y < 2 ^ 64) : CMulX x y := cm_ww h (.small h1 h2)
@[simp] theorem dMul_k (h : CMulX x y) : dMul (.int x) (.int y) = .ok (.int (x * y)) := dMul_ok h
@[simp] theorem dInt_b {p : Bool} : dInt [.bl p] = .ok (.int (if p then 1 else 0)) := mk_eq rfl
@[simp] theorem isNon_n : D.non.isNon = true := mk_eq rfl
@[simp] theorem isNon_i : (D.int x).isNon = false := mk_eq rfl
@[simp] theorem isNon_b {p : Bool} : (D.bl p).isNon = false := mk_eq rfl
@[simp] theorem isNon_s {s : Str} : (D.str s).isNon = false := mk_eq rfl
@[simp] theorem isNon_l : (D.lst xs).isNon = false := mk_eq rfl
@[simp] theorem isNon_t : (D.tup xs).isNon = false := mk_eq rfl
@[simp] theorem isNon_d {kvs : List (D × D)} : (D.dct kvs).isNon = false := mk_eq rfl
@[simp] theorem isNon_o {n : Nat} : (D.ins n xs).isNon = false := mk_eq rfl
theorem atI_nat {xs : List α} {i : Nat} {x : α} (h : xs[i]? = some x) : atI xs (i : Int) = some x := by
  have hl := (List.getElem?_eq_some_iff.mp h).1
  unfold atI ixN
  rw [if_pos (by omega), if_pos (by omega)]
  simpa using h
theorem atI_z {xs : List α} {z : Int} {i : Nat} {x : α} (e : z = (i : Int)) (h : xs[i]? = some x) : atI xs z = some x := by rw [e]; exact atI_nat h
@[simp] theorem dIx_t0 {a0 : D} : dIx (.tup (a0 :: l)) (.int 0) = .ok a0 := dIx_t (atI_nat (i := 0) rfl)
@[simp] theorem dIx_t1 {a0 a1 : D} : dIx (.tup (a0 :: a1 :: l)) (.int 1) = .ok a1 := dIx_t (atI_nat (i := 1) rfl)
@[simp] theorem dIx_t2 {a0 a1 a2 : D} : dIx (.tup (a0 :: a1 :: a2 :: l)) (.int 2) = .ok a2 := dIx_t (atI_nat (i := 2) rfl)
@[simp] theorem dIx_t3 {a0 a1 a2 a3 : D} : dIx (.tup (a0 :: a1 :: a2 :: a3 :: l)) (.int 3) = .ok a3 := dIx_t (atI_nat (i := 3) rfl)
@[simp] theorem dIx_t4 {a0 a1 a2 a3 a4 : D} : dIx (.tup (a0 :: a1 :: a2 :: a3 :: a4 :: l)) (.int 4) = .ok a4 := dIx_t (atI_nat (i := 4) rfl)
@[simp] theorem dIx_t5 {a0 a1 a2 a3 a4 a5 : D} : dIx (.tup (a0 :: a1 :: a2 :: a3 :: a4 :: a5 :: l)) (.int 5) = .ok a5 := dIx_t (atI_nat (i := 5) rfl)
@[simp] theorem dIx_t6 {a0 a1 a2 a3 a4 a5 a6 : D} : dIx (.tup (a0 :: a1 :: a2 :: a3 :: a4 :: a5 :: a6 :: l)) (.int 6) = .ok a6 := dIx_t (atI_nat (i := 6) rfl)
@[simp] theorem dIx_t7 {a0 a1 a2 a3 a4 a5 a6 a7 : D} : dIx (.tup (a0 :: a1 :: a2 :: a3 :: a4 :: a5 :: a6 :: a7 :: l)) (.int 7) = .ok a7 := dIx_t (atI_nat (i := 7) rfl)
@[simp] theorem dIx_t8 {a0 a1 a2 a3 a4 a5 a6 a7 a8 : D} : dIx (.tup (a0 :: a1 :: a2 :: a3 :: a4 :: a5 :: a6 :: a7 :: a8 :: l)) (.int 8) = .ok a8 := dIx_t (atI_nat (i := 8) rfl)
@[simp] theorem dIx_t9 {a0 a1 a2 a3 a4 a5 a6 a7 a8 a9 : D} : dIx (.tup (a0 :: a1 :: a2 :: a3 :: a4 :: a5 :: a6 :: a7 :: a8 :: a9 :: l)) (.int 9) = .ok a9 := dIx_t (atI_nat (i := 9) rfl)
@[simp] theorem dIx_l0 {a0 : D} : dIx (.lst (a0 :: l)) (.int 0) = .ok a0 := dIx_l (atI_nat (i := 0) rfl)
@[simp] theorem dIx_l1 {a0 a1 : D} : dIx (.lst (a0 :: a1 :: l)) (.int 1) = .ok a1 := dIx_l (atI_nat (i := 1) rfl)
@[simp] theorem dIx_l2 {a0 a1 a2 : D} : dIx (.lst (a0 :: a1 :: a2 :: l)) (.int 2) = .ok a2 := dIx_l (atI_nat (i := 2) rfl)
@[simp] theorem dIx_l3 {a0 a1 a2 a3 : D} : dIx (.lst (a0 :: a1 :: a2 :: a3 :: l)) (.int 3) = .ok a3 := dIx_l (atI_nat (i := 3) rfl)
@[simp] theorem dIx_l4 {a0 a1 a2 a3 a4 : D} : dIx (.lst (a0 :: a1 :: a2 :: a3 :: a4 :: l)) (.int 4) = .ok a4 := dIx_l (atI_nat (i := 4) rfl)
@[simp] theorem dIx_l5 {a0 a1 a2 a3 a4 a5 : D} : dIx (.lst (a0 :: a1 :: a2 :: a3 :: a4 :: a5 :: l)) (.int 5) = .ok a5 := dIx_l (atI_nat (i := 5) rfl)
@[simp] theorem dIx_l6 {a0 a1 a2 a3 a4 a5 a6 : D} : dIx (.lst (a0 :: a1 :: a2 :: a3 :: a4 :: a5 :: a6 :: l)) (.int 6) = .ok a6 := dIx_l (atI_nat (i := 6) rfl)
@[simp] theorem dIx_l7 {a0 a1 a2 a3 a4 a5 a6 a7 : D} : dIx (.lst (a0 :: a1 :: a2 :: a3 :: a4 :: a5 :: a6 :: a7 :: l)) (.int 7) = .ok a7 := dIx_l (atI_nat (i := 7) rfl)
@[simp] theorem dIx_l8 {a0 a1 a2 a3 a4 a5 a6 a7 a8 : D} : dIx (.lst (a0 :: a1 :: a2 :: a3 :: a4 :: a5 :: a6 :: a7 :: a8 :: l)) (.int 8) = .ok a8 := dIx_l (atI_nat (i := 8) rfl)
@[simp] theorem dIx_l9 {a0 a1 a2 a3 a4 a5 a6 a7 a8 a9 : D} : dIx (.lst (a0 :: a1 :: a2 :: a3 :: a4 :: a5 :: a6 :: a7 :: a8 :: a9 :: l)) (.int 9) = .ok a9 := dIx_l (atI_nat (i := 9) rfl)
/-- of a list of one kind, at a place that is told -/
theorem dIx_lz {h : α → D} {xs : List α} {z : Int} {i : Nat} {v : α} (e : z = (i : Int)) (hv : xs[i]? = some v) : dIx (.lst (xs.map h)) (.int z) = .ok (h v) := dIx_l (atI_z e (by rw [List.getElem?_map, hv]; rfl))
theorem dIx_tz {h : α → D} {xs : List α} {z : Int} {i : Nat} {v : α} (e : z = (i : Int)) (hv : xs[i]? = some v) : dIx (.tup (xs.map h)) (.int z) = .ok (h v) := dIx_t (atI_z e (by rw [List.getElem?_map, hv]; rfl))
@[simp] theorem dIx_ln {h : α → D} {xs : List α} {i : Nat} (hi : i < xs.length) : dIx (.lst (xs.map h)) (.int (i : Int)) = .ok (h (xs[i]'hi)) := dIx_lz rfl (List.getElem?_eq_getElem hi)
@[simp] theorem dIx_tn {h : α → D} {xs : List α} {i : Nat} (hi : i < xs.length) : dIx (.tup (xs.map h)) (.int (i : Int)) = .ok (h (xs[i]'hi)) := dIx_tz rfl (List.getElem?_eq_getElem hi)
@[simp] theorem dIx_li {h : Int → D} {xs : List Int} {z : Int} (h0 : 0 ≤ z) (h1 : z < xs.length) : dIx (.lst (xs.map h)) (.int z) = .ok (h (xs.getD z.toNat 0)) := dIx_lz (i := z.toNat) (by omega) (by
  rw [List.getD_eq_getElem?_getD, List.getElem?_eq_getElem (by omega)]
  rfl)
theorem cut_01 {x : α} {xs : List α} : cutL (x :: xs) (some 1) none = xs := (cut_from (x :: xs) 1 1 rfl (by simp)).trans rfl
@[simp] theorem dSl_t1 : dSl (.tup (a :: l)) (some 1) none = .ok (.tup l) := by rw [dSl_t, cut_01]
@[simp] theorem dSl_l1 : dSl (.lst (a :: l)) (some 1) none = .ok (.lst l) := by rw [dSl_l, cut_01]
@[simp] theorem foldR_nil {f : S → γ → Res S} {s : S} : foldR f [] s = .ok s := mk_eq rfl
@[simp] theorem foldR_cons {f : S → γ → Res S} {s : S} {x : γ} {xs : List γ} : foldR f (x :: xs) s = (f s x).bind fun s' => foldR f xs s' := mk_eq rfl
@[simp] theorem foldR_map {f : S → γ → Res S} {h : δ → γ} : ∀ {xs : List δ} {s : S}, foldR f (xs.map h) s = foldR (fun s x => f s (h x)) xs s
  | [], _ => rfl
  | x :: xs, s => by
    simp only [List.map_cons, foldR_cons]
    congr 1
    funext s'
    exact foldR_map
@[simp] theorem foldF_nil {f : S → γ → Res (Fl S R)} {s : S} : foldF f [] s = .ok (.nx s) := mk_eq rfl
@[simp] theorem foldF_cons {f : S → γ → Res (Fl S R)} {s : S} {x : γ} {xs : List γ} : foldF f (x :: xs) s = (f s x).bind fun r => r.all (fun s' => foldF f xs s') (fun s' => foldF f xs s') (fun s' => .ok (.nx s')) (fun d => .ok (.rt d)) := mk_eq rfl
@[simp] theorem foldF_map {f : S → γ → Res (Fl S R)} {h : δ → γ} : ∀ {xs : List δ} {s : S}, foldF f (xs.map h) s = foldF (fun s x => f s (h x)) xs s
  | [], _ => rfl
  | x :: xs, s => by
    simp only [List.map_cons, foldF_cons]
    congr 1
    funext r
    cases r with
    | nx s' => exact foldF_map
    | ct s' => exact foldF_map
    | _ => rfl
@[simp] theorem mapR_nil {f : γ → Res α} : mapR f [] = .ok [] := mk_eq rfl
theorem mapR_cons {f : γ → Res α} {x : γ} {xs : List γ} : mapR f (x :: xs) = (f x).calm.bind fun y => (mapR f xs).bind fun ys => .ok (y :: ys) := mk_eq rfl
@[simp] theorem mapR_map {f : γ → Res α} {h : δ → γ} : ∀ {xs : List δ}, mapR f (xs.map h) = mapR (fun x => f (h x)) xs
  | [] => rfl
  | x :: xs => by simp only [List.map_cons, mapR_cons, mapR_map]
theorem mapR_ok {f : γ → Res α} {g : γ → α} : ∀ {xs : List γ}, (∀ x ∈ xs, f x = .ok (g x)) → mapR f xs = .ok (xs.map g)
  | [], _ => rfl
  | x :: xs, h => by rw [mapR_cons, h x List.mem_cons_self, Res.calm_ok, Res.bind_ok, mapR_ok fun y hy => h y (List.mem_cons_of_mem _ hy)]; rfl
@[simp] theorem mapR_pure {g : γ → α} {xs : List γ} : mapR (fun x => .ok (g x)) xs = .ok (xs.map g) := mapR_ok fun _ _ => rfl
/-- each element is some P -/
theorem mapR_ex {f : γ → Res α} {h : β → α} {P : γ → β → Prop} : ∀ {xs : List γ}, (∀ x ∈ xs, ∃ y, P x y ∧ f x = .ok (h y)) → ∃ ys : List β, ys.length = xs.length ∧ (∀ y ∈ ys, ∃ x ∈ xs, P x y) ∧ (∀ (i : Nat) (x : γ) (y : β), xs[i]? = some x → ys[i]? = some y → P x y) ∧ mapR f xs = .ok (ys.map h)
  | [], _ => ⟨[], rfl, by simp, by simp, rfl⟩
  | x :: xs, H => by
    obtain ⟨y, hp, e⟩ := H x List.mem_cons_self
    obtain ⟨ys, h1, h2, h3, h4⟩ := mapR_ex fun z hz => H z (List.mem_cons_of_mem _ hz)
    refine ⟨y :: ys, by simp [h1], fun z hz => ?_, fun i a b ha hb => ?_, ?_⟩
    · rcases List.mem_cons.mp hz with rfl | hz
      · exact ⟨x, List.mem_cons_self, hp⟩
      · obtain ⟨w, hw, p⟩ := h2 z hz
        exact ⟨w, List.mem_cons_of_mem _ hw, p⟩
    · cases i with
      | zero =>
        cases ha
        cases hb
        exact hp
      | succ i => exact h3 i a b (by simpa using ha) (by simpa using hb)
    · rw [mapR_cons, e, Res.calm_ok, Res.bind_ok, h4]
      rfl
theorem filR_cons {c : γ → Res Bool} {f : γ → Res α} {x : γ} {xs : List γ} : filR c f (x :: xs) = (c x).calm.bind fun k => if k = true then (f x).calm.bind fun y => (filR c f xs).bind fun ys => .ok (y :: ys) else filR c f xs := mk_eq rfl
@[simp] theorem filR_map {c : γ → Res Bool} {f : γ → Res α} {h : δ → γ} : ∀ {xs : List δ}, filR c f (xs.map h) = filR (fun x => c (h x)) (fun x => f (h x)) xs
  | [] => rfl
  | x :: xs => by simp only [List.map_cons, filR_cons, filR_map]
theorem filR_ok {c : γ → Res Bool} {f : γ → Res α} {p : γ → Bool} {g : γ → α} : ∀ {xs : List γ}, (∀ x ∈ xs, c x = .ok (p x)) → (∀ x ∈ xs, p x = true → f x = .ok (g x)) → filR c f xs = .ok ((xs.filter p).map g)
  | [], _, _ => rfl
  | x :: xs, h, h2 => by
    rw [filR_cons, h x List.mem_cons_self, Res.calm_ok, Res.bind_ok, filR_ok (fun y hy => h y (List.mem_cons_of_mem _ hy)) fun y hy => h2 y (List.mem_cons_of_mem _ hy)]
    cases e : p x with
    | true =>
      rw [if_pos rfl, h2 x List.mem_cons_self e, List.filter_cons_of_pos e]
      rfl
    | false => rw [if_neg Bool.false_ne_true, List.filter_cons_of_neg (by simp [e])]
@[simp] theorem filR_pure {p : γ → Bool} {g : γ → α} {xs : List γ} : filR (fun x => .ok (p x)) (fun x => .ok (g x)) xs = .ok ((xs.filter p).map g) := filR_ok (fun _ _ => rfl) fun _ _ _ => rfl
theorem rng1 {n : Nat} (h : n ≤ 1000000000) : dRng1 [.int (n : Int)] = .ok ((List.range n).map fun (i : Nat) => D.int i) := by
  unfold dRng1
  simp only
  rw [if_pos (by omega)]
  simp [upFrom]
@[simp] theorem rng1_z {z : Int} (h : 0 ≤ z) (h' : z ≤ 1000000000) : dRng1 [.int z] = .ok ((List.range z.toNat).map fun (i : Nat) => D.int i) := by
  have := rng1 (n := z.toNat) (by omega)
  rwa [Int.toNat_of_nonneg h] at this
@[simp] theorem rng2_z {z w : Int} (h : -1000000000 ≤ z) (h1 : z ≤ 1000000000) (h2 : -1000000000 ≤ w) (h' : w ≤ 1000000000) : dRng2 [.int z, .int w] = .ok ((List.range (w - z).toNat).map fun (i : Nat) => D.int (z + i)) := by
  unfold dRng2
  simp only
  rw [if_pos (by omega)]
  rfl
theorem bools_of {p : α → Bool} (xs : List α) : D.bools (xs.map fun x => D.bl (p x)) = some (xs.map p) := by
  have := bools_map (xs.map p)
  rwa [List.map_map] at this
theorem ints_of {p : α → Int} (xs : List α) : D.ints (xs.map fun x => D.int (p x)) = some (xs.map p) := by
  have := ints_map (xs.map p)
  rwa [List.map_map] at this
@[simp] theorem dAll_p {p : α → Bool} {xs : List α} : dAll [.lst (xs.map fun x => D.bl (p x))] = .ok (.bl (xs.all p)) := by
  show (match D.bools (xs.map fun x => D.bl (p x)) with | some bs => Res.ok (D.bl (bs.all id)) | none => .no) = _
  rw [bools_of]
  simp [List.all_map]
@[simp] theorem dAny_p {p : α → Bool} {xs : List α} : dAny [.lst (xs.map fun x => D.bl (p x))] = .ok (.bl (xs.any p)) := by
  show (match D.bools (xs.map fun x => D.bl (p x)) with | some bs => Res.ok (D.bl (bs.any id)) | none => .no) = _
  rw [bools_of]
  simp [List.any_map]
@[simp] theorem dSum_p {p : α → Int} {xs : List α} : dSum [.lst (xs.map fun x => D.int (p x))] = .ok (.int (xs.map p).sum) := by
  show (match D.ints (xs.map fun x => D.int (p x)) with | some bs => Res.ok (D.int bs.sum) | none => .no) = _
  rw [ints_of]
@[simp] theorem dSum_i {xs : List Int} : dSum [.lst (xs.map D.int)] = .ok (.int xs.sum) := by
  show (match D.ints (xs.map D.int) with | some bs => Res.ok (D.int bs.sum) | none => .no) = _
  rw [ints_map]
theorem ofString_inj {s t : String} (h : Str.ofString s = Str.ofString t) : s = t := by
  rw [Str.ofString_eq_toList, Str.ofString_eq_toList] at h
  have h1 := congrArg (fun x : Str => x.cps.toList) h
  simp only [List.toList_toArray] at h1
  have h2 := List.map_inj_right (f := Char.toNat) (fun a b hab => Char.ext (UInt32.toNat_inj.mp hab)) |>.mp h1
  exact String.toList_inj.mp h2
@[simp] theorem str_lit {s t : String} : ((s : Str) = (t : Str)) = (s = t) := propext ⟨ofString_inj, fun h => by rw [h]⟩
@[simp] theorem dEq_same (h : D.dat 60 d = true) : dEq d d = .ok (.bl true) := dEq_self h
@[simp] theorem dNe_same (h : D.dat 60 d = true) : dNe d d = .ok (.bl false) := dNe_self h
@[simp] theorem dEq_tt {xs ys : List D} (h : D.datA 59 xs = true) (h' : D.datA 59 ys = true) : dEq (.tup xs) (.tup ys) = .ok (.bl (D.eqbA xs ys)) := (dEq_d (by simpa using h) (by simpa using h')).trans rfl
@[simp] theorem dNe_tt {xs ys : List D} (h : D.datA 59 xs = true) (h' : D.datA 59 ys = true) : dNe (.tup xs) (.tup ys) = .ok (.bl (!D.eqbA xs ys)) := (dNe_d (by simpa using h) (by simpa using h')).trans rfl
@[simp] theorem dEq_ll {xs ys : List D} (h : D.datA 59 xs = true) (h' : D.datA 59 ys = true) : dEq (.lst xs) (.lst ys) = .ok (.bl (D.eqbA xs ys)) := (dEq_d (by simpa using h) (by simpa using h')).trans rfl
@[simp] theorem dNe_ll {xs ys : List D} (h : D.datA 59 xs = true) (h' : D.datA 59 ys = true) : dNe (.lst xs) (.lst ys) = .ok (.bl (!D.eqbA xs ys)) := (dNe_d (by simpa using h) (by simpa using h')).trans rfl
@[simp] theorem dEq_nt {xs : List D} (h : D.datA 59 xs = true) : dEq .non (.tup xs) = .ok (.bl false) := (dEq_d (by simp) (by simpa using h)).trans rfl
@[simp] theorem dEq_tn {xs : List D} (h : D.datA 59 xs = true) : dEq (.tup xs) .non = .ok (.bl false) := (dEq_d (by simpa using h) (by simp)).trans rfl
@[simp] theorem dNe_nt {xs : List D} (h : D.datA 59 xs = true) : dNe .non (.tup xs) = .ok (.bl true) := (dNe_d (by simp) (by simpa using h)).trans rfl
@[simp] theorem dNe_tn {xs : List D} (h : D.datA 59 xs = true) : dNe (.tup xs) .non = .ok (.bl true) := (dNe_d (by simpa using h) (by simp)).trans rfl
@[simp] theorem eqbA_nn : D.eqbA [] [] = true := by simp [D.eqbA]
@[simp] theorem eqbA_cn {x : D} {xs : List D} : D.eqbA (x :: xs) [] = false := by simp [D.eqbA]
@[simp] theorem eqbA_nc {x : D} {xs : List D} : D.eqbA [] (x :: xs) = false := by simp [D.eqbA]
@[simp] theorem eqbA_cc {x y : D} {xs ys : List D} : D.eqbA (x :: xs) (y :: ys) = (x.eqb y && D.eqbA xs ys) := by simp [D.eqbA]
@[simp] theorem eqbA_ii {xs ys : List Int} : D.eqbA (xs.map D.int) (ys.map D.int) = decide (xs = ys) := eqbA_ints xs ys
@[simp] theorem eqb_ii : (D.int x).eqb (.int y) = decide (x = y) := eqb_int x y
@[simp] theorem eqb_ss {s t : Str} : (D.str s).eqb (.str t) = decide (s = t) := eqb_str s t
@[simp] theorem eqb_tt {xs ys : List D} : (D.tup xs).eqb (.tup ys) = D.eqbA xs ys := mk_eq rfl
@[simp] theorem eqb_ll {xs ys : List D} : (D.lst xs).eqb (.lst ys) = D.eqbA xs ys := mk_eq rfl
@[simp] theorem eqb_nn : D.non.eqb .non = true := mk_eq rfl
@[simp] theorem eqb_ni : D.non.eqb (.int x) = false := mk_eq rfl
@[simp] theorem eqb_in : (D.int x).eqb .non = false := mk_eq rfl
@[simp] theorem eqb_ns {s : Str} : D.non.eqb (.str s) = false := mk_eq rfl
@[simp] theorem eqb_sn {s : Str} : (D.str s).eqb .non = false := mk_eq rfl
@[simp] theorem eqb_nt {xs : List D} : D.non.eqb (.tup xs) = false := mk_eq rfl
@[simp] theorem eqb_tn {xs : List D} : (D.tup xs).eqb .non = false := mk_eq rfl
@[simp] theorem eqb_is {s : Str} : (D.int x).eqb (.str s) = false := mk_eq rfl
@[simp] theorem eqb_si {s : Str} : (D.str s).eqb (.int x) = false := mk_eq rfl
@[simp] theorem eqb_it {xs : List D} : (D.int x).eqb (.tup xs) = false := mk_eq rfl
@[simp] theorem eqb_ti {xs : List D} : (D.tup xs).eqb (.int x) = false := mk_eq rfl
@[simp] theorem eqb_st {s : Str} {xs : List D} : (D.str s).eqb (.tup xs) = false := mk_eq rfl
@[simp] theorem eqb_ts {s : Str} {xs : List D} : (D.tup xs).eqb (.str s) = false := mk_eq rfl
@[simp] theorem eqb_bb {p q : Bool} : (D.bl p).eqb (.bl q) = decide (p = q) := by
  show (p == q) = _
  rw [Bool.eq_iff_iff]
  simp
theorem cutL_nn {xs : List α} {i j : Nat} {y z : Int} (hy : y = (i : Int)) (hz : z = (j : Int)) : cutL xs (some y) (some z) = (xs.drop i).take (j - i) := by
  subst hy hz
  unfold cutL
  rw [HT.sIx_nat, HT.sIx_nat]
  by_cases h : i ≤ xs.length
  · rw [Nat.min_eq_left h]
    by_cases h2 : j ≤ xs.length
    · rw [Nat.min_eq_left h2]
    · have e : min j xs.length = xs.length := by omega
      rw [e, List.take_of_length_le (by simp), List.take_of_length_le (by simp; omega)]
  · have e : min i xs.length = xs.length := by omega
    rw [e, List.drop_eq_nil_of_le (Nat.le_refl _), List.drop_eq_nil_of_le (by omega)]
    simp
theorem cutL_n_ {xs : List α} {i : Nat} {y : Int} (hy : y = (i : Int)) : cutL xs (some y) none = xs.drop i := by
  subst hy
  unfold cutL
  rw [HT.sIx_nat, HT.sIx_none]
  by_cases h : i ≤ xs.length
  · rw [Nat.min_eq_left h, List.take_of_length_le (by simp)]
  · rw [Nat.min_eq_right (by omega), List.drop_eq_nil_of_le (by omega), List.drop_eq_nil_of_le (by omega)]
    simp
theorem cutL__n {xs : List α} {i : Nat} {y : Int} (hy : y = (i : Int)) : cutL xs none (some y) = xs.take i := by
  subst hy
  unfold cutL
  rw [HT.sIx_nat, HT.sIx_none]
  by_cases h : i ≤ xs.length
  · rw [Nat.min_eq_left h]
    simp
  · rw [Nat.min_eq_right (by omega), List.take_of_length_le (by simp), List.take_of_length_le (by omega)]
    simp
@[simp] theorem cutL_zz {xs : List α} {y z : Int} (hy : 0 ≤ y) (hz : 0 ≤ z) : cutL xs (some y) (some z) = (xs.drop y.toNat).take (z.toNat - y.toNat) := cutL_nn (by omega) (by omega)
@[simp] theorem cutL_z_ {xs : List α} {y : Int} (hy : 0 ≤ y) : cutL xs (some y) none = xs.drop y.toNat := cutL_n_ (by omega)
@[simp] theorem cutL__z {xs : List α} {z : Int} (hz : 0 ≤ z) : cutL xs none (some z) = xs.take z.toNat := cutL__n (by omega)
@[simp] theorem dRep_1 {x : D} {z : Int} (h : -1000000000 ≤ z) (h' : z ≤ 16777216) : dRep (.lst [x]) (.int z) = .ok (List.replicate z.toNat x) := by
  unfold dRep
  simp only [List.length_singleton, Nat.one_mul]
  rw [if_pos ⟨by omega, by omega, by rw [size_line]; omega⟩, rep_flat]
@[simp] theorem rbind_pure {A : Res α} : (A.bind fun x => .ok x) = A := by cases A <;> rfl
@[simp] theorem cutR_ok {xs ys : List D} {i j : Int} (h0 : 0 ≤ i) (h1 : i ≤ j) (h2 : j ≤ xs.length) (h3 : xs.length + ys.length ≤ 16777216) : cutR xs (some i) (some j) (.lst ys) = .ok (.lst (xs.take i.toNat ++ ys ++ xs.drop j.toNat)) := by
  unfold cutR
  simp only
  rw [if_pos ⟨h0, h1, h2, by rw [size_line]; exact h3⟩]
@[simp] theorem putR_ok {xs : List D} {z : Int} (h0 : 0 ≤ z) (h1 : z < xs.length) : putR xs (.int z) d = .ok (.lst (xs.set z.toNat d)) := by
  unfold putR ixN
  simp only [if_pos h0, if_pos h1]
@[simp] theorem lkR_nil {k : Str} : lkR [] k = .no := mk_eq rfl
@[simp] theorem lkR_cons {k x : Str} {d : D} {tab : List (Str × D)} : lkR ((k, d) :: tab) x = if x = k then .ok d else lkR tab x := by
  unfold lkR
  rw [List.lookup_cons]
  by_cases h : x = k
  · rw [if_pos h, beq_iff_eq.mpr h]
  · have e : (x == k) = false := by simpa using h
    rw [if_neg h, e]
@[simp] theorem noLR_ok {d : D} (h : d.noL = true) : noLR (.ok d) = .ok d := if_pos h
@[simp] theorem noL_i {x : Int} : (D.int x).noL = true := by simp [D.noL]
@[simp] theorem noL_b {x : Bool} : (D.bl x).noL = true := by simp [D.noL]
@[simp] theorem noL_s {x : Str} : (D.str x).noL = true := by simp [D.noL]
@[simp] theorem noL_n : D.non.noL = true := by simp [D.noL]
@[simp] theorem noL_t {xs : List D} : (D.tup xs).noL = D.noLA xs := by simp [D.noL]
@[simp] theorem noLA_n : D.noLA [] = true := by simp [D.noLA]
@[simp] theorem noLA_c {x : D} {xs : List D} : D.noLA (x :: xs) = (x.noL && D.noLA xs) := by simp [D.noLA]
@[simp] theorem putN_0 {a y : α} {l : List α} : putN 0 y (a :: l) = y :: l := mk_eq rfl
@[simp] theorem putN_n {y : α} : putN 0 y ([] : List α) = [y] := mk_eq rfl
@[simp] theorem putN_s {a y : α} {l : List α} {n : Nat} : putN (n + 1) y (a :: l) = a :: putN n y l := by
  unfold putN
  by_cases h : n < l.length
  · rw [if_pos (by simpa using h), if_pos h]
    rfl
  · rw [if_neg (by simpa using h), if_neg h]
    rfl
end
end T
set_option Elab.async false
set_option linter.all false
set_option maxRecDepth 100000
set_option maxHeartbeats 4000000
namespace T
open PySem L2
theorem e_nm {α : Type} {ρ : Rho} {i : Nat} {f : Rho → Res α} {x : D} {A : Res α} (h : f (ρ.set i (some x)) = A) : bodyE (bNm i) f x ρ = A := h
def cutE (xs : List D) (l u : Option Int) (d : D) : Res D := match d, l, u with
  | .lst ys, some a, none => if 0 ≤ a ∧ a ≤ xs.length ∧ xs.length + ys.length ≤ sizeLine then .ok (.lst (xs.take a.toNat ++ ys)) else .no
  | _, _, _ => .no
@[simp] theorem cutE_ok {xs ys : List D} {i : Int} (h0 : 0 ≤ i) (h2 : i ≤ xs.length) (h3 : xs.length + ys.length ≤ 16777216) : cutE xs (some i) none (.lst ys) = .ok (.lst (xs.take i.toNat ++ ys)) := by
  unfold cutE
  simp only
  rw [if_pos ⟨h0, h2, by rw [size_line]; exact h3⟩]
end T
set_option Elab.async false
set_option linter.all false
set_option maxRecDepth 100000
set_option maxHeartbeats 4000000
namespace T
open PySem L2
section
variable {α β : Type} {ρ ρ' : Rho} {f g : Rho → Out} {d x y : D} {os ds es : List D} {S i k n c : Nat} {tab : FT} {e : Exn}
def Out.sq (o : Out) (g : Rho → Out) : Out := match o with
  | .nx ρ => g ρ
  | o => o
@[simp] theorem sq_nx : (Out.nx ρ).sq g = g ρ := mk_eq rfl
@[simp] theorem sq_rl : (Out.rl d ρ).sq g = .rl d ρ := mk_eq rfl
@[simp] theorem sq_rt : (Out.rt d).sq g = .rt d := mk_eq rfl
@[simp] theorem sq_ex : (Out.ex e ρ).sq g = .ex e ρ := mk_eq rfl
@[simp] theorem sq_ct : (Out.ct ρ).sq g = .ct ρ := mk_eq rfl
@[simp] theorem sq_bk : (Out.bk ρ).sq g = .bk ρ := mk_eq rfl
@[simp] theorem sq_no : Out.no.sq g = .no := mk_eq rfl
@[simp] theorem sSeq_q : sSeq f g ρ = (f ρ).sq g := by
  unfold sSeq Out.sq
  cases f ρ <;> rfl
@[simp] theorem mbind_ok {a : α} {h : α → Rho → ResM β} : (ResM.ok a ρ).bind h = h a ρ := mk_eq rfl
@[simp] theorem mbind_ex {h : α → Rho → ResM β} : (ResM.ex e ρ : ResM α).bind h = .ex e ρ := mk_eq rfl
@[simp] theorem mbind_no {h : α → Rho → ResM β} : (ResM.no : ResM α).bind h = .no := mk_eq rfl
@[simp] theorem liftM_ok {a : α} : liftM (.ok a) ρ = .ok a ρ := mk_eq rfl
@[simp] theorem liftM_ex : liftM (.ex e : Res α) ρ = .ex e ρ := mk_eq rfl
@[simp] theorem liftM_no : liftM (.no : Res α) ρ = .no := mk_eq rfl
@[simp] theorem thenM_ok {a : α} {h : α → Rho → Out} : thenM (.ok a ρ) h = h a ρ := mk_eq rfl
@[simp] theorem thenM_ex {h : α → Rho → Out} : thenM (.ex e ρ : ResM α) h = .ex e ρ := mk_eq rfl
@[simp] theorem thenM_no {h : α → Rho → Out} : thenM (.no : ResM α) h = .no := mk_eq rfl
@[simp] theorem pureM_ap {a : Rho → Res α} : pureM a ρ = liftM (a ρ) ρ := mk_eq rfl
@[simp] theorem nrV_ap {a : Rho → Res D} : nrV a ρ = (a ρ).bind nrR := mk_eq rfl
@[simp] theorem nrM_ap {a : Rho → ResM D} : nrM a ρ = (a ρ).bind fun d ρ1 => liftM (nrR d) ρ1 := mk_eq rfl
@[simp] theorem noM_ap : noM ρ = .ok [] ρ := mk_eq rfl
@[simp] theorem consM_ap {a : Rho → ResM D} {b : Rho → ResM (List D)} : consM a b ρ = (a ρ).bind fun d ρ1 => (b ρ1).bind fun ds ρ2 => .ok (d :: ds) ρ2 := mk_eq rfl
@[simp] theorem binM_ap {h : D → D → Res D} {a b : Rho → ResM D} : binM h a b ρ = (a ρ).bind fun x ρ1 => (b ρ1).bind fun y ρ2 => liftM (h x y) ρ2 := mk_eq rfl
def allNr (ds : List D) : Res (List D) := if ds.all D.nref = true then .ok ds else .no
@[simp] theorem tupM_ap {a : Rho → ResM (List D)} : tupM a ρ = (a ρ).bind fun ds ρ1 => liftM ((allNr ds).bind fun ds => (szR ds).bind fun ds => .ok (.tup ds)) ρ1 := by
  unfold tupM
  congr 1
  funext ds ρ1
  unfold allNr szR
  by_cases h1 : ds.all D.nref = true <;> by_cases h2 : ds.length ≤ sizeLine <;> simp [h1, h2]
@[simp] theorem callP_ap {h : List D → Res D} {a : Rho → ResM (List D)} : callP h a ρ = (a ρ).bind fun ds ρ1 => liftM ((allNr ds).bind h) ρ1 := by
  unfold callP
  congr 1
  funext ds ρ1
  unfold allNr
  by_cases h1 : ds.all D.nref = true <;> simp [h1]
@[simp] theorem nmV_ap {a : Rho → Res (List D)} : nmV a ρ = (liftM (a ρ) ρ).bind fun ds ρ1 => liftM (allNr ds) ρ1 := by
  unfold nmV
  congr 1
  funext ds ρ1
  unfold allNr
  by_cases h1 : ds.all D.nref = true <;> simp [h1]
@[simp] theorem frzL_ap {a : Rho → ResM (List D)} : frzL a ρ = (a ρ).bind fun ds ρ1 => liftM ((allNr ds).bind fun ds => .ok (.lst ds)) ρ1 := by
  unfold frzL
  congr 1
  funext ds ρ1
  unfold allNr
  by_cases h1 : ds.all D.nref = true <;> simp [h1]
@[simp] theorem andVM_ap {a b : Rho → ResM D} : andVM a b ρ = (a ρ).bind fun d ρ1 => (liftM (asB d) ρ1).bind fun k ρ1 => if k = true then b ρ1 else .ok (.bl false) ρ1 := by
  unfold andVM
  congr 1
  funext d ρ1
  cases d <;> rfl
@[simp] theorem orVM_ap {a b : Rho → ResM D} : orVM a b ρ = (a ρ).bind fun d ρ1 => (liftM (asB d) ρ1).bind fun k ρ1 => if k = true then .ok (.bl true) ρ1 else b ρ1 := by
  unfold orVM
  congr 1
  funext d ρ1
  cases d <;> rfl
@[simp] theorem toBM_ap {a : Rho → ResM D} : toBM a ρ = (a ρ).bind fun d ρ1 => liftM (asB d) ρ1 := by
  unfold toBM
  congr 1
  funext d ρ1
  cases d <;> rfl
@[simp] theorem notM_ap {a : Rho → ResM Bool} : notM a ρ = (a ρ).bind fun b ρ1 => .ok (!b) ρ1 := mk_eq rfl
@[simp] theorem andM_ap {a b : Rho → ResM Bool} : andM a b ρ = (a ρ).bind fun k ρ1 => if k = true then b ρ1 else .ok false ρ1 := mk_eq rfl
@[simp] theorem orM_ap {a b : Rho → ResM Bool} : orM a b ρ = (a ρ).bind fun k ρ1 => if k = true then .ok true ρ1 else b ρ1 := mk_eq rfl
@[simp] theorem sIfM_ap {a : Rho → ResM Bool} : sIfM a f g ρ = thenM (a ρ) fun b ρ1 => if b = true then f ρ1 else g ρ1 := mk_eq rfl
@[simp] theorem sSetA_ap {a : Rho → ResM D} : sSetA i a ρ = thenM (a ρ) fun d ρ1 => .nx (ρ1.set i (some d)) := mk_eq rfl
@[simp] theorem sSetP_ap {a : Rho → Res D} : sSetP i a ρ = thenS (a ρ) ρ fun d => .nx (ρ.set i (some d)) := mk_eq rfl
@[simp] theorem sDropM_ap {a : Rho → ResM D} : sDropM a ρ = thenM (a ρ) fun _ ρ1 => .nx ρ1 := mk_eq rfl
@[simp] theorem sRetM_ap {a : Rho → ResM D} : sRetM a ρ = thenM (a ρ) fun d ρ1 => .rl d ρ1 := mk_eq rfl
@[simp] theorem sRet0_ap : sRet0 ρ = .rl .non ρ := mk_eq rfl
@[simp] theorem sRaiseA_ap {s : Str} {a : Rho → Res (List D)} : sRaiseA s a ρ = thenS ((a ρ).bind szR) ρ fun _ => .ex ⟨s, []⟩ ρ := by
  unfold sRaiseA
  rw [thenS_bind]
  congr 1
  funext ds
  unfold szR
  split <;> rfl
@[simp] theorem nref_n : D.non.nref = true := mk_eq rfl
@[simp] theorem nref_i {z : Int} : (D.int z).nref = true := mk_eq rfl
@[simp] theorem nref_b {b : Bool} : (D.bl b).nref = true := mk_eq rfl
@[simp] theorem nref_s {s : Str} : (D.str s).nref = true := mk_eq rfl
@[simp] theorem nref_l {xs : List D} : (D.lst xs).nref = true := mk_eq rfl
@[simp] theorem nref_t {xs : List D} : (D.tup xs).nref = true := mk_eq rfl
@[simp] theorem nref_d {xs : List (D × D)} : (D.dct xs).nref = true := mk_eq rfl
@[simp] theorem nref_o {xs : List D} : (D.ins c xs).nref = true := mk_eq rfl
@[simp] theorem nrR_ok (h : d.nref = true) : nrR d = .ok d := if_pos h
@[simp] theorem allNr_ok (h : ds.all D.nref = true) : allNr ds = .ok ds := if_pos h
@[simp] theorem allNr_nil : allNr [] = .ok [] := mk_eq rfl
@[simp] theorem nr_ints {xs : List Int} : (xs.map D.int).all D.nref = true := by
  rw [List.all_eq_true]
  intro d hd
  obtain ⟨a, _, rfl⟩ := List.mem_map.mp hd
  rfl
@[simp] theorem stoR_0 {r : Rho} : stoR 0 (some (stoD os) :: r) = some os := stoOf_stoD os
@[simp] theorem stoR_s {a : Option D} {r : Rho} : stoR (i + 1) (a :: r) = stoR i r := mk_eq rfl
@[simp] theorem setS_ap : setS S os ρ = ρ.set S (some (stoD os)) := mk_eq rfl
def ResS.toM (S : Nat) (r : ResS) (ρ : Rho) : ResM D := match r with
  | .ok d os' => .ok d (setS S os' ρ)
  | .ex e os' => .ex e (setS S os' ρ)
  | .no => .no
@[simp] theorem toM_ok : (ResS.ok d os).toM S ρ = .ok d (setS S os ρ) := mk_eq rfl
@[simp] theorem toM_ex : (ResS.ex e os).toM S ρ = .ex e (setS S os ρ) := mk_eq rfl
@[simp] theorem toM_no : ResS.no.toM S ρ = .no := mk_eq rfl
def onS {α : Type} (o : Option (List D)) (z : α) (k : List D → α) : α := match o with
  | some os => k os
  | none => z
@[simp] theorem onS_some {z : α} {h : List D → α} : onS (some os) z h = h os := mk_eq rfl
variable {m : List D → List D → ResS} {gA : Rho → ResM (List D)} {gm gm' : Rho → ResM D} {go gi : Rho → Res D} {gp : Rho → Res (Pl × D)}
@[simp] theorem callR_ap : callR m S ds ρ = onS (stoR S ρ) .no fun os => (m os ds).toM S ρ := by
  unfold callR onS
  cases stoR S ρ with
  | none => rfl
  | some os => cases h : m os ds <;> simp only [h, ResS.toM]
@[simp] theorem callS_ap : callS m S gA ρ = (gA ρ).bind fun ds ρ1 => callR m S ds ρ1 := mk_eq rfl
@[simp] theorem methS_ap : methS c m S go gA ρ = (liftM (go ρ) ρ).bind fun d ρ1 => if isClsS c (stoR S ρ1) d = true then (gA ρ1).bind fun ds ρ2 => callR m S (d :: ds) ρ2 else .no := mk_eq rfl
def ResS.toN (S n : Nat) (r : ResS) (ρ : Rho) : ResM D := match r with
  | .ok .non os' => .ok (refD n) (setS S os' ρ)
  | .ex e os' => .ex e (setS S os' ρ)
  | _ => .no
@[simp] theorem toN_ok : (ResS.ok .non os).toN S n ρ = .ok (refD n) (setS S os ρ) := mk_eq rfl
@[simp] theorem toN_ex : (ResS.ex e os).toN S n ρ = .ex e (setS S os ρ) := mk_eq rfl
@[simp] theorem makeS_ap : makeS c m S gA ρ = (gA ρ).bind fun ds ρ1 => onS (stoR S ρ1) .no fun os => (m (os ++ [.ins c []]) (refD os.length :: ds)).toN S os.length ρ1 := by
  unfold makeS
  congr 1
@[simp] theorem isClsS_ref : isClsS c (some os) (refD n) = (match os[n]? with | some (.ins c' _) => c' == c | _ => false) := by
  unfold isClsS
  rw [refN_ref]
  try rfl
@[simp] theorem fldS_ap : fldS S tab go ρ = (go ρ).bind fun d => fldD tab (stoR S ρ) d := mk_eq rfl
@[simp] theorem fldM_ap : fldM S tab gm ρ = (gm ρ).bind fun d ρ1 => liftM (fldD tab (stoR S ρ1) d) ρ1 := mk_eq rfl
@[simp] theorem conS_ap : conS S tab go ρ = (go ρ).bind fun d => conD2 tab (stoR S ρ) d := mk_eq rfl
@[simp] theorem derS_ap : derS S go ρ = (go ρ).bind fun d => derD (stoR S ρ) d := mk_eq rfl
@[simp] theorem plR_ap : plR S go ρ = (go ρ).bind fun d => plD (stoR S ρ) d := mk_eq rfl
@[simp] theorem plF_ap : plF S tab go ρ = (go ρ).bind fun d => plFD tab (stoR S ρ) d := mk_eq rfl
@[simp] theorem plFM_ap : plFM S tab gm ρ = (gm ρ).bind fun d ρ1 => liftM (plFD tab (stoR S ρ1) d) ρ1 := mk_eq rfl
@[simp] theorem plVM_ap : plVM S gm ρ = (gm ρ).bind fun d ρ1 => liftM (plD (stoR S ρ1) d) ρ1 := mk_eq rfl
@[simp] theorem fldD_ref : fldD tab (some os) (refD n) = (match os[n]? with
      | some (.ins c ds) => match tab.lookup c with
        | some (k, .any) => match ds[k]? with
          | some x => .ok x
          | none => .no
        | _ => .no
      | _ => .no) := by
  unfold fldD
  rw [refN_ref]
  try rfl
@[simp] theorem conD2_ref : conD2 tab (some os) (refD n) = (match os[n]? with
      | some (.ins c ds) => match tab.lookup c with
        | some (k, .any) => .no
        | some (k, _) => match ds[k]? with
          | some x => cntR x
          | none => .no
        | none => .no
      | _ => .no) := by
  unfold conD2
  rw [refN_ref]
  try rfl
@[simp] theorem plFD_ref : plFD tab (some os) (refD n) = (match os[n]? with
      | some (.ins c ds) => match tab.lookup c with
        | some (k, .any) => .no
        | some (k, _) => match ds[k]? with
          | some x => if isCt x = true then .ok ((n, some k), x) else .no
          | none => .no
        | none => .no
      | _ => .no) := by
  unfold plFD
  rw [refN_ref]
  try rfl
@[simp] theorem plD_ref : plD (some os) (refD n) = (match os[n]? with
    | some x => if isCt x = true then .ok ((n, none), x) else .no
    | none => .no) := by
  unfold plD
  rw [refN_ref]
  try rfl
@[simp] theorem putF2_ref : putF2 tab (some os) (refD n) y = (match os[n]? with
    | some (.ins c ds) => match tab.lookup c with
      | some (k, .any) => if k ≤ ds.length then some (os.set n (.ins c (putN k y ds))) else none
      | _ => none
    | _ => none) := by
  unfold putF2
  rw [refN_ref]
  try rfl
@[simp] theorem putFL_ref : putFL tab (some os) (refD n) es = (match os[n]? with
    | some (.ins c ds) => match tab.lookup c with
      | some (k, .lst) => if k ≤ ds.length then some (os.set n (.ins c (putN k (.lst es) ds))) else none
      | _ => none
    | _ => none) := by
  unfold putFL
  rw [refN_ref]
  try rfl
@[simp] theorem derD_nr {so : Option (List D)} (h : d.nref = true) : derD so d = .ok d := by
  unfold derD
  rw [nref_refN h]
  exact nrR_ok h
@[simp] theorem derD_ref : derD (some os) (refD n) = (match os[n]? with
      | some x => cntR x
      | none => .no) := by
  unfold derD
  rw [refN_ref]
  try rfl
@[simp] theorem cntR_l : cntR (.lst ds) = .ok (.lst ds) := mk_eq rfl
@[simp] theorem cntR_d {xs : List (D × D)} : cntR (.dct xs) = .ok (.dct xs) := mk_eq rfl
@[simp] theorem isCt_l : isCt (.lst ds) = true := mk_eq rfl
@[simp] theorem isCt_d {xs : List (D × D)} : isCt (.dct xs) = true := mk_eq rfl
@[simp] theorem sFldS_ap : sFldS S tab go gm ρ = thenM (gm ρ) fun y ρ1 => thenS (go ρ1) ρ1 fun d => (match putF2 tab (stoR S ρ1) d y with
  | some os' => .nx (setS S os' ρ1)
  | none => .no) := rfl
@[simp] theorem sFldL_ap : sFldL S tab i gA ρ = thenM (gA ρ) fun es ρ1 => thenS (getV i ρ1) ρ1 fun d => (match putFL tab (stoR S ρ1) d es with
  | some os' => .nx (setS S os' ρ1)
  | none => .no) := rfl
def atR (r : Pl × D) (k : D) : Res D := match r.2, k with
  | .lst ds, .int j => match atI ds j with
    | some d => .ok d
    | none => .no
  | _, _ => .no
@[simp] theorem ixC_ap : ixC S gp gi ρ = (gp ρ).bind fun r => (gi ρ).bind fun k => atR r k := by
  unfold ixC
  congr 1
@[simp] theorem ixCM_ap {gq : Rho → ResM (Pl × D)} : ixCM S gq gi ρ = (gq ρ).bind fun r ρ1 => (liftM (gi ρ1) ρ1).bind fun k ρ2 => liftM (atR r k) ρ2 := by
  unfold ixCM
  congr 1
  funext r ρ1
  congr 1
  funext k ρ2
  unfold atR
  obtain ⟨p, d⟩ := r
  cases d with
  | lst ds =>
    cases k with
    | int j =>
      simp only
      cases atI ds j <;> rfl
    | _ => rfl
  | _ => rfl
@[simp] theorem ixA_ap : ixA S go gi ρ = (go ρ).bind fun d => (gi ρ).bind fun k => ixAD (stoR S ρ) d k := mk_eq rfl
@[simp] theorem ixAM_ap : ixAM S gm gi ρ = (gm ρ).bind fun d ρ1 => liftM ((gi ρ1).bind fun k => ixAD (stoR S ρ1) d k) ρ1 := mk_eq rfl
@[simp] theorem ixAD_nr {so : Option (List D)} {k : D} (h : d.nref = true) : ixAD so d k = (dIx d k).bind nrR := by
  unfold ixAD
  rw [nref_refN h]
@[simp] theorem ixAD_ref {z : Int} : ixAD (some os) (refD n) (.int z) = (match os[n]? with
      | some (.lst ds) => match atI ds z with
        | some d => .ok d
        | none => .no
      | _ => .no) := by
  unfold ixAD
  rw [refN_ref] <;> rfl
@[simp] theorem rootN_ap {ga : Rho → Res (List D)} : rootN S ga ρ = (liftM (ga ρ) ρ).bind fun ds ρ1 => (liftM (allNr ds) ρ1).bind fun ds ρ1 => onS (stoR S ρ1) .no fun os => .ok (refD os.length) (setS S (os ++ [.lst ds]) ρ1) := by
  unfold rootN
  congr 1
  funext ds ρ1
  unfold allNr onS
  cases hh : stoR S ρ1 <;> by_cases h : ds.all D.nref = true <;> simp [h, hh]
@[simp] theorem rootL_ap : rootL S gA ρ = (gA ρ).bind fun ds ρ1 => onS (stoR S ρ1) .no fun os => .ok (refD os.length) (setS S (os ++ [.lst ds]) ρ1) := by
  unfold rootL
  congr 1
@[simp] theorem atC_ap {k : List D → Pl → List D → Out} : atC S gp ρ k = thenS (gp ρ) ρ fun r => onS (stoR S ρ) .no fun os => thenS (asLs r.2) ρ fun ds => k os r.1 ds := by
  unfold atC
  congr 1
  funext r
  unfold onS
  cases stoR S ρ with
  | none => rfl
  | some os =>
    obtain ⟨p, d⟩ := r
    cases d <;> rfl
@[simp] theorem sAppC_ap : sAppC S gp go ρ = atC S gp ρ fun os p ds => thenS (go ρ) ρ fun y => if ds.length < sizeLine then .nx (setS S (putC os p (.lst (ds ++ [y]))) ρ) else .no := mk_eq rfl
def stR (os : List D) (p : Pl) (ds : List D) (k y : D) : Res (List D) := match k with
  | .int k => match ixN ds.length k with
    | some j => .ok (putC os p (.lst (ds.set j y)))
    | none => .no
  | _ => .no
@[simp] theorem sSetIC_ap {gk : Rho → Res D} : sSetIC S gp gk go ρ = thenS (go ρ) ρ fun y => atC S gp ρ fun os p ds => thenS ((gk ρ).bind fun k => stR os p ds k y) ρ fun os => .nx (setS S os ρ) := by
  unfold sSetIC
  congr 1
  funext y
  congr 1
  funext os p ds
  rw [thenS_bind]
  congr 1
  funext k
  unfold stR
  cases k with
  | int k =>
    simp only
    cases ixN ds.length k <;> rfl
  | _ => rfl
@[simp] theorem putC_n : putC os (n, none) d = os.set n d := mk_eq rfl
@[simp] theorem putC_k : putC os (n, some k) d = (match os[n]? with
  | some (.ins c ds) => os.set n (.ins c (ds.set k d))
  | _ => os) := mk_eq rfl
@[simp] theorem compM_ap {src : Rho → Res (List D)} {b : Bnd} {h : Rho → ResM D} {is : List Nat} : compM src b h is ρ = (liftM (src ρ) ρ).bind fun items ρ1 => (liftM (szR items) ρ1).bind fun items ρ1 => (match lcMM b h is items ρ1 with | .ok ds ρ2 => .ok ds ρ2 | _ => .no) := by
  unfold compM
  congr 1
  funext items ρ1
  unfold szR
  split <;> rfl
@[simp] theorem lstN_ref : lstN (some os) (refD n) = (match os[n]? with
    | some (.lst ds) => .ok (n, ds)
    | _ => .no) := by
  unfold lstN
  rw [refN_ref]
  try rfl
def Out.fin (S : Nat) (o : Out) : ResS := match o with
  | .nx ρ => onS (stoR S ρ) .no fun os => .ok .non os
  | .rl d ρ => onS (stoR S ρ) .no fun os => .ok d os
  | .ex e ρ => onS (stoR S ρ) .no fun os => .ex e os
  | _ => .no
@[simp] theorem fin_nx : (Out.nx ρ).fin S = onS (stoR S ρ) .no fun os => .ok .non os := mk_eq rfl
@[simp] theorem fin_rl : (Out.rl d ρ).fin S = onS (stoR S ρ) .no fun os => .ok d os := mk_eq rfl
@[simp] theorem fin_ex : (Out.ex e ρ).fin S = onS (stoR S ρ) .no fun os => .ex e os := mk_eq rfl
theorem runS_ap {NN : Nat} (h : ds.length = n) : runS n NN f os ds = (f (startR (NN - 1) ds ++ [some (stoD os)])).fin (NN - 1) := by
  unfold runS
  rw [if_pos h]
  unfold Out.fin onS
  cases f (startR (NN - 1) ds ++ [some (stoD os)]) with
  | nx ρ => cases h : stoR (NN - 1) ρ <;> simp only [h]
  | rl d ρ => cases h : stoR (NN - 1) ρ <;> simp only [h]
  | ex e ρ => cases h : stoR (NN - 1) ρ <;> simp only [h]
  | _ => rfl
def Out.finE (o : Out) : Res D := match o with
  | .nx _ => .ok .non
  | .rl d _ => nrR d
  | .ex e _ => .ex e
  | _ => .no
@[simp] theorem finE_nx : (Out.nx ρ).finE = .ok .non := mk_eq rfl
@[simp] theorem finE_rl : (Out.rl d ρ).finE = nrR d := mk_eq rfl
@[simp] theorem finE_ex : (Out.ex e ρ).finE = .ex e := mk_eq rfl
theorem runE_ap {NN : Nat} (h : ds.length = n) : runE n NN f ds = (f (startR (NN - 1) ds ++ [some (stoD [])])).finE := by
  unfold runE
  rw [if_pos h]
  unfold Out.finE
  cases f (startR (NN - 1) ds ++ [some (stoD [])]) <;> rfl
@[simp] theorem runS_1 {NN : Nat} {x0 : D} : runS 1 NN f os [x0] = (f (startR (NN - 1) [x0] ++ [some (stoD os)])).fin (NN - 1) := runS_ap rfl
@[simp] theorem runE_1 {NN : Nat} {x0 : D} : runE 1 NN f [x0] = (f (startR (NN - 1) [x0] ++ [some (stoD [])])).finE := runE_ap rfl
@[simp] theorem runS_2 {NN : Nat} {x0 x1 : D} : runS 2 NN f os [x0, x1] = (f (startR (NN - 1) [x0, x1] ++ [some (stoD os)])).fin (NN - 1) := runS_ap rfl
@[simp] theorem runE_2 {NN : Nat} {x0 x1 : D} : runE 2 NN f [x0, x1] = (f (startR (NN - 1) [x0, x1] ++ [some (stoD [])])).finE := runE_ap rfl
@[simp] theorem runS_3 {NN : Nat} {x0 x1 x2 : D} : runS 3 NN f os [x0, x1, x2] = (f (startR (NN - 1) [x0, x1, x2] ++ [some (stoD os)])).fin (NN - 1) := runS_ap rfl
@[simp] theorem runE_3 {NN : Nat} {x0 x1 x2 : D} : runE 3 NN f [x0, x1, x2] = (f (startR (NN - 1) [x0, x1, x2] ++ [some (stoD [])])).finE := runE_ap rfl
@[simp] theorem runS_4 {NN : Nat} {x0 x1 x2 x3 : D} : runS 4 NN f os [x0, x1, x2, x3] = (f (startR (NN - 1) [x0, x1, x2, x3] ++ [some (stoD os)])).fin (NN - 1) := runS_ap rfl
@[simp] theorem runS_5 {NN : Nat} {x0 x1 x2 x3 x4 : D} : runS 5 NN f os [x0, x1, x2, x3, x4] = (f (startR (NN - 1) [x0, x1, x2, x3, x4] ++ [some (stoD os)])).fin (NN - 1) := runS_ap rfl
@[simp] theorem runS_6 {NN : Nat} {x0 x1 x2 x3 x4 x5 : D} : runS 6 NN f os [x0, x1, x2, x3, x4, x5] = (f (startR (NN - 1) [x0, x1, x2, x3, x4, x5] ++ [some (stoD os)])).fin (NN - 1) := runS_ap rfl
def Out.tr (o : Out) (cl : List Str) (h : Exn → Rho → Out) : Out := match o with
  | .ex e ρ => if e.cls ∈ cl then h e ρ else .no
  | o => o
@[simp] theorem sTry_ap {cl : List Str} {sub : Str → Str → Bool} {hs : List (Str × (Exn → Rho → Out))} : sTry cl sub f hs ρ = (f ρ).tr cl fun e ρ' => pickS sub e hs ρ' := by
  unfold sTry Out.tr
  cases f ρ <;> rfl
@[simp] theorem tr_nx {cl : List Str} {h : Exn → Rho → Out} : (Out.nx ρ).tr cl h = .nx ρ := mk_eq rfl
@[simp] theorem tr_rl {cl : List Str} {h : Exn → Rho → Out} : (Out.rl d ρ).tr cl h = .rl d ρ := mk_eq rfl
@[simp] theorem tr_ex {cl : List Str} {h : Exn → Rho → Out} : (Out.ex e ρ).tr cl h = if e.cls ∈ cl then h e ρ else .no := mk_eq rfl
@[simp] theorem pickS_nil {sub : Str → Str → Bool} : pickS sub e [] ρ = .ex e ρ := rfl
@[simp] theorem pickS_cons {sub : Str → Str → Bool} {s : Str} {h : Exn → Rho → Out} {r : List (Str × (Exn → Rho → Out))} : pickS sub e ((s, h) :: r) ρ = if sub e.cls s = true then noEx (h e ρ) else pickS sub e r ρ := rfl
@[simp] theorem noEx_nx : noEx (.nx ρ) = .nx ρ := mk_eq rfl
@[simp] theorem noEx_rl : noEx (.rl d ρ) = .rl d ρ := mk_eq rfl
@[simp] theorem get_mid {A B : List D} : (A ++ x :: B)[A.length]? = some x := by simp
@[simp] theorem set_mid {A B : List D} : (A ++ x :: B).set A.length y = A ++ y :: B := by simp
end
end T
set_option Elab.async false
set_option linter.all false
set_option maxRecDepth 100000
set_option maxHeartbeats 4000000
namespace T
open PySem L2
section
variable {ρ : Rho} {S : Nat} {gp : Rho → Res (Pl × D)} {gi gk : Rho → Res D} {gm : Rho → ResM D} {gA : Rho → ResM (List D)} {os : List D} {p : Pl} {kvs : List (D × D)} {y : D} {s : Str}
def dkR (r : Pl × D) (k : D) : Res D := match r.2, keyOf k with
  | .dct kvs, some k => match lookD kvs k with
    | some d => .ok d
    | none => .no
  | _, _ => .no
@[simp] theorem dkC_ap : dkC S gp gi ρ = (gp ρ).bind fun r => (gi ρ).bind fun k => dkR r k := by
  unfold dkC
  congr 1
@[simp] theorem dkR_s : dkR (p, .dct kvs) (.str s) = (match lookD kvs (.inr s) with
  | some d => .ok d
  | none => .no) := mk_eq rfl
@[simp] theorem dkR_i {z : Int} : dkR (p, .dct kvs) (.int z) = (match lookD kvs (.inl z) with
  | some d => .ok d
  | none => .no) := mk_eq rfl
def asDs : D → Res (List (D × D))
  | .dct kvs => .ok kvs
  | _ => .no
@[simp] theorem asDs_d : asDs (.dct kvs) = .ok kvs := mk_eq rfl
@[simp] theorem atD_ap {k : List D → Pl → List (D × D) → Out} : atD S gp ρ k = thenS (gp ρ) ρ fun r => onS (stoR S ρ) .no fun os => thenS (asDs r.2) ρ fun ds => k os r.1 ds := by
  unfold atD
  congr 1
  funext r
  unfold onS
  cases stoR S ρ with
  | none => rfl
  | some os =>
    obtain ⟨p, d⟩ := r
    cases d <;> rfl
def stD (os : List D) (p : Pl) (kvs : List (D × D)) (kd y : D) : Res (List D) := match keyOf kd with
  | some k => if kvs.length < sizeLine ∧ keyedD kvs = true then .ok (putC os p (.dct (putD kvs k y))) else .no
  | none => .no
@[simp] theorem stD_s : stD os p kvs (.str s) y = if kvs.length < sizeLine ∧ keyedD kvs = true then .ok (putC os p (.dct (putD kvs (.inr s) y))) else .no := mk_eq rfl
@[simp] theorem stD_i {z : Int} : stD os p kvs (.int z) y = if kvs.length < sizeLine ∧ keyedD kvs = true then .ok (putC os p (.dct (putD kvs (.inl z) y))) else .no := mk_eq rfl
@[simp] theorem sSetDC_ap : sSetDC S gp gk gm ρ = thenM (gm ρ) fun y ρ1 => atD S gp ρ1 fun os p kvs => thenS ((gk ρ1).bind fun k => stD os p kvs k y) ρ1 fun os => .nx (setS S os ρ1) := by
  unfold sSetDC
  congr 1
  funext y ρ1
  congr 1
  funext os p kvs
  rw [thenS_bind]
  congr 1
  funext k
  unfold stD
  cases keyOf k with
  | none => rfl
  | some k =>
    simp only
    split <;> rfl
@[simp] theorem sSetICM_ap : sSetICM S gp gk gm ρ = thenM (gm ρ) fun y ρ1 => atC S gp ρ1 fun os p ds => thenS ((gk ρ1).bind fun k => stR os p ds k y) ρ1 fun os => .nx (setS S os ρ1) := by
  unfold sSetICM
  congr 1
  funext y ρ1
  congr 1
  funext os p ds
  rw [thenS_bind]
  congr 1
  funext k
  unfold stR
  cases k with
  | int k =>
    simp only
    cases ixN ds.length k <;> rfl
  | _ => rfl
@[simp] theorem binMB_ap {h : D → D → Res D} {ga : Rho → ResM D} {gb : Rho → Res D} : binMB h ga gb ρ = (ga ρ).bind fun x ρ1 => liftM ((gb ρ1).bind fun y => h x y) ρ1 := mk_eq rfl
@[simp] theorem dispM_ap {keys : List Key} : dispM S keys gA ρ = onS (stoR S ρ) .no fun os => (gA (setS S (os ++ [.dct []]) ρ)).bind fun ds ρ1 => onS (stoR S ρ1) .no fun os1 => match os1[os.length]? with
      | some (.dct []) => if ds.length = keys.length then .ok (refD os.length) (setS S (os1.set os.length (.dct ((keys.map keyD).zip ds))) ρ1) else .no
      | _ => .no := by
  unfold dispM onS
  cases stoR S ρ with
  | none => rfl
  | some os => (simp only <;> congr 1)
end
end T
set_option Elab.async false
set_option linter.all false
set_option maxRecDepth 100000
set_option maxHeartbeats 4000000
namespace T
open PySem L2
section
variable {ρ : Rho} {S i2 i3 : Nat} {gp : Rho → Res (Pl × D)} {gi gk g2 : Rho → Res D} {gm : Rho → ResM D} {gA gB : Rho → ResM (List D)} {os : List D} {p : Pl} {kvs : List (D × D)} {y : D} {s : Str} {z : Int} {b : Bnd}
def dinR (neg : Bool) (r : Pl × D) (k : D) : Res D := match r.2, keyOf k with
  | .dct kvs, some k => if keyedD kvs = true then .ok (.bl (if neg = true then !(lookD kvs k).isSome else (lookD kvs k).isSome)) else .no
  | _, _ => .no
@[simp] theorem dinC_ap {neg : Bool} : dinC S neg gi gp ρ = (gi ρ).bind fun k => (gp ρ).bind fun r => dinR neg r k := by
  unfold dinC
  congr 1
@[simp] theorem dinR_s {neg : Bool} : dinR neg (p, .dct kvs) (.str s) = if keyedD kvs = true then .ok (.bl (if neg = true then !(lookD kvs (.inr s)).isSome else (lookD kvs (.inr s)).isSome)) else .no := mk_eq rfl
@[simp] theorem dinR_i {neg : Bool} : dinR neg (p, .dct kvs) (.int z) = if keyedD kvs = true then .ok (.bl (if neg = true then !(lookD kvs (.inl z)).isSome else (lookD kvs (.inl z)).isSome)) else .no := mk_eq rfl
def delR (os : List D) (p : Pl) (kvs : List (D × D)) (kd : D) : Res (List D) := match keyOf kd with
  | some k => if (lookD kvs k).isSome = true then .ok (putC os p (.dct (dropD kvs k))) else .no
  | none => .no
@[simp] theorem delR_i : delR os p kvs (.int z) = if (lookD kvs (.inl z)).isSome = true then .ok (putC os p (.dct (dropD kvs (.inl z)))) else .no := mk_eq rfl
@[simp] theorem delR_s : delR os p kvs (.str s) = if (lookD kvs (.inr s)).isSome = true then .ok (putC os p (.dct (dropD kvs (.inr s)))) else .no := mk_eq rfl
@[simp] theorem sDelDC_ap : sDelDC S gp gk ρ = atD S gp ρ fun os p kvs => thenS ((gk ρ).bind fun k => delR os p kvs k) ρ fun os => .nx (setS S os ρ) := by
  unfold sDelDC
  congr 1
  funext os p kvs
  rw [thenS_bind]
  congr 1
  funext k
  unfold delR
  cases keyOf k with
  | none => rfl
  | some k =>
    simp only
    split <;> rfl
def pdR (os : List D) (p : Pl) (kvs : List (D × D)) (kd : D) : Res (D × List D) := match keyOf kd with
  | some k => match lookD kvs k with
    | some y => .ok (y, putC os p (.dct (dropD kvs k)))
    | none => .no
  | none => .no
@[simp] theorem pdR_s : pdR os p kvs (.str s) = (match lookD kvs (.inr s) with
    | some y => .ok (y, putC os p (.dct (dropD kvs (.inr s))))
    | none => .no) := mk_eq rfl
@[simp] theorem popDC_ap : popDC S gp gi ρ = (liftM (gp ρ) ρ).bind fun r ρ1 => onS (stoR S ρ1) .no fun os => (liftM (asDs r.2) ρ1).bind fun kvs ρ1 => (liftM (gi ρ1) ρ1).bind fun k ρ2 => (liftM (pdR os r.1 kvs k) ρ2).bind fun y ρ3 => .ok y.1 (setS S y.2 ρ3) := by
  unfold popDC
  congr 1
  funext r ρ1
  unfold onS
  cases stoR S ρ1 with
  | none => rfl
  | some os =>
    obtain ⟨p, d⟩ := r
    cases d with
    | dct kvs =>
      simp only [asDs_d, liftM_ok, mbind_ok]
      congr 1
      funext k ρ2
      unfold pdR
      cases keyOf k with
      | none => rfl
      | some k => cases h : lookD kvs k <;> simp [h]
    | _ => rfl
@[simp] theorem sUnpM_ap : sUnpM b gm ρ = thenM (gm ρ) fun d ρ1 => (match b d ρ1 with
  | some ρ' => .nx ρ'
  | none => .no) := rfl
def dkR2 (so : Option (List D)) (d k : D) : Res D := match plD so d, keyOf k with
  | .ok r, some k => match r.2 with
    | .dct kvs => match lookD kvs k with
      | some y => .ok y
      | none => .no
    | _ => .no
  | _, _ => .no
@[simp] theorem dkKM_ap : dkKM S gi gm ρ = (liftM (gi ρ) ρ).bind fun d ρ0 => (gm ρ0).bind fun k ρ1 => liftM (dkR2 (stoR S ρ1) d k) ρ1 := by
  unfold dkKM
  congr 1
  funext d ρ0
  congr 1
  funext k ρ1
  unfold dkR2
  cases plD (stoR S ρ1) d with
  | ok r =>
    cases keyOf k with
    | none => rfl
    | some k =>
      obtain ⟨p, x⟩ := r
      cases x with
      | dct kvs => cases h : lookD kvs k <;> simp [h]
      | _ => rfl
  | _ => rfl
@[simp] theorem plusM_ap {dd : List D} : plusM gA dd ρ = (gA ρ).bind fun ds ρ1 => .ok (ds ++ dd) ρ1 := mk_eq rfl
@[simp] theorem kwM_ap {n m : Nat} : kwM n m gA gB ρ = (gA ρ).bind fun ds ρ1 => (gB ρ1).bind fun es ρ2 => if ds.length = n ∧ es.length = m then .ok (ds ++ es) ρ2 else .no := mk_eq rfl
@[simp] theorem starM_ap : starM gi gA ρ = (liftM (gi ρ) ρ).bind fun d ρ1 => (match d with
  | .tup ds => if ds.all D.nref = true then (gA ρ1).bind fun es ρ2 => .ok (ds ++ es) ρ2 else .no
  | _ => .no) := rfl
@[simp] theorem rootD_ap : rootD S ρ = onS (stoR S ρ) .no fun os => .ok (refD os.length) (setS S (os ++ [.dct []]) ρ) := by
  unfold rootD onS
  cases stoR S ρ <;> rfl
@[simp] theorem sDisp_ap {tab : List (Str × (List D → List D → ResS))} : sDisp gk g2 tab i2 i3 S gA ρ = thenS (gk ρ) ρ fun k => (match k with
  | .str nm => match tab.lookup nm with
    | some mm => if slotN ρ i2 = true then thenS (g2 ρ) ρ fun r => thenM (callS mm S gA (ρ.set i3 (some r))) fun d ρ1 => .rl d ρ1 else .no
    | none => .no
  | _ => .no) := rfl
@[simp] theorem dLenD_d : dLenD [.dct kvs] = .ok (.int kvs.length) := mk_eq rfl
theorem dListD_d (h : keyedD kvs = true) : dListD [.dct kvs] = .ok (kvs.map (·.1)) := if_pos h
end
end T
set_option Elab.async false
set_option linter.all false
set_option maxRecDepth 100000
set_option maxHeartbeats 4000000
namespace Law
open PySem PySem.Spec PyProof.Rows L2 T
def topS (i : Nat) : Stmt := PySem.Challenge.pw_tideland_k23_paths_and_targets_and_nodes.main.body.getD i (.Pass ⟨0, 0, 0, 0⟩)
abbrev d_NAME_CHARS : D := (.str "ABCDEFGHIJKLMNOPQRSTUVWXYZabcdefghijklmnopqrstuvwxyz0123456789_-.")
abbrev d_NAME_MOST : D := (.int 32)
abbrev d_PATH_MOST : D := (.int 256)
abbrev d_NAMES_MOST : D := (.int 16)
abbrev d_HANDLES : D := (.int 16)
def layG : Nat → List Str
  | 0 => ["kind", "body", "links"]
  | 1 => ["nodes", "handles"]
  | _ => []
def fmG : Nat → Nat → FM
  | _, _ => .any
def tab_kind : FT := [(0, 0, .any)]
def tab_body : FT := [(0, 1, .any)]
def tab_links : FT := [(0, 2, .any)]
def tab_nodes : FT := [(1, 0, .any)]
def tab_handles : FT := [(1, 1, .any)]
abbrev s_is_name : Stmt := topS 5
abbrev N_is_name : List Str := ["text", "char"]
theorem sc_is_name : FnScope N_is_name ["text"] (defScope s_is_name) := ⟨rfl, rfl, rfl, by decide +kernel, rfl, by decide +kernel, by decide +kernel⟩
def m_is_name : Rho → Out := (sSeq (sIf (notB (toB (chainV dLe dLe (conD (.int 1)) (callV dLen (consA (getV 0) noA)) (conD d_NAME_MOST)))) (sRet (conD (.bl false))) sSkip) (sSeq (sIf (notB (truV (callV dAll (consA (lstD (compV (itemsV (getV 0)) (bNm 1) yesB (bin dIn (getV 1) (conD d_NAME_CHARS)) [1])) noA)))) (sRet (conD (.bl false))) sSkip) (sRet (bin dNe (methV "str" dStripC (getV 0) (consA (conD (.str ".")) noA)) (conD (.str ""))))))
def f_is_name : List D → Res D := runF 1 2 m_is_name
abbrev s_names_of : Stmt := topS 9
abbrev N_names_of : List Str := ["path"]
theorem sc_names_of : FnScope N_names_of ["path"] (defScope s_names_of) := ⟨rfl, rfl, rfl, by decide +kernel, rfl, by decide +kernel, by decide +kernel⟩
def m_names_of : Rho → Out := (sSeq (sIf (truV (methV "str" dStarts (getV 0) (consA (conD (.str "/")) noA))) (sSet 0 (slV dSl (getV 0) (toPart (conD (.int 1))) noPart)) sSkip) (sSeq (sIf (toB (bin dEq (getV 0) (conD (.str "")))) (sRet (lstD (lstV noA))) sSkip) (sRet (lstD (methV "str" dSplit (getV 0) (consA (conD (.str "/")) noA))))))
def f_names_of : List D → Res D := runF 1 1 m_names_of
abbrev s_Node___init__ : Stmt := inClass (topS 11) 0
abbrev N_Node___init__ : List Str := ["self", "kind", "body", "links", "$"]
theorem sc_Node___init__ : FnScope N_Node___init__ ["self", "kind", "body", "links"] (defScope s_Node___init__) := ⟨rfl, rfl, rfl, by decide +kernel, rfl, by decide +kernel, by decide +kernel⟩
def m_Node___init__ : Rho → Out := (sSeq (sFldS 4 tab_kind (getV 0) (pureM (getV 1))) (sSeq (sFldS 4 tab_body (getV 0) (pureM (getV 2))) (sFldS 4 tab_links (getV 0) (pureM (getV 3)))))
def f_Node___init__ : List D → List D → ResS := runS 4 5 m_Node___init__
abbrev s_Node_measure : Stmt := inClass (topS 11) 2
abbrev N_Node_measure : List Str := ["self", "$"]
theorem sc_Node_measure : FnScope N_Node_measure ["self"] (defScope s_Node_measure) := ⟨rfl, rfl, rfl, by decide +kernel, rfl, by decide +kernel, by decide +kernel⟩
def m_Node_measure : Rho → Out := (sRetM (pureM (nrV (callV dLen (consA (derS 1 (fldS 1 tab_body (getV 0))) noA)))))
def f_Node_measure : List D → List D → ResS := runS 1 2 m_Node_measure
abbrev s_FileTree_is_open : Stmt := inClass (topS 14) 2
abbrev N_FileTree_is_open : List Str := ["self", "number", "$"]
theorem sc_FileTree_is_open : FnScope N_FileTree_is_open ["self", "number"] (defScope s_FileTree_is_open) := ⟨rfl, rfl, rfl, by decide +kernel, rfl, by decide +kernel, by decide +kernel⟩
def m_FileTree_is_open : Rho → Out := (sRetM (pureM (nrV (bin dIn (derS 2 (getV 1)) (derS 2 (fldS 2 tab_handles (getV 0)))))))
def f_FileTree_is_open : List D → List D → ResS := runS 2 3 m_FileTree_is_open
abbrev s_FileTree_entry : Stmt := inClass (topS 14) 3
abbrev N_FileTree_entry : List Str := ["self", "directory", "name", "entry_name", "number", "$"]
theorem sc_FileTree_entry : FnScope N_FileTree_entry ["self", "directory", "name"] (defScope s_FileTree_entry) := ⟨rfl, rfl, rfl, by decide +kernel, rfl, by decide +kernel, by decide +kernel⟩
def m_FileTree_entry_b1 : Rho → Out := (sIf (toB (bin dEq (getV 3) (derS 5 (getV 2)))) (sRetM (pureM (nrV (getV 4)))) sSkip)
def m_FileTree_entry : Rho → Out := (sSeq (sFor (itemsV (nrV (fldS 5 tab_body (dkC 5 (plR 5 (fldS 5 tab_nodes (getV 0))) (derS 5 (getV 1)))))) (bTp 2 (bCons (bNm 3) (bCons (bNm 4) bNil))) m_FileTree_entry_b1) (sRetM (pureM (nrV (conD .non)))))
def f_FileTree_entry : List D → List D → ResS := runS 3 6 m_FileTree_entry
abbrev s__law_draws : Stmt := topS 16
abbrev N__law_draws : List Str := ["script", "count", "draws", "k", "cell"]
theorem sc__law_draws : FnScope N__law_draws ["script", "count"] (defScope s__law_draws) := ⟨rfl, rfl, rfl, by decide +kernel, rfl, by decide +kernel, by decide +kernel⟩
def m__law_draws_b1 : Rho → Out := (sSeq (sSet 4 (conD (.int 0))) (sSeq (sIf (toB (bin dGt (callV dLen (consA (getV 0) noA)) (conD (.int 0)))) (sSet 4 (callV dInt (consA (bin dIx (getV 0) (bin dMod (callV dInt (consA (getV 3) noA)) (callV dLen (consA (getV 0) noA)))) noA))) sSkip) (sSeq (sIf (toB (bin dLt (getV 4) (conD (.int 0)))) (sSet 4 (bin dSub (conD (.int 1)) (bin dMul (conD (.int 2)) (getV 4)))) sSkip) (sSeq (sIf (orB (toB (bin dGe (getV 3) (callV dLen (consA (getV 0) noA)))) (toB (bin dLt (getV 4) (conD (.int 1000000000))))) (sSeq (sSet 4 (bin dMod (callV dInt (consA (bin dAdd (bin dMul (bin dAdd (bin dAdd (getV 4) (bin dMul (conD (.int 97)) (getV 3))) (conD (.int 5))) (conD (.int 69069))) (bin dMul (bin dMul (getV 3) (getV 3)) (conD (.int 40692)))) noA)) (conD (.int 2147483399)))) (sSet 4 (bin dMod (callV dInt (consA (bin dMul (bin dAdd (bin dAdd (getV 4) (bin dMul (conD (.int 13)) (getV 3))) (conD (.int 1))) (conD (.int 6364136223846793005))) noA)) (conD (.int 18446744073709551533))))) sSkip) (sApp 2 (getV 4))))))
def m__law_draws : Rho → Out := (sSeq (sSetN 2 (lstV noA)) (sSeq (sFor (callV dRng1 (consA (getV 1) noA)) (bNm 3) m__law_draws_b1) (sRet (getV 2))))
def f__law_draws : List D → Res D := runF 2 5 m__law_draws
abbrev s__law_name : Stmt := topS 17
abbrev N__law_name : List Str := ["draw", "chars", "count", "name", "j"]
theorem sc__law_name : FnScope N__law_name ["draw"] (defScope s__law_name) := ⟨rfl, rfl, rfl, by decide +kernel, rfl, by decide +kernel, by decide +kernel⟩
def m__law_name : Rho → Out := (sSeq (sSet 1 (conD (.str "abXY09_-."))) (sSeq (sSet 2 (bin dIx (lstD (lstV (consA (conD (.int 1)) (consA (conD (.int 1)) (consA (conD (.int 2)) (consA (conD (.int 3)) (consA (conD (.int 14)) (consA (conD (.int 20)) noA)))))))) (bin dMod (callV dInt (consA (getV 0) noA)) (conD (.int 6))))) (sSeq (sSet 3 (methV "str" dJoin (conD (.str "")) (consA (lstD (compV (callV dRng1 (consA (getV 2) noA)) (bNm 4) yesB (bin dIx (getV 1) (bin dMod (callV dInt (consA (bin dAdd (bin dDiv (getV 0) (conD (.int 6))) (bin dMul (conD (.int 5)) (getV 4))) noA)) (conD (.int 9)))) [4])) noA))) (sSeq (sIf (andB (toB (bin dGt (bin dMod (callV dInt (consA (bin dDiv (getV 0) (conD (.int 54))) noA)) (conD (.int 11))) (conD (.int 0)))) (toB (bin dEq (methV "str" dStripC (getV 3) (consA (conD (.str ".")) noA)) (conD (.str ""))))) (sRet (bin dAdd (conD (.str "z")) (getV 3))) sSkip) (sRet (getV 3))))))
def f__law_name : List D → Res D := runF 1 5 m__law_name
abbrev s__law_is_name : Stmt := topS 19
abbrev N__law_is_name : List Str := ["name", "char"]
theorem sc__law_is_name : FnScope N__law_is_name ["name"] (defScope s__law_is_name) := ⟨rfl, rfl, rfl, by decide +kernel, rfl, by decide +kernel, by decide +kernel⟩
def m__law_is_name_b1 : Rho → Out := (sIf (notB (orB (toB (chainV dLe dLe (conD (.str "a")) (getV 1) (conD (.str "z")))) (orB (toB (chainV dLe dLe (conD (.str "A")) (getV 1) (conD (.str "Z")))) (orB (toB (chainV dLe dLe (conD (.str "0")) (getV 1) (conD (.str "9")))) (toB (bin dIn (getV 1) (lstD (lstV (consA (conD (.str "_")) (consA (conD (.str "-")) (consA (conD (.str ".")) noA))))))))))) (sRet (conD (.bl false))) sSkip)
def m__law_is_name : Rho → Out := (sSeq (sFor (itemsV (getV 0)) (bNm 1) m__law_is_name_b1) (sRet (andV (chainV dLe dLe (conD (.int 1)) (callV dLen (consA (getV 0) noA)) (conD (.int 32))) (bin dGt (callV dLen (consA (lstD (compV (itemsV (getV 0)) (bNm 1) (toB (bin dNe (getV 1) (conD (.str ".")))) (getV 1) [1])) noA)) (conD (.int 0))))))
def f__law_is_name : List D → Res D := runF 1 2 m__law_is_name
abbrev s__law_flag : Stmt := topS 21
abbrev N__law_flag : List Str := ["actual", "due"]
theorem sc__law_flag : FnScope N__law_flag ["actual", "due"] (defScope s__law_flag) := ⟨rfl, rfl, rfl, by decide +kernel, rfl, by decide +kernel, by decide +kernel⟩
def m__law_flag : Rho → Out := (sSeq (sIf (truV (getV 1)) (sRet (bin dIs (getV 0) (conD (.bl true)))) sSkip) (sRet (bin dIs (getV 0) (conD (.bl false)))))
def f__law_flag : List D → Res D := runF 2 2 m__law_flag
abbrev s__law_body : Stmt := topS 23
abbrev N__law_body : List Str := ["draw", "kind", "names", "j"]
theorem sc__law_body : FnScope N__law_body ["draw", "kind"] (defScope s__law_body) := ⟨rfl, rfl, rfl, by decide +kernel, rfl, by decide +kernel, by decide +kernel⟩
def m__law_body : Rho → Out := (sSeq (sIf (toB (bin dEq (getV 1) (conD (.str "file")))) (sRet (callV dTuple (consA (lstD (compV (callV dRng1 (consA (bin dMod (callV dInt (consA (getV 0) noA)) (conD (.int 7))) noA)) (bNm 3) yesB (bin dMod (callV dInt (consA (bin dAdd (bin dDiv (getV 0) (conD (.int 3))) (bin dMul (conD (.int 41)) (getV 3))) noA)) (conD (.int 256))) [3])) noA))) sSkip) (sSeq (sIf (toB (bin dEq (getV 1) (conD (.str "link")))) (sRet (bin dIx (lstD (lstV (consA (conD (.str "/a")) (consA (conD (.str "b/c")) (consA (conD (.str "/")) (consA (conD (.str "x")) noA)))))) (bin dMod (callV dInt (consA (getV 0) noA)) (conD (.int 4))))) sSkip) (sSeq (sSet 2 (lstD (lstV (consA (conD (.str "a")) (consA (conD (.str "b.c")) (consA (conD (.str "d-")) (consA (conD (.str "e")) (consA (conD (.str "f")) noA)))))))) (sRet (callV dTuple (consA (lstD (compV (callV dRng1 (consA (bin dMod (callV dInt (consA (getV 0) noA)) (conD (.int 5))) noA)) (bNm 3) yesB (tupV (consA (bin dIx (getV 2) (getV 3)) (consA (bin dMod (callV dInt (consA (bin dAdd (bin dDiv (getV 0) (conD (.int 5))) (bin dMul (conD (.int 3)) (getV 3))) noA)) (conD (.int 256))) noA))) [3])) noA))))))
def f__law_body : List D → Res D := runF 2 4 m__law_body
abbrev s__law_parts : Stmt := topS 24
abbrev N__law_parts : List Str := ["node", "$"]
theorem sc__law_parts : FnScope N__law_parts ["node"] (defScope s__law_parts) := ⟨rfl, rfl, rfl, by decide +kernel, rfl, by decide +kernel, by decide +kernel⟩
def m__law_parts : Rho → Out := (sRetM (pureM (nrV (tupV (consA (nrV (fldS 1 tab_kind (getV 0))) (consA (nrV (fldS 1 tab_body (getV 0))) (consA (nrV (fldS 1 tab_links (getV 0))) noA)))))))
def f__law_parts : List D → List D → ResS := runS 1 2 m__law_parts
abbrev s_has_names : Stmt := topS 6
abbrev N_has_names : List Str := ["text", "names", "name"]
theorem sc_has_names : FnScope N_has_names ["text"] (defScope s_has_names) := ⟨rfl, rfl, rfl, by decide +kernel, rfl, by decide +kernel, by decide +kernel⟩
def m_has_names : Rho → Out := (sSeq (sSet 1 (lstD (methV "str" dSplit (getV 0) (consA (conD (.str "/")) noA)))) (sRet (andV (bin dLe (callV dLen (consA (getV 1) noA)) (conD d_NAMES_MOST)) (callV dAll (consA (lstD (compV (itemsV (getV 1)) (bNm 2) yesB (callV f_is_name (consA (getV 2) noA)) [2])) noA)))))
def f_has_names : List D → Res D := runF 1 3 m_has_names
abbrev s__law_text : Stmt := topS 18
abbrev N__law_text : List Str := ["draw", "count", "rest", "names", "mode", "text", "j"]
theorem sc__law_text : FnScope N__law_text ["draw"] (defScope s__law_text) := ⟨rfl, rfl, rfl, by decide +kernel, rfl, by decide +kernel, by decide +kernel⟩
def m__law_text : Rho → Out := (sSeq (sSet 1 (bin dIx (lstD (lstV (consA (conD (.int 1)) (consA (conD (.int 2)) (consA (conD (.int 3)) (consA (conD (.int 1)) (consA (conD (.int 15)) (consA (conD (.int 16)) (consA (conD (.int 17)) (consA (conD (.int 18)) (consA (conD (.int 12)) (consA (conD (.int 0)) noA)))))))))))) (bin dMod (callV dInt (consA (getV 0) noA)) (conD (.int 10))))) (sSeq (sSet 2 (callV dInt (consA (bin dDiv (getV 0) (conD (.int 10))) noA))) (sSeq (sSetN 3 (compV (callV dRng1 (consA (getV 1) noA)) (bNm 6) yesB (callV f__law_name (consA (bin dAdd (bin dDiv (getV 2) (bin dAdd (getV 6) (conD (.int 3)))) (bin dMul (conD (.int 131)) (getV 6))) noA)) [6])) (sSeq (sSet 4 (bin dMod (callV dInt (consA (getV 2) noA)) (conD (.int 12)))) (sSeq (sIf (andB (toB (bin dEq (getV 4) (conD (.int 1)))) (toB (bin dGt (getV 1) (conD (.int 0))))) (sSetI 3 (bin dMod (callV dInt (consA (bin dDiv (getV 2) (conD (.int 12))) noA)) (getV 1)) (conD (.str ""))) sSkip) (sSeq (sIf (andB (toB (bin dEq (getV 4) (conD (.int 2)))) (toB (bin dGt (getV 1) (conD (.int 0))))) (sSetI 3 (bin dMod (callV dInt (consA (bin dDiv (getV 2) (conD (.int 12))) noA)) (getV 1)) (bin dIx (lstD (lstV (consA (conD (.str "..")) (consA (conD (.str "a b")) (consA (conD (.str "c*")) (consA (conD (.str "x/")) (consA (conD (.str ".")) noA))))))) (bin dMod (callV dInt (consA (bin dDiv (getV 2) (conD (.int 300))) noA)) (conD (.int 5))))) sSkip) (sSeq (sSet 5 (methV "str" dJoin (conD (.str "/")) (consA (getV 3) noA))) (sSeq (sIf (toB (bin dEq (getV 4) (conD (.int 3)))) (sSet 5 (bin dAdd (getV 5) (conD (.str "/")))) sSkip) (sSeq (sIf (toB (bin dGt (bin dMod (callV dInt (consA (bin dDiv (getV 2) (conD (.int 5))) noA)) (conD (.int 3))) (conD (.int 0)))) (sSet 5 (bin dAdd (conD (.str "/")) (getV 5))) sSkip) (sRet (getV 5)))))))))))
def f__law_text : List D → Res D := runF 1 7 m__law_text
abbrev s__law_row : Stmt := topS 20
abbrev N__law_row : List Str := ["text", "names", "name"]
theorem sc__law_row : FnScope N__law_row ["text"] (defScope s__law_row) := ⟨rfl, rfl, rfl, by decide +kernel, rfl, by decide +kernel, by decide +kernel⟩
def m__law_row_b1 : Rho → Out := (sIf (notB (truV (callV f__law_is_name (consA (getV 2) noA)))) (sRet (conD .non)) sSkip)
def m__law_row : Rho → Out := (sSeq (sSet 1 (lstD (methV "str" dSplit (getV 0) (consA (conD (.str "/")) noA)))) (sSeq (sIf (toB (bin dGt (callV dLen (consA (getV 1) noA)) (conD (.int 16)))) (sRet (conD .non)) sSkip) (sSeq (sFor (itemsV (getV 1)) (bNm 2) m__law_row_b1) (sRet (getV 1)))))
def f__law_row : List D → Res D := runF 1 3 m__law_row
abbrev s__law_entries : Stmt := topS 26
abbrev N__law_entries : List Str := ["tree", "number", "body", "name", "due", "pair", "$"]
theorem sc__law_entries : FnScope N__law_entries ["tree", "number", "body"] (defScope s__law_entries) := ⟨rfl, rfl, rfl, by decide +kernel, rfl, by decide +kernel, by decide +kernel⟩
def m__law_entries_b2 : Rho → Out := (sIf (toB (bin dEq (bin dIx (getV 5) (conD (.int 0))) (getV 3))) (sSet 4 (bin dIx (getV 5) (conD (.int 1)))) sSkip)
def m__law_entries_b1 : Rho → Out := (sSeq (sSet 4 (conD .non)) (sSeq (sFor (itemsV (nrV (getV 2))) (bNm 5) m__law_entries_b2) (sIfM (toBM (binM dNe (nrM (methS 1 f_FileTree_entry 6 (getV 0) (consM (pureM (getV 1)) (consM (pureM (nrV (getV 3))) noM)))) (pureM (getV 4)))) (sRetM (pureM (nrV (conD (.bl false))))) sSkip)))
def m__law_entries : Rho → Out := (sSeq (sFor (itemsV (lstD (lstV (consA (conD (.str "a")) (consA (conD (.str "b.c")) (consA (conD (.str "d-")) (consA (conD (.str "e")) (consA (conD (.str "f")) (consA (conD (.str "g")) noA))))))))) (bNm 3) m__law_entries_b1) (sRetM (pureM (nrV (conD (.bl true))))))
def f__law_entries : List D → List D → ResS := runS 3 7 m__law_entries
abbrev s_is_path : Stmt := topS 7
abbrev N_is_path : List Str := ["text"]
theorem sc_is_path : FnScope N_is_path ["text"] (defScope s_is_path) := ⟨rfl, rfl, rfl, by decide +kernel, rfl, by decide +kernel, by decide +kernel⟩
def m_is_path : Rho → Out := (sSeq (sIf (toB (bin dEq (getV 0) (conD (.str "/")))) (sRet (conD (.bl true))) sSkip) (sRet (andV (methV "str" dStarts (getV 0) (consA (conD (.str "/")) noA)) (andV (bin dLe (callV dLen (consA (getV 0) noA)) (conD d_PATH_MOST)) (callV f_has_names (consA (slV dSl (getV 0) (toPart (conD (.int 1))) noPart) noA))))))
def f_is_path : List D → Res D := runF 1 1 m_is_path
abbrev s_Node___eq__ : Stmt := inClass (topS 11) 1
abbrev N_Node___eq__ : List Str := ["self", "other", "$"]
theorem sc_Node___eq__ : FnScope N_Node___eq__ ["self", "other"] (defScope s_Node___eq__) := ⟨rfl, rfl, rfl, by decide +kernel, rfl, by decide +kernel, by decide +kernel⟩
def m_Node___eq__ : Rho → Out := (sSeq (sIf (notB (truV (isiS 0 2 (getV 1)))) (sRetM (pureM (nrV (conD (.bl false))))) sSkip) (sRetM (pureM (nrV (andV (bin dEq (derS 2 (fldS 2 tab_kind (getV 0))) (derS 2 (fldS 2 tab_kind (getV 1)))) (andV (bin dEq (derS 2 (fldS 2 tab_body (getV 0))) (derS 2 (fldS 2 tab_body (getV 1)))) (bin dEq (derS 2 (fldS 2 tab_links (getV 0))) (derS 2 (fldS 2 tab_links (getV 1))))))))))
def f_Node___eq__ : List D → List D → ResS := runS 2 3 m_Node___eq__
abbrev s_Node_with_body : Stmt := inClass (topS 11) 3
abbrev N_Node_with_body : List Str := ["self", "body", "$"]
theorem sc_Node_with_body : FnScope N_Node_with_body ["self", "body"] (defScope s_Node_with_body) := ⟨rfl, rfl, rfl, by decide +kernel, rfl, by decide +kernel, by decide +kernel⟩
def m_Node_with_body : Rho → Out := (sRetM (makeS 0 f_Node___init__ 2 (kwM 2 1 (consM (pureM (fldS 2 tab_kind (getV 0))) (consM (pureM (getV 1)) noM)) (consM (pureM (fldS 2 tab_links (getV 0))) noM))))
def f_Node_with_body : List D → List D → ResS := runS 2 3 m_Node_with_body
abbrev s_Node_with_links : Stmt := inClass (topS 11) 4
abbrev N_Node_with_links : List Str := ["self", "links", "$"]
theorem sc_Node_with_links : FnScope N_Node_with_links ["self", "links"] (defScope s_Node_with_links) := ⟨rfl, rfl, rfl, by decide +kernel, rfl, by decide +kernel, by decide +kernel⟩
def m_Node_with_links : Rho → Out := (sRetM (makeS 0 f_Node___init__ 2 (kwM 2 1 (consM (pureM (fldS 2 tab_kind (getV 0))) (consM (pureM (fldS 2 tab_body (getV 0))) noM)) (consM (pureM (getV 1)) noM))))
def f_Node_with_links : List D → List D → ResS := runS 2 3 m_Node_with_links
abbrev s_FileTree___init__ : Stmt := inClass (topS 14) 0
abbrev N_FileTree___init__ : List Str := ["self", "$"]
theorem sc_FileTree___init__ : FnScope N_FileTree___init__ ["self"] (defScope s_FileTree___init__) := ⟨rfl, rfl, rfl, by decide +kernel, rfl, by decide +kernel, by decide +kernel⟩
def m_FileTree___init__ : Rho → Out := (sSeq (sFldS 1 tab_nodes (getV 0) (dispM 1 [(.inl 0)] (consM (makeS 0 f_Node___init__ 1 (plusM (consM (pureM (nrV (conD (.str "directory")))) (consM (pureM (nrV (tupV noA))) noM)) [.int 1])) noM))) (sFldS 1 tab_handles (getV 0) (rootN 1 (bin dRep (lstD (lstV (consA (conD .non) noA))) (conD d_HANDLES)))))
def f_FileTree___init__ : List D → List D → ResS := runS 1 2 m_FileTree___init__
abbrev s_is_target : Stmt := topS 8
abbrev N_is_target : List Str := ["text"]
theorem sc_is_target : FnScope N_is_target ["text"] (defScope s_is_target) := ⟨rfl, rfl, rfl, by decide +kernel, rfl, by decide +kernel, by decide +kernel⟩
def m_is_target : Rho → Out := (sRet (orV (callV f_is_path (consA (getV 0) noA)) (andV (bin dLe (callV dLen (consA (getV 0) noA)) (conD d_PATH_MOST)) (callV f_has_names (consA (getV 0) noA)))))
def f_is_target : List D → Res D := runF 1 1 m_is_target
abbrev s__law_nodes : Stmt := topS 25
abbrev N__law_nodes : List Str := ["draws", "j", "kind", "body", "other", "links", "node", "$"]
theorem sc__law_nodes : FnScope N__law_nodes ["draws"] (defScope s__law_nodes) := ⟨rfl, rfl, rfl, by decide +kernel, rfl, by decide +kernel, by decide +kernel⟩
def m__law_nodes_b1 : Rho → Out := (sSeq (sSet 2 (bin dIx (lstD (lstV (consA (conD (.str "file")) (consA (conD (.str "directory")) (consA (conD (.str "link")) noA))))) (getV 1))) (sSeq (sSet 3 (callV f__law_body (consA (nrV (ixA 7 (getV 0) (getV 1))) (consA (getV 2) noA)))) (sSeq (sSet 4 (callV f__law_body (consA (nrV (ixA 7 (getV 0) (bin dAdd (getV 1) (conD (.int 3))))) (consA (getV 2) noA)))) (sSeq (sSet 5 (bin dMod (callV dInt (consA (bin dDiv (derS 7 (ixA 7 (getV 0) (getV 1))) (conD (.int 1000))) noA)) (conD (.int 6)))) (sSeq (sSetA 6 (makeS 0 f_Node___init__ 7 (kwM 2 1 (consM (pureM (nrV (getV 2))) (consM (pureM (nrV (getV 3))) noM)) (consM (pureM (nrV (getV 5))) noM)))) (sSeq (sIfM (orM (toBM (binM dNe (nrM (callS f__law_parts 7 (consM (pureM (getV 6)) noM))) (pureM (tupV (consA (getV 2) (consA (getV 3) (consA (getV 5) noA))))))) (toBM (binM dNe (nrM (callS f__law_parts 7 (consM (makeS 0 f_Node___init__ 7 (plusM (consM (pureM (nrV (getV 2))) (consM (pureM (nrV (getV 3))) noM)) [.int 1])) noM))) (pureM (tupV (consA (getV 2) (consA (getV 3) (consA (conD (.int 1)) noA)))))))) (sRetM (pureM (nrV (conD (.bl false))))) sSkip) (sSeq (sIfM (orM (toBM (binM dNe (nrM (methS 0 f_Node_measure 7 (getV 6) noM)) (pureM (callV dLen (consA (getV 3) noA))))) (toBM (binM dNe (nrM (callS f__law_parts 7 (consM (methS 0 f_Node_with_body 7 (getV 6) (consM (pureM (nrV (getV 4))) noM)) noM))) (pureM (tupV (consA (getV 2) (consA (getV 4) (consA (getV 5) noA)))))))) (sRetM (pureM (nrV (conD (.bl false))))) sSkip) (sSeq (sIfM (orM (toBM (binM dNe (nrM (callS f__law_parts 7 (consM (methS 0 f_Node_with_links 7 (getV 6) (consM (pureM (nrV (bin dAdd (getV 5) (conD (.int 1))))) noM)) noM))) (pureM (tupV (consA (getV 2) (consA (getV 3) (consA (bin dAdd (getV 5) (conD (.int 1))) noA))))))) (toBM (binM dNe (nrM (callS f__law_parts 7 (consM (pureM (getV 6)) noM))) (pureM (tupV (consA (getV 2) (consA (getV 3) (consA (getV 5) noA)))))))) (sRetM (pureM (nrV (conD (.bl false))))) sSkip) (sSeq (sIfM (orM (toBM (binM dNe (eqS 0 f_Node___eq__ 7 (getV 6) (makeS 0 f_Node___init__ 7 (kwM 2 1 (consM (pureM (nrV (getV 2))) (consM (pureM (nrV (getV 4))) noM)) (consM (pureM (nrV (getV 5))) noM)))) (pureM (bin dEq (getV 4) (getV 3))))) (toBM (eqS 0 f_Node___eq__ 7 (getV 6) (methS 0 f_Node_with_links 7 (getV 6) (consM (pureM (nrV (bin dAdd (getV 5) (conD (.int 1))))) noM))))) (sRetM (pureM (nrV (conD (.bl false))))) sSkip) (sSeq (sIfM (orM (notM (toBM (eqS 0 f_Node___eq__ 7 (getV 6) (makeS 0 f_Node___init__ 7 (kwM 2 1 (consM (pureM (nrV (getV 2))) (consM (pureM (nrV (getV 3))) noM)) (consM (pureM (nrV (getV 5))) noM)))))) (orM (toBM (eqS 0 f_Node___eq__ 7 (getV 6) (pureM (nrV (tupV (consA (getV 2) (consA (getV 3) (consA (getV 5) noA)))))))) (toBM (eqS 0 f_Node___eq__ 7 (getV 6) (pureM (nrV (getV 2))))))) (sRetM (pureM (nrV (conD (.bl false))))) sSkip) (sIfM (andM (pureM (toB (bin dNe (getV 2) (conD (.str "link"))))) (andM (pureM (toB (bin dEq (getV 3) (tupV noA)))) (toBM (eqS 0 f_Node___eq__ 7 (getV 6) (makeS 0 f_Node___init__ 7 (kwM 2 1 (consM (pureM (nrV (bin dIx (lstD (lstV (consA (conD (.str "directory")) (consA (conD (.str "file")) noA)))) (getV 1)))) (consM (pureM (nrV (tupV noA))) noM)) (consM (pureM (nrV (getV 5))) noM))))))) (sRetM (pureM (nrV (conD (.bl false))))) sSkip)))))))))))
def m__law_nodes : Rho → Out := (sSeq (sFor (callV dRng1 (consA (conD (.int 3)) noA)) (bNm 1) m__law_nodes_b1) (sRetM (pureM (nrV (conD (.bl true))))))
def f__law_nodes : List D → List D → ResS := runS 1 8 m__law_nodes
abbrev s_FileTree_copied : Stmt := inClass (topS 14) 1
abbrev N_FileTree_copied : List Str := ["self", "tree", "$"]
theorem sc_FileTree_copied : FnScope N_FileTree_copied ["self"] (defScope s_FileTree_copied) := ⟨rfl, rfl, rfl, by decide +kernel, rfl, by decide +kernel, by decide +kernel⟩
def m_FileTree_copied : Rho → Out := (sSeq (sSetA 1 (makeS 1 f_FileTree___init__ 2 noM)) (sSeq (sFldS 2 tab_nodes (getV 1) (dcopyM 2 (fldS 2 tab_nodes (getV 0)))) (sSeq (sFldS 2 tab_handles (getV 1) (rootN 2 (callV dList (consA (derS 2 (fldS 2 tab_handles (getV 0))) noA)))) (sRetM (pureM (getV 1))))))
def f_FileTree_copied : List D → List D → ResS := runS 1 3 m_FileTree_copied
abbrev s__law_asks_first : Stmt := topS 22
abbrev N__law_asks_first : List Str := ["script", "draw", "text", "absolute", "relative"]
theorem sc__law_asks_first : FnScope N__law_asks_first ["script"] (defScope s__law_asks_first) := ⟨rfl, rfl, rfl, by decide +kernel, rfl, by decide +kernel, by decide +kernel⟩
def m__law_asks_first_b1 : Rho → Out := (sSeq (sSet 2 (callV f__law_text (consA (getV 1) noA))) (sSeq (sSet 3 (conD .non)) (sSeq (sSet 4 (conD .non)) (sSeq (sIf (toB (bin dLe (callV dLen (consA (getV 2) noA)) (conD (.int 256)))) (sSeq (sSet 4 (callV f__law_row (consA (getV 2) noA))) (sIf (toB (bin dEq (getV 2) (conD (.str "/")))) (sSet 3 (lstD (lstV noA))) (sIf (toB (bin dEq (slV dSl (getV 2) noPart (toPart (conD (.int 1)))) (conD (.str "/")))) (sSet 3 (callV f__law_row (consA (slV dSl (getV 2) (toPart (conD (.int 1))) noPart) noA))) sSkip))) sSkip) (sSeq (sIf (notB (truV (callV f__law_flag (consA (callV f_is_path (consA (getV 2) noA)) (consA (bin dIsNot (getV 3) (conD .non)) noA))))) (sRet (conD (.bl false))) sSkip) (sSeq (sIf (notB (truV (callV f__law_flag (consA (callV f_is_target (consA (getV 2) noA)) (consA (orV (bin dIsNot (getV 3) (conD .non)) (bin dIsNot (getV 4) (conD .non))) noA))))) (sRet (conD (.bl false))) sSkip) (sSeq (sIf (andB (toB (bin dIsNot (getV 3) (conD .non))) (toB (bin dNe (callV f_names_of (consA (getV 2) noA)) (getV 3)))) (sRet (conD (.bl false))) sSkip) (sIf (andB (toB (bin dIsNot (getV 4) (conD .non))) (toB (bin dNe (callV f_names_of (consA (getV 2) noA)) (getV 4)))) (sRet (conD (.bl false))) sSkip))))))))
def m__law_asks_first : Rho → Out := (sSeq (sFor (itemsV (callV f__law_draws (consA (getV 0) (consA (conD (.int 40)) noA)))) (bNm 1) m__law_asks_first_b1) (sRet (conD (.bl true))))
def f__law_asks_first : List D → Res D := runF 1 5 m__law_asks_first
abbrev s__law_asks_second : Stmt := topS 27
abbrev N__law_asks_second : List Str := ["script", "draws", "tree", "number", "leaf", "handle", "copy", "again", "$"]
theorem sc__law_asks_second : FnScope N__law_asks_second ["script"] (defScope s__law_asks_second) := ⟨rfl, rfl, rfl, by decide +kernel, rfl, by decide +kernel, by decide +kernel⟩
def m__law_asks_second : Rho → Out := (sSeq (sSet 1 (callV f__law_draws (consA (nrV (getV 0)) (consA (conD (.int 10)) noA)))) (sSeq (sIfM (notM (toBM (nrM (callS f__law_nodes 8 (consM (pureM (nrV (getV 1))) noM))))) (sRetM (pureM (nrV (conD (.bl false))))) sSkip) (sSeq (sSetA 2 (makeS 1 f_FileTree___init__ 8 noM)) (sSeq (sIfM (orM (pureM (toB (bin dNe (lstD (callV dListD (consA (derS 8 (fldS 8 tab_nodes (getV 2))) noA))) (lstD (lstV (consA (conD (.int 0)) noA)))))) (toBM (binM dNe (nrM (callS f__law_parts 8 (consM (pureM (dkC 8 (plR 8 (fldS 8 tab_nodes (getV 2))) (conD (.int 0)))) noM))) (pureM (tupV (consA (conD (.str "directory")) (consA (tupV noA) (consA (conD (.int 1)) noA)))))))) (sRetM (pureM (nrV (conD (.bl false))))) sSkip) (sSeq (sIf (toB (bin dNe (derS 8 (fldS 8 tab_handles (getV 2))) (lstD (bin dRep (lstD (lstV (consA (conD .non) noA))) (conD (.int 16)))))) (sRetM (pureM (nrV (conD (.bl false))))) sSkip) (sSeq (sSet 3 (bin dAdd (conD (.int 1)) (bin dMod (callV dInt (consA (bin dIx (getV 1) (conD (.int 6))) noA)) (conD (.int 255))))) (sSeq (sSet 4 (bin dAdd (conD (.int 1)) (bin dMod (callV dInt (consA (getV 3) noA)) (conD (.int 255))))) (sSeq (sSet 5 (bin dMod (callV dInt (consA (bin dIx (getV 1) (conD (.int 7))) noA)) (conD (.int 16)))) (sSeq (sSetA 6 (methS 1 f_FileTree_copied 8 (getV 2) noM)) (sSeq (sSetDC 8 (plR 8 (fldS 8 tab_nodes (getV 6))) (getV 3) (makeS 0 f_Node___init__ 8 (plusM (consM (pureM (nrV (conD (.str "directory")))) (consM (pureM (nrV (callV f__law_body (consA (bin dIx (getV 1) (conD (.int 8))) (consA (conD (.str "directory")) noA))))) noM)) [.int 1]))) (sSeq (sSetDC 8 (plR 8 (fldS 8 tab_nodes (getV 6))) (getV 4) (makeS 0 f_Node___init__ 8 (plusM (consM (pureM (nrV (conD (.str "file")))) (consM (pureM (nrV (callV f__law_body (consA (bin dIx (getV 1) (conD (.int 9))) (consA (conD (.str "file")) noA))))) noM)) [.int 1]))) (sSeq (sSetIC 8 (plR 8 (fldS 8 tab_handles (getV 6))) (getV 5) (nrV (getV 4))) (sSeq (sIfM (orM (pureM (toB (bin dNe (lstD (callV dListD (consA (derS 8 (fldS 8 tab_nodes (getV 2))) noA))) (lstD (lstV (consA (conD (.int 0)) noA)))))) (orM (pureM (toB (bin dNe (derS 8 (fldS 8 tab_handles (getV 2))) (lstD (bin dRep (lstD (lstV (consA (conD .non) noA))) (conD (.int 16))))))) (toBM (binM dIsNot (nrM (methS 1 f_FileTree_is_open 8 (getV 2) (consM (pureM (nrV (conD (.int 0)))) noM))) (pureM (conD (.bl false))))))) (sRetM (pureM (nrV (conD (.bl false))))) sSkip) (sSeq (sIfM (orM (toBM (binM dIsNot (nrM (methS 1 f_FileTree_is_open 8 (getV 6) (consM (pureM (nrV (getV 4))) noM))) (pureM (conD (.bl true))))) (orM (toBM (binM dIsNot (nrM (methS 1 f_FileTree_is_open 8 (getV 6) (consM (pureM (nrV (getV 3))) noM))) (pureM (conD (.bl false))))) (toBM (binM dIsNot (nrM (methS 1 f_FileTree_is_open 8 (getV 6) (consM (pureM (nrV (conD (.int 0)))) noM))) (pureM (conD (.bl false))))))) (sRetM (pureM (nrV (conD (.bl false))))) sSkip) (sSeq (sSetA 7 (methS 1 f_FileTree_copied 8 (getV 6) noM)) (sSeq (sSetIC 8 (plR 8 (fldS 8 tab_handles (getV 7))) (getV 5) (nrV (conD .non))) (sSeq (sIfM (orM (notM (toBM (nrM (methS 1 f_FileTree_is_open 8 (getV 6) (consM (pureM (nrV (getV 4))) noM))))) (orM (toBM (nrM (methS 1 f_FileTree_is_open 8 (getV 7) (consM (pureM (nrV (getV 4))) noM)))) (pureM (toB (bin dNe (lstD (callV dSortedG (consA (lstD (callV dListD (consA (derS 8 (fldS 8 tab_nodes (getV 7))) noA))) noA))) (lstD (callV dSortedG (consA (lstD (lstV (consA (conD (.int 0)) (consA (getV 3) (consA (getV 4) noA))))) noA)))))))) (sRetM (pureM (nrV (conD (.bl false))))) sSkip) (sRetM (nrM (andVM (nrM (callS f__law_entries 8 (consM (pureM (getV 6)) (consM (pureM (nrV (getV 3))) (consM (pureM (nrV (callV f__law_body (consA (bin dIx (getV 1) (conD (.int 8))) (consA (conD (.str "directory")) noA))))) noM))))) (nrM (callS f__law_entries 8 (consM (pureM (getV 6)) (consM (pureM (nrV (conD (.int 0)))) (consM (pureM (nrV (lstD (lstV noA)))) noM)))))))))))))))))))))))))
def f__law_asks_second : List D → List D → ResS := runS 1 9 m__law_asks_second
abbrev s_law : Stmt := topS 28
abbrev N_law : List Str := ["script", "$"]
theorem sc_law : FnScope N_law ["script"] (defScope s_law) := ⟨rfl, rfl, rfl, by decide +kernel, rfl, by decide +kernel, by decide +kernel⟩
def m_law : Rho → Out := (sRetM (nrM (andVM (pureM (callV f__law_asks_first (consA (getV 0) noA))) (nrM (callS f__law_asks_second 1 (consM (pureM (nrV (getV 0))) noM))))))
def f_law : List D → Res D := runE 1 2 m_law
set_option genInjectivity false in
set_option genSizeOf false in
structure Txt [Mg] (K : PySem.W.Frag) (mg : Str → Option Value) (w : World) where
  a_is_name : Addr
  fd_is_name : FuncData
  F_is_name : Fun K "is_name" "is_name" s_is_name a_is_name fd_is_name
  g_is_name : mg "is_name" = some (.ref a_is_name)
  b_is_name : Binds K fd_is_name ["text"] []
  a_names_of : Addr
  fd_names_of : FuncData
  F_names_of : Fun K "names_of" "names_of" s_names_of a_names_of fd_names_of
  g_names_of : mg "names_of" = some (.ref a_names_of)
  b_names_of : Binds K fd_names_of ["path"] []
  a_Node___init__ : Addr
  fd_Node___init__ : FuncData
  F_Node___init__ : Fun K "__init__" "Node.__init__" s_Node___init__ a_Node___init__ fd_Node___init__
  bd_Node___init__ : ∃ ds, Vals [.int 1] ds ∧ Binds K fd_Node___init__ ["self", "kind", "body", "links"] ds
  bk_Node___init__ : KBn K fd_Node___init__ ["self", "kind", "body", "links"] (2 + 1) ["links"] (fun us ws => us ++ ws) (fun vs zs => vs ++ zs)
  k_Node : Mk K (Mg.cls 0) a_Node___init__
  a_Node_measure : Addr
  fd_Node_measure : FuncData
  F_Node_measure : Fun K "measure" "Node.measure" s_Node_measure a_Node_measure fd_Node_measure
  b_Node_measure : Binds K fd_Node_measure ["self"] []
  m_Node_measure : MethC K 0 "measure" a_Node_measure
  a_FileTree_is_open : Addr
  fd_FileTree_is_open : FuncData
  F_FileTree_is_open : Fun K "is_open" "FileTree.is_open" s_FileTree_is_open a_FileTree_is_open fd_FileTree_is_open
  b_FileTree_is_open : Binds K fd_FileTree_is_open ["self", "number"] []
  m_FileTree_is_open : MethC K 1 "is_open" a_FileTree_is_open
  a_FileTree_entry : Addr
  fd_FileTree_entry : FuncData
  F_FileTree_entry : Fun K "entry" "FileTree.entry" s_FileTree_entry a_FileTree_entry fd_FileTree_entry
  b_FileTree_entry : Binds K fd_FileTree_entry ["self", "directory", "name"] []
  m_FileTree_entry : MethC K 1 "entry" a_FileTree_entry
  a__law_draws : Addr
  fd__law_draws : FuncData
  F__law_draws : Fun K "_law_draws" "_law_draws" s__law_draws a__law_draws fd__law_draws
  g__law_draws : mg "_law_draws" = some (.ref a__law_draws)
  b__law_draws : Binds K fd__law_draws ["script", "count"] []
  a__law_name : Addr
  fd__law_name : FuncData
  F__law_name : Fun K "_law_name" "_law_name" s__law_name a__law_name fd__law_name
  g__law_name : mg "_law_name" = some (.ref a__law_name)
  b__law_name : Binds K fd__law_name ["draw"] []
  a__law_is_name : Addr
  fd__law_is_name : FuncData
  F__law_is_name : Fun K "_law_is_name" "_law_is_name" s__law_is_name a__law_is_name fd__law_is_name
  g__law_is_name : mg "_law_is_name" = some (.ref a__law_is_name)
  b__law_is_name : Binds K fd__law_is_name ["name"] []
  a__law_flag : Addr
  fd__law_flag : FuncData
  F__law_flag : Fun K "_law_flag" "_law_flag" s__law_flag a__law_flag fd__law_flag
  g__law_flag : mg "_law_flag" = some (.ref a__law_flag)
  b__law_flag : Binds K fd__law_flag ["actual", "due"] []
  a__law_body : Addr
  fd__law_body : FuncData
  F__law_body : Fun K "_law_body" "_law_body" s__law_body a__law_body fd__law_body
  g__law_body : mg "_law_body" = some (.ref a__law_body)
  b__law_body : Binds K fd__law_body ["draw", "kind"] []
  a__law_parts : Addr
  fd__law_parts : FuncData
  F__law_parts : Fun K "_law_parts" "_law_parts" s__law_parts a__law_parts fd__law_parts
  g__law_parts : mg "_law_parts" = some (.ref a__law_parts)
  b__law_parts : Binds K fd__law_parts ["node"] []
  a_has_names : Addr
  fd_has_names : FuncData
  F_has_names : Fun K "has_names" "has_names" s_has_names a_has_names fd_has_names
  g_has_names : mg "has_names" = some (.ref a_has_names)
  b_has_names : Binds K fd_has_names ["text"] []
  a__law_text : Addr
  fd__law_text : FuncData
  F__law_text : Fun K "_law_text" "_law_text" s__law_text a__law_text fd__law_text
  g__law_text : mg "_law_text" = some (.ref a__law_text)
  b__law_text : Binds K fd__law_text ["draw"] []
  a__law_row : Addr
  fd__law_row : FuncData
  F__law_row : Fun K "_law_row" "_law_row" s__law_row a__law_row fd__law_row
  g__law_row : mg "_law_row" = some (.ref a__law_row)
  b__law_row : Binds K fd__law_row ["text"] []
  a__law_entries : Addr
  fd__law_entries : FuncData
  F__law_entries : Fun K "_law_entries" "_law_entries" s__law_entries a__law_entries fd__law_entries
  g__law_entries : mg "_law_entries" = some (.ref a__law_entries)
  b__law_entries : Binds K fd__law_entries ["tree", "number", "body"] []
  a_is_path : Addr
  fd_is_path : FuncData
  F_is_path : Fun K "is_path" "is_path" s_is_path a_is_path fd_is_path
  g_is_path : mg "is_path" = some (.ref a_is_path)
  b_is_path : Binds K fd_is_path ["text"] []
  a_Node___eq__ : Addr
  fd_Node___eq__ : FuncData
  F_Node___eq__ : Fun K "__eq__" "Node.__eq__" s_Node___eq__ a_Node___eq__ fd_Node___eq__
  b_Node___eq__ : Binds K fd_Node___eq__ ["self", "other"] []
  m_Node___eq__ : MethC K 0 "__eq__" a_Node___eq__
  a_Node_with_body : Addr
  fd_Node_with_body : FuncData
  F_Node_with_body : Fun K "with_body" "Node.with_body" s_Node_with_body a_Node_with_body fd_Node_with_body
  b_Node_with_body : Binds K fd_Node_with_body ["self", "body"] []
  m_Node_with_body : MethC K 0 "with_body" a_Node_with_body
  a_Node_with_links : Addr
  fd_Node_with_links : FuncData
  F_Node_with_links : Fun K "with_links" "Node.with_links" s_Node_with_links a_Node_with_links fd_Node_with_links
  b_Node_with_links : Binds K fd_Node_with_links ["self", "links"] []
  m_Node_with_links : MethC K 0 "with_links" a_Node_with_links
  a_FileTree___init__ : Addr
  fd_FileTree___init__ : FuncData
  F_FileTree___init__ : Fun K "__init__" "FileTree.__init__" s_FileTree___init__ a_FileTree___init__ fd_FileTree___init__
  b_FileTree___init__ : Binds K fd_FileTree___init__ ["self"] []
  k_FileTree : Mk K (Mg.cls 1) a_FileTree___init__
  a_is_target : Addr
  fd_is_target : FuncData
  F_is_target : Fun K "is_target" "is_target" s_is_target a_is_target fd_is_target
  g_is_target : mg "is_target" = some (.ref a_is_target)
  b_is_target : Binds K fd_is_target ["text"] []
  a__law_nodes : Addr
  fd__law_nodes : FuncData
  F__law_nodes : Fun K "_law_nodes" "_law_nodes" s__law_nodes a__law_nodes fd__law_nodes
  g__law_nodes : mg "_law_nodes" = some (.ref a__law_nodes)
  b__law_nodes : Binds K fd__law_nodes ["draws"] []
  a_FileTree_copied : Addr
  fd_FileTree_copied : FuncData
  F_FileTree_copied : Fun K "copied" "FileTree.copied" s_FileTree_copied a_FileTree_copied fd_FileTree_copied
  b_FileTree_copied : Binds K fd_FileTree_copied ["self"] []
  m_FileTree_copied : MethC K 1 "copied" a_FileTree_copied
  a__law_asks_first : Addr
  fd__law_asks_first : FuncData
  F__law_asks_first : Fun K "_law_asks_first" "_law_asks_first" s__law_asks_first a__law_asks_first fd__law_asks_first
  g__law_asks_first : mg "_law_asks_first" = some (.ref a__law_asks_first)
  b__law_asks_first : Binds K fd__law_asks_first ["script"] []
  a__law_asks_second : Addr
  fd__law_asks_second : FuncData
  F__law_asks_second : Fun K "_law_asks_second" "_law_asks_second" s__law_asks_second a__law_asks_second fd__law_asks_second
  g__law_asks_second : mg "_law_asks_second" = some (.ref a__law_asks_second)
  b__law_asks_second : Binds K fd__law_asks_second ["script"] []
  a_law : Addr
  fd_law : FuncData
  F_law : Fun K "law" "law" s_law a_law fd_law
  g_law : mg "law" = some (.ref a_law)
  b_law : Binds K fd_law ["script"] []
  c_NAME_CHARS : ∃ u, mg "NAME_CHARS" = some u ∧ ∃ v, RelV v u ∧ ∀ B, Rp K B v d_NAME_CHARS
  c_NAME_MOST : ∃ u, mg "NAME_MOST" = some u ∧ ∃ v, RelV v u ∧ ∀ B, Rp K B v d_NAME_MOST
  c_PATH_MOST : ∃ u, mg "PATH_MOST" = some u ∧ ∃ v, RelV v u ∧ ∀ B, Rp K B v d_PATH_MOST
  c_NAMES_MOST : ∃ u, mg "NAMES_MOST" = some u ∧ ∃ v, RelV v u ∧ ∀ B, Rp K B v d_NAMES_MOST
  c_HANDLES : ∃ u, mg "HANDLES" = some u ∧ ∃ v, RelV v u ∧ ∀ B, Rp K B v d_HANDLES
  g_Node : mg "Node" = some (.ref (Mg.cls 0))
  is_Node : InsX K (Mg.cls 0)
  g_FileTree : mg "FileTree" = some (.ref (Mg.cls 1))
  fsA : ∀ c, FldS c
  ft_kind : FldT K "kind" tab_kind
  ft_body : FldT K "body" tab_body
  ft_links : FldT K "links" tab_links
  ft_nodes : FldT K "nodes" tab_nodes
  ft_handles : FldT K "handles" tab_handles
  n_all : mg "all" = none
  n_dict : mg "dict" = none
  n_int : mg "int" = none
  n_isinstance : mg "isinstance" = none
  n_len : mg "len" = none
  n_list : mg "list" = none
  n_range : mg "range" = none
  n_sorted : mg "sorted" = none
  n_tuple : mg "tuple" = none
section
variable [Mg] {K : PySem.W.Frag} {mg : Str → Option Value}
theorem Txt.e_NAME_CHARS {w : World} (T : Txt K mg w) {X : Cx} {W : WX} {G : List Mode} {pos : Pos} (hg : Gl X "NAME_CHARS") (hK : X.K = K := by rfl) (hm : X.mg = mg := by rfl) : EJ X W G (.Name "NAME_CHARS" pos) (conD d_NAME_CHARS) := by
  subst hK hm
  obtain ⟨u, h1, v, h2, h3⟩ := T.c_NAME_CHARS
  exact ej_glob hg h1 h2 h3
theorem Txt.e_NAME_MOST {w : World} (T : Txt K mg w) {X : Cx} {W : WX} {G : List Mode} {pos : Pos} (hg : Gl X "NAME_MOST") (hK : X.K = K := by rfl) (hm : X.mg = mg := by rfl) : EJ X W G (.Name "NAME_MOST" pos) (conD d_NAME_MOST) := by
  subst hK hm
  obtain ⟨u, h1, v, h2, h3⟩ := T.c_NAME_MOST
  exact ej_glob hg h1 h2 h3
theorem Txt.e_PATH_MOST {w : World} (T : Txt K mg w) {X : Cx} {W : WX} {G : List Mode} {pos : Pos} (hg : Gl X "PATH_MOST") (hK : X.K = K := by rfl) (hm : X.mg = mg := by rfl) : EJ X W G (.Name "PATH_MOST" pos) (conD d_PATH_MOST) := by
  subst hK hm
  obtain ⟨u, h1, v, h2, h3⟩ := T.c_PATH_MOST
  exact ej_glob hg h1 h2 h3
theorem Txt.e_NAMES_MOST {w : World} (T : Txt K mg w) {X : Cx} {W : WX} {G : List Mode} {pos : Pos} (hg : Gl X "NAMES_MOST") (hK : X.K = K := by rfl) (hm : X.mg = mg := by rfl) : EJ X W G (.Name "NAMES_MOST" pos) (conD d_NAMES_MOST) := by
  subst hK hm
  obtain ⟨u, h1, v, h2, h3⟩ := T.c_NAMES_MOST
  exact ej_glob hg h1 h2 h3
theorem Txt.e_HANDLES {w : World} (T : Txt K mg w) {X : Cx} {W : WX} {G : List Mode} {pos : Pos} (hg : Gl X "HANDLES") (hK : X.K = K := by rfl) (hm : X.mg = mg := by rfl) : EJ X W G (.Name "HANDLES" pos) (conD d_HANDLES) := by
  subst hK hm
  obtain ⟨u, h1, v, h2, h3⟩ := T.c_HANDLES
  exact ej_glob hg h1 h2 h3
theorem ok_is_name {w : World} (T : Txt K mg w) {P : Program} {base : Heap} : FnOk P w K mg base (L2.CX P w) 1 T.a_is_name T.fd_is_name ["text"] (spT K mg (Mode.fz) 1 f_is_name) := by
  refine fn_ok (md := Mode.fz) (G := [Mode.fz, Mode.fz]) T.F_is_name sc_is_name 1 2 rfl rfl rfl (by decide) (fun ρ => .inl rfl) fun cdv A outer s H E hr => ⟨[], ?_⟩
  have tk : Takes (cxOf (L2.CX P w) P w K mg base N_is_name "is_name" (defScope s_is_name) T.a_is_name cdv A outer s H E) (WE1 E) := takes_of rfl rfl rfl rfl
  exact (ssj_cons (sj_if (tj_not (tj_chain cmp_le calm_le cmp_le calm_le (EJ.bj ej_int) (EJ.bj (ej_B fn_len (by rfl) T.n_len PySem.boot_len (baj_cons (EJ.bj (ej_var 0 (pv 0))) baj_nil))) (EJ.bj (T.e_NAME_MOST rfl)))) (ssj_one (sj_ret ej_bl)) ssj_nil) (ssj_cons (sj_if (tj_not (tj_tru (EJ.bj (ej_B (fn_all rfl) (by rfl) T.n_all boot_all (baj_cons (EJ.bj (NJ.ej (nj_lc (own0 := [("char", 1)]) rfl sc_is_name.nd (IJ.b (ij_seq (ej_var 0 (pv 0)))) (blkOk_by (N := N_is_name) (sc := defScope s_is_name) (by decide +kernel)) (fun _ _ _ _ _ => (gj_nm (pg_name (i := 1) sc_is_name.nd rfl (by first | exact .inl rfl | exact .inr rfl)))) (by decide) (fz_cons rfl fz_nil) (fun _ _ _ _ _ => (ej_cmp (cmp_in hr.units) calm_in (by rfl) (EJ.bj (ej_var 1 (pv 1))) (EJ.bj (T.e_NAME_CHARS rfl))))))) baj_nil))))) (ssj_one (sj_ret ej_bl)) ssj_nil) (ssj_one (sj_ret (ej_cmp (cmp_ne hr.units) calm_ne (nomark _) (EJ.bj (ej_M PySem.F.plainAttrs_str PySem.F.slot_str_strip PySem.F.type_str_strip mth_strip (EJ.bj (ej_var 0 (pv 0))) (baj_cons (EJ.bj ej_str) baj_nil))) (EJ.bj ej_str))))))
theorem ok_names_of {w : World} (T : Txt K mg w) {P : Program} {base : Heap} : FnOk P w K mg base (L2.CX P w) 1 T.a_names_of T.fd_names_of ["path"] (spT K mg (Mode.fz) 1 f_names_of) := by
  refine fn_ok (md := Mode.fz) (G := [Mode.fz]) T.F_names_of sc_names_of 1 1 rfl rfl rfl (by decide) (fun ρ => .inl rfl) fun cdv A outer s H E hr => ⟨[], ?_⟩
  have tk : Takes (cxOf (L2.CX P w) P w K mg base N_names_of "names_of" (defScope s_names_of) T.a_names_of cdv A outer s H E) (WE1 E) := takes_of rfl rfl rfl rfl
  exact (ssj_cons (sj_if (tj_tru (EJ.bj (ej_M PySem.F.plainAttrs_str PySem.F.slot_str_startswith PySem.F.type_str_startswith mth_starts (EJ.bj (ej_var 0 (pv 0))) (baj_cons (EJ.bj ej_str) baj_nil)))) (ssj_one (sj_set (i := 0) sc_names_of.nd rfl (by first | exact .inl rfl | exact .inr rfl) (ej_sl (EJ.bj (ej_var 0 (pv 0))) (oj_some (EJ.bj ej_int)) oj_none))) ssj_nil) (ssj_cons (sj_if (tj_cmp (cmp_eq hr.units) calm_eq (nomark _) (EJ.bj (ej_var 0 (pv 0))) (EJ.bj ej_str)) (ssj_one (sj_ret (NJ.ej (nj_lst aj_nil)))) ssj_nil) (ssj_one (sj_ret (NJ.ej (nj_M PySem.F.plainAttrs_str PySem.F.slot_str_split PySem.F.type_str_split mth_split (EJ.bj (ej_var 0 (pv 0))) (baj_cons (EJ.bj ej_str) baj_nil)))))))
theorem ok_Node___init__ {w : World} (T : Txt K mg w) {P : Program} {base : Heap} : FnOk P w K mg base (L2.CX P w) 1 T.a_Node___init__ T.fd_Node___init__ ["self", "kind", "body", "links"] (spS K mg 4 f_Node___init__) := by
  refine fnS_ok (G0 := [Mode.any, Mode.any, Mode.any, Mode.any, Mode.sto]) T.F_Node___init__ sc_Node___init__ 4 5 rfl rfl (by decide) "$" rfl (by decide +kernel) rfl rfl [Mode.fz, Mode.fz, Mode.fz, Mode.fz, Mode.sto] rfl (leM_p (by first | exact True.intro | (repeat (first | exact True.intro | refine And.intro (Or.inl rfl) ?_ | refine And.intro (Or.inr rfl) ?_ | refine And.intro rfl ?_)))) fun cdv A outer s H E hr => ?_
  have tk : Takes (cxOf (L2.CX P w) P w K mg base N_Node___init__ "Node.__init__" (defScope s_Node___init__) T.a_Node___init__ cdv A outer s H E) (WE1 E) := takes_of rfl rfl rfl rfl
  exact ⟨[Mode.any, Mode.any, Mode.any, Mode.any, Mode.sto], (ssj_cons (sj_fsetS (S := 4) T.ft_kind (fun c _ _ _ => T.fsA c) (pj_var (i := 0) (pv 0)) (mj_pj (pj_var (i := 1) (pv 1)))) (ssj_cons (sj_fsetS (S := 4) T.ft_body (fun c _ _ _ => T.fsA c) (pj_var (i := 0) (pv 0)) (mj_pj (pj_var (i := 2) (pv 2)))) (ssj_one (sj_fsetS (S := 4) T.ft_links (fun c _ _ _ => T.fsA c) (pj_var (i := 0) (pv 0)) (mj_pj (pj_var (i := 3) (pv 3))))))), rfl⟩
theorem ok_Node_measure {w : World} (T : Txt K mg w) {P : Program} {base : Heap} : FnOk P w K mg base (L2.CX P w) 1 T.a_Node_measure T.fd_Node_measure ["self"] (spS K mg 1 f_Node_measure) := by
  refine fnS_ok (G0 := [Mode.any, Mode.sto]) T.F_Node_measure sc_Node_measure 1 2 rfl rfl (by decide) "$" rfl (by decide +kernel) rfl rfl [Mode.fz, Mode.sto] rfl (leM_p (by first | exact True.intro | (repeat (first | exact True.intro | refine And.intro (Or.inl rfl) ?_ | refine And.intro (Or.inr rfl) ?_ | refine And.intro rfl ?_)))) fun cdv A outer s H E hr => ?_
  have tk : Takes (cxOf (L2.CX P w) P w K mg base N_Node_measure "Node.measure" (defScope s_Node_measure) T.a_Node_measure cdv A outer s H E) (WE1 E) := takes_of rfl rfl rfl rfl
  exact ⟨[Mode.any, Mode.sto], (ssj_one (sj_retM (mj_pj (pj_ej (ej_B fn_len (by rfl) T.n_len PySem.boot_len (baj_cons (bj_der (S := 1) (pj_fld (S := 1) T.ft_body (pj_var (i := 0) (pv 0)))) baj_nil)))))), rfl⟩
theorem ok_FileTree_is_open {w : World} (T : Txt K mg w) {P : Program} {base : Heap} : FnOk P w K mg base (L2.CX P w) 1 T.a_FileTree_is_open T.fd_FileTree_is_open ["self", "number"] (spS K mg 2 f_FileTree_is_open) := by
  refine fnS_ok (G0 := [Mode.any, Mode.any, Mode.sto]) T.F_FileTree_is_open sc_FileTree_is_open 2 3 rfl rfl (by decide) "$" rfl (by decide +kernel) rfl rfl [Mode.fz, Mode.fz, Mode.sto] rfl (leM_p (by first | exact True.intro | (repeat (first | exact True.intro | refine And.intro (Or.inl rfl) ?_ | refine And.intro (Or.inr rfl) ?_ | refine And.intro rfl ?_)))) fun cdv A outer s H E hr => ?_
  have tk : Takes (cxOf (L2.CX P w) P w K mg base N_FileTree_is_open "FileTree.is_open" (defScope s_FileTree_is_open) T.a_FileTree_is_open cdv A outer s H E) (WE1 E) := takes_of rfl rfl rfl rfl
  exact ⟨[Mode.any, Mode.any, Mode.sto], (ssj_one (sj_retM (mj_pj (pj_ej (ej_cmp (cmp_in hr.units) calm_in (by rfl) (bj_der (S := 2) (pj_var (i := 1) (pv 1))) (bj_der (S := 2) (pj_fld (S := 2) T.ft_handles (pj_var (i := 0) (pv 0))))))))), rfl⟩
theorem ok_FileTree_entry {w : World} (T : Txt K mg w) {P : Program} {base : Heap} : FnOk P w K mg base (L2.CX P w) 1 T.a_FileTree_entry T.fd_FileTree_entry ["self", "directory", "name"] (spS K mg 3 f_FileTree_entry) := by
  refine fnS_ok (G0 := [Mode.any, Mode.any, Mode.any, Mode.fz, Mode.fz, Mode.sto]) T.F_FileTree_entry sc_FileTree_entry 3 6 rfl rfl (by decide) "$" rfl (by decide +kernel) rfl rfl [Mode.fz, Mode.fz, Mode.fz, Mode.fz, Mode.fz, Mode.sto] rfl (leM_p (by first | exact True.intro | (repeat (first | exact True.intro | refine And.intro (Or.inl rfl) ?_ | refine And.intro (Or.inr rfl) ?_ | refine And.intro rfl ?_)))) fun cdv A outer s H E hr => ?_
  have tk : Takes (cxOf (L2.CX P w) P w K mg base N_FileTree_entry "FileTree.entry" (defScope s_FileTree_entry) T.a_FileTree_entry cdv A outer s H E) (WE1 E) := takes_of rfl rfl rfl rfl
  exact ⟨[Mode.any, Mode.any, Mode.any, Mode.fz, Mode.fz, Mode.sto], (ssj_cons (sj_for (passes_of rfl) rfl (ij_seq (ej_pj (pj_fld (S := 5) T.ft_body (pj_dkC (S := 5) (hu1 hr.units) (cj_val (S := 5) (pj_fld (S := 5) T.ft_nodes (pj_var (i := 0) (pv 0)))) (bj_der (S := 5) (pj_var (i := 1) (pv 1))))))) (gj_tp rfl (gaj_cons (gj_nm (pg_name (i := 3) sc_FileTree_entry.nd rfl (by first | exact .inl rfl | exact .inr rfl))) (gaj_cons (gj_nm (pg_name (i := 4) sc_FileTree_entry.nd rfl (by first | exact .inl rfl | exact .inr rfl))) gaj_nil))) (fz_cons rfl (fz_cons rfl fz_nil)) (ssj_one (sj_if (tj_cmp (cmp_eq hr.units) calm_eq (nomark _) (EJ.bj (ej_var 3 (pv 3))) (bj_der (S := 5) (pj_var (i := 2) (pv 2)))) (ssj_one (sj_retM (mj_pj (pj_ej (ej_var 4 (pv 4)))))) ssj_nil))) (ssj_one (sj_retM (mj_pj (pj_ej ej_non))))), rfl⟩
theorem ok__law_draws {w : World} (T : Txt K mg w) {P : Program} {base : Heap} : FnOk P w K mg base (L2.CX P w) 1 T.a__law_draws T.fd__law_draws ["script", "count"] (spT K mg (Mode.fz) 2 f__law_draws) := by
  refine fn_ok (md := Mode.fz) (G := [Mode.fz, Mode.fz, Mode.fz, Mode.fz, Mode.fz]) T.F__law_draws sc__law_draws 2 5 rfl rfl rfl (by decide) (fun ρ => .inl rfl) fun cdv A outer s H E hr => ⟨[], ?_⟩
  have tk : Takes (cxOf (L2.CX P w) P w K mg base N__law_draws "_law_draws" (defScope s__law_draws) T.a__law_draws cdv A outer s H E) (WE1 E) := takes_of rfl rfl rfl rfl
  exact (ssj_cons (sj_setN (i := 2) sc__law_draws.nd rfl (by first | exact .inl rfl | exact .inr rfl) (nj_lst aj_nil)) (ssj_cons (sj_for (passes_of rfl) rfl (ij_range1 (by rfl) T.n_range (aj_cons (ej_var 1 (pv 1)) aj_nil)) (gj_nm (pg_name (i := 3) sc__law_draws.nd rfl (by first | exact .inl rfl | exact .inr rfl))) (fz_cons rfl fz_nil) (ssj_cons (sj_set (i := 4) sc__law_draws.nd rfl (by first | exact .inl rfl | exact .inr rfl) ej_int) (ssj_cons (sj_if (tj_cmp cmp_gt calm_gt (nomark _) (EJ.bj (ej_B fn_len (by rfl) T.n_len PySem.boot_len (baj_cons (EJ.bj (ej_var 0 (pv 0))) baj_nil))) (EJ.bj ej_int)) (ssj_one (sj_set (i := 4) sc__law_draws.nd rfl (by first | exact .inl rfl | exact .inr rfl) (ej_Ty fn_int (by rfl) T.n_int PyProof.Rows.boot_int (baj_cons (EJ.bj (ej_ix (EJ.bj (ej_var 0 (pv 0))) (EJ.bj (ej_bin bin_mod calm_mod (EJ.bj (ej_Ty fn_int (by rfl) T.n_int PyProof.Rows.boot_int (baj_cons (EJ.bj (ej_var 3 (pv 3))) baj_nil))) (EJ.bj (ej_B fn_len (by rfl) T.n_len PySem.boot_len (baj_cons (EJ.bj (ej_var 0 (pv 0))) baj_nil))))))) baj_nil)))) ssj_nil) (ssj_cons (sj_if (tj_cmp cmp_lt calm_lt (nomark _) (EJ.bj (ej_var 4 (pv 4))) (EJ.bj ej_int)) (ssj_one (sj_set (i := 4) sc__law_draws.nd rfl (by first | exact .inl rfl | exact .inr rfl) (ej_bin bin_sub calm_sub (EJ.bj ej_int) (EJ.bj (ej_bin bin_mul calm_mul (EJ.bj ej_int) (EJ.bj (ej_var 4 (pv 4)))))))) ssj_nil) (ssj_cons (sj_if (WJ.tj (wj_or (tj_cmp cmp_ge calm_ge (nomark _) (EJ.bj (ej_var 3 (pv 3))) (EJ.bj (ej_B fn_len (by rfl) T.n_len PySem.boot_len (baj_cons (EJ.bj (ej_var 0 (pv 0))) baj_nil)))) (wj_or1 (tj_cmp cmp_lt calm_lt (nomark _) (EJ.bj (ej_var 4 (pv 4))) (EJ.bj ej_int))))) (ssj_cons (sj_set (i := 4) sc__law_draws.nd rfl (by first | exact .inl rfl | exact .inr rfl) (ej_bin bin_mod calm_mod (EJ.bj (ej_Ty fn_int (by rfl) T.n_int PyProof.Rows.boot_int (baj_cons (EJ.bj (ej_bin bin_add calm_add (EJ.bj (ej_bin bin_mul calm_mul (EJ.bj (ej_bin bin_add calm_add (EJ.bj (ej_bin bin_add calm_add (EJ.bj (ej_var 4 (pv 4))) (EJ.bj (ej_bin bin_mul calm_mul (EJ.bj ej_int) (EJ.bj (ej_var 3 (pv 3))))))) (EJ.bj ej_int))) (EJ.bj ej_int))) (EJ.bj (ej_bin bin_mul calm_mul (EJ.bj (ej_bin bin_mul calm_mul (EJ.bj (ej_var 3 (pv 3))) (EJ.bj (ej_var 3 (pv 3))))) (EJ.bj ej_int))))) baj_nil))) (EJ.bj ej_int))) (ssj_one (sj_set (i := 4) sc__law_draws.nd rfl (by first | exact .inl rfl | exact .inr rfl) (ej_bin bin_mod calm_mod (EJ.bj (ej_Ty fn_int (by rfl) T.n_int PyProof.Rows.boot_int (baj_cons (EJ.bj (ej_bin bin_mul calm_mul (EJ.bj (ej_bin bin_add calm_add (EJ.bj (ej_bin bin_add calm_add (EJ.bj (ej_var 4 (pv 4))) (EJ.bj (ej_bin bin_mul calm_mul (EJ.bj ej_int) (EJ.bj (ej_var 3 (pv 3))))))) (EJ.bj ej_int))) (EJ.bj ej_int))) baj_nil))) (EJ.bj ej_int))))) ssj_nil) (ssj_one (sj_app (i := 2) (pv 2) rfl (ej_var 4 (pv 4))))))))) (ssj_to (G2 := [Mode.fz, Mode.fz, Mode.fz, Mode.fz, Mode.fz]) (ssj_one (sj_ret (ej_var 2 (pv 2)))) (by first | exact True.intro | (repeat (first | exact True.intro | refine And.intro (Or.inl rfl) ?_ | refine And.intro (Or.inr rfl) ?_ | refine And.intro rfl ?_))))))
theorem ok__law_name {w : World} (T : Txt K mg w) {P : Program} {base : Heap} : FnOk P w K mg base (L2.CX P w) 1 T.a__law_name T.fd__law_name ["draw"] (spT K mg (Mode.fz) 1 f__law_name) := by
  refine fn_ok (md := Mode.fz) (G := [Mode.fz, Mode.fz, Mode.fz, Mode.fz, Mode.fz]) T.F__law_name sc__law_name 1 5 rfl rfl rfl (by decide) (fun ρ => .inl rfl) fun cdv A outer s H E hr => ⟨[], ?_⟩
  have tk : Takes (cxOf (L2.CX P w) P w K mg base N__law_name "_law_name" (defScope s__law_name) T.a__law_name cdv A outer s H E) (WE1 E) := takes_of rfl rfl rfl rfl
  exact (ssj_cons (sj_set (i := 1) sc__law_name.nd rfl (by first | exact .inl rfl | exact .inr rfl) ej_str) (ssj_cons (sj_set (i := 2) sc__law_name.nd rfl (by first | exact .inl rfl | exact .inr rfl) (ej_ix (EJ.bj (NJ.ej (nj_lst (aj_cons ej_int (aj_cons ej_int (aj_cons ej_int (aj_cons ej_int (aj_cons ej_int (aj_cons ej_int aj_nil))))))))) (EJ.bj (ej_bin bin_mod calm_mod (EJ.bj (ej_Ty fn_int (by rfl) T.n_int PyProof.Rows.boot_int (baj_cons (EJ.bj (ej_var 0 (pv 0))) baj_nil))) (EJ.bj ej_int))))) (ssj_cons (sj_set (i := 3) sc__law_name.nd rfl (by first | exact .inl rfl | exact .inr rfl) (ej_M PySem.F.plainAttrs_str PySem.F.slot_str_join PySem.F.type_str_join mth_join (EJ.bj ej_str) (baj_cons (EJ.bj (NJ.ej (nj_lc (own0 := [("j", 4)]) rfl sc__law_name.nd (IJ.b (ij_range1 (by rfl) T.n_range (aj_cons (ej_var 2 (pv 2)) aj_nil))) (blkOk_by (N := N__law_name) (sc := defScope s__law_name) (by decide +kernel)) (fun _ _ _ _ _ => (gj_nm (pg_name (i := 4) sc__law_name.nd rfl (by first | exact .inl rfl | exact .inr rfl)))) (by decide) (fz_cons rfl fz_nil) (fun _ _ _ _ _ => (ej_ix (EJ.bj (ej_var 1 (pv 1))) (EJ.bj (ej_bin bin_mod calm_mod (EJ.bj (ej_Ty fn_int (by rfl) T.n_int PyProof.Rows.boot_int (baj_cons (EJ.bj (ej_bin bin_add calm_add (EJ.bj (ej_bin bin_div calm_div (EJ.bj (ej_var 0 (pv 0))) (EJ.bj ej_int))) (EJ.bj (ej_bin bin_mul calm_mul (EJ.bj ej_int) (EJ.bj (ej_var 4 (pv 4))))))) baj_nil))) (EJ.bj ej_int)))))))) baj_nil))) (ssj_cons (sj_if (WJ.tj (wj_and (tj_cmp cmp_gt calm_gt (nomark _) (EJ.bj (ej_bin bin_mod calm_mod (EJ.bj (ej_Ty fn_int (by rfl) T.n_int PyProof.Rows.boot_int (baj_cons (EJ.bj (ej_bin bin_div calm_div (EJ.bj (ej_var 0 (pv 0))) (EJ.bj ej_int))) baj_nil))) (EJ.bj ej_int))) (EJ.bj ej_int)) (wj_and1 (tj_cmp (cmp_eq hr.units) calm_eq (nomark _) (EJ.bj (ej_M PySem.F.plainAttrs_str PySem.F.slot_str_strip PySem.F.type_str_strip mth_strip (EJ.bj (ej_var 3 (pv 3))) (baj_cons (EJ.bj ej_str) baj_nil))) (EJ.bj ej_str))))) (ssj_one (sj_ret (ej_bin bin_add calm_add (EJ.bj ej_str) (EJ.bj (ej_var 3 (pv 3)))))) ssj_nil) (ssj_one (sj_ret (ej_var 3 (pv 3))))))))
theorem ok__law_is_name {w : World} (T : Txt K mg w) {P : Program} {base : Heap} : FnOk P w K mg base (L2.CX P w) 1 T.a__law_is_name T.fd__law_is_name ["name"] (spT K mg (Mode.fz) 1 f__law_is_name) := by
  refine fn_ok (md := Mode.fz) (G := [Mode.fz, Mode.fz]) T.F__law_is_name sc__law_is_name 1 2 rfl rfl rfl (by decide) (fun ρ => .inl rfl) fun cdv A outer s H E hr => ⟨[], ?_⟩
  have tk : Takes (cxOf (L2.CX P w) P w K mg base N__law_is_name "_law_is_name" (defScope s__law_is_name) T.a__law_is_name cdv A outer s H E) (WE1 E) := takes_of rfl rfl rfl rfl
  exact (ssj_cons (sj_for (passes_of rfl) rfl (ij_seq (ej_var 0 (pv 0))) (gj_nm (pg_name (i := 1) sc__law_is_name.nd rfl (by first | exact .inl rfl | exact .inr rfl))) (fz_cons rfl fz_nil) (ssj_one (sj_if (tj_not (WJ.tj (wj_or (tj_chain cmp_le calm_le cmp_le calm_le (EJ.bj ej_str) (EJ.bj (ej_var 1 (pv 1))) (EJ.bj ej_str)) (wj_or (tj_chain cmp_le calm_le cmp_le calm_le (EJ.bj ej_str) (EJ.bj (ej_var 1 (pv 1))) (EJ.bj ej_str)) (wj_or (tj_chain cmp_le calm_le cmp_le calm_le (EJ.bj ej_str) (EJ.bj (ej_var 1 (pv 1))) (EJ.bj ej_str)) (wj_or1 (tj_cmp (cmp_in hr.units) calm_in (by rfl) (EJ.bj (ej_var 1 (pv 1))) (EJ.bj (NJ.ej (nj_lst (aj_cons ej_str (aj_cons ej_str (aj_cons ej_str aj_nil))))))))))))) (ssj_one (sj_ret ej_bl)) ssj_nil))) (ssj_one (sj_ret (ej_andV (EJ.bj (ej_chain cmp_le calm_le cmp_le calm_le (EJ.bj ej_int) (EJ.bj (ej_B fn_len (by rfl) T.n_len PySem.boot_len (baj_cons (EJ.bj (ej_var 0 (pv 0))) baj_nil))) (EJ.bj ej_int))) (ej_one (ej_cmp cmp_gt calm_gt (nomark _) (EJ.bj (ej_B fn_len (by rfl) T.n_len PySem.boot_len (baj_cons (EJ.bj (NJ.ej (nj_lcIf (own0 := [("char", 1)]) rfl sc__law_is_name.nd (IJ.b (ij_seq (ej_var 0 (pv 0)))) (blkOk_by (N := N__law_is_name) (sc := defScope s__law_is_name) (by decide +kernel)) (fun _ _ _ _ _ => (gj_nm (pg_name (i := 1) sc__law_is_name.nd rfl (by first | exact .inl rfl | exact .inr rfl)))) (by decide) (fz_cons rfl fz_nil) (fun _ _ _ _ _ => (tj_cmp (cmp_ne hr.units) calm_ne (nomark _) (EJ.bj (ej_var 1 (pv 1))) (EJ.bj ej_str))) (fun _ _ _ _ _ => (ej_var 1 (pv 1)))))) baj_nil))) (EJ.bj ej_int)))))))
theorem ok__law_flag {w : World} (T : Txt K mg w) {P : Program} {base : Heap} : FnOk P w K mg base (L2.CX P w) 1 T.a__law_flag T.fd__law_flag ["actual", "due"] (spT K mg (Mode.fz) 2 f__law_flag) := by
  refine fn_ok (md := Mode.fz) (G := [Mode.fz, Mode.fz]) T.F__law_flag sc__law_flag 2 2 rfl rfl rfl (by decide) (fun ρ => .inl rfl) fun cdv A outer s H E hr => ⟨[], ?_⟩
  have tk : Takes (cxOf (L2.CX P w) P w K mg base N__law_flag "_law_flag" (defScope s__law_flag) T.a__law_flag cdv A outer s H E) (WE1 E) := takes_of rfl rfl rfl rfl
  exact (ssj_cons (sj_if (tj_tru (EJ.bj (ej_var 1 (pv 1)))) (ssj_one (sj_ret (ej_cmp cmp_is calm_is (nomark _) (EJ.bj (ej_var 0 (pv 0))) (EJ.bj ej_bl)))) ssj_nil) (ssj_one (sj_ret (ej_cmp cmp_is calm_is (nomark _) (EJ.bj (ej_var 0 (pv 0))) (EJ.bj ej_bl)))))
theorem ok__law_body {w : World} (T : Txt K mg w) {P : Program} {base : Heap} : FnOk P w K mg base (L2.CX P w) 1 T.a__law_body T.fd__law_body ["draw", "kind"] (spT K mg (Mode.fz) 2 f__law_body) := by
  refine fn_ok (md := Mode.fz) (G := [Mode.fz, Mode.fz, Mode.fz, Mode.fz]) T.F__law_body sc__law_body 2 4 rfl rfl rfl (by decide) (fun ρ => .inl rfl) fun cdv A outer s H E hr => ⟨[], ?_⟩
  have tk : Takes (cxOf (L2.CX P w) P w K mg base N__law_body "_law_body" (defScope s__law_body) T.a__law_body cdv A outer s H E) (WE1 E) := takes_of rfl rfl rfl rfl
  exact (ssj_cons (sj_if (tj_cmp (cmp_eq hr.units) calm_eq (nomark _) (EJ.bj (ej_var 1 (pv 1))) (EJ.bj ej_str)) (ssj_one (sj_ret (ej_Ty fn_tuple (by rfl) T.n_tuple PyProof.Rows.boot_tuple (baj_cons (EJ.bj (NJ.ej (nj_lc (own0 := [("j", 3)]) rfl sc__law_body.nd (IJ.b (ij_range1 (by rfl) T.n_range (aj_cons (ej_bin bin_mod calm_mod (EJ.bj (ej_Ty fn_int (by rfl) T.n_int PyProof.Rows.boot_int (baj_cons (EJ.bj (ej_var 0 (pv 0))) baj_nil))) (EJ.bj ej_int)) aj_nil))) (blkOk_by (N := N__law_body) (sc := defScope s__law_body) (by decide +kernel)) (fun _ _ _ _ _ => (gj_nm (pg_name (i := 3) sc__law_body.nd rfl (by first | exact .inl rfl | exact .inr rfl)))) (by decide) (fz_cons rfl fz_nil) (fun _ _ _ _ _ => (ej_bin bin_mod calm_mod (EJ.bj (ej_Ty fn_int (by rfl) T.n_int PyProof.Rows.boot_int (baj_cons (EJ.bj (ej_bin bin_add calm_add (EJ.bj (ej_bin bin_div calm_div (EJ.bj (ej_var 0 (pv 0))) (EJ.bj ej_int))) (EJ.bj (ej_bin bin_mul calm_mul (EJ.bj ej_int) (EJ.bj (ej_var 3 (pv 3))))))) baj_nil))) (EJ.bj ej_int)))))) baj_nil)))) ssj_nil) (ssj_cons (sj_if (tj_cmp (cmp_eq hr.units) calm_eq (nomark _) (EJ.bj (ej_var 1 (pv 1))) (EJ.bj ej_str)) (ssj_one (sj_ret (ej_ix (EJ.bj (NJ.ej (nj_lst (aj_cons ej_str (aj_cons ej_str (aj_cons ej_str (aj_cons ej_str aj_nil))))))) (EJ.bj (ej_bin bin_mod calm_mod (EJ.bj (ej_Ty fn_int (by rfl) T.n_int PyProof.Rows.boot_int (baj_cons (EJ.bj (ej_var 0 (pv 0))) baj_nil))) (EJ.bj ej_int)))))) ssj_nil) (ssj_cons (sj_set (i := 2) sc__law_body.nd rfl (by first | exact .inl rfl | exact .inr rfl) (NJ.ej (nj_lst (aj_cons ej_str (aj_cons ej_str (aj_cons ej_str (aj_cons ej_str (aj_cons ej_str aj_nil)))))))) (ssj_one (sj_ret (ej_Ty fn_tuple (by rfl) T.n_tuple PyProof.Rows.boot_tuple (baj_cons (EJ.bj (NJ.ej (nj_lc (own0 := [("j", 3)]) rfl sc__law_body.nd (IJ.b (ij_range1 (by rfl) T.n_range (aj_cons (ej_bin bin_mod calm_mod (EJ.bj (ej_Ty fn_int (by rfl) T.n_int PyProof.Rows.boot_int (baj_cons (EJ.bj (ej_var 0 (pv 0))) baj_nil))) (EJ.bj ej_int)) aj_nil))) (blkOk_by (N := N__law_body) (sc := defScope s__law_body) (by decide +kernel)) (fun _ _ _ _ _ => (gj_nm (pg_name (i := 3) sc__law_body.nd rfl (by first | exact .inl rfl | exact .inr rfl)))) (by decide) (fz_cons rfl fz_nil) (fun _ _ _ _ _ => (ej_tup (aj_cons (ej_ix (EJ.bj (ej_var 2 (pv 2))) (EJ.bj (ej_var 3 (pv 3)))) (aj_cons (ej_bin bin_mod calm_mod (EJ.bj (ej_Ty fn_int (by rfl) T.n_int PyProof.Rows.boot_int (baj_cons (EJ.bj (ej_bin bin_add calm_add (EJ.bj (ej_bin bin_div calm_div (EJ.bj (ej_var 0 (pv 0))) (EJ.bj ej_int))) (EJ.bj (ej_bin bin_mul calm_mul (EJ.bj ej_int) (EJ.bj (ej_var 3 (pv 3))))))) baj_nil))) (EJ.bj ej_int)) aj_nil))))))) baj_nil)))))))
theorem ok__law_parts {w : World} (T : Txt K mg w) {P : Program} {base : Heap} : FnOk P w K mg base (L2.CX P w) 1 T.a__law_parts T.fd__law_parts ["node"] (spS K mg 1 f__law_parts) := by
  refine fnS_ok (G0 := [Mode.any, Mode.sto]) T.F__law_parts sc__law_parts 1 2 rfl rfl (by decide) "$" rfl (by decide +kernel) rfl rfl [Mode.fz, Mode.sto] rfl (leM_p (by first | exact True.intro | (repeat (first | exact True.intro | refine And.intro (Or.inl rfl) ?_ | refine And.intro (Or.inr rfl) ?_ | refine And.intro rfl ?_)))) fun cdv A outer s H E hr => ?_
  have tk : Takes (cxOf (L2.CX P w) P w K mg base N__law_parts "_law_parts" (defScope s__law_parts) T.a__law_parts cdv A outer s H E) (WE1 E) := takes_of rfl rfl rfl rfl
  exact ⟨[Mode.any, Mode.sto], (ssj_one (sj_retM (mj_pj (pj_ej (ej_tup (aj_cons (ej_pj (pj_fld (S := 1) T.ft_kind (pj_var (i := 0) (pv 0)))) (aj_cons (ej_pj (pj_fld (S := 1) T.ft_body (pj_var (i := 0) (pv 0)))) (aj_cons (ej_pj (pj_fld (S := 1) T.ft_links (pj_var (i := 0) (pv 0)))) aj_nil)))))))), rfl⟩
theorem ok_has_names {w : World} (T : Txt K mg w) {P : Program} {base : Heap} : FnOk P w K mg base (L2.CX P w) 2 T.a_has_names T.fd_has_names ["text"] (spT K mg (Mode.fz) 1 f_has_names) := by
  refine fn_ok (md := Mode.fz) (G := [Mode.fz, Mode.fz, Mode.fz]) T.F_has_names sc_has_names 1 3 rfl rfl rfl (by decide) (fun ρ => .inl rfl) fun cdv A outer s H E hr => ⟨[], ?_⟩
  have tk : Takes (cxOf (L2.CX P w) P w K mg base N_has_names "has_names" (defScope s_has_names) T.a_has_names cdv A outer s H E) (WE1 E) := takes_of rfl rfl rfl rfl
  exact (ssj_cons (sj_set (i := 1) sc_has_names.nd rfl (by first | exact .inl rfl | exact .inr rfl) (NJ.ej (nj_M PySem.F.plainAttrs_str PySem.F.slot_str_split PySem.F.type_str_split mth_split (EJ.bj (ej_var 0 (pv 0))) (baj_cons (EJ.bj ej_str) baj_nil)))) (ssj_one (sj_ret (ej_andV (EJ.bj (ej_cmp cmp_le calm_le (nomark _) (EJ.bj (ej_B fn_len (by rfl) T.n_len PySem.boot_len (baj_cons (EJ.bj (ej_var 1 (pv 1))) baj_nil))) (EJ.bj (T.e_NAMES_MOST rfl)))) (ej_one (ej_B (fn_all rfl) (by rfl) T.n_all boot_all (baj_cons (EJ.bj (NJ.ej (nj_lc (own0 := [("name", 2)]) rfl sc_has_names.nd (IJ.b (ij_seq (ej_var 1 (pv 1)))) (blkOk_by (N := N_has_names) (sc := defScope s_has_names) (by decide +kernel)) (fun _ _ _ _ _ => (gj_nm (pg_name (i := 2) sc_has_names.nd rfl (by first | exact .inl rfl | exact .inr rfl)))) (by decide) (fz_cons rfl fz_nil) (fun _ _ _ _ _ => (ej_call (k := 1) runF_len (ok_is_name T) (hr.mono (by decide : 1 ≤ 1)) (by rfl) T.g_is_name T.F_is_name.kp T.b_is_name takes0 (aj_cons (ej_var 2 (pv 2)) aj_nil)))))) baj_nil)))))))
theorem ok__law_text {w : World} (T : Txt K mg w) {P : Program} {base : Heap} : FnOk P w K mg base (L2.CX P w) 2 T.a__law_text T.fd__law_text ["draw"] (spT K mg (Mode.fz) 1 f__law_text) := by
  refine fn_ok (md := Mode.fz) (G := [Mode.fz, Mode.fz, Mode.fz, Mode.fz, Mode.fz, Mode.fz, Mode.fz]) T.F__law_text sc__law_text 1 7 rfl rfl rfl (by decide) (fun ρ => .inl rfl) fun cdv A outer s H E hr => ⟨[], ?_⟩
  have tk : Takes (cxOf (L2.CX P w) P w K mg base N__law_text "_law_text" (defScope s__law_text) T.a__law_text cdv A outer s H E) (WE1 E) := takes_of rfl rfl rfl rfl
  exact (ssj_cons (sj_set (i := 1) sc__law_text.nd rfl (by first | exact .inl rfl | exact .inr rfl) (ej_ix (EJ.bj (NJ.ej (nj_lst (aj_cons ej_int (aj_cons ej_int (aj_cons ej_int (aj_cons ej_int (aj_cons ej_int (aj_cons ej_int (aj_cons ej_int (aj_cons ej_int (aj_cons ej_int (aj_cons ej_int aj_nil))))))))))))) (EJ.bj (ej_bin bin_mod calm_mod (EJ.bj (ej_Ty fn_int (by rfl) T.n_int PyProof.Rows.boot_int (baj_cons (EJ.bj (ej_var 0 (pv 0))) baj_nil))) (EJ.bj ej_int))))) (ssj_cons (sj_set (i := 2) sc__law_text.nd rfl (by first | exact .inl rfl | exact .inr rfl) (ej_Ty fn_int (by rfl) T.n_int PyProof.Rows.boot_int (baj_cons (EJ.bj (ej_bin bin_div calm_div (EJ.bj (ej_var 0 (pv 0))) (EJ.bj ej_int))) baj_nil))) (ssj_cons (sj_lcN (i := 3) (lcj (own0 := [("j", 6)]) rfl sc__law_text.nd rfl rfl (sw_true rfl rfl rfl (by decide +kernel)) (IJ.b (ij_range1 (by rfl) T.n_range (aj_cons (ej_var 1 (pv 1)) aj_nil))) (blkOk_by (N := N__law_text) (sc := defScope s__law_text) (by decide +kernel)) (fun _ _ _ _ _ => (gj_nm (pg_name (i := 6) sc__law_text.nd rfl (by first | exact .inl rfl | exact .inr rfl)))) (by decide) (fz_cons rfl fz_nil) (fun _ _ _ _ _ => (ej_call (k := 1) runF_len (ok__law_name T) (hr.mono (by decide : 1 ≤ 1)) (by rfl) T.g__law_name T.F__law_name.kp T.b__law_name takes0 (aj_cons (ej_bin bin_add calm_add (EJ.bj (ej_bin bin_div calm_div (EJ.bj (ej_var 2 (pv 2))) (EJ.bj (ej_bin bin_add calm_add (EJ.bj (ej_var 6 (pv 6))) (EJ.bj ej_int))))) (EJ.bj (ej_bin bin_mul calm_mul (EJ.bj ej_int) (EJ.bj (ej_var 6 (pv 6)))))) aj_nil))))) (ssj_cons (sj_set (i := 4) sc__law_text.nd rfl (by first | exact .inl rfl | exact .inr rfl) (ej_bin bin_mod calm_mod (EJ.bj (ej_Ty fn_int (by rfl) T.n_int PyProof.Rows.boot_int (baj_cons (EJ.bj (ej_var 2 (pv 2))) baj_nil))) (EJ.bj ej_int))) (ssj_cons (sj_if (WJ.tj (wj_and (tj_cmp (cmp_eq hr.units) calm_eq (nomark _) (EJ.bj (ej_var 4 (pv 4))) (EJ.bj ej_int)) (wj_and1 (tj_cmp cmp_gt calm_gt (nomark _) (EJ.bj (ej_var 1 (pv 1))) (EJ.bj ej_int))))) (ssj_one (sj_setI (i := 3) (pv 3) rfl ej_str (EJ.bj (ej_bin bin_mod calm_mod (EJ.bj (ej_Ty fn_int (by rfl) T.n_int PyProof.Rows.boot_int (baj_cons (EJ.bj (ej_bin bin_div calm_div (EJ.bj (ej_var 2 (pv 2))) (EJ.bj ej_int))) baj_nil))) (EJ.bj (ej_var 1 (pv 1))))) (fun a b => pg_sub a b set_list))) ssj_nil) (ssj_cons (sj_if (WJ.tj (wj_and (tj_cmp (cmp_eq hr.units) calm_eq (nomark _) (EJ.bj (ej_var 4 (pv 4))) (EJ.bj ej_int)) (wj_and1 (tj_cmp cmp_gt calm_gt (nomark _) (EJ.bj (ej_var 1 (pv 1))) (EJ.bj ej_int))))) (ssj_one (sj_setI (i := 3) (pv 3) rfl (ej_ix (EJ.bj (NJ.ej (nj_lst (aj_cons ej_str (aj_cons ej_str (aj_cons ej_str (aj_cons ej_str (aj_cons ej_str aj_nil)))))))) (EJ.bj (ej_bin bin_mod calm_mod (EJ.bj (ej_Ty fn_int (by rfl) T.n_int PyProof.Rows.boot_int (baj_cons (EJ.bj (ej_bin bin_div calm_div (EJ.bj (ej_var 2 (pv 2))) (EJ.bj ej_int))) baj_nil))) (EJ.bj ej_int)))) (EJ.bj (ej_bin bin_mod calm_mod (EJ.bj (ej_Ty fn_int (by rfl) T.n_int PyProof.Rows.boot_int (baj_cons (EJ.bj (ej_bin bin_div calm_div (EJ.bj (ej_var 2 (pv 2))) (EJ.bj ej_int))) baj_nil))) (EJ.bj (ej_var 1 (pv 1))))) (fun a b => pg_sub a b set_list))) ssj_nil) (ssj_cons (sj_set (i := 5) sc__law_text.nd rfl (by first | exact .inl rfl | exact .inr rfl) (ej_M PySem.F.plainAttrs_str PySem.F.slot_str_join PySem.F.type_str_join mth_join (EJ.bj ej_str) (baj_cons (bj_var 3 (pv 3)) baj_nil))) (ssj_cons (sj_if (tj_cmp (cmp_eq hr.units) calm_eq (nomark _) (EJ.bj (ej_var 4 (pv 4))) (EJ.bj ej_int)) (ssj_one (sj_set (i := 5) sc__law_text.nd rfl (by first | exact .inl rfl | exact .inr rfl) (ej_bin bin_add calm_add (EJ.bj (ej_var 5 (pv 5))) (EJ.bj ej_str)))) ssj_nil) (ssj_cons (sj_if (tj_cmp cmp_gt calm_gt (nomark _) (EJ.bj (ej_bin bin_mod calm_mod (EJ.bj (ej_Ty fn_int (by rfl) T.n_int PyProof.Rows.boot_int (baj_cons (EJ.bj (ej_bin bin_div calm_div (EJ.bj (ej_var 2 (pv 2))) (EJ.bj ej_int))) baj_nil))) (EJ.bj ej_int))) (EJ.bj ej_int)) (ssj_one (sj_set (i := 5) sc__law_text.nd rfl (by first | exact .inl rfl | exact .inr rfl) (ej_bin bin_add calm_add (EJ.bj ej_str) (EJ.bj (ej_var 5 (pv 5)))))) ssj_nil) (ssj_one (sj_ret (ej_var 5 (pv 5)))))))))))))
theorem ok__law_row {w : World} (T : Txt K mg w) {P : Program} {base : Heap} : FnOk P w K mg base (L2.CX P w) 2 T.a__law_row T.fd__law_row ["text"] (spT K mg (Mode.fz) 1 f__law_row) := by
  refine fn_ok (md := Mode.fz) (G := [Mode.fz, Mode.fz, Mode.fz]) T.F__law_row sc__law_row 1 3 rfl rfl rfl (by decide) (fun ρ => .inl rfl) fun cdv A outer s H E hr => ⟨[], ?_⟩
  have tk : Takes (cxOf (L2.CX P w) P w K mg base N__law_row "_law_row" (defScope s__law_row) T.a__law_row cdv A outer s H E) (WE1 E) := takes_of rfl rfl rfl rfl
  exact (ssj_cons (sj_set (i := 1) sc__law_row.nd rfl (by first | exact .inl rfl | exact .inr rfl) (NJ.ej (nj_M PySem.F.plainAttrs_str PySem.F.slot_str_split PySem.F.type_str_split mth_split (EJ.bj (ej_var 0 (pv 0))) (baj_cons (EJ.bj ej_str) baj_nil)))) (ssj_cons (sj_if (tj_cmp cmp_gt calm_gt (nomark _) (EJ.bj (ej_B fn_len (by rfl) T.n_len PySem.boot_len (baj_cons (EJ.bj (ej_var 1 (pv 1))) baj_nil))) (EJ.bj ej_int)) (ssj_one (sj_ret ej_non)) ssj_nil) (ssj_cons (sj_for (passes_of rfl) rfl (ij_seq (ej_var 1 (pv 1))) (gj_nm (pg_name (i := 2) sc__law_row.nd rfl (by first | exact .inl rfl | exact .inr rfl))) (fz_cons rfl fz_nil) (ssj_one (sj_if (tj_not (tj_tru (EJ.bj (ej_call (k := 1) runF_len (ok__law_is_name T) (hr.mono (by decide : 1 ≤ 1)) (by rfl) T.g__law_is_name T.F__law_is_name.kp T.b__law_is_name tk (aj_cons (ej_var 2 (pv 2)) aj_nil))))) (ssj_one (sj_ret ej_non)) ssj_nil))) (ssj_one (sj_ret (ej_var 1 (pv 1)))))))
theorem ok__law_entries {w : World} (T : Txt K mg w) {P : Program} {base : Heap} : FnOk P w K mg base (L2.CX P w) 2 T.a__law_entries T.fd__law_entries ["tree", "number", "body"] (spS K mg 3 f__law_entries) := by
  refine fnS_ok (G0 := [Mode.any, Mode.any, Mode.any, Mode.fz, Mode.fz, Mode.fz, Mode.sto]) T.F__law_entries sc__law_entries 3 7 rfl rfl (by decide) "$" rfl (by decide +kernel) rfl rfl [Mode.fz, Mode.fz, Mode.fz, Mode.fz, Mode.fz, Mode.fz, Mode.sto] rfl (leM_p (by first | exact True.intro | (repeat (first | exact True.intro | refine And.intro (Or.inl rfl) ?_ | refine And.intro (Or.inr rfl) ?_ | refine And.intro rfl ?_)))) fun cdv A outer s H E hr => ?_
  have tk : Takes (cxOf (L2.CX P w) P w K mg base N__law_entries "_law_entries" (defScope s__law_entries) T.a__law_entries cdv A outer s H E) (WE1 E) := takes_of rfl rfl rfl rfl
  exact ⟨[Mode.any, Mode.any, Mode.any, Mode.fz, Mode.fz, Mode.fz, Mode.sto], (ssj_cons (sj_for (passes_of rfl) rfl (ij_seq (NJ.ej (nj_lst (aj_cons ej_str (aj_cons ej_str (aj_cons ej_str (aj_cons ej_str (aj_cons ej_str (aj_cons ej_str aj_nil))))))))) (gj_nm (pg_name (i := 3) sc__law_entries.nd rfl (by first | exact .inl rfl | exact .inr rfl))) (fz_cons rfl fz_nil) (ssj_cons (sj_set (i := 4) sc__law_entries.nd rfl (by first | exact .inl rfl | exact .inr rfl) ej_non) (ssj_cons (sj_for (passes_of rfl) rfl (ij_seq (ej_pj (pj_var (i := 2) (pv 2)))) (gj_nm (pg_name (i := 5) sc__law_entries.nd rfl (by first | exact .inl rfl | exact .inr rfl))) (fz_cons rfl fz_nil) (ssj_one (sj_if (tj_cmp (cmp_eq hr.units) calm_eq (nomark _) (EJ.bj (ej_ix (EJ.bj (ej_var 5 (pv 5))) (EJ.bj ej_int))) (EJ.bj (ej_var 3 (pv 3)))) (ssj_one (sj_set (i := 4) sc__law_entries.nd rfl (by first | exact .inl rfl | exact .inr rfl) (ej_ix (EJ.bj (ej_var 5 (pv 5))) (EJ.bj ej_int)))) ssj_nil))) (ssj_one (sj_ifM (tmj_cmp (cmp_ne hr.units) calm_ne (nomark _) (mj_fz (mj_methS (S := 6) T.m_FileTree_entry runS_len (ok_FileTree_entry T) (hr.mono (by decide : 1 ≤ 1)) T.b_FileTree_entry tk (pj_var (i := 0) (pv 0)) (maj_cons (mj_pj (pj_var (i := 1) (pv 1))) (maj_cons (mj_pj (pj_ej (ej_var 3 (pv 3)))) maj_nil)))) (mj_ej (ej_var 4 (pv 4)))) (ssj_one (sj_retM (mj_pj (pj_ej ej_bl)))) ssj_nil))))) (ssj_one (sj_retM (mj_pj (pj_ej ej_bl))))), rfl⟩
theorem ok_is_path {w : World} (T : Txt K mg w) {P : Program} {base : Heap} : FnOk P w K mg base (L2.CX P w) 3 T.a_is_path T.fd_is_path ["text"] (spT K mg (Mode.fz) 1 f_is_path) := by
  refine fn_ok (md := Mode.fz) (G := [Mode.fz]) T.F_is_path sc_is_path 1 1 rfl rfl rfl (by decide) (fun ρ => .inl rfl) fun cdv A outer s H E hr => ⟨[], ?_⟩
  have tk : Takes (cxOf (L2.CX P w) P w K mg base N_is_path "is_path" (defScope s_is_path) T.a_is_path cdv A outer s H E) (WE1 E) := takes_of rfl rfl rfl rfl
  exact (ssj_cons (sj_if (tj_cmp (cmp_eq hr.units) calm_eq (nomark _) (EJ.bj (ej_var 0 (pv 0))) (EJ.bj ej_str)) (ssj_one (sj_ret ej_bl)) ssj_nil) (ssj_one (sj_ret (ej_andV (EJ.bj (ej_M PySem.F.plainAttrs_str PySem.F.slot_str_startswith PySem.F.type_str_startswith mth_starts (EJ.bj (ej_var 0 (pv 0))) (baj_cons (EJ.bj ej_str) baj_nil))) (ej_andV (EJ.bj (ej_cmp cmp_le calm_le (nomark _) (EJ.bj (ej_B fn_len (by rfl) T.n_len PySem.boot_len (baj_cons (EJ.bj (ej_var 0 (pv 0))) baj_nil))) (EJ.bj (T.e_PATH_MOST rfl)))) (ej_one (ej_call (k := 2) runF_len (ok_has_names T) (hr.mono (by decide : 2 ≤ 2)) (by rfl) T.g_has_names T.F_has_names.kp T.b_has_names tk (aj_cons (ej_sl (EJ.bj (ej_var 0 (pv 0))) (oj_some (EJ.bj ej_int)) oj_none) aj_nil))))))))
theorem ok_Node___eq__ {w : World} (T : Txt K mg w) {P : Program} {base : Heap} : FnOk P w K mg base (L2.CX P w) 3 T.a_Node___eq__ T.fd_Node___eq__ ["self", "other"] (spS K mg 2 f_Node___eq__) := by
  refine fnS_ok (G0 := [Mode.any, Mode.any, Mode.sto]) T.F_Node___eq__ sc_Node___eq__ 2 3 rfl rfl (by decide) "$" rfl (by decide +kernel) rfl rfl [Mode.fz, Mode.fz, Mode.sto] rfl (leM_p (by first | exact True.intro | (repeat (first | exact True.intro | refine And.intro (Or.inl rfl) ?_ | refine And.intro (Or.inr rfl) ?_ | refine And.intro rfl ?_)))) fun cdv A outer s H E hr => ?_
  have tk : Takes (cxOf (L2.CX P w) P w K mg base N_Node___eq__ "Node.__eq__" (defScope s_Node___eq__) T.a_Node___eq__ cdv A outer s H E) (WE1 E) := takes_of rfl rfl rfl rfl
  exact ⟨[Mode.any, Mode.any, Mode.sto], (ssj_cons (sj_if (tj_not (tj_tru (EJ.bj (ej_isiC (S := 2) (c := 0) T.is_Node (pj_var (i := 1) (pv 1)) (by rfl) T.n_isinstance (by rfl) T.g_Node)))) (ssj_one (sj_retM (mj_pj (pj_ej ej_bl)))) ssj_nil) (ssj_one (sj_retM (mj_pj (pj_ej (ej_andV (EJ.bj (ej_cmp (cmp_eq hr.units) calm_eq (nomark _) (bj_der (S := 2) (pj_fld (S := 2) T.ft_kind (pj_var (i := 0) (pv 0)))) (bj_der (S := 2) (pj_fld (S := 2) T.ft_kind (pj_var (i := 1) (pv 1)))))) (ej_andV (EJ.bj (ej_cmp (cmp_eq hr.units) calm_eq (nomark _) (bj_der (S := 2) (pj_fld (S := 2) T.ft_body (pj_var (i := 0) (pv 0)))) (bj_der (S := 2) (pj_fld (S := 2) T.ft_body (pj_var (i := 1) (pv 1)))))) (ej_one (ej_cmp (cmp_eq hr.units) calm_eq (nomark _) (bj_der (S := 2) (pj_fld (S := 2) T.ft_links (pj_var (i := 0) (pv 0)))) (bj_der (S := 2) (pj_fld (S := 2) T.ft_links (pj_var (i := 1) (pv 1))))))))))))), rfl⟩
theorem ok_Node_with_body {w : World} (T : Txt K mg w) {P : Program} {base : Heap} : FnOk P w K mg base (L2.CX P w) 3 T.a_Node_with_body T.fd_Node_with_body ["self", "body"] (spS K mg 2 f_Node_with_body) := by
  refine fnS_ok (G0 := [Mode.any, Mode.any, Mode.sto]) T.F_Node_with_body sc_Node_with_body 2 3 rfl rfl (by decide) "$" rfl (by decide +kernel) rfl rfl [Mode.fz, Mode.fz, Mode.sto] rfl (leM_p (by first | exact True.intro | (repeat (first | exact True.intro | refine And.intro (Or.inl rfl) ?_ | refine And.intro (Or.inr rfl) ?_ | refine And.intro rfl ?_)))) fun cdv A outer s H E hr => ?_
  have tk : Takes (cxOf (L2.CX P w) P w K mg base N_Node_with_body "Node.with_body" (defScope s_Node_with_body) T.a_Node_with_body cdv A outer s H E) (WE1 E) := takes_of rfl rfl rfl rfl
  exact ⟨[Mode.any, Mode.any, Mode.sto], (ssj_one (sj_retM (mj_makeSK (S := 2) (c := 0) (np := 2) T.k_Node runS_len (ok_Node___init__ T) (hr.mono (by decide : 2 ≤ 2)) (by rfl) T.g_Node T.bk_Node___init__ tk (maj_cons (mj_pj (pj_fld (S := 2) T.ft_kind (pj_var (i := 0) (pv 0)))) (maj_cons (mj_pj (pj_var (i := 1) (pv 1))) maj_nil)) (kmj_cons (mj_pj (pj_fld (S := 2) T.ft_links (pj_var (i := 0) (pv 0)))) kmj_nil)))), rfl⟩
theorem ok_Node_with_links {w : World} (T : Txt K mg w) {P : Program} {base : Heap} : FnOk P w K mg base (L2.CX P w) 3 T.a_Node_with_links T.fd_Node_with_links ["self", "links"] (spS K mg 2 f_Node_with_links) := by
  refine fnS_ok (G0 := [Mode.any, Mode.any, Mode.sto]) T.F_Node_with_links sc_Node_with_links 2 3 rfl rfl (by decide) "$" rfl (by decide +kernel) rfl rfl [Mode.fz, Mode.fz, Mode.sto] rfl (leM_p (by first | exact True.intro | (repeat (first | exact True.intro | refine And.intro (Or.inl rfl) ?_ | refine And.intro (Or.inr rfl) ?_ | refine And.intro rfl ?_)))) fun cdv A outer s H E hr => ?_
  have tk : Takes (cxOf (L2.CX P w) P w K mg base N_Node_with_links "Node.with_links" (defScope s_Node_with_links) T.a_Node_with_links cdv A outer s H E) (WE1 E) := takes_of rfl rfl rfl rfl
  exact ⟨[Mode.any, Mode.any, Mode.sto], (ssj_one (sj_retM (mj_makeSK (S := 2) (c := 0) (np := 2) T.k_Node runS_len (ok_Node___init__ T) (hr.mono (by decide : 2 ≤ 2)) (by rfl) T.g_Node T.bk_Node___init__ tk (maj_cons (mj_pj (pj_fld (S := 2) T.ft_kind (pj_var (i := 0) (pv 0)))) (maj_cons (mj_pj (pj_fld (S := 2) T.ft_body (pj_var (i := 0) (pv 0)))) maj_nil)) (kmj_cons (mj_pj (pj_var (i := 1) (pv 1))) kmj_nil)))), rfl⟩
theorem ok_FileTree___init__ {w : World} (T : Txt K mg w) {P : Program} {base : Heap} : FnOk P w K mg base (L2.CX P w) 3 T.a_FileTree___init__ T.fd_FileTree___init__ ["self"] (spS K mg 1 f_FileTree___init__) := by
  refine fnS_ok (G0 := [Mode.any, Mode.sto]) T.F_FileTree___init__ sc_FileTree___init__ 1 2 rfl rfl (by decide) "$" rfl (by decide +kernel) rfl rfl [Mode.fz, Mode.sto] rfl (leM_p (by first | exact True.intro | (repeat (first | exact True.intro | refine And.intro (Or.inl rfl) ?_ | refine And.intro (Or.inr rfl) ?_ | refine And.intro rfl ?_)))) fun cdv A outer s H E hr => ?_
  have tk : Takes (cxOf (L2.CX P w) P w K mg base N_FileTree___init__ "FileTree.__init__" (defScope s_FileTree___init__) T.a_FileTree___init__ cdv A outer s H E) (WE1 E) := takes_of rfl rfl rfl rfl
  exact ⟨[Mode.any, Mode.sto], (ssj_cons (sj_fsetS (S := 1) T.ft_nodes (fun c _ _ _ => T.fsA c) (pj_var (i := 0) (pv 0)) (mj_disp (S := 1) (keys := [(.inl 0)]) (pmj_cons con_i (mj_makeSD (S := 1) (c := 0) (dd := [.int 1]) T.k_Node runS_len (ok_Node___init__ T) (hr.mono (by decide : 2 ≤ 2)) (by rfl) T.g_Node T.bd_Node___init__ (fun _ => .cons (.int _) (.nil)) rfl tk (maj_cons (mj_pj (pj_ej ej_str)) (maj_cons (mj_pj (pj_ej (ej_tup aj_nil))) maj_nil))) pmj_nil) (by decide +kernel) rfl rfl (by simp) (by decide) (by decide))) (ssj_one (sj_fsetS (S := 1) T.ft_handles (fun c _ _ _ => T.fsA c) (pj_var (i := 0) (pv 0)) (mj_rootN (S := 1) (nj_bin bin_rep calm_rep (EJ.bj (NJ.ej (nj_lst (aj_cons ej_non aj_nil)))) (EJ.bj (T.e_HANDLES rfl))))))), rfl⟩
theorem ok_is_target {w : World} (T : Txt K mg w) {P : Program} {base : Heap} : FnOk P w K mg base (L2.CX P w) 4 T.a_is_target T.fd_is_target ["text"] (spT K mg (Mode.fz) 1 f_is_target) := by
  refine fn_ok (md := Mode.fz) (G := [Mode.fz]) T.F_is_target sc_is_target 1 1 rfl rfl rfl (by decide) (fun ρ => .inl rfl) fun cdv A outer s H E hr => ⟨[], ?_⟩
  have tk : Takes (cxOf (L2.CX P w) P w K mg base N_is_target "is_target" (defScope s_is_target) T.a_is_target cdv A outer s H E) (WE1 E) := takes_of rfl rfl rfl rfl
  exact (ssj_one (sj_ret (ej_orV (EJ.bj (ej_call (k := 3) runF_len (ok_is_path T) (hr.mono (by decide : 3 ≤ 3)) (by rfl) T.g_is_path T.F_is_path.kp T.b_is_path tk (aj_cons (ej_var 0 (pv 0)) aj_nil))) (ej_one (ej_andV (EJ.bj (ej_cmp cmp_le calm_le (nomark _) (EJ.bj (ej_B fn_len (by rfl) T.n_len PySem.boot_len (baj_cons (EJ.bj (ej_var 0 (pv 0))) baj_nil))) (EJ.bj (T.e_PATH_MOST rfl)))) (ej_one (ej_call (k := 2) runF_len (ok_has_names T) (hr.mono (by decide : 2 ≤ 3)) (by rfl) T.g_has_names T.F_has_names.kp T.b_has_names tk (aj_cons (ej_var 0 (pv 0)) aj_nil))))))))
theorem ok__law_nodes {w : World} (T : Txt K mg w) {P : Program} {base : Heap} : FnOk P w K mg base (L2.CX P w) 4 T.a__law_nodes T.fd__law_nodes ["draws"] (spS K mg 1 f__law_nodes) := by
  refine fnS_ok (G0 := [Mode.any, Mode.fz, Mode.fz, Mode.fz, Mode.fz, Mode.fz, Mode.any, Mode.sto]) T.F__law_nodes sc__law_nodes 1 8 rfl rfl (by decide) "$" rfl (by decide +kernel) rfl rfl [Mode.fz, Mode.fz, Mode.fz, Mode.fz, Mode.fz, Mode.fz, Mode.fz, Mode.sto] rfl (leM_p (by first | exact True.intro | (repeat (first | exact True.intro | refine And.intro (Or.inl rfl) ?_ | refine And.intro (Or.inr rfl) ?_ | refine And.intro rfl ?_)))) fun cdv A outer s H E hr => ?_
  have tk : Takes (cxOf (L2.CX P w) P w K mg base N__law_nodes "_law_nodes" (defScope s__law_nodes) T.a__law_nodes cdv A outer s H E) (WE1 E) := takes_of rfl rfl rfl rfl
  exact ⟨[Mode.any, Mode.fz, Mode.fz, Mode.fz, Mode.fz, Mode.fz, Mode.any, Mode.sto], (ssj_cons (sj_for (passes_of rfl) rfl (ij_range1 (by rfl) T.n_range (aj_cons ej_int aj_nil)) (gj_nm (pg_name (i := 1) sc__law_nodes.nd rfl (by first | exact .inl rfl | exact .inr rfl))) (fz_cons rfl fz_nil) (ssj_cons (sj_set (i := 2) sc__law_nodes.nd rfl (by first | exact .inl rfl | exact .inr rfl) (ej_ix (EJ.bj (NJ.ej (nj_lst (aj_cons ej_str (aj_cons ej_str (aj_cons ej_str aj_nil)))))) (EJ.bj (ej_var 1 (pv 1))))) (ssj_cons (sj_set (i := 3) sc__law_nodes.nd rfl (by first | exact .inl rfl | exact .inr rfl) (ej_call (k := 1) runF_len (ok__law_body T) (hr.mono (by decide : 1 ≤ 3)) (by rfl) T.g__law_body T.F__law_body.kp T.b__law_body tk (aj_cons (ej_pj (pj_ixA (S := 7) (pj_var (i := 0) (pv 0)) (EJ.bj (ej_var 1 (pv 1))))) (aj_cons (ej_var 2 (pv 2)) aj_nil)))) (ssj_cons (sj_set (i := 4) sc__law_nodes.nd rfl (by first | exact .inl rfl | exact .inr rfl) (ej_call (k := 1) runF_len (ok__law_body T) (hr.mono (by decide : 1 ≤ 3)) (by rfl) T.g__law_body T.F__law_body.kp T.b__law_body tk (aj_cons (ej_pj (pj_ixA (S := 7) (pj_var (i := 0) (pv 0)) (EJ.bj (ej_bin bin_add calm_add (EJ.bj (ej_var 1 (pv 1))) (EJ.bj ej_int))))) (aj_cons (ej_var 2 (pv 2)) aj_nil)))) (ssj_cons (sj_set (i := 5) sc__law_nodes.nd rfl (by first | exact .inl rfl | exact .inr rfl) (ej_bin bin_mod calm_mod (EJ.bj (ej_Ty fn_int (by rfl) T.n_int PyProof.Rows.boot_int (baj_cons (EJ.bj (ej_bin bin_div calm_div (bj_der (S := 7) (pj_ixA (S := 7) (pj_var (i := 0) (pv 0)) (EJ.bj (ej_var 1 (pv 1))))) (EJ.bj ej_int))) baj_nil))) (EJ.bj ej_int))) (ssj_cons (sj_setA (i := 6) sc__law_nodes.nd rfl (by first | exact .inl rfl | exact .inr rfl) (mj_makeSK (S := 7) (c := 0) (np := 2) T.k_Node runS_len (ok_Node___init__ T) (hr.mono (by decide : 2 ≤ 3)) (by rfl) T.g_Node T.bk_Node___init__ tk (maj_cons (mj_pj (pj_ej (ej_var 2 (pv 2)))) (maj_cons (mj_pj (pj_ej (ej_var 3 (pv 3)))) maj_nil)) (kmj_cons (mj_pj (pj_ej (ej_var 5 (pv 5)))) kmj_nil))) (ssj_cons (sj_ifM (WMJ.tmj (wmj_or (tmj_cmp (cmp_ne hr.units) calm_ne (nomark _) (mj_fz (mj_callS (S := 7) runS_len (ok__law_parts T) (hr.mono (by decide : 1 ≤ 3)) (by rfl) T.g__law_parts T.F__law_parts.kp T.b__law_parts tk (maj_cons (mj_pj (pj_var (i := 6) (pv 6))) maj_nil))) (mj_ej (ej_tup (aj_cons (ej_var 2 (pv 2)) (aj_cons (ej_var 3 (pv 3)) (aj_cons (ej_var 5 (pv 5)) aj_nil)))))) (wmj_or1 (tmj_cmp (cmp_ne hr.units) calm_ne (nomark _) (mj_fz (mj_callS (S := 7) runS_len (ok__law_parts T) (hr.mono (by decide : 1 ≤ 3)) (by rfl) T.g__law_parts T.F__law_parts.kp T.b__law_parts tk (maj_cons (mj_makeSD (S := 7) (c := 0) (dd := [.int 1]) T.k_Node runS_len (ok_Node___init__ T) (hr.mono (by decide : 2 ≤ 3)) (by rfl) T.g_Node T.bd_Node___init__ (fun _ => .cons (.int _) (.nil)) rfl tk (maj_cons (mj_pj (pj_ej (ej_var 2 (pv 2)))) (maj_cons (mj_pj (pj_ej (ej_var 3 (pv 3)))) maj_nil))) maj_nil))) (mj_ej (ej_tup (aj_cons (ej_var 2 (pv 2)) (aj_cons (ej_var 3 (pv 3)) (aj_cons ej_int aj_nil))))))))) (ssj_one (sj_retM (mj_pj (pj_ej ej_bl)))) ssj_nil) (ssj_cons (sj_ifM (WMJ.tmj (wmj_or (tmj_cmp (cmp_ne hr.units) calm_ne (nomark _) (mj_fz (mj_methS0 (S := 7) T.m_Node_measure runS_len (ok_Node_measure T) (hr.mono (by decide : 1 ≤ 3)) T.b_Node_measure tk (pj_var (i := 6) (pv 6)))) (mj_ej (ej_B fn_len (by rfl) T.n_len PySem.boot_len (baj_cons (EJ.bj (ej_var 3 (pv 3))) baj_nil)))) (wmj_or1 (tmj_cmp (cmp_ne hr.units) calm_ne (nomark _) (mj_fz (mj_callS (S := 7) runS_len (ok__law_parts T) (hr.mono (by decide : 1 ≤ 3)) (by rfl) T.g__law_parts T.F__law_parts.kp T.b__law_parts tk (maj_cons (mj_methS (S := 7) T.m_Node_with_body runS_len (ok_Node_with_body T) (hr.mono (by decide : 3 ≤ 3)) T.b_Node_with_body tk (pj_var (i := 6) (pv 6)) (maj_cons (mj_pj (pj_ej (ej_var 4 (pv 4)))) maj_nil)) maj_nil))) (mj_ej (ej_tup (aj_cons (ej_var 2 (pv 2)) (aj_cons (ej_var 4 (pv 4)) (aj_cons (ej_var 5 (pv 5)) aj_nil))))))))) (ssj_one (sj_retM (mj_pj (pj_ej ej_bl)))) ssj_nil) (ssj_cons (sj_ifM (WMJ.tmj (wmj_or (tmj_cmp (cmp_ne hr.units) calm_ne (nomark _) (mj_fz (mj_callS (S := 7) runS_len (ok__law_parts T) (hr.mono (by decide : 1 ≤ 3)) (by rfl) T.g__law_parts T.F__law_parts.kp T.b__law_parts tk (maj_cons (mj_methS (S := 7) T.m_Node_with_links runS_len (ok_Node_with_links T) (hr.mono (by decide : 3 ≤ 3)) T.b_Node_with_links tk (pj_var (i := 6) (pv 6)) (maj_cons (mj_pj (pj_ej (ej_bin bin_add calm_add (EJ.bj (ej_var 5 (pv 5))) (EJ.bj ej_int)))) maj_nil)) maj_nil))) (mj_ej (ej_tup (aj_cons (ej_var 2 (pv 2)) (aj_cons (ej_var 3 (pv 3)) (aj_cons (ej_bin bin_add calm_add (EJ.bj (ej_var 5 (pv 5))) (EJ.bj ej_int)) aj_nil)))))) (wmj_or1 (tmj_cmp (cmp_ne hr.units) calm_ne (nomark _) (mj_fz (mj_callS (S := 7) runS_len (ok__law_parts T) (hr.mono (by decide : 1 ≤ 3)) (by rfl) T.g__law_parts T.F__law_parts.kp T.b__law_parts tk (maj_cons (mj_pj (pj_var (i := 6) (pv 6))) maj_nil))) (mj_ej (ej_tup (aj_cons (ej_var 2 (pv 2)) (aj_cons (ej_var 3 (pv 3)) (aj_cons (ej_var 5 (pv 5)) aj_nil))))))))) (ssj_one (sj_retM (mj_pj (pj_ej ej_bl)))) ssj_nil) (ssj_cons (sj_ifM (WMJ.tmj (wmj_or (tmj_cmp (cmp_ne hr.units) calm_ne (nomark _) (mj_eqS (S := 7) T.m_Node___eq__ runS_len (ok_Node___eq__ T) (hr.mono (by decide : 3 ≤ 3)) T.b_Node___eq__ (pj_var (i := 6) (pv 6)) (mj_makeSK (S := 7) (c := 0) (np := 2) T.k_Node runS_len (ok_Node___init__ T) (hr.mono (by decide : 2 ≤ 3)) (by rfl) T.g_Node T.bk_Node___init__ tk (maj_cons (mj_pj (pj_ej (ej_var 2 (pv 2)))) (maj_cons (mj_pj (pj_ej (ej_var 4 (pv 4)))) maj_nil)) (kmj_cons (mj_pj (pj_ej (ej_var 5 (pv 5)))) kmj_nil))) (mj_ej (ej_cmp (cmp_eq hr.units) calm_eq (nomark _) (EJ.bj (ej_var 4 (pv 4))) (EJ.bj (ej_var 3 (pv 3)))))) (wmj_or1 (tmj_eqS (S := 7) T.m_Node___eq__ runS_len (ok_Node___eq__ T) (hr.mono (by decide : 3 ≤ 3)) T.b_Node___eq__ (pj_var (i := 6) (pv 6)) (mj_methS (S := 7) T.m_Node_with_links runS_len (ok_Node_with_links T) (hr.mono (by decide : 3 ≤ 3)) T.b_Node_with_links tk (pj_var (i := 6) (pv 6)) (maj_cons (mj_pj (pj_ej (ej_bin bin_add calm_add (EJ.bj (ej_var 5 (pv 5))) (EJ.bj ej_int)))) maj_nil)))))) (ssj_one (sj_retM (mj_pj (pj_ej ej_bl)))) ssj_nil) (ssj_cons (sj_ifM (WMJ.tmj (wmj_or (tmj_not (tmj_eqS (S := 7) T.m_Node___eq__ runS_len (ok_Node___eq__ T) (hr.mono (by decide : 3 ≤ 3)) T.b_Node___eq__ (pj_var (i := 6) (pv 6)) (mj_makeSK (S := 7) (c := 0) (np := 2) T.k_Node runS_len (ok_Node___init__ T) (hr.mono (by decide : 2 ≤ 3)) (by rfl) T.g_Node T.bk_Node___init__ tk (maj_cons (mj_pj (pj_ej (ej_var 2 (pv 2)))) (maj_cons (mj_pj (pj_ej (ej_var 3 (pv 3)))) maj_nil)) (kmj_cons (mj_pj (pj_ej (ej_var 5 (pv 5)))) kmj_nil)))) (wmj_or (tmj_eqS (S := 7) T.m_Node___eq__ runS_len (ok_Node___eq__ T) (hr.mono (by decide : 3 ≤ 3)) T.b_Node___eq__ (pj_var (i := 6) (pv 6)) (mj_pj (pj_ej (ej_tup (aj_cons (ej_var 2 (pv 2)) (aj_cons (ej_var 3 (pv 3)) (aj_cons (ej_var 5 (pv 5)) aj_nil))))))) (wmj_or1 (tmj_eqS (S := 7) T.m_Node___eq__ runS_len (ok_Node___eq__ T) (hr.mono (by decide : 3 ≤ 3)) T.b_Node___eq__ (pj_var (i := 6) (pv 6)) (mj_pj (pj_ej (ej_var 2 (pv 2))))))))) (ssj_one (sj_retM (mj_pj (pj_ej ej_bl)))) ssj_nil) (ssj_one (sj_ifM (WMJ.tmj (wmj_and (tmj_pure (tj_cmp (cmp_ne hr.units) calm_ne (nomark _) (EJ.bj (ej_var 2 (pv 2))) (EJ.bj ej_str))) (wmj_and (tmj_pure (tj_cmp (cmp_eq hr.units) calm_eq (nomark _) (EJ.bj (ej_var 3 (pv 3))) (EJ.bj (ej_tup aj_nil)))) (wmj_and1 (tmj_eqS (S := 7) T.m_Node___eq__ runS_len (ok_Node___eq__ T) (hr.mono (by decide : 3 ≤ 3)) T.b_Node___eq__ (pj_var (i := 6) (pv 6)) (mj_makeSK (S := 7) (c := 0) (np := 2) T.k_Node runS_len (ok_Node___init__ T) (hr.mono (by decide : 2 ≤ 3)) (by rfl) T.g_Node T.bk_Node___init__ tk (maj_cons (mj_pj (pj_ej (ej_ix (EJ.bj (NJ.ej (nj_lst (aj_cons ej_str (aj_cons ej_str aj_nil))))) (EJ.bj (ej_var 1 (pv 1)))))) (maj_cons (mj_pj (pj_ej (ej_tup aj_nil))) maj_nil)) (kmj_cons (mj_pj (pj_ej (ej_var 5 (pv 5)))) kmj_nil))))))) (ssj_one (sj_retM (mj_pj (pj_ej ej_bl)))) ssj_nil))))))))))))) (ssj_one (sj_retM (mj_pj (pj_ej ej_bl))))), rfl⟩
theorem ok_FileTree_copied {w : World} (T : Txt K mg w) {P : Program} {base : Heap} : FnOk P w K mg base (L2.CX P w) 5 T.a_FileTree_copied T.fd_FileTree_copied ["self"] (spS K mg 1 f_FileTree_copied) := by
  refine fnS_ok (G0 := [Mode.any, Mode.any, Mode.sto]) T.F_FileTree_copied sc_FileTree_copied 1 3 rfl rfl (by decide) "$" rfl (by decide +kernel) rfl rfl [Mode.fz, Mode.fz, Mode.sto] rfl (leM_p (by first | exact True.intro | (repeat (first | exact True.intro | refine And.intro (Or.inl rfl) ?_ | refine And.intro (Or.inr rfl) ?_ | refine And.intro rfl ?_)))) fun cdv A outer s H E hr => ?_
  have tk : Takes (cxOf (L2.CX P w) P w K mg base N_FileTree_copied "FileTree.copied" (defScope s_FileTree_copied) T.a_FileTree_copied cdv A outer s H E) (WE1 E) := takes_of rfl rfl rfl rfl
  exact ⟨[Mode.any, Mode.any, Mode.sto], (ssj_cons (sj_setA (i := 1) sc_FileTree_copied.nd rfl (by first | exact .inl rfl | exact .inr rfl) (mj_makeS0 (S := 2) (c := 1) T.k_FileTree runS_len (ok_FileTree___init__ T) (hr.mono (by decide : 4 ≤ 4)) (by rfl) T.g_FileTree T.b_FileTree___init__ tk)) (ssj_cons (sj_fsetS (S := 2) T.ft_nodes (fun c _ _ _ => T.fsA c) (pj_var (i := 1) (pv 1)) (mj_dictC (S := 2) (pj_fld (S := 2) T.ft_nodes (pj_var (i := 0) (pv 0))) (by rfl) T.n_dict)) (ssj_cons (sj_fsetS (S := 2) T.ft_handles (fun c _ _ _ => T.fsA c) (pj_var (i := 1) (pv 1)) (mj_rootN (S := 2) (nj_Ty fn_list (by rfl) T.n_list PyProof.Rows.boot_list (baj_cons (bj_der (S := 2) (pj_fld (S := 2) T.ft_handles (pj_var (i := 0) (pv 0)))) baj_nil)))) (ssj_one (sj_retM (mj_pj (pj_var (i := 1) (pv 1)))))))), rfl⟩
theorem ok__law_asks_first {w : World} (T : Txt K mg w) {P : Program} {base : Heap} : FnOk P w K mg base (L2.CX P w) 5 T.a__law_asks_first T.fd__law_asks_first ["script"] (spT K mg (Mode.fz) 1 f__law_asks_first) := by
  refine fn_ok (md := Mode.fz) (G := [Mode.fz, Mode.fz, Mode.fz, Mode.fz, Mode.fz]) T.F__law_asks_first sc__law_asks_first 1 5 rfl rfl rfl (by decide) (fun ρ => .inl rfl) fun cdv A outer s H E hr => ⟨[], ?_⟩
  have tk : Takes (cxOf (L2.CX P w) P w K mg base N__law_asks_first "_law_asks_first" (defScope s__law_asks_first) T.a__law_asks_first cdv A outer s H E) (WE1 E) := takes_of rfl rfl rfl rfl
  exact (ssj_cons (sj_for (passes_of rfl) rfl (ij_seq (ej_call (k := 1) runF_len (ok__law_draws T) (hr.mono (by decide : 1 ≤ 4)) (by rfl) T.g__law_draws T.F__law_draws.kp T.b__law_draws tk (aj_cons (ej_var 0 (pv 0)) (aj_cons ej_int aj_nil)))) (gj_nm (pg_name (i := 1) sc__law_asks_first.nd rfl (by first | exact .inl rfl | exact .inr rfl))) (fz_cons rfl fz_nil) (ssj_cons (sj_set (i := 2) sc__law_asks_first.nd rfl (by first | exact .inl rfl | exact .inr rfl) (ej_call (k := 2) runF_len (ok__law_text T) (hr.mono (by decide : 2 ≤ 4)) (by rfl) T.g__law_text T.F__law_text.kp T.b__law_text tk (aj_cons (ej_var 1 (pv 1)) aj_nil))) (ssj_cons (sj_set (i := 3) sc__law_asks_first.nd rfl (by first | exact .inl rfl | exact .inr rfl) ej_non) (ssj_cons (sj_set (i := 4) sc__law_asks_first.nd rfl (by first | exact .inl rfl | exact .inr rfl) ej_non) (ssj_cons (sj_if (tj_cmp cmp_le calm_le (nomark _) (EJ.bj (ej_B fn_len (by rfl) T.n_len PySem.boot_len (baj_cons (EJ.bj (ej_var 2 (pv 2))) baj_nil))) (EJ.bj ej_int)) (ssj_cons (sj_set (i := 4) sc__law_asks_first.nd rfl (by first | exact .inl rfl | exact .inr rfl) (ej_call (k := 2) runF_len (ok__law_row T) (hr.mono (by decide : 2 ≤ 4)) (by rfl) T.g__law_row T.F__law_row.kp T.b__law_row tk (aj_cons (ej_var 2 (pv 2)) aj_nil))) (ssj_one (sj_if (tj_cmp (cmp_eq hr.units) calm_eq (nomark _) (EJ.bj (ej_var 2 (pv 2))) (EJ.bj ej_str)) (ssj_one (sj_set (i := 3) sc__law_asks_first.nd rfl (by first | exact .inl rfl | exact .inr rfl) (NJ.ej (nj_lst aj_nil)))) (ssj_one (sj_if (tj_cmp (cmp_eq hr.units) calm_eq (nomark _) (EJ.bj (ej_sl (EJ.bj (ej_var 2 (pv 2))) oj_none (oj_some (EJ.bj ej_int)))) (EJ.bj ej_str)) (ssj_one (sj_set (i := 3) sc__law_asks_first.nd rfl (by first | exact .inl rfl | exact .inr rfl) (ej_call (k := 2) runF_len (ok__law_row T) (hr.mono (by decide : 2 ≤ 4)) (by rfl) T.g__law_row T.F__law_row.kp T.b__law_row tk (aj_cons (ej_sl (EJ.bj (ej_var 2 (pv 2))) (oj_some (EJ.bj ej_int)) oj_none) aj_nil)))) ssj_nil))))) ssj_nil) (ssj_cons (sj_if (tj_not (tj_tru (EJ.bj (ej_call (k := 1) runF_len (ok__law_flag T) (hr.mono (by decide : 1 ≤ 4)) (by rfl) T.g__law_flag T.F__law_flag.kp T.b__law_flag tk (aj_cons (ej_call (k := 3) runF_len (ok_is_path T) (hr.mono (by decide : 3 ≤ 4)) (by rfl) T.g_is_path T.F_is_path.kp T.b_is_path tk (aj_cons (ej_var 2 (pv 2)) aj_nil)) (aj_cons (ej_cmp cmp_isNot calm_isNot (nomark _) (EJ.bj (ej_var 3 (pv 3))) (EJ.bj ej_non)) aj_nil)))))) (ssj_one (sj_ret ej_bl)) ssj_nil) (ssj_cons (sj_if (tj_not (tj_tru (EJ.bj (ej_call (k := 1) runF_len (ok__law_flag T) (hr.mono (by decide : 1 ≤ 4)) (by rfl) T.g__law_flag T.F__law_flag.kp T.b__law_flag tk (aj_cons (ej_call (k := 4) runF_len (ok_is_target T) (hr.mono (by decide : 4 ≤ 4)) (by rfl) T.g_is_target T.F_is_target.kp T.b_is_target tk (aj_cons (ej_var 2 (pv 2)) aj_nil)) (aj_cons (ej_orV (EJ.bj (ej_cmp cmp_isNot calm_isNot (nomark _) (EJ.bj (ej_var 3 (pv 3))) (EJ.bj ej_non))) (ej_one (ej_cmp cmp_isNot calm_isNot (nomark _) (EJ.bj (ej_var 4 (pv 4))) (EJ.bj ej_non)))) aj_nil)))))) (ssj_one (sj_ret ej_bl)) ssj_nil) (ssj_cons (sj_if (WJ.tj (wj_and (tj_cmp cmp_isNot calm_isNot (nomark _) (EJ.bj (ej_var 3 (pv 3))) (EJ.bj ej_non)) (wj_and1 (tj_cmp (cmp_ne hr.units) calm_ne (nomark _) (EJ.bj (ej_call (k := 1) runF_len (ok_names_of T) (hr.mono (by decide : 1 ≤ 4)) (by rfl) T.g_names_of T.F_names_of.kp T.b_names_of tk (aj_cons (ej_var 2 (pv 2)) aj_nil))) (EJ.bj (ej_var 3 (pv 3))))))) (ssj_one (sj_ret ej_bl)) ssj_nil) (ssj_one (sj_if (WJ.tj (wj_and (tj_cmp cmp_isNot calm_isNot (nomark _) (EJ.bj (ej_var 4 (pv 4))) (EJ.bj ej_non)) (wj_and1 (tj_cmp (cmp_ne hr.units) calm_ne (nomark _) (EJ.bj (ej_call (k := 1) runF_len (ok_names_of T) (hr.mono (by decide : 1 ≤ 4)) (by rfl) T.g_names_of T.F_names_of.kp T.b_names_of tk (aj_cons (ej_var 2 (pv 2)) aj_nil))) (EJ.bj (ej_var 4 (pv 4))))))) (ssj_one (sj_ret ej_bl)) ssj_nil)))))))))) (ssj_one (sj_ret ej_bl)))
theorem ok__law_asks_second {w : World} (T : Txt K mg w) {P : Program} {base : Heap} : FnOk P w K mg base (L2.CX P w) 6 T.a__law_asks_second T.fd__law_asks_second ["script"] (spS K mg 1 f__law_asks_second) := by
  refine fnS_ok (G0 := [Mode.any, Mode.fz, Mode.any, Mode.fz, Mode.fz, Mode.fz, Mode.any, Mode.any, Mode.sto]) T.F__law_asks_second sc__law_asks_second 1 9 rfl rfl (by decide) "$" rfl (by decide +kernel) rfl rfl [Mode.fz, Mode.fz, Mode.fz, Mode.fz, Mode.fz, Mode.fz, Mode.fz, Mode.fz, Mode.sto] rfl (leM_p (by first | exact True.intro | (repeat (first | exact True.intro | refine And.intro (Or.inl rfl) ?_ | refine And.intro (Or.inr rfl) ?_ | refine And.intro rfl ?_)))) fun cdv A outer s H E hr => ?_
  have tk : Takes (cxOf (L2.CX P w) P w K mg base N__law_asks_second "_law_asks_second" (defScope s__law_asks_second) T.a__law_asks_second cdv A outer s H E) (WE1 E) := takes_of rfl rfl rfl rfl
  exact ⟨[Mode.any, Mode.fz, Mode.any, Mode.fz, Mode.fz, Mode.fz, Mode.any, Mode.any, Mode.sto], (ssj_cons (sj_set (i := 1) sc__law_asks_second.nd rfl (by first | exact .inl rfl | exact .inr rfl) (ej_call (k := 1) runF_len (ok__law_draws T) (hr.mono (by decide : 1 ≤ 5)) (by rfl) T.g__law_draws T.F__law_draws.kp T.b__law_draws tk (aj_cons (ej_pj (pj_var (i := 0) (pv 0))) (aj_cons ej_int aj_nil)))) (ssj_cons (sj_ifM (tmj_not (tmj_val (mj_fz (mj_callS (S := 8) runS_len (ok__law_nodes T) (hr.mono (by decide : 4 ≤ 5)) (by rfl) T.g__law_nodes T.F__law_nodes.kp T.b__law_nodes tk (maj_cons (mj_pj (pj_ej (ej_var 1 (pv 1)))) maj_nil))))) (ssj_one (sj_retM (mj_pj (pj_ej ej_bl)))) ssj_nil) (ssj_cons (sj_setA (i := 2) sc__law_asks_second.nd rfl (by first | exact .inl rfl | exact .inr rfl) (mj_makeS0 (S := 8) (c := 1) T.k_FileTree runS_len (ok_FileTree___init__ T) (hr.mono (by decide : 4 ≤ 5)) (by rfl) T.g_FileTree T.b_FileTree___init__ tk)) (ssj_cons (sj_ifM (WMJ.tmj (wmj_or (tmj_pure (tj_cmp (cmp_ne hr.units) calm_ne (nomark _) (EJ.bj (NJ.ej (nj_Ty (fn_listD rfl) (by rfl) T.n_list PyProof.Rows.boot_list (baj_cons (bj_der (S := 8) (pj_fld (S := 8) T.ft_nodes (pj_var (i := 2) (pv 2)))) baj_nil)))) (EJ.bj (NJ.ej (nj_lst (aj_cons ej_int aj_nil)))))) (wmj_or1 (tmj_cmp (cmp_ne hr.units) calm_ne (nomark _) (mj_fz (mj_callS (S := 8) runS_len (ok__law_parts T) (hr.mono (by decide : 1 ≤ 5)) (by rfl) T.g__law_parts T.F__law_parts.kp T.b__law_parts tk (maj_cons (mj_pj (pj_dkC (S := 8) (hu1 hr.units) (cj_val (S := 8) (pj_fld (S := 8) T.ft_nodes (pj_var (i := 2) (pv 2)))) (EJ.bj ej_int))) maj_nil))) (mj_ej (ej_tup (aj_cons ej_str (aj_cons (ej_tup aj_nil) (aj_cons ej_int aj_nil))))))))) (ssj_one (sj_retM (mj_pj (pj_ej ej_bl)))) ssj_nil) (ssj_cons (sj_if (tj_cmp (cmp_ne hr.units) calm_ne (nomark _) (bj_der (S := 8) (pj_fld (S := 8) T.ft_handles (pj_var (i := 2) (pv 2)))) (EJ.bj (NJ.ej (nj_bin bin_rep calm_rep (EJ.bj (NJ.ej (nj_lst (aj_cons ej_non aj_nil)))) (EJ.bj ej_int))))) (ssj_one (sj_retM (mj_pj (pj_ej ej_bl)))) ssj_nil) (ssj_cons (sj_set (i := 3) sc__law_asks_second.nd rfl (by first | exact .inl rfl | exact .inr rfl) (ej_bin bin_add calm_add (EJ.bj ej_int) (EJ.bj (ej_bin bin_mod calm_mod (EJ.bj (ej_Ty fn_int (by rfl) T.n_int PyProof.Rows.boot_int (baj_cons (EJ.bj (ej_ix (EJ.bj (ej_var 1 (pv 1))) (EJ.bj ej_int))) baj_nil))) (EJ.bj ej_int))))) (ssj_cons (sj_set (i := 4) sc__law_asks_second.nd rfl (by first | exact .inl rfl | exact .inr rfl) (ej_bin bin_add calm_add (EJ.bj ej_int) (EJ.bj (ej_bin bin_mod calm_mod (EJ.bj (ej_Ty fn_int (by rfl) T.n_int PyProof.Rows.boot_int (baj_cons (EJ.bj (ej_var 3 (pv 3))) baj_nil))) (EJ.bj ej_int))))) (ssj_cons (sj_set (i := 5) sc__law_asks_second.nd rfl (by first | exact .inl rfl | exact .inr rfl) (ej_bin bin_mod calm_mod (EJ.bj (ej_Ty fn_int (by rfl) T.n_int PyProof.Rows.boot_int (baj_cons (EJ.bj (ej_ix (EJ.bj (ej_var 1 (pv 1))) (EJ.bj ej_int))) baj_nil))) (EJ.bj ej_int))) (ssj_cons (sj_setA (i := 6) sc__law_asks_second.nd rfl (by first | exact .inl rfl | exact .inr rfl) (mj_methS0 (S := 8) T.m_FileTree_copied runS_len (ok_FileTree_copied T) (hr.mono (by decide : 5 ≤ 5)) T.b_FileTree_copied tk (pj_var (i := 2) (pv 2)))) (ssj_cons (sj_setDC (S := 8) (hu1 hr.units) (cj_val (S := 8) (pj_fld (S := 8) T.ft_nodes (pj_var (i := 6) (pv 6)))) (mj_makeSD (S := 8) (c := 0) (dd := [.int 1]) T.k_Node runS_len (ok_Node___init__ T) (hr.mono (by decide : 2 ≤ 5)) (by rfl) T.g_Node T.bd_Node___init__ (fun _ => .cons (.int _) (.nil)) rfl tk (maj_cons (mj_pj (pj_ej ej_str)) (maj_cons (mj_pj (pj_ej (ej_call (k := 1) runF_len (ok__law_body T) (hr.mono (by decide : 1 ≤ 5)) (by rfl) T.g__law_body T.F__law_body.kp T.b__law_body tk (aj_cons (ej_ix (EJ.bj (ej_var 1 (pv 1))) (EJ.bj ej_int)) (aj_cons ej_str aj_nil))))) maj_nil))) (EJ.bj (ej_var 3 (pv 3)))) (ssj_cons (sj_setDC (S := 8) (hu1 hr.units) (cj_val (S := 8) (pj_fld (S := 8) T.ft_nodes (pj_var (i := 6) (pv 6)))) (mj_makeSD (S := 8) (c := 0) (dd := [.int 1]) T.k_Node runS_len (ok_Node___init__ T) (hr.mono (by decide : 2 ≤ 5)) (by rfl) T.g_Node T.bd_Node___init__ (fun _ => .cons (.int _) (.nil)) rfl tk (maj_cons (mj_pj (pj_ej ej_str)) (maj_cons (mj_pj (pj_ej (ej_call (k := 1) runF_len (ok__law_body T) (hr.mono (by decide : 1 ≤ 5)) (by rfl) T.g__law_body T.F__law_body.kp T.b__law_body tk (aj_cons (ej_ix (EJ.bj (ej_var 1 (pv 1))) (EJ.bj ej_int)) (aj_cons ej_str aj_nil))))) maj_nil))) (EJ.bj (ej_var 4 (pv 4)))) (ssj_cons (sj_setIC (S := 8) (cj_val (S := 8) (pj_fld (S := 8) T.ft_handles (pj_var (i := 6) (pv 6)))) (pj_ej (ej_var 4 (pv 4))) (EJ.bj (ej_var 5 (pv 5))) (hg := fun a b => pg_sub a b set_list)) (ssj_cons (sj_ifM (WMJ.tmj (wmj_or (tmj_pure (tj_cmp (cmp_ne hr.units) calm_ne (nomark _) (EJ.bj (NJ.ej (nj_Ty (fn_listD rfl) (by rfl) T.n_list PyProof.Rows.boot_list (baj_cons (bj_der (S := 8) (pj_fld (S := 8) T.ft_nodes (pj_var (i := 2) (pv 2)))) baj_nil)))) (EJ.bj (NJ.ej (nj_lst (aj_cons ej_int aj_nil)))))) (wmj_or (tmj_pure (tj_cmp (cmp_ne hr.units) calm_ne (nomark _) (bj_der (S := 8) (pj_fld (S := 8) T.ft_handles (pj_var (i := 2) (pv 2)))) (EJ.bj (NJ.ej (nj_bin bin_rep calm_rep (EJ.bj (NJ.ej (nj_lst (aj_cons ej_non aj_nil)))) (EJ.bj ej_int)))))) (wmj_or1 (tmj_cmp cmp_isNot calm_isNot (nomark _) (mj_fz (mj_methS (S := 8) T.m_FileTree_is_open runS_len (ok_FileTree_is_open T) (hr.mono (by decide : 1 ≤ 5)) T.b_FileTree_is_open tk (pj_var (i := 2) (pv 2)) (maj_cons (mj_pj (pj_ej ej_int)) maj_nil))) (mj_ej ej_bl)))))) (ssj_one (sj_retM (mj_pj (pj_ej ej_bl)))) ssj_nil) (ssj_cons (sj_ifM (WMJ.tmj (wmj_or (tmj_cmp cmp_isNot calm_isNot (nomark _) (mj_fz (mj_methS (S := 8) T.m_FileTree_is_open runS_len (ok_FileTree_is_open T) (hr.mono (by decide : 1 ≤ 5)) T.b_FileTree_is_open tk (pj_var (i := 6) (pv 6)) (maj_cons (mj_pj (pj_ej (ej_var 4 (pv 4)))) maj_nil))) (mj_ej ej_bl)) (wmj_or (tmj_cmp cmp_isNot calm_isNot (nomark _) (mj_fz (mj_methS (S := 8) T.m_FileTree_is_open runS_len (ok_FileTree_is_open T) (hr.mono (by decide : 1 ≤ 5)) T.b_FileTree_is_open tk (pj_var (i := 6) (pv 6)) (maj_cons (mj_pj (pj_ej (ej_var 3 (pv 3)))) maj_nil))) (mj_ej ej_bl)) (wmj_or1 (tmj_cmp cmp_isNot calm_isNot (nomark _) (mj_fz (mj_methS (S := 8) T.m_FileTree_is_open runS_len (ok_FileTree_is_open T) (hr.mono (by decide : 1 ≤ 5)) T.b_FileTree_is_open tk (pj_var (i := 6) (pv 6)) (maj_cons (mj_pj (pj_ej ej_int)) maj_nil))) (mj_ej ej_bl)))))) (ssj_one (sj_retM (mj_pj (pj_ej ej_bl)))) ssj_nil) (ssj_cons (sj_setA (i := 7) sc__law_asks_second.nd rfl (by first | exact .inl rfl | exact .inr rfl) (mj_methS0 (S := 8) T.m_FileTree_copied runS_len (ok_FileTree_copied T) (hr.mono (by decide : 5 ≤ 5)) T.b_FileTree_copied tk (pj_var (i := 6) (pv 6)))) (ssj_cons (sj_setIC (S := 8) (cj_val (S := 8) (pj_fld (S := 8) T.ft_handles (pj_var (i := 7) (pv 7)))) (pj_ej ej_non) (EJ.bj (ej_var 5 (pv 5))) (hg := fun a b => pg_sub a b set_list)) (ssj_cons (sj_ifM (WMJ.tmj (wmj_or (tmj_not (tmj_val (mj_fz (mj_methS (S := 8) T.m_FileTree_is_open runS_len (ok_FileTree_is_open T) (hr.mono (by decide : 1 ≤ 5)) T.b_FileTree_is_open tk (pj_var (i := 6) (pv 6)) (maj_cons (mj_pj (pj_ej (ej_var 4 (pv 4)))) maj_nil))))) (wmj_or (tmj_val (mj_fz (mj_methS (S := 8) T.m_FileTree_is_open runS_len (ok_FileTree_is_open T) (hr.mono (by decide : 1 ≤ 5)) T.b_FileTree_is_open tk (pj_var (i := 7) (pv 7)) (maj_cons (mj_pj (pj_ej (ej_var 4 (pv 4)))) maj_nil)))) (wmj_or1 (tmj_pure (tj_cmp (cmp_ne hr.units) calm_ne (nomark _) (EJ.bj (NJ.ej (nj_B (fn_sortedG hr.units) (by rfl) T.n_sorted PyProof.Rows.boot_sorted (baj_cons (EJ.bj (NJ.ej (nj_Ty (fn_listD rfl) (by rfl) T.n_list PyProof.Rows.boot_list (baj_cons (bj_der (S := 8) (pj_fld (S := 8) T.ft_nodes (pj_var (i := 7) (pv 7)))) baj_nil)))) baj_nil)))) (EJ.bj (NJ.ej (nj_B (fn_sortedG hr.units) (by rfl) T.n_sorted PyProof.Rows.boot_sorted (baj_cons (EJ.bj (NJ.ej (nj_lst (aj_cons ej_int (aj_cons (ej_var 3 (pv 3)) (aj_cons (ej_var 4 (pv 4)) aj_nil)))))) baj_nil)))))))))) (ssj_one (sj_retM (mj_pj (pj_ej ej_bl)))) ssj_nil) (ssj_one (sj_retM (mj_any (mj_andV (mj_fz (mj_callS (S := 8) runS_len (ok__law_entries T) (hr.mono (by decide : 2 ≤ 5)) (by rfl) T.g__law_entries T.F__law_entries.kp T.b__law_entries tk (maj_cons (mj_pj (pj_var (i := 6) (pv 6))) (maj_cons (mj_pj (pj_ej (ej_var 3 (pv 3)))) (maj_cons (mj_pj (pj_ej (ej_call (k := 1) runF_len (ok__law_body T) (hr.mono (by decide : 1 ≤ 5)) (by rfl) T.g__law_body T.F__law_body.kp T.b__law_body tk (aj_cons (ej_ix (EJ.bj (ej_var 1 (pv 1))) (EJ.bj ej_int)) (aj_cons ej_str aj_nil))))) maj_nil))))) (mj_one (mj_fz (mj_callS (S := 8) runS_len (ok__law_entries T) (hr.mono (by decide : 2 ≤ 5)) (by rfl) T.g__law_entries T.F__law_entries.kp T.b__law_entries tk (maj_cons (mj_pj (pj_var (i := 6) (pv 6))) (maj_cons (mj_pj (pj_ej ej_int)) (maj_cons (mj_pj (pj_ej (NJ.ej (nj_lst aj_nil)))) maj_nil))))))))))))))))))))))))))), rfl⟩
theorem ok_law {w : World} (T : Txt K mg w) {P : Program} {base : Heap} : FnOk P w K mg base (L2.CX P w) 7 T.a_law T.fd_law ["script"] (spT K mg Mode.fz 1 f_law) := by
  refine fnE_ok (G0 := [Mode.fz, Mode.sto]) T.F_law sc_law 1 2 rfl rfl (by decide) "$" rfl (by decide +kernel) rfl rfl [Mode.fz, Mode.sto] (leM_p (by first | exact True.intro | (repeat (first | exact True.intro | refine And.intro (Or.inl rfl) ?_ | refine And.intro (Or.inr rfl) ?_ | refine And.intro rfl ?_)))) fun cdv A outer s H E hr => ?_
  have tk : Takes (cxOf (L2.CX P w) P w K mg base N_law "law" (defScope s_law) T.a_law cdv A outer s H E) (WE1 E) := takes_of rfl rfl rfl rfl
  exact ⟨[Mode.fz, Mode.sto], (ssj_one (sj_retM (mj_any (mj_andV (mj_ej (ej_call (k := 5) runF_len (ok__law_asks_first T) (hr.mono (by decide : 5 ≤ 6)) (by rfl) T.g__law_asks_first T.F__law_asks_first.kp T.b__law_asks_first tk (aj_cons (ej_var 0 (pv 0)) aj_nil))) (mj_one (mj_fz (mj_callS (S := 1) runS_len (ok__law_asks_second T) (hr.mono (by decide : 6 ≤ 6)) (by rfl) T.g__law_asks_second T.F__law_asks_second.kp T.b__law_asks_second tk (maj_cons (mj_pj (pj_ej (ej_var 0 (pv 0)))) maj_nil))))))))⟩
end
theorem all_mk (goal : ∀ ns : List Int, ns.length ≤ 63 → (∀ z ∈ ns, Builtin.Int.intBits z ≤ 1048576) → f_law [.scr (ns.map D.int)] = .ok (.bl true)) {l : PySem.W.OpenLaw} {w : World} {K : PySem.W.Frag} {h : Heap} {mg : Str → Option Value} {fa : Addr} (X : K.In h) (G : h.Ns mainGlobals mg) (hfa : mg "law" = some (.ref fa)) {f0 f1 f2 f3 f4 f5 f6 f7 f8 f9 f10 f11 f12 f13 f14 f15 f16 f17 f18 f19 f20 f21 f22 f23 f24 f25 f26 : Addr} {od0 an0 : Option Addr} {sl0 : Array (Option Value)} {oc0 kV0 dc0 pm0 cd0 ct0 : Value} {od1 an1 : Option Addr} {sl1 : Array (Option Value)} {oc1 kV1 dc1 pm1 cd1 ct1 : Value} {od2 an2 : Option Addr} {sl2 : Array (Option Value)} {oc2 dc2 pm2 cd2 ct2 : Value} {od3 an3 : Option Addr} {sl3 : Array (Option Value)} {oc3 kV3 dc3 pm3 cd3 ct3 : Value} {od4 an4 : Option Addr} {sl4 : Array (Option Value)} {oc4 kV4 dc4 pm4 cd4 ct4 : Value} {od5 an5 : Option Addr} {sl5 : Array (Option Value)} {oc5 kV5 dc5 pm5 cd5 ct5 : Value} {od6 an6 : Option Addr} {sl6 : Array (Option Value)} {oc6 kV6 dc6 pm6 cd6 ct6 : Value} {od7 an7 : Option Addr} {sl7 : Array (Option Value)} {oc7 kV7 dc7 pm7 cd7 ct7 : Value} {od8 an8 : Option Addr} {sl8 : Array (Option Value)} {oc8 kV8 dc8 pm8 cd8 ct8 : Value} {od9 an9 : Option Addr} {sl9 : Array (Option Value)} {oc9 kV9 dc9 pm9 cd9 ct9 : Value} {od10 an10 : Option Addr} {sl10 : Array (Option Value)} {oc10 kV10 dc10 pm10 cd10 ct10 : Value} {od11 an11 : Option Addr} {sl11 : Array (Option Value)} {oc11 kV11 dc11 pm11 cd11 ct11 : Value} {od12 an12 : Option Addr} {sl12 : Array (Option Value)} {oc12 kV12 dc12 pm12 cd12 ct12 : Value} {od13 an13 : Option Addr} {sl13 : Array (Option Value)} {oc13 kV13 dc13 pm13 cd13 ct13 : Value} {od14 an14 : Option Addr} {sl14 : Array (Option Value)} {oc14 kV14 dc14 pm14 cd14 ct14 : Value} {od15 an15 : Option Addr} {sl15 : Array (Option Value)} {oc15 kV15 dc15 pm15 cd15 ct15 : Value} {od16 an16 : Option Addr} {sl16 : Array (Option Value)} {oc16 kV16 dc16 pm16 cd16 ct16 : Value} {od17 an17 : Option Addr} {sl17 : Array (Option Value)} {oc17 kV17 dc17 pm17 cd17 ct17 : Value} {od18 an18 : Option Addr} {sl18 : Array (Option Value)} {oc18 kV18 dc18 pm18 cd18 ct18 : Value} {od19 an19 : Option Addr} {sl19 : Array (Option Value)} {oc19 kV19 dc19 pm19 cd19 ct19 : Value} {od20 an20 : Option Addr} {sl20 : Array (Option Value)} {oc20 kV20 dc20 pm20 cd20 ct20 : Value} {od21 an21 : Option Addr} {sl21 : Array (Option Value)} {oc21 kV21 dc21 pm21 cd21 ct21 : Value} {od22 an22 : Option Addr} {sl22 : Array (Option Value)} {oc22 kV22 dc22 pm22 cd22 ct22 : Value} {od23 an23 : Option Addr} {sl23 : Array (Option Value)} {oc23 kV23 dc23 pm23 cd23 ct23 : Value} {od24 an24 : Option Addr} {sl24 : Array (Option Value)} {oc24 kV24 dc24 pm24 cd24 ct24 : Value} {od25 an25 : Option Addr} {sl25 : Array (Option Value)} {oc25 kV25 dc25 pm25 cd25 ct25 : Value} {od26 an26 : Option Addr} {sl26 : Array (Option Value)} {oc26 kV26 dc26 pm26 cd26 ct26 : Value} {t0 : Tok} {t1 : Tok} {t2 : Tok} {t3 : Tok} {t4 : Tok} {C0 C1 : Addr} {DK2 : Addr} {kt2_0 : Tok}
    (ag0 : PySem.W.nsIn K mainGlobals "Node" = some (some (.ref C0))) (pg0 : PySem.W.plainGet K C0 Str.empty = true) (hd0 : PySem.W.hasDictIn K C0 = true) (po0 : PySem.W.plainOver K C0 = true) (sa0 : PySem.W.findIn K (.ref C0) "__setattr__" = some (some (.builtin "object.__setattr__"))) (mk0 : PySem.W.makesIn K C0 = true) (kc0 : PySem.W.keepIn K (.ref C0) = true)
    (ha0 : PySem.W.findIn K (.ref C0) "__class__" = some (some (.builtin "object.__class__"))) (hn0 : PySem.W.specialIn K (.builtin "object.__class__") "__get__" = some (some (.builtin "getset_descriptor.__get__"))) (ht0 : PySem.W.takesIn K (.builtin "object.__class__") = some true) (hm0 : PySem.W.mroIn K C0 (.type "object") = some true) (mt0 : PySem.W.typeIn K (.ref C0) = some (.type "type"))
    (nf0_0 : PySem.W.findIn K (.ref C0) "kind" = some none)
    (nf0_1 : PySem.W.findIn K (.ref C0) "body" = some none)
    (nf0_2 : PySem.W.findIn K (.ref C0) "links" = some none)
    (ag1 : PySem.W.nsIn K mainGlobals "FileTree" = some (some (.ref C1))) (pg1 : PySem.W.plainGet K C1 Str.empty = true) (hd1 : PySem.W.hasDictIn K C1 = true) (po1 : PySem.W.plainOver K C1 = true) (sa1 : PySem.W.findIn K (.ref C1) "__setattr__" = some (some (.builtin "object.__setattr__"))) (mk1 : PySem.W.makesIn K C1 = true) (kc1 : PySem.W.keepIn K (.ref C1) = true)
    (nf1_0 : PySem.W.findIn K (.ref C1) "nodes" = some none)
    (nf1_1 : PySem.W.findIn K (.ref C1) "handles" = some none)
    (a0 : PySem.W.nsIn K mainGlobals "is_name" = some (some (.ref f0))) (l0 : K.lookup f0 = some ⟨oc0, od0, .func (PySem.W.fnOf "is_name" "is_name" (defArgs s_is_name) (defBody s_is_name) (defScope s_is_name) .none kV0 dc0 pm0 an0 cd0 ct0), sl0⟩) (c0 : PySem.W.codeIn K cd0 "is_name" = true) (k0 : PySem.W.keepIn K (.ref f0) = true)
    (a1 : PySem.W.nsIn K mainGlobals "names_of" = some (some (.ref f1))) (l1 : K.lookup f1 = some ⟨oc1, od1, .func (PySem.W.fnOf "names_of" "names_of" (defArgs s_names_of) (defBody s_names_of) (defScope s_names_of) .none kV1 dc1 pm1 an1 cd1 ct1), sl1⟩) (c1 : PySem.W.codeIn K cd1 "names_of" = true) (k1 : PySem.W.keepIn K (.ref f1) = true)
    (a2 : PySem.W.findIn K (.ref C0) "__init__" = some (some (.ref f2))) (i2 : PySem.W.isFn K (.ref f2) = true) (l2 : K.lookup f2 = some ⟨oc2, od2, .func (PySem.W.fnOf "__init__" "Node.__init__" (defArgs s_Node___init__) (defBody s_Node___init__) (defScope s_Node___init__) .none (.ref DK2) dc2 pm2 an2 cd2 ct2), sl2⟩) (c2 : PySem.W.codeIn K cd2 "Node.__init__" = true) (k2 : PySem.W.keepIn K (.ref f2) = true)
    (kw2_0 : PySem.W.nsIn K DK2 "links" = some (some (.int 1 kt2_0)))
    (a3 : PySem.W.findIn K (.ref C0) "measure" = some (some (.ref f3))) (i3 : PySem.W.isFn K (.ref f3) = true) (l3 : K.lookup f3 = some ⟨oc3, od3, .func (PySem.W.fnOf "measure" "Node.measure" (defArgs s_Node_measure) (defBody s_Node_measure) (defScope s_Node_measure) .none kV3 dc3 pm3 an3 cd3 ct3), sl3⟩) (c3 : PySem.W.codeIn K cd3 "Node.measure" = true) (k3 : PySem.W.keepIn K (.ref f3) = true)
    (a4 : PySem.W.findIn K (.ref C1) "is_open" = some (some (.ref f4))) (i4 : PySem.W.isFn K (.ref f4) = true) (l4 : K.lookup f4 = some ⟨oc4, od4, .func (PySem.W.fnOf "is_open" "FileTree.is_open" (defArgs s_FileTree_is_open) (defBody s_FileTree_is_open) (defScope s_FileTree_is_open) .none kV4 dc4 pm4 an4 cd4 ct4), sl4⟩) (c4 : PySem.W.codeIn K cd4 "FileTree.is_open" = true) (k4 : PySem.W.keepIn K (.ref f4) = true)
    (a5 : PySem.W.findIn K (.ref C1) "entry" = some (some (.ref f5))) (i5 : PySem.W.isFn K (.ref f5) = true) (l5 : K.lookup f5 = some ⟨oc5, od5, .func (PySem.W.fnOf "entry" "FileTree.entry" (defArgs s_FileTree_entry) (defBody s_FileTree_entry) (defScope s_FileTree_entry) .none kV5 dc5 pm5 an5 cd5 ct5), sl5⟩) (c5 : PySem.W.codeIn K cd5 "FileTree.entry" = true) (k5 : PySem.W.keepIn K (.ref f5) = true)
    (a6 : PySem.W.nsIn K mainGlobals "_law_draws" = some (some (.ref f6))) (l6 : K.lookup f6 = some ⟨oc6, od6, .func (PySem.W.fnOf "_law_draws" "_law_draws" (defArgs s__law_draws) (defBody s__law_draws) (defScope s__law_draws) .none kV6 dc6 pm6 an6 cd6 ct6), sl6⟩) (c6 : PySem.W.codeIn K cd6 "_law_draws" = true) (k6 : PySem.W.keepIn K (.ref f6) = true)
    (a7 : PySem.W.nsIn K mainGlobals "_law_name" = some (some (.ref f7))) (l7 : K.lookup f7 = some ⟨oc7, od7, .func (PySem.W.fnOf "_law_name" "_law_name" (defArgs s__law_name) (defBody s__law_name) (defScope s__law_name) .none kV7 dc7 pm7 an7 cd7 ct7), sl7⟩) (c7 : PySem.W.codeIn K cd7 "_law_name" = true) (k7 : PySem.W.keepIn K (.ref f7) = true)
    (a8 : PySem.W.nsIn K mainGlobals "_law_is_name" = some (some (.ref f8))) (l8 : K.lookup f8 = some ⟨oc8, od8, .func (PySem.W.fnOf "_law_is_name" "_law_is_name" (defArgs s__law_is_name) (defBody s__law_is_name) (defScope s__law_is_name) .none kV8 dc8 pm8 an8 cd8 ct8), sl8⟩) (c8 : PySem.W.codeIn K cd8 "_law_is_name" = true) (k8 : PySem.W.keepIn K (.ref f8) = true)
    (a9 : PySem.W.nsIn K mainGlobals "_law_flag" = some (some (.ref f9))) (l9 : K.lookup f9 = some ⟨oc9, od9, .func (PySem.W.fnOf "_law_flag" "_law_flag" (defArgs s__law_flag) (defBody s__law_flag) (defScope s__law_flag) .none kV9 dc9 pm9 an9 cd9 ct9), sl9⟩) (c9 : PySem.W.codeIn K cd9 "_law_flag" = true) (k9 : PySem.W.keepIn K (.ref f9) = true)
    (a10 : PySem.W.nsIn K mainGlobals "_law_body" = some (some (.ref f10))) (l10 : K.lookup f10 = some ⟨oc10, od10, .func (PySem.W.fnOf "_law_body" "_law_body" (defArgs s__law_body) (defBody s__law_body) (defScope s__law_body) .none kV10 dc10 pm10 an10 cd10 ct10), sl10⟩) (c10 : PySem.W.codeIn K cd10 "_law_body" = true) (k10 : PySem.W.keepIn K (.ref f10) = true)
    (a11 : PySem.W.nsIn K mainGlobals "_law_parts" = some (some (.ref f11))) (l11 : K.lookup f11 = some ⟨oc11, od11, .func (PySem.W.fnOf "_law_parts" "_law_parts" (defArgs s__law_parts) (defBody s__law_parts) (defScope s__law_parts) .none kV11 dc11 pm11 an11 cd11 ct11), sl11⟩) (c11 : PySem.W.codeIn K cd11 "_law_parts" = true) (k11 : PySem.W.keepIn K (.ref f11) = true)
    (a12 : PySem.W.nsIn K mainGlobals "has_names" = some (some (.ref f12))) (l12 : K.lookup f12 = some ⟨oc12, od12, .func (PySem.W.fnOf "has_names" "has_names" (defArgs s_has_names) (defBody s_has_names) (defScope s_has_names) .none kV12 dc12 pm12 an12 cd12 ct12), sl12⟩) (c12 : PySem.W.codeIn K cd12 "has_names" = true) (k12 : PySem.W.keepIn K (.ref f12) = true)
    (a13 : PySem.W.nsIn K mainGlobals "_law_text" = some (some (.ref f13))) (l13 : K.lookup f13 = some ⟨oc13, od13, .func (PySem.W.fnOf "_law_text" "_law_text" (defArgs s__law_text) (defBody s__law_text) (defScope s__law_text) .none kV13 dc13 pm13 an13 cd13 ct13), sl13⟩) (c13 : PySem.W.codeIn K cd13 "_law_text" = true) (k13 : PySem.W.keepIn K (.ref f13) = true)
    (a14 : PySem.W.nsIn K mainGlobals "_law_row" = some (some (.ref f14))) (l14 : K.lookup f14 = some ⟨oc14, od14, .func (PySem.W.fnOf "_law_row" "_law_row" (defArgs s__law_row) (defBody s__law_row) (defScope s__law_row) .none kV14 dc14 pm14 an14 cd14 ct14), sl14⟩) (c14 : PySem.W.codeIn K cd14 "_law_row" = true) (k14 : PySem.W.keepIn K (.ref f14) = true)
    (a15 : PySem.W.nsIn K mainGlobals "_law_entries" = some (some (.ref f15))) (l15 : K.lookup f15 = some ⟨oc15, od15, .func (PySem.W.fnOf "_law_entries" "_law_entries" (defArgs s__law_entries) (defBody s__law_entries) (defScope s__law_entries) .none kV15 dc15 pm15 an15 cd15 ct15), sl15⟩) (c15 : PySem.W.codeIn K cd15 "_law_entries" = true) (k15 : PySem.W.keepIn K (.ref f15) = true)
    (a16 : PySem.W.nsIn K mainGlobals "is_path" = some (some (.ref f16))) (l16 : K.lookup f16 = some ⟨oc16, od16, .func (PySem.W.fnOf "is_path" "is_path" (defArgs s_is_path) (defBody s_is_path) (defScope s_is_path) .none kV16 dc16 pm16 an16 cd16 ct16), sl16⟩) (c16 : PySem.W.codeIn K cd16 "is_path" = true) (k16 : PySem.W.keepIn K (.ref f16) = true)
    (a17 : PySem.W.findIn K (.ref C0) "__eq__" = some (some (.ref f17))) (i17 : PySem.W.isFn K (.ref f17) = true) (l17 : K.lookup f17 = some ⟨oc17, od17, .func (PySem.W.fnOf "__eq__" "Node.__eq__" (defArgs s_Node___eq__) (defBody s_Node___eq__) (defScope s_Node___eq__) .none kV17 dc17 pm17 an17 cd17 ct17), sl17⟩) (c17 : PySem.W.codeIn K cd17 "Node.__eq__" = true) (k17 : PySem.W.keepIn K (.ref f17) = true)
    (a18 : PySem.W.findIn K (.ref C0) "with_body" = some (some (.ref f18))) (i18 : PySem.W.isFn K (.ref f18) = true) (l18 : K.lookup f18 = some ⟨oc18, od18, .func (PySem.W.fnOf "with_body" "Node.with_body" (defArgs s_Node_with_body) (defBody s_Node_with_body) (defScope s_Node_with_body) .none kV18 dc18 pm18 an18 cd18 ct18), sl18⟩) (c18 : PySem.W.codeIn K cd18 "Node.with_body" = true) (k18 : PySem.W.keepIn K (.ref f18) = true)
    (a19 : PySem.W.findIn K (.ref C0) "with_links" = some (some (.ref f19))) (i19 : PySem.W.isFn K (.ref f19) = true) (l19 : K.lookup f19 = some ⟨oc19, od19, .func (PySem.W.fnOf "with_links" "Node.with_links" (defArgs s_Node_with_links) (defBody s_Node_with_links) (defScope s_Node_with_links) .none kV19 dc19 pm19 an19 cd19 ct19), sl19⟩) (c19 : PySem.W.codeIn K cd19 "Node.with_links" = true) (k19 : PySem.W.keepIn K (.ref f19) = true)
    (a20 : PySem.W.findIn K (.ref C1) "__init__" = some (some (.ref f20))) (i20 : PySem.W.isFn K (.ref f20) = true) (l20 : K.lookup f20 = some ⟨oc20, od20, .func (PySem.W.fnOf "__init__" "FileTree.__init__" (defArgs s_FileTree___init__) (defBody s_FileTree___init__) (defScope s_FileTree___init__) .none kV20 dc20 pm20 an20 cd20 ct20), sl20⟩) (c20 : PySem.W.codeIn K cd20 "FileTree.__init__" = true) (k20 : PySem.W.keepIn K (.ref f20) = true)
    (a21 : PySem.W.nsIn K mainGlobals "is_target" = some (some (.ref f21))) (l21 : K.lookup f21 = some ⟨oc21, od21, .func (PySem.W.fnOf "is_target" "is_target" (defArgs s_is_target) (defBody s_is_target) (defScope s_is_target) .none kV21 dc21 pm21 an21 cd21 ct21), sl21⟩) (c21 : PySem.W.codeIn K cd21 "is_target" = true) (k21 : PySem.W.keepIn K (.ref f21) = true)
    (a22 : PySem.W.nsIn K mainGlobals "_law_nodes" = some (some (.ref f22))) (l22 : K.lookup f22 = some ⟨oc22, od22, .func (PySem.W.fnOf "_law_nodes" "_law_nodes" (defArgs s__law_nodes) (defBody s__law_nodes) (defScope s__law_nodes) .none kV22 dc22 pm22 an22 cd22 ct22), sl22⟩) (c22 : PySem.W.codeIn K cd22 "_law_nodes" = true) (k22 : PySem.W.keepIn K (.ref f22) = true)
    (a23 : PySem.W.findIn K (.ref C1) "copied" = some (some (.ref f23))) (i23 : PySem.W.isFn K (.ref f23) = true) (l23 : K.lookup f23 = some ⟨oc23, od23, .func (PySem.W.fnOf "copied" "FileTree.copied" (defArgs s_FileTree_copied) (defBody s_FileTree_copied) (defScope s_FileTree_copied) .none kV23 dc23 pm23 an23 cd23 ct23), sl23⟩) (c23 : PySem.W.codeIn K cd23 "FileTree.copied" = true) (k23 : PySem.W.keepIn K (.ref f23) = true)
    (a24 : PySem.W.nsIn K mainGlobals "_law_asks_first" = some (some (.ref f24))) (l24 : K.lookup f24 = some ⟨oc24, od24, .func (PySem.W.fnOf "_law_asks_first" "_law_asks_first" (defArgs s__law_asks_first) (defBody s__law_asks_first) (defScope s__law_asks_first) .none kV24 dc24 pm24 an24 cd24 ct24), sl24⟩) (c24 : PySem.W.codeIn K cd24 "_law_asks_first" = true) (k24 : PySem.W.keepIn K (.ref f24) = true)
    (a25 : PySem.W.nsIn K mainGlobals "_law_asks_second" = some (some (.ref f25))) (l25 : K.lookup f25 = some ⟨oc25, od25, .func (PySem.W.fnOf "_law_asks_second" "_law_asks_second" (defArgs s__law_asks_second) (defBody s__law_asks_second) (defScope s__law_asks_second) .none kV25 dc25 pm25 an25 cd25 ct25), sl25⟩) (c25 : PySem.W.codeIn K cd25 "_law_asks_second" = true) (k25 : PySem.W.keepIn K (.ref f25) = true)
    (a26 : PySem.W.nsIn K mainGlobals "law" = some (some (.ref f26))) (l26 : K.lookup f26 = some ⟨oc26, od26, .func (PySem.W.fnOf "law" "law" (defArgs s_law) (defBody s_law) (defScope s_law) .none kV26 dc26 pm26 an26 cd26 ct26), sl26⟩) (c26 : PySem.W.codeIn K cd26 "law" = true) (k26 : PySem.W.keepIn K (.ref f26) = true)
    (u0 : PySem.W.nsIn K mainGlobals "NAME_CHARS" = some (some (.str "ABCDEFGHIJKLMNOPQRSTUVWXYZabcdefghijklmnopqrstuvwxyz0123456789_-." t0)))
    (u1 : PySem.W.nsIn K mainGlobals "NAME_MOST" = some (some (.int 32 t1)))
    (u2 : PySem.W.nsIn K mainGlobals "PATH_MOST" = some (some (.int 256 t2)))
    (u3 : PySem.W.nsIn K mainGlobals "NAMES_MOST" = some (some (.int 16 t3)))
    (u4 : PySem.W.nsIn K mainGlobals "HANDLES" = some (some (.int 16 t4)))
    (z0 : PySem.W.nsIn K mainGlobals "all" = some none)
    (z1 : PySem.W.nsIn K mainGlobals "dict" = some none)
    (z2 : PySem.W.nsIn K mainGlobals "int" = some none)
    (z3 : PySem.W.nsIn K mainGlobals "isinstance" = some none)
    (z4 : PySem.W.nsIn K mainGlobals "len" = some none)
    (z5 : PySem.W.nsIn K mainGlobals "list" = some none)
    (z6 : PySem.W.nsIn K mainGlobals "range" = some none)
    (z7 : PySem.W.nsIn K mainGlobals "sorted" = some none)
    (z8 : PySem.W.nsIn K mainGlobals "tuple" = some none) :
    ∃ fd : FuncData, (∀ (s : Shared) (v : Value), BindsTo s fd ⟨[v], []⟩ [("script", v)]) ∧ ∀ base : Heap, K.In base → base.Ns mainGlobals mg → FnOk l.prog w K mg base (L2.CX l.prog w) 7 fa fd ["script"] (spLaw K) := by
  have e : f26 = fa := Value.ref.inj (Option.some.inj ((PySem.W.mg_of X G a26).symm.trans hfa))
  rw [← e]
  letI : Mg := ⟨fun n => match n with | 0 => C0 | 1 => C1 | _ => 0, layG, fmG⟩
  have cl0 : Cls K C0 := ⟨pg0, hd0, po0, sa0⟩
  have cl1 : Cls K C1 := ⟨pg1, hd1, po1, sa1⟩
  have F0 := fun_mk (st := s_is_name) l0 c0 k0
  have b0 := F0.binds (ps := ["text"]) fun _ _ _ _ _ _ us hl => match us, hl with | [_], _ => rfl
  have F1 := fun_mk (st := s_names_of) l1 c1 k1
  have b1 := F1.binds (ps := ["path"]) fun _ _ _ _ _ _ us hl => match us, hl with | [_], _ => rfl
  have F2 := fun_mk (st := s_Node___init__) l2 c2 k2
  have D2 : FunD K "__init__" "Node.__init__" (defArgs s_Node___init__) (defBody s_Node___init__) (defScope s_Node___init__) [] [("links", .int 1)] f2 _ := ⟨⟨_, _, .none, .ref DK2, _, _, _, _, _, _, rfl, l2, c2, .inl ⟨rfl, rfl⟩, .inr ⟨DK2, rfl, fun q hq => by
    simp only [List.mem_cons, List.not_mem_nil, or_false] at hq
    rcases hq with rfl
    · exact ⟨_, kw2_0, ⟨_, rfl⟩⟩
    ⟩⟩, k2⟩
  have bd2 := FunD.binds0 (ps := ["self", "kind", "body", "links"]) D2 3 (by simp) rfl fun D doc pm an cdv ct us ks h1 h2 => match us, ks, h1, h2 with | [_, _, _], [_], _, _ => ⟨_, _, _, _, _, _, rfl, rfl, rfl⟩
  have bk2 := FunD.kbinds0 (ps := ["self", "kind", "body", "links"]) D2 3 ["links"] [] (fun us _ ws => us ++ ws) (by simp) (fun q hq => by cases hq) (fun r1 _ r3 => r1.append r3) fun D doc pm an cdv ct us mv ws h1 h2 h3 => match us, mv, ws, h1, h2, h3 with | [_, _, _], [], [_], _, _, _ => rfl
  have F3 := fun_mk (st := s_Node_measure) l3 c3 k3
  have b3 := F3.binds (ps := ["self"]) fun _ _ _ _ _ _ us hl => match us, hl with | [_], _ => rfl
  have F4 := fun_mk (st := s_FileTree_is_open) l4 c4 k4
  have b4 := F4.binds (ps := ["self", "number"]) fun _ _ _ _ _ _ us hl => match us, hl with | [_, _], _ => rfl
  have F5 := fun_mk (st := s_FileTree_entry) l5 c5 k5
  have b5 := F5.binds (ps := ["self", "directory", "name"]) fun _ _ _ _ _ _ us hl => match us, hl with | [_, _, _], _ => rfl
  have F6 := fun_mk (st := s__law_draws) l6 c6 k6
  have b6 := F6.binds (ps := ["script", "count"]) fun _ _ _ _ _ _ us hl => match us, hl with | [_, _], _ => rfl
  have F7 := fun_mk (st := s__law_name) l7 c7 k7
  have b7 := F7.binds (ps := ["draw"]) fun _ _ _ _ _ _ us hl => match us, hl with | [_], _ => rfl
  have F8 := fun_mk (st := s__law_is_name) l8 c8 k8
  have b8 := F8.binds (ps := ["name"]) fun _ _ _ _ _ _ us hl => match us, hl with | [_], _ => rfl
  have F9 := fun_mk (st := s__law_flag) l9 c9 k9
  have b9 := F9.binds (ps := ["actual", "due"]) fun _ _ _ _ _ _ us hl => match us, hl with | [_, _], _ => rfl
  have F10 := fun_mk (st := s__law_body) l10 c10 k10
  have b10 := F10.binds (ps := ["draw", "kind"]) fun _ _ _ _ _ _ us hl => match us, hl with | [_, _], _ => rfl
  have F11 := fun_mk (st := s__law_parts) l11 c11 k11
  have b11 := F11.binds (ps := ["node"]) fun _ _ _ _ _ _ us hl => match us, hl with | [_], _ => rfl
  have F12 := fun_mk (st := s_has_names) l12 c12 k12
  have b12 := F12.binds (ps := ["text"]) fun _ _ _ _ _ _ us hl => match us, hl with | [_], _ => rfl
  have F13 := fun_mk (st := s__law_text) l13 c13 k13
  have b13 := F13.binds (ps := ["draw"]) fun _ _ _ _ _ _ us hl => match us, hl with | [_], _ => rfl
  have F14 := fun_mk (st := s__law_row) l14 c14 k14
  have b14 := F14.binds (ps := ["text"]) fun _ _ _ _ _ _ us hl => match us, hl with | [_], _ => rfl
  have F15 := fun_mk (st := s__law_entries) l15 c15 k15
  have b15 := F15.binds (ps := ["tree", "number", "body"]) fun _ _ _ _ _ _ us hl => match us, hl with | [_, _, _], _ => rfl
  have F16 := fun_mk (st := s_is_path) l16 c16 k16
  have b16 := F16.binds (ps := ["text"]) fun _ _ _ _ _ _ us hl => match us, hl with | [_], _ => rfl
  have F17 := fun_mk (st := s_Node___eq__) l17 c17 k17
  have b17 := F17.binds (ps := ["self", "other"]) fun _ _ _ _ _ _ us hl => match us, hl with | [_, _], _ => rfl
  have F18 := fun_mk (st := s_Node_with_body) l18 c18 k18
  have b18 := F18.binds (ps := ["self", "body"]) fun _ _ _ _ _ _ us hl => match us, hl with | [_, _], _ => rfl
  have F19 := fun_mk (st := s_Node_with_links) l19 c19 k19
  have b19 := F19.binds (ps := ["self", "links"]) fun _ _ _ _ _ _ us hl => match us, hl with | [_, _], _ => rfl
  have F20 := fun_mk (st := s_FileTree___init__) l20 c20 k20
  have b20 := F20.binds (ps := ["self"]) fun _ _ _ _ _ _ us hl => match us, hl with | [_], _ => rfl
  have F21 := fun_mk (st := s_is_target) l21 c21 k21
  have b21 := F21.binds (ps := ["text"]) fun _ _ _ _ _ _ us hl => match us, hl with | [_], _ => rfl
  have F22 := fun_mk (st := s__law_nodes) l22 c22 k22
  have b22 := F22.binds (ps := ["draws"]) fun _ _ _ _ _ _ us hl => match us, hl with | [_], _ => rfl
  have F23 := fun_mk (st := s_FileTree_copied) l23 c23 k23
  have b23 := F23.binds (ps := ["self"]) fun _ _ _ _ _ _ us hl => match us, hl with | [_], _ => rfl
  have F24 := fun_mk (st := s__law_asks_first) l24 c24 k24
  have b24 := F24.binds (ps := ["script"]) fun _ _ _ _ _ _ us hl => match us, hl with | [_], _ => rfl
  have F25 := fun_mk (st := s__law_asks_second) l25 c25 k25
  have b25 := F25.binds (ps := ["script"]) fun _ _ _ _ _ _ us hl => match us, hl with | [_], _ => rfl
  have F26 := fun_mk (st := s_law) l26 c26 k26
  have b26 := F26.binds (ps := ["script"]) fun _ _ _ _ _ _ us hl => match us, hl with | [_], _ => rfl
  let T : Txt K mg w := { a_is_name := f0, fd_is_name := _, F_is_name := F0, g_is_name := PySem.W.mg_of X G a0, b_is_name := b0, a_names_of := f1, fd_names_of := _, F_names_of := F1, g_names_of := PySem.W.mg_of X G a1, b_names_of := b1, a_Node___init__ := f2, fd_Node___init__ := _, F_Node___init__ := F2, bd_Node___init__ := bd2, bk_Node___init__ := bk2.choose_spec, k_Node := ⟨mk0, a2, i2, kc0⟩, a_Node_measure := f3, fd_Node_measure := _, F_Node_measure := F3, b_Node_measure := b3, m_Node_measure := ⟨cl0, ⟨a3, i3, k3⟩, (by decide +kernel : ("measure" : Str) ∉ layG 0)⟩, a_FileTree_is_open := f4, fd_FileTree_is_open := _, F_FileTree_is_open := F4, b_FileTree_is_open := b4, m_FileTree_is_open := ⟨cl1, ⟨a4, i4, k4⟩, (by decide +kernel : ("is_open" : Str) ∉ layG 1)⟩, a_FileTree_entry := f5, fd_FileTree_entry := _, F_FileTree_entry := F5, b_FileTree_entry := b5, m_FileTree_entry := ⟨cl1, ⟨a5, i5, k5⟩, (by decide +kernel : ("entry" : Str) ∉ layG 1)⟩, a__law_draws := f6, fd__law_draws := _, F__law_draws := F6, g__law_draws := PySem.W.mg_of X G a6, b__law_draws := b6, a__law_name := f7, fd__law_name := _, F__law_name := F7, g__law_name := PySem.W.mg_of X G a7, b__law_name := b7, a__law_is_name := f8, fd__law_is_name := _, F__law_is_name := F8, g__law_is_name := PySem.W.mg_of X G a8, b__law_is_name := b8, a__law_flag := f9, fd__law_flag := _, F__law_flag := F9, g__law_flag := PySem.W.mg_of X G a9, b__law_flag := b9, a__law_body := f10, fd__law_body := _, F__law_body := F10, g__law_body := PySem.W.mg_of X G a10, b__law_body := b10, a__law_parts := f11, fd__law_parts := _, F__law_parts := F11, g__law_parts := PySem.W.mg_of X G a11, b__law_parts := b11, a_has_names := f12, fd_has_names := _, F_has_names := F12, g_has_names := PySem.W.mg_of X G a12, b_has_names := b12, a__law_text := f13, fd__law_text := _, F__law_text := F13, g__law_text := PySem.W.mg_of X G a13, b__law_text := b13, a__law_row := f14, fd__law_row := _, F__law_row := F14, g__law_row := PySem.W.mg_of X G a14, b__law_row := b14, a__law_entries := f15, fd__law_entries := _, F__law_entries := F15, g__law_entries := PySem.W.mg_of X G a15, b__law_entries := b15, a_is_path := f16, fd_is_path := _, F_is_path := F16, g_is_path := PySem.W.mg_of X G a16, b_is_path := b16, a_Node___eq__ := f17, fd_Node___eq__ := _, F_Node___eq__ := F17, b_Node___eq__ := b17, m_Node___eq__ := ⟨cl0, ⟨a17, i17, k17⟩, (by decide +kernel : ("__eq__" : Str) ∉ layG 0)⟩, a_Node_with_body := f18, fd_Node_with_body := _, F_Node_with_body := F18, b_Node_with_body := b18, m_Node_with_body := ⟨cl0, ⟨a18, i18, k18⟩, (by decide +kernel : ("with_body" : Str) ∉ layG 0)⟩, a_Node_with_links := f19, fd_Node_with_links := _, F_Node_with_links := F19, b_Node_with_links := b19, m_Node_with_links := ⟨cl0, ⟨a19, i19, k19⟩, (by decide +kernel : ("with_links" : Str) ∉ layG 0)⟩, a_FileTree___init__ := f20, fd_FileTree___init__ := _, F_FileTree___init__ := F20, b_FileTree___init__ := b20, k_FileTree := ⟨mk1, a20, i20, kc1⟩, a_is_target := f21, fd_is_target := _, F_is_target := F21, g_is_target := PySem.W.mg_of X G a21, b_is_target := b21, a__law_nodes := f22, fd__law_nodes := _, F__law_nodes := F22, g__law_nodes := PySem.W.mg_of X G a22, b__law_nodes := b22, a_FileTree_copied := f23, fd_FileTree_copied := _, F_FileTree_copied := F23, b_FileTree_copied := b23, m_FileTree_copied := ⟨cl1, ⟨a23, i23, k23⟩, (by decide +kernel : ("copied" : Str) ∉ layG 1)⟩, a__law_asks_first := f24, fd__law_asks_first := _, F__law_asks_first := F24, g__law_asks_first := PySem.W.mg_of X G a24, b__law_asks_first := b24, a__law_asks_second := f25, fd__law_asks_second := _, F__law_asks_second := F25, g__law_asks_second := PySem.W.mg_of X G a25, b__law_asks_second := b25, a_law := f26, fd_law := _, F_law := F26, g_law := PySem.W.mg_of X G a26, b_law := b26, g_Node := PySem.W.mg_of X G ag0, is_Node := insx_of cl0 ha0 hn0 ht0 hm0 mt0, g_FileTree := PySem.W.mg_of X G ag1, fsA := fun c => ⟨by show (layG c).length < 1000; unfold layG; split <;> decide⟩, ft_kind := (ft_cons ⟨cl0, nf0_0, rfl, (by decide +kernel : ("kind" : Str) ∉ (layG 0).take 0)⟩ rfl ft_nil), ft_body := (ft_cons ⟨cl0, nf0_1, rfl, (by decide +kernel : ("body" : Str) ∉ (layG 0).take 1)⟩ rfl ft_nil), ft_links := (ft_cons ⟨cl0, nf0_2, rfl, (by decide +kernel : ("links" : Str) ∉ (layG 0).take 2)⟩ rfl ft_nil), ft_nodes := (ft_cons ⟨cl1, nf1_0, rfl, (by decide +kernel : ("nodes" : Str) ∉ (layG 1).take 0)⟩ rfl ft_nil), ft_handles := (ft_cons ⟨cl1, nf1_1, rfl, (by decide +kernel : ("handles" : Str) ∉ (layG 1).take 1)⟩ rfl ft_nil), c_NAME_CHARS := ⟨_, PySem.W.mg_of X G u0, .str _, ⟨_, rfl⟩, fun _ => .str _⟩, c_NAME_MOST := ⟨_, PySem.W.mg_of X G u1, .int _, ⟨_, rfl⟩, fun _ => .int _⟩, c_PATH_MOST := ⟨_, PySem.W.mg_of X G u2, .int _, ⟨_, rfl⟩, fun _ => .int _⟩, c_NAMES_MOST := ⟨_, PySem.W.mg_of X G u3, .int _, ⟨_, rfl⟩, fun _ => .int _⟩, c_HANDLES := ⟨_, PySem.W.mg_of X G u4, .int _, ⟨_, rfl⟩, fun _ => .int _⟩, n_all := PySem.W.mg_none_of X G z0, n_dict := PySem.W.mg_none_of X G z1, n_int := PySem.W.mg_none_of X G z2, n_isinstance := PySem.W.mg_none_of X G z3, n_len := PySem.W.mg_none_of X G z4, n_list := PySem.W.mg_none_of X G z5, n_range := PySem.W.mg_none_of X G z6, n_sorted := PySem.W.mg_none_of X G z7, n_tuple := PySem.W.mg_none_of X G z8 }
  exact ⟨T.fd_law, fun s v => .of_eq rfl, fun base _ _ => (ok_law T).imp fun vs H Q E h => law_imp goal vs H Q E h⟩
end Law
set_option Elab.async false
set_option linter.all false
set_option maxRecDepth 100000
set_option maxHeartbeats 4000000
namespace Law
open PySem L2 T
def p_is_name (v_text : D) : Res (D) := (((((Res.ok ((.int 1) : D)).bind fun t3 => (((Res.ok (v_text)).bind fun t1 => (Res.ok ([] : List D)).bind fun t2 => .ok (t1 :: t2)).bind dLen).bind fun t4 => (dLe t3 t4).bind fun t5 => (asB t5).bind fun t6 => if t6 = true then (Res.ok (d_NAME_MOST : D)).bind fun t7 => dLe t4 t7 else .ok (.bl false)).bind asB).bind fun t8 => .ok (!t8)).bind fun t17 => if t17 = true then (Res.ok ((.bl false) : D)) else (((((((((Res.ok (v_text)).bind dItems).bind fun t19 => (szR t19).bind fun t20 => mapR (fun x21 => ((Res.ok (x21)).bind fun t22 => (Res.ok (d_NAME_CHARS : D)).bind fun t23 => dIn t22 t23)) t20).bind fun t24 => .ok (.lst t24)).bind fun t25 => (Res.ok ([] : List D)).bind fun t26 => .ok (t25 :: t26)).bind dAll).bind dTru).bind fun t27 => .ok (!t27)).bind fun t37 => if t37 = true then (Res.ok ((.bl false) : D)) else (((Res.ok (v_text)).bind fun t41 => if t41.isTy "str" = true then ((Res.ok ((.str ".") : D)).bind fun t39 => (Res.ok ([] : List D)).bind fun t40 => .ok (t39 :: t40)).bind fun t42 => dStripC t41 t42 else .no).bind fun t43 => (Res.ok ((.str "") : D)).bind fun t44 => dNe t43 t44)))
theorem k_is_name (v_text : D) : p_is_name v_text = .no ∨ f_is_name [v_text] = p_is_name v_text := runF_sat rfl (show Sat (fun _ => True) CT (p_is_name v_text) (m_is_name [some v_text, none]) from (sat_ifS (e_not (e_toB (e_chain e_con (e_call (e_consA (e_get rfl) e_noA)) e_con))) True.intro (sat_cut (sat_retT e_con True.intro) nn_ret) (sat_skip (sat_ifS (e_not (e_tru (e_call (e_consA (e_lstD (e_comp (e_items (e_get rfl)) fun x30 => (e_nm (e_bin (e_get rfl) e_con)))) e_noA)))) True.intro (sat_cut (sat_retT e_con True.intro) nn_ret) (sat_skip (sat_last (sat_cut (sat_retT (e_bin (e_meth (e_get rfl) (e_consA e_con e_noA)) e_con) True.intro) nn_ret)))))))
theorem q_is_name {v_text : D} {r : D} (h : p_is_name v_text = .ok r) : f_is_name [v_text] = .ok r := of_sat (k_is_name v_text) h
def p_names_of_j1 (s : D) : Res (D) := ((((Res.ok (s)).bind fun t2 => (Res.ok ((.str "") : D)).bind fun t3 => dEq t2 t3).bind asB).bind fun t6 => if t6 = true then (((Res.ok ([] : List D)).bind szR).bind fun t7 => .ok (.lst t7)) else (((Res.ok (s)).bind fun t12 => if t12.isTy "str" = true then ((Res.ok ((.str "/") : D)).bind fun t10 => (Res.ok ([] : List D)).bind fun t11 => .ok (t10 :: t11)).bind fun t13 => dSplit t12 t13 else .no).bind fun t14 => .ok (.lst t14)))
def p_names_of (v_path : D) : Res (D) := ((((Res.ok (v_path)).bind fun t24 => if t24.isTy "str" = true then ((Res.ok ((.str "/") : D)).bind fun t22 => (Res.ok ([] : List D)).bind fun t23 => .ok (t22 :: t23)).bind fun t25 => dStarts t24 t25 else .no).bind dTru).bind fun t36 => if t36 = true then (((Res.ok (v_path)).bind fun t30 => ((Res.ok ((.int 1) : D)).bind asI).bind fun t31 => (Res.ok (none : Option Int)).bind fun t32 => dSl t30 t31 t32).bind fun v_path => (p_names_of_j1  v_path)) else (p_names_of_j1  v_path))
theorem k_names_of (v_path : D) : p_names_of v_path = .no ∨ f_names_of [v_path] = p_names_of v_path := runF_sat rfl (show Sat (fun _ => True) CT (p_names_of v_path) (m_names_of [some v_path]) from (sat_join (J := fun s => (p_names_of_j1  s)) (Γ := fun s g => [some (s)]) (fun s1 _ => (sat_ifS (e_toB (e_bin (e_get rfl) e_con)) True.intro (sat_cut (sat_retT (e_lstD (e_lstV e_noA)) True.intro) nn_ret) (sat_skip (sat_last (sat_cut (sat_retT (e_lstD (e_meth (e_get rfl) (e_consA e_con e_noA))) True.intro) nn_ret))))) fun hj21 => sat_ifS (e_tru (e_meth (e_get rfl) (e_consA e_con e_noA))) True.intro (sat_stmt (s_set (e_sl (e_get rfl) (e_part e_con) e_noPart)) True.intro fun v_path => (hj21 v_path _ rfl)) (sat_skip (hj21 v_path _ rfl))))
theorem q_names_of {v_path : D} {r : D} (h : p_names_of v_path = .ok r) : f_names_of [v_path] = .ok r := of_sat (k_names_of v_path) h
def p__law_name (v_draw : D) : Res (D) := ((Res.ok ((.str "abXY09_-.") : D)).bind fun v_chars => ((((((Res.ok ((.int 1) : D)).bind fun t11 => ((Res.ok ((.int 1) : D)).bind fun t9 => ((Res.ok ((.int 2) : D)).bind fun t7 => ((Res.ok ((.int 3) : D)).bind fun t5 => ((Res.ok ((.int 14) : D)).bind fun t3 => ((Res.ok ((.int 20) : D)).bind fun t1 => (Res.ok ([] : List D)).bind fun t2 => .ok (t1 :: t2)).bind fun t4 => .ok (t3 :: t4)).bind fun t6 => .ok (t5 :: t6)).bind fun t8 => .ok (t7 :: t8)).bind fun t10 => .ok (t9 :: t10)).bind fun t12 => .ok (t11 :: t12)).bind szR).bind fun t13 => .ok (.lst t13)).bind fun t18 => ((((Res.ok (v_draw)).bind fun t14 => (Res.ok ([] : List D)).bind fun t15 => .ok (t14 :: t15)).bind dInt).bind fun t16 => (Res.ok ((.int 6) : D)).bind fun t17 => dMod t16 t17).bind fun t19 => dIx t18 t19).bind fun v_count => (((Res.ok ((.str "") : D)).bind fun t59 => if t59.isTy "str" = true then ((((((Res.ok (v_count)).bind fun t39 => (Res.ok ([] : List D)).bind fun t40 => .ok (t39 :: t40)).bind dRng1).bind fun t41 => (szR t41).bind fun t42 => mapR (fun x43 => ((Res.ok (v_chars)).bind fun t54 => ((((((Res.ok (v_draw)).bind fun t44 => (Res.ok ((.int 6) : D)).bind fun t45 => dDiv t44 t45).bind fun t48 => ((Res.ok ((.int 5) : D)).bind fun t46 => (Res.ok (x43)).bind fun t47 => dMul t46 t47).bind fun t49 => dAdd t48 t49).bind fun t50 => (Res.ok ([] : List D)).bind fun t51 => .ok (t50 :: t51)).bind dInt).bind fun t52 => (Res.ok ((.int 9) : D)).bind fun t53 => dMod t52 t53).bind fun t55 => dIx t54 t55)) t42).bind fun t56 => .ok (.lst t56)).bind fun t57 => (Res.ok ([] : List D)).bind fun t58 => .ok (t57 :: t58)).bind fun t60 => dJoin t59 t60 else .no).bind fun v_name => (((((((((Res.ok (v_draw)).bind fun t83 => (Res.ok ((.int 54) : D)).bind fun t84 => dDiv t83 t84).bind fun t85 => (Res.ok ([] : List D)).bind fun t86 => .ok (t85 :: t86)).bind dInt).bind fun t87 => (Res.ok ((.int 11) : D)).bind fun t88 => dMod t87 t88).bind fun t89 => (Res.ok ((.int 0) : D)).bind fun t90 => dGt t89 t90).bind asB).bind fun t97 => if t97 = true then ((((Res.ok (v_name)).bind fun t93 => if t93.isTy "str" = true then ((Res.ok ((.str ".") : D)).bind fun t91 => (Res.ok ([] : List D)).bind fun t92 => .ok (t91 :: t92)).bind fun t94 => dStripC t93 t94 else .no).bind fun t95 => (Res.ok ((.str "") : D)).bind fun t96 => dEq t95 t96).bind asB) else .ok false).bind fun t113 => if t113 = true then ((Res.ok ((.str "z") : D)).bind fun t114 => (Res.ok (v_name)).bind fun t115 => dAdd t114 t115) else (Res.ok (v_name))))))
theorem k__law_name (v_draw : D) : p__law_name v_draw = .no ∨ f__law_name [v_draw] = p__law_name v_draw := runF_sat rfl (show Sat (fun _ => True) CT (p__law_name v_draw) (m__law_name [some v_draw, none, none, none, none]) from (sat_stmt (s_set e_con) True.intro fun v_chars => (sat_stmt (s_set (e_bin (e_lstD (e_lstV (e_consA e_con (e_consA e_con (e_consA e_con (e_consA e_con (e_consA e_con (e_consA e_con e_noA)))))))) (e_bin (e_call (e_consA (e_get rfl) e_noA)) e_con))) True.intro fun v_count => (sat_stmt (s_set (e_meth e_con (e_consA (e_lstD (e_comp (e_call (e_consA (e_get rfl) e_noA)) fun x65 => (e_nm (e_bin (e_get rfl) (e_bin (e_call (e_consA (e_bin (e_bin (e_get rfl) e_con) (e_bin e_con (e_get rfl))) e_noA)) e_con))))) e_noA))) True.intro fun v_name => (sat_ifS (e_and (e_toB (e_bin (e_bin (e_call (e_consA (e_bin (e_get rfl) e_con) e_noA)) e_con) e_con)) (e_toB (e_bin (e_meth (e_get rfl) (e_consA e_con e_noA)) e_con))) True.intro (sat_cut (sat_retT (e_bin e_con (e_get rfl)) True.intro) nn_ret) (sat_skip (sat_last (sat_cut (sat_retT (e_get rfl) True.intro) nn_ret))))))))
theorem q__law_name {v_draw : D} {r : D} (h : p__law_name v_draw = .ok r) : f__law_name [v_draw] = .ok r := of_sat (k__law_name v_draw) h
def p__law_is_name_b1 (v_name : D) (s : Unit) (x : D) : Res (Fl (Unit) (D)) := ((((((Res.ok ((.str "a") : D)).bind fun t3 => (Res.ok (x)).bind fun t4 => (dLe t3 t4).bind fun t5 => (asB t5).bind fun t6 => if t6 = true then (Res.ok ((.str "z") : D)).bind fun t7 => dLe t4 t7 else .ok (.bl false)).bind asB).bind fun t29 => if t29 = true then .ok true else ((((Res.ok ((.str "A") : D)).bind fun t8 => (Res.ok (x)).bind fun t9 => (dLe t8 t9).bind fun t10 => (asB t10).bind fun t11 => if t11 = true then (Res.ok ((.str "Z") : D)).bind fun t12 => dLe t9 t12 else .ok (.bl false)).bind asB).bind fun t28 => if t28 = true then .ok true else ((((Res.ok ((.str "0") : D)).bind fun t13 => (Res.ok (x)).bind fun t14 => (dLe t13 t14).bind fun t15 => (asB t15).bind fun t16 => if t16 = true then (Res.ok ((.str "9") : D)).bind fun t17 => dLe t14 t17 else .ok (.bl false)).bind asB).bind fun t27 => if t27 = true then .ok true else (((Res.ok (x)).bind fun t25 => ((((Res.ok ((.str "_") : D)).bind fun t22 => ((Res.ok ((.str "-") : D)).bind fun t20 => ((Res.ok ((.str ".") : D)).bind fun t18 => (Res.ok ([] : List D)).bind fun t19 => .ok (t18 :: t19)).bind fun t21 => .ok (t20 :: t21)).bind fun t23 => .ok (t22 :: t23)).bind szR).bind fun t24 => .ok (.lst t24)).bind fun t26 => dIn t25 t26).bind asB)))).bind fun t30 => .ok (!t30)).bind fun t59 => if t59 = true then ((Res.ok ((.bl false) : D)).bind fun t60 => .ok (.rt t60)) else (.ok (.nx ())))
def p__law_is_name (v_name : D) : Res (D) := ((((Res.ok (v_name)).bind dItems).bind fun t120 => foldF (p__law_is_name_b1 (v_name)) t120 ()).bind fun r160 => r160.all (fun s119 => (((Res.ok ((.int 1) : D)).bind fun t123 => (((Res.ok (v_name)).bind fun t121 => (Res.ok ([] : List D)).bind fun t122 => .ok (t121 :: t122)).bind dLen).bind fun t124 => (dLe t123 t124).bind fun t125 => (asB t125).bind fun t126 => if t126 = true then (Res.ok ((.int 32) : D)).bind fun t127 => dLe t124 t127 else .ok (.bl false)).bind fun t138 => (asB t138).bind fun t139 => if t139 = true then (((((((Res.ok (v_name)).bind dItems).bind fun t128 => (szR t128).bind fun t129 => filR (fun x130 => (((Res.ok (x130)).bind fun t131 => (Res.ok ((.str ".") : D)).bind fun t132 => dNe t131 t132).bind asB)) (fun x130 => (Res.ok (x130))) t129).bind fun t133 => .ok (.lst t133)).bind fun t134 => (Res.ok ([] : List D)).bind fun t135 => .ok (t134 :: t135)).bind dLen).bind fun t136 => (Res.ok ((.int 0) : D)).bind fun t137 => dGt t136 t137) else .ok (.bl false))) (fun _ => .no) (fun _ => .no) (fun d161 => .ok d161))
theorem k__law_is_name (v_name : D) : p__law_is_name v_name = .no ∨ f__law_is_name [v_name] = p__law_is_name v_name := runF_sat rfl (show Sat (fun _ => True) CT (p__law_is_name v_name) (m__law_is_name [some v_name, none]) from (sat_seqF (Γ := fun (s : Unit) g => [some (v_name), g 1]) (sat_forF rc_T (e_items (e_get rfl)) True.intro rfl fun s1 x2 _ => (sat_nm (sat_last (sat_ifS (e_not (e_or (e_toB (e_chain e_con (e_get rfl) e_con)) (e_or (e_toB (e_chain e_con (e_get rfl) e_con)) (e_or (e_toB (e_chain e_con (e_get rfl) e_con)) (e_toB (e_bin (e_get rfl) (e_lstD (e_lstV (e_consA e_con (e_consA e_con (e_consA e_con e_noA))))))))))) True.intro (sat_cut (sat_retF e_con True.intro) nn_ret) (sat_skip (sat_endF rfl)))))) (fun s119 _ => (sat_last (sat_cut (sat_retT (e_andV (e_chain e_con (e_call (e_consA (e_get rfl) e_noA)) e_con) (e_bin (e_call (e_consA (e_lstD (e_compF (e_items (e_get rfl)) (fun x149 => (e_nm (e_toB (e_bin (e_get rfl) e_con)))) fun x149 => (e_nm (e_get rfl)))) e_noA)) e_con)) True.intro) nn_ret))) (fun _ _ => ⟨True.intro⟩) (fun _ _ => ⟨True.intro⟩) (fun _ _ h => rt_T h)))
theorem q__law_is_name {v_name : D} {r : D} (h : p__law_is_name v_name = .ok r) : f__law_is_name [v_name] = .ok r := of_sat (k__law_is_name v_name) h
def p__law_flag (v_actual v_due : D) : Res (D) := (((Res.ok (v_due)).bind dTru).bind fun t1 => if t1 = true then ((Res.ok (v_actual)).bind fun t2 => (Res.ok ((.bl true) : D)).bind fun t3 => dIs t2 t3) else ((Res.ok (v_actual)).bind fun t7 => (Res.ok ((.bl false) : D)).bind fun t8 => dIs t7 t8))
theorem k__law_flag (v_actual v_due : D) : p__law_flag v_actual v_due = .no ∨ f__law_flag [v_actual, v_due] = p__law_flag v_actual v_due := runF_sat rfl (show Sat (fun _ => True) CT (p__law_flag v_actual v_due) (m__law_flag [some v_actual, some v_due]) from (sat_ifS (e_tru (e_get rfl)) True.intro (sat_cut (sat_retT (e_bin (e_get rfl) e_con) True.intro) nn_ret) (sat_skip (sat_last (sat_cut (sat_retT (e_bin (e_get rfl) e_con) True.intro) nn_ret)))))
theorem q__law_flag {v_actual v_due : D} {r : D} (h : p__law_flag v_actual v_due = .ok r) : f__law_flag [v_actual, v_due] = .ok r := of_sat (k__law_flag v_actual v_due) h
def p__law_body (v_draw v_kind : D) : Res (D) := ((((Res.ok (v_kind)).bind fun t1 => (Res.ok ((.str "file") : D)).bind fun t2 => dEq t1 t2).bind asB).bind fun t5 => if t5 = true then ((((((((((Res.ok (v_draw)).bind fun t6 => (Res.ok ([] : List D)).bind fun t7 => .ok (t6 :: t7)).bind dInt).bind fun t8 => (Res.ok ((.int 7) : D)).bind fun t9 => dMod t8 t9).bind fun t10 => (Res.ok ([] : List D)).bind fun t11 => .ok (t10 :: t11)).bind dRng1).bind fun t12 => (szR t12).bind fun t13 => mapR (fun x14 => ((((((Res.ok (v_draw)).bind fun t15 => (Res.ok ((.int 3) : D)).bind fun t16 => dDiv t15 t16).bind fun t19 => ((Res.ok ((.int 41) : D)).bind fun t17 => (Res.ok (x14)).bind fun t18 => dMul t17 t18).bind fun t20 => dAdd t19 t20).bind fun t21 => (Res.ok ([] : List D)).bind fun t22 => .ok (t21 :: t22)).bind dInt).bind fun t23 => (Res.ok ((.int 256) : D)).bind fun t24 => dMod t23 t24)) t13).bind fun t25 => .ok (.lst t25)).bind fun t26 => (Res.ok ([] : List D)).bind fun t27 => .ok (t26 :: t27)).bind dTuple) else ((((Res.ok (v_kind)).bind fun t51 => (Res.ok ((.str "link") : D)).bind fun t52 => dEq t51 t52).bind asB).bind fun t55 => if t55 = true then (((((Res.ok ((.str "/a") : D)).bind fun t62 => ((Res.ok ((.str "b/c") : D)).bind fun t60 => ((Res.ok ((.str "/") : D)).bind fun t58 => ((Res.ok ((.str "x") : D)).bind fun t56 => (Res.ok ([] : List D)).bind fun t57 => .ok (t56 :: t57)).bind fun t59 => .ok (t58 :: t59)).bind fun t61 => .ok (t60 :: t61)).bind fun t63 => .ok (t62 :: t63)).bind szR).bind fun t64 => .ok (.lst t64)).bind fun t69 => ((((Res.ok (v_draw)).bind fun t65 => (Res.ok ([] : List D)).bind fun t66 => .ok (t65 :: t66)).bind dInt).bind fun t67 => (Res.ok ((.int 4) : D)).bind fun t68 => dMod t67 t68).bind fun t70 => dIx t69 t70) else (((((Res.ok ((.str "a") : D)).bind fun t95 => ((Res.ok ((.str "b.c") : D)).bind fun t93 => ((Res.ok ((.str "d-") : D)).bind fun t91 => ((Res.ok ((.str "e") : D)).bind fun t89 => ((Res.ok ((.str "f") : D)).bind fun t87 => (Res.ok ([] : List D)).bind fun t88 => .ok (t87 :: t88)).bind fun t90 => .ok (t89 :: t90)).bind fun t92 => .ok (t91 :: t92)).bind fun t94 => .ok (t93 :: t94)).bind fun t96 => .ok (t95 :: t96)).bind szR).bind fun t97 => .ok (.lst t97)).bind fun v_names => ((((((((((Res.ok (v_draw)).bind fun t109 => (Res.ok ([] : List D)).bind fun t110 => .ok (t109 :: t110)).bind dInt).bind fun t111 => (Res.ok ((.int 5) : D)).bind fun t112 => dMod t111 t112).bind fun t113 => (Res.ok ([] : List D)).bind fun t114 => .ok (t113 :: t114)).bind dRng1).bind fun t115 => (szR t115).bind fun t116 => mapR (fun x117 => ((((Res.ok (v_names)).bind fun t118 => (Res.ok (x117)).bind fun t119 => dIx t118 t119).bind fun t132 => (((((((Res.ok (v_draw)).bind fun t120 => (Res.ok ((.int 5) : D)).bind fun t121 => dDiv t120 t121).bind fun t124 => ((Res.ok ((.int 3) : D)).bind fun t122 => (Res.ok (x117)).bind fun t123 => dMul t122 t123).bind fun t125 => dAdd t124 t125).bind fun t126 => (Res.ok ([] : List D)).bind fun t127 => .ok (t126 :: t127)).bind dInt).bind fun t128 => (Res.ok ((.int 256) : D)).bind fun t129 => dMod t128 t129).bind fun t130 => (Res.ok ([] : List D)).bind fun t131 => .ok (t130 :: t131)).bind fun t133 => .ok (t132 :: t133)).bind fun t134 => (szR t134).bind fun t135 => .ok (.tup t135))) t116).bind fun t136 => .ok (.lst t136)).bind fun t137 => (Res.ok ([] : List D)).bind fun t138 => .ok (t137 :: t138)).bind dTuple))))
theorem k__law_body (v_draw v_kind : D) : p__law_body v_draw v_kind = .no ∨ f__law_body [v_draw, v_kind] = p__law_body v_draw v_kind := runF_sat rfl (show Sat (fun _ => True) CT (p__law_body v_draw v_kind) (m__law_body [some v_draw, some v_kind, none, none]) from (sat_ifS (e_toB (e_bin (e_get rfl) e_con)) True.intro (sat_cut (sat_retT (e_call (e_consA (e_lstD (e_comp (e_call (e_consA (e_bin (e_call (e_consA (e_get rfl) e_noA)) e_con) e_noA)) fun x36 => (e_nm (e_bin (e_call (e_consA (e_bin (e_bin (e_get rfl) e_con) (e_bin e_con (e_get rfl))) e_noA)) e_con)))) e_noA)) True.intro) nn_ret) (sat_skip (sat_ifS (e_toB (e_bin (e_get rfl) e_con)) True.intro (sat_cut (sat_retT (e_bin (e_lstD (e_lstV (e_consA e_con (e_consA e_con (e_consA e_con (e_consA e_con e_noA)))))) (e_bin (e_call (e_consA (e_get rfl) e_noA)) e_con)) True.intro) nn_ret) (sat_skip (sat_stmt (s_set (e_lstD (e_lstV (e_consA e_con (e_consA e_con (e_consA e_con (e_consA e_con (e_consA e_con e_noA)))))))) True.intro fun v_names => (sat_last (sat_cut (sat_retT (e_call (e_consA (e_lstD (e_comp (e_call (e_consA (e_bin (e_call (e_consA (e_get rfl) e_noA)) e_con) e_noA)) fun x147 => (e_nm (e_tup (e_consA (e_bin (e_get rfl) (e_get rfl)) (e_consA (e_bin (e_call (e_consA (e_bin (e_bin (e_get rfl) e_con) (e_bin e_con (e_get rfl))) e_noA)) e_con) e_noA)))))) e_noA)) True.intro) nn_ret))))))))
theorem q__law_body {v_draw v_kind : D} {r : D} (h : p__law_body v_draw v_kind = .ok r) : f__law_body [v_draw, v_kind] = .ok r := of_sat (k__law_body v_draw v_kind) h
def p_has_names (v_text : D) : Res (D) := ((((Res.ok (v_text)).bind fun t3 => if t3.isTy "str" = true then ((Res.ok ((.str "/") : D)).bind fun t1 => (Res.ok ([] : List D)).bind fun t2 => .ok (t1 :: t2)).bind fun t4 => dSplit t3 t4 else .no).bind fun t5 => .ok (.lst t5)).bind fun v_names => (((((Res.ok (v_names)).bind fun t11 => (Res.ok ([] : List D)).bind fun t12 => .ok (t11 :: t12)).bind dLen).bind fun t13 => (Res.ok (d_NAMES_MOST : D)).bind fun t14 => dLe t13 t14).bind fun t23 => (asB t23).bind fun t24 => if t24 = true then ((((((Res.ok (v_names)).bind dItems).bind fun t15 => (szR t15).bind fun t16 => mapR (fun x17 => (((Res.ok (x17)).bind fun t18 => (Res.ok ([] : List D)).bind fun t19 => .ok (t18 :: t19)).bind f_is_name)) t16).bind fun t20 => .ok (.lst t20)).bind fun t21 => (Res.ok ([] : List D)).bind fun t22 => .ok (t21 :: t22)).bind dAll) else .ok (.bl false)))
theorem k_has_names (v_text : D) : p_has_names v_text = .no ∨ f_has_names [v_text] = p_has_names v_text := runF_sat rfl (show Sat (fun _ => True) CT (p_has_names v_text) (m_has_names [some v_text, none, none]) from (sat_stmt (s_set (e_lstD (e_meth (e_get rfl) (e_consA e_con e_noA)))) True.intro fun v_names => (sat_last (sat_cut (sat_retT (e_andV (e_bin (e_call (e_consA (e_get rfl) e_noA)) e_con) (e_call (e_consA (e_lstD (e_comp (e_items (e_get rfl)) fun x31 => (e_nm (e_call (e_consA (e_get rfl) e_noA))))) e_noA))) True.intro) nn_ret))))
theorem q_has_names {v_text : D} {r : D} (h : p_has_names v_text = .ok r) : f_has_names [v_text] = .ok r := of_sat (k_has_names v_text) h
def p__law_text_j4 (s : D) : Res (D) := (Res.ok (s))
def p__law_text_j3 (v_rest : D) (s : D) : Res (D) := ((((((((Res.ok (v_rest)).bind fun t115 => (Res.ok ((.int 5) : D)).bind fun t116 => dDiv t115 t116).bind fun t117 => (Res.ok ([] : List D)).bind fun t118 => .ok (t117 :: t118)).bind dInt).bind fun t119 => (Res.ok ((.int 3) : D)).bind fun t120 => dMod t119 t120).bind fun t121 => (Res.ok ((.int 0) : D)).bind fun t122 => dGt t121 t122).bind asB).bind fun t135 => if t135 = true then (((Res.ok ((.str "/") : D)).bind fun t131 => (Res.ok (s)).bind fun t132 => dAdd t131 t132).bind fun v_text => (p__law_text_j4  v_text)) else (p__law_text_j4  s))
def p__law_text_j2 (v_rest v_mode : D) (s : D) : Res (D) := (((Res.ok ((.str "/") : D)).bind fun t105 => if t105.isTy "str" = true then ((Res.ok (s)).bind fun t103 => (Res.ok ([] : List D)).bind fun t104 => .ok (t103 :: t104)).bind fun t106 => dJoin t105 t106 else .no).bind fun v_text => ((((Res.ok (v_mode)).bind fun t137 => (Res.ok ((.int 3) : D)).bind fun t138 => dEq t137 t138).bind asB).bind fun t145 => if t145 = true then (((Res.ok (v_text)).bind fun t141 => (Res.ok ((.str "/") : D)).bind fun t142 => dAdd t141 t142).bind fun v_text => (p__law_text_j3 (v_rest) v_text)) else (p__law_text_j3 (v_rest) v_text)))
def p__law_text_j1 (v_count v_rest v_mode : D) (s : D) : Res (D) := (((((Res.ok (v_mode)).bind fun t147 => (Res.ok ((.int 2) : D)).bind fun t148 => dEq t147 t148).bind asB).bind fun t151 => if t151 = true then (((Res.ok (v_count)).bind fun t149 => (Res.ok ((.int 0) : D)).bind fun t150 => dGt t149 t150).bind asB) else .ok false).bind fun t210 => if t210 = true then (((((((Res.ok ((.str "..") : D)).bind fun t177 => ((Res.ok ((.str "a b") : D)).bind fun t175 => ((Res.ok ((.str "c*") : D)).bind fun t173 => ((Res.ok ((.str "x/") : D)).bind fun t171 => ((Res.ok ((.str ".") : D)).bind fun t169 => (Res.ok ([] : List D)).bind fun t170 => .ok (t169 :: t170)).bind fun t172 => .ok (t171 :: t172)).bind fun t174 => .ok (t173 :: t174)).bind fun t176 => .ok (t175 :: t176)).bind fun t178 => .ok (t177 :: t178)).bind szR).bind fun t179 => .ok (.lst t179)).bind fun t186 => (((((Res.ok (v_rest)).bind fun t180 => (Res.ok ((.int 300) : D)).bind fun t181 => dDiv t180 t181).bind fun t182 => (Res.ok ([] : List D)).bind fun t183 => .ok (t182 :: t183)).bind dInt).bind fun t184 => (Res.ok ((.int 5) : D)).bind fun t185 => dMod t184 t185).bind fun t187 => dIx t186 t187).bind fun t208 => (asLs (s)).bind fun t207 => (((((Res.ok (v_rest)).bind fun t157 => (Res.ok ((.int 12) : D)).bind fun t158 => dDiv t157 t158).bind fun t159 => (Res.ok ([] : List D)).bind fun t160 => .ok (t159 :: t160)).bind dInt).bind fun t161 => (Res.ok (v_count)).bind fun t162 => dMod t161 t162).bind fun t209 => putR t207 t209 t208).bind fun v_names => (p__law_text_j2 (v_rest) (v_mode) v_names)) else (p__law_text_j2 (v_rest) (v_mode) s))
def p__law_text (v_draw : D) : Res (D) := ((((((Res.ok ((.int 1) : D)).bind fun t19 => ((Res.ok ((.int 2) : D)).bind fun t17 => ((Res.ok ((.int 3) : D)).bind fun t15 => ((Res.ok ((.int 1) : D)).bind fun t13 => ((Res.ok ((.int 15) : D)).bind fun t11 => ((Res.ok ((.int 16) : D)).bind fun t9 => ((Res.ok ((.int 17) : D)).bind fun t7 => ((Res.ok ((.int 18) : D)).bind fun t5 => ((Res.ok ((.int 12) : D)).bind fun t3 => ((Res.ok ((.int 0) : D)).bind fun t1 => (Res.ok ([] : List D)).bind fun t2 => .ok (t1 :: t2)).bind fun t4 => .ok (t3 :: t4)).bind fun t6 => .ok (t5 :: t6)).bind fun t8 => .ok (t7 :: t8)).bind fun t10 => .ok (t9 :: t10)).bind fun t12 => .ok (t11 :: t12)).bind fun t14 => .ok (t13 :: t14)).bind fun t16 => .ok (t15 :: t16)).bind fun t18 => .ok (t17 :: t18)).bind fun t20 => .ok (t19 :: t20)).bind szR).bind fun t21 => .ok (.lst t21)).bind fun t26 => ((((Res.ok (v_draw)).bind fun t22 => (Res.ok ([] : List D)).bind fun t23 => .ok (t22 :: t23)).bind dInt).bind fun t24 => (Res.ok ((.int 10) : D)).bind fun t25 => dMod t24 t25).bind fun t27 => dIx t26 t27).bind fun v_count => (((((Res.ok (v_draw)).bind fun t55 => (Res.ok ((.int 10) : D)).bind fun t56 => dDiv t55 t56).bind fun t57 => (Res.ok ([] : List D)).bind fun t58 => .ok (t57 :: t58)).bind dInt).bind fun v_rest => (((((Res.ok (v_count)).bind fun t63 => (Res.ok ([] : List D)).bind fun t64 => .ok (t63 :: t64)).bind dRng1).bind fun t65 => (szR t65).bind fun t66 => mapR (fun x67 => (((((Res.ok (v_rest)).bind fun t70 => ((Res.ok (x67)).bind fun t68 => (Res.ok ((.int 3) : D)).bind fun t69 => dAdd t68 t69).bind fun t71 => dDiv t70 t71).bind fun t74 => ((Res.ok ((.int 131) : D)).bind fun t72 => (Res.ok (x67)).bind fun t73 => dMul t72 t73).bind fun t75 => dAdd t74 t75).bind fun t76 => (Res.ok ([] : List D)).bind fun t77 => .ok (t76 :: t77)).bind f__law_name)) t66).bind fun v_names => (((((Res.ok (v_rest)).bind fun t93 => (Res.ok ([] : List D)).bind fun t94 => .ok (t93 :: t94)).bind dInt).bind fun t95 => (Res.ok ((.int 12) : D)).bind fun t96 => dMod t95 t96).bind fun v_mode => (((((Res.ok (v_mode)).bind fun t212 => (Res.ok ((.int 1) : D)).bind fun t213 => dEq t212 t213).bind asB).bind fun t216 => if t216 = true then (((Res.ok (v_count)).bind fun t214 => (Res.ok ((.int 0) : D)).bind fun t215 => dGt t214 t215).bind asB) else .ok false).bind fun t237 => if t237 = true then (((Res.ok ((.str "") : D)).bind fun t235 => (asLs ((D.lst v_names))).bind fun t234 => (((((Res.ok (v_rest)).bind fun t222 => (Res.ok ((.int 12) : D)).bind fun t223 => dDiv t222 t223).bind fun t224 => (Res.ok ([] : List D)).bind fun t225 => .ok (t224 :: t225)).bind dInt).bind fun t226 => (Res.ok (v_count)).bind fun t227 => dMod t226 t227).bind fun t236 => putR t234 t236 t235).bind fun v_names => (p__law_text_j1 (v_count) (v_rest) (v_mode) v_names)) else (p__law_text_j1 (v_count) (v_rest) (v_mode) (D.lst v_names)))))))
theorem k__law_text (v_draw : D) : p__law_text v_draw = .no ∨ f__law_text [v_draw] = p__law_text v_draw := runF_sat rfl (show Sat (fun _ => True) CT (p__law_text v_draw) (m__law_text [some v_draw, none, none, none, none, none, none]) from (sat_stmt (s_set (e_bin (e_lstD (e_lstV (e_consA e_con (e_consA e_con (e_consA e_con (e_consA e_con (e_consA e_con (e_consA e_con (e_consA e_con (e_consA e_con (e_consA e_con (e_consA e_con e_noA)))))))))))) (e_bin (e_call (e_consA (e_get rfl) e_noA)) e_con))) True.intro fun v_count => (sat_stmt (s_set (e_call (e_consA (e_bin (e_get rfl) e_con) e_noA))) True.intro fun v_rest => (sat_stmt (s_setN (e_comp (e_call (e_consA (e_get rfl) e_noA)) fun x82 => (e_nm (e_call (e_consA (e_bin (e_bin (e_get rfl) (e_bin (e_get rfl) e_con)) (e_bin e_con (e_get rfl))) e_noA))))) True.intro fun v_names => (sat_stmt (s_set (e_bin (e_call (e_consA (e_get rfl) e_noA)) e_con)) True.intro fun v_mode => (sat_join (J := fun s => (p__law_text_j1 (v_count) (v_rest) (v_mode) s)) (Γ := fun s g => [some (v_draw), some (v_count), some (v_rest), some (s), some (v_mode), g 5, g 6]) (fun s101 _ => (sat_join (J := fun s => (p__law_text_j2 (v_rest) (v_mode) s)) (Γ := fun s g => [some (v_draw), some (v_count), some (v_rest), some (s), some (v_mode), g 5, g 6]) (fun s102 _ => (sat_stmt (s_set (e_meth e_con (e_consA (e_get rfl) e_noA))) True.intro fun v_text => (sat_join (J := fun s => (p__law_text_j3 (v_rest) s)) (Γ := fun s g => [some (v_draw), some (v_count), some (v_rest), some (s102), some (v_mode), some (s), g 6]) (fun s111 _ => (sat_join (J := fun s => (p__law_text_j4  s)) (Γ := fun s g => [some (v_draw), some (v_count), some (v_rest), some (s102), some (v_mode), some (s), g 6]) (fun s112 _ => (sat_last (sat_cut (sat_retT (e_get rfl) True.intro) nn_ret))) fun hj114 => sat_ifS (e_toB (e_bin (e_bin (e_call (e_consA (e_bin (e_get rfl) e_con) e_noA)) e_con) e_con)) True.intro (sat_stmt (s_set (e_bin e_con (e_get rfl))) True.intro fun v_text => (hj114 v_text _ rfl)) (sat_skip (hj114 s111 _ rfl)))) fun hj136 => sat_ifS (e_toB (e_bin (e_get rfl) e_con)) True.intro (sat_stmt (s_set (e_bin (e_get rfl) e_con)) True.intro fun v_text => (hj136 v_text _ rfl)) (sat_skip (hj136 v_text _ rfl))))) fun hj146 => sat_ifS (e_and (e_toB (e_bin (e_get rfl) e_con)) (e_toB (e_bin (e_get rfl) e_con))) True.intro (sat_stmt (s_setI rfl (e_bin (e_lstD (e_lstV (e_consA e_con (e_consA e_con (e_consA e_con (e_consA e_con (e_consA e_con e_noA))))))) (e_bin (e_call (e_consA (e_bin (e_get rfl) e_con) e_noA)) e_con)) (e_bin (e_call (e_consA (e_bin (e_get rfl) e_con) e_noA)) (e_get rfl))) True.intro fun v_names => (hj146 v_names _ rfl)) (sat_skip (hj146 s101 _ rfl)))) fun hj211 => sat_ifS (e_and (e_toB (e_bin (e_get rfl) e_con)) (e_toB (e_bin (e_get rfl) e_con))) True.intro (sat_stmt (s_setI rfl e_con (e_bin (e_call (e_consA (e_bin (e_get rfl) e_con) e_noA)) (e_get rfl))) True.intro fun v_names => (hj211 v_names _ rfl)) (sat_skip (hj211 (D.lst v_names) _ rfl))))))))
theorem q__law_text {v_draw : D} {r : D} (h : p__law_text v_draw = .ok r) : f__law_text [v_draw] = .ok r := of_sat (k__law_text v_draw) h
def p__law_row_b1 (v_names : D) (s : Unit) (x : D) : Res (Fl (Unit) (D)) := ((((((Res.ok (x)).bind fun t23 => (Res.ok ([] : List D)).bind fun t24 => .ok (t23 :: t24)).bind f__law_is_name).bind dTru).bind fun t25 => .ok (!t25)).bind fun t29 => if t29 = true then ((Res.ok (.non : D)).bind fun t30 => .ok (.rt t30)) else (.ok (.nx ())))
def p__law_row (v_text : D) : Res (D) := ((((Res.ok (v_text)).bind fun t3 => if t3.isTy "str" = true then ((Res.ok ((.str "/") : D)).bind fun t1 => (Res.ok ([] : List D)).bind fun t2 => .ok (t1 :: t2)).bind fun t4 => dSplit t3 t4 else .no).bind fun t5 => .ok (.lst t5)).bind fun v_names => ((((((Res.ok (v_names)).bind fun t11 => (Res.ok ([] : List D)).bind fun t12 => .ok (t11 :: t12)).bind dLen).bind fun t13 => (Res.ok ((.int 16) : D)).bind fun t14 => dGt t13 t14).bind asB).bind fun t19 => if t19 = true then (Res.ok (.non : D)) else ((((Res.ok (v_names)).bind dItems).bind fun t40 => foldF (p__law_row_b1 (v_names)) t40 ()).bind fun r42 => r42.all (fun s39 => (Res.ok (v_names))) (fun _ => .no) (fun _ => .no) (fun d43 => .ok d43))))
theorem k__law_row (v_text : D) : p__law_row v_text = .no ∨ f__law_row [v_text] = p__law_row v_text := runF_sat rfl (show Sat (fun _ => True) CT (p__law_row v_text) (m__law_row [some v_text, none, none]) from (sat_stmt (s_set (e_lstD (e_meth (e_get rfl) (e_consA e_con e_noA)))) True.intro fun v_names => (sat_ifS (e_toB (e_bin (e_call (e_consA (e_get rfl) e_noA)) e_con)) True.intro (sat_cut (sat_retT e_con True.intro) nn_ret) (sat_skip (sat_seqF (Γ := fun (s : Unit) g => [some (v_text), some (v_names), g 2]) (sat_forF rc_T (e_items (e_get rfl)) True.intro rfl fun s21 x22 _ => (sat_nm (sat_last (sat_ifS (e_not (e_tru (e_call (e_consA (e_get rfl) e_noA)))) True.intro (sat_cut (sat_retF e_con True.intro) nn_ret) (sat_skip (sat_endF rfl)))))) (fun s39 _ => (sat_last (sat_cut (sat_retT (e_get rfl) True.intro) nn_ret))) (fun _ _ => ⟨True.intro⟩) (fun _ _ => ⟨True.intro⟩) (fun _ _ h => rt_T h))))))
theorem q__law_row {v_text : D} {r : D} (h : p__law_row v_text = .ok r) : f__law_row [v_text] = .ok r := of_sat (k__law_row v_text) h
def p_is_path (v_text : D) : Res (D) := ((((Res.ok (v_text)).bind fun t1 => (Res.ok ((.str "/") : D)).bind fun t2 => dEq t1 t2).bind asB).bind fun t5 => if t5 = true then (Res.ok ((.bl true) : D)) else (((Res.ok (v_text)).bind fun t9 => if t9.isTy "str" = true then ((Res.ok ((.str "/") : D)).bind fun t7 => (Res.ok ([] : List D)).bind fun t8 => .ok (t7 :: t8)).bind fun t10 => dStarts t9 t10 else .no).bind fun t22 => (asB t22).bind fun t23 => if t23 = true then (((((Res.ok (v_text)).bind fun t11 => (Res.ok ([] : List D)).bind fun t12 => .ok (t11 :: t12)).bind dLen).bind fun t13 => (Res.ok (d_PATH_MOST : D)).bind fun t14 => dLe t13 t14).bind fun t20 => (asB t20).bind fun t21 => if t21 = true then ((((Res.ok (v_text)).bind fun t15 => ((Res.ok ((.int 1) : D)).bind asI).bind fun t16 => (Res.ok (none : Option Int)).bind fun t17 => dSl t15 t16 t17).bind fun t18 => (Res.ok ([] : List D)).bind fun t19 => .ok (t18 :: t19)).bind f_has_names) else .ok (.bl false)) else .ok (.bl false)))
theorem k_is_path (v_text : D) : p_is_path v_text = .no ∨ f_is_path [v_text] = p_is_path v_text := runF_sat rfl (show Sat (fun _ => True) CT (p_is_path v_text) (m_is_path [some v_text]) from (sat_ifS (e_toB (e_bin (e_get rfl) e_con)) True.intro (sat_cut (sat_retT e_con True.intro) nn_ret) (sat_skip (sat_last (sat_cut (sat_retT (e_andV (e_meth (e_get rfl) (e_consA e_con e_noA)) (e_andV (e_bin (e_call (e_consA (e_get rfl) e_noA)) e_con) (e_call (e_consA (e_sl (e_get rfl) (e_part e_con) e_noPart) e_noA)))) True.intro) nn_ret)))))
theorem q_is_path {v_text : D} {r : D} (h : p_is_path v_text = .ok r) : f_is_path [v_text] = .ok r := of_sat (k_is_path v_text) h
def p_is_target (v_text : D) : Res (D) := ((((Res.ok (v_text)).bind fun t1 => (Res.ok ([] : List D)).bind fun t2 => .ok (t1 :: t2)).bind f_is_path).bind fun t11 => (asB t11).bind fun t12 => if t12 = true then .ok (.bl true) else (((((Res.ok (v_text)).bind fun t3 => (Res.ok ([] : List D)).bind fun t4 => .ok (t3 :: t4)).bind dLen).bind fun t5 => (Res.ok (d_PATH_MOST : D)).bind fun t6 => dLe t5 t6).bind fun t9 => (asB t9).bind fun t10 => if t10 = true then (((Res.ok (v_text)).bind fun t7 => (Res.ok ([] : List D)).bind fun t8 => .ok (t7 :: t8)).bind f_has_names) else .ok (.bl false)))
theorem k_is_target (v_text : D) : p_is_target v_text = .no ∨ f_is_target [v_text] = p_is_target v_text := runF_sat rfl (show Sat (fun _ => True) CT (p_is_target v_text) (m_is_target [some v_text]) from (sat_last (sat_cut (sat_retT (e_orV (e_call (e_consA (e_get rfl) e_noA)) (e_andV (e_bin (e_call (e_consA (e_get rfl) e_noA)) e_con) (e_call (e_consA (e_get rfl) e_noA)))) True.intro) nn_ret)))
theorem q_is_target {v_text : D} {r : D} (h : p_is_target v_text = .ok r) : f_is_target [v_text] = .ok r := of_sat (k_is_target v_text) h
def p__law_asks_first_j1 (v_text : D) (s : D × D) : Res (Fl (Unit) (D)) := ((((((((Res.ok (v_text)).bind fun t8 => (Res.ok ([] : List D)).bind fun t9 => .ok (t8 :: t9)).bind f_is_path).bind fun t14 => (((Res.ok (s.1)).bind fun t10 => (Res.ok (.non : D)).bind fun t11 => dIsNot t10 t11).bind fun t12 => (Res.ok ([] : List D)).bind fun t13 => .ok (t12 :: t13)).bind fun t15 => .ok (t14 :: t15)).bind f__law_flag).bind dTru).bind fun t16 => .ok (!t16)).bind fun t26 => if t26 = true then ((Res.ok ((.bl false) : D)).bind fun t27 => .ok (.rt t27)) else ((((((((Res.ok (v_text)).bind fun t28 => (Res.ok ([] : List D)).bind fun t29 => .ok (t28 :: t29)).bind f_is_target).bind fun t38 => ((((Res.ok (s.1)).bind fun t30 => (Res.ok (.non : D)).bind fun t31 => dIsNot t30 t31).bind fun t34 => (asB t34).bind fun t35 => if t35 = true then .ok (.bl true) else ((Res.ok (s.2)).bind fun t32 => (Res.ok (.non : D)).bind fun t33 => dIsNot t32 t33)).bind fun t36 => (Res.ok ([] : List D)).bind fun t37 => .ok (t36 :: t37)).bind fun t39 => .ok (t38 :: t39)).bind f__law_flag).bind dTru).bind fun t40 => .ok (!t40)).bind fun t54 => if t54 = true then ((Res.ok ((.bl false) : D)).bind fun t55 => .ok (.rt t55)) else (((((Res.ok (s.1)).bind fun t56 => (Res.ok (.non : D)).bind fun t57 => dIsNot t56 t57).bind asB).bind fun t62 => if t62 = true then (((((Res.ok (v_text)).bind fun t58 => (Res.ok ([] : List D)).bind fun t59 => .ok (t58 :: t59)).bind f_names_of).bind fun t60 => (Res.ok (s.1)).bind fun t61 => dNe t60 t61).bind asB) else .ok false).bind fun t70 => if t70 = true then ((Res.ok ((.bl false) : D)).bind fun t71 => .ok (.rt t71)) else (((((Res.ok (s.2)).bind fun t72 => (Res.ok (.non : D)).bind fun t73 => dIsNot t72 t73).bind asB).bind fun t78 => if t78 = true then (((((Res.ok (v_text)).bind fun t74 => (Res.ok ([] : List D)).bind fun t75 => .ok (t74 :: t75)).bind f_names_of).bind fun t76 => (Res.ok (s.2)).bind fun t77 => dNe t76 t77).bind asB) else .ok false).bind fun t86 => if t86 = true then ((Res.ok ((.bl false) : D)).bind fun t87 => .ok (.rt t87)) else (.ok (.nx ()))))))
def p__law_asks_first_b1 (s : Unit) (x : D) : Res (Fl (Unit) (D)) := ((((Res.ok (x)).bind fun t3 => (Res.ok ([] : List D)).bind fun t4 => .ok (t3 :: t4)).bind f__law_text).bind fun v_text => ((Res.ok (.non : D)).bind fun v_absolute => ((Res.ok (.non : D)).bind fun v_relative => ((((((Res.ok (v_text)).bind fun t89 => (Res.ok ([] : List D)).bind fun t90 => .ok (t89 :: t90)).bind dLen).bind fun t91 => (Res.ok ((.int 256) : D)).bind fun t92 => dLe t91 t92).bind asB).bind fun t129 => if t129 = true then ((((Res.ok (v_text)).bind fun t97 => (Res.ok ([] : List D)).bind fun t98 => .ok (t97 :: t98)).bind f__law_row).bind fun v_relative => ((((Res.ok (v_text)).bind fun t101 => (Res.ok ((.str "/") : D)).bind fun t102 => dEq t101 t102).bind asB).bind fun t105 => if t105 = true then ((((Res.ok ([] : List D)).bind szR).bind fun t106 => .ok (.lst t106)).bind fun v_absolute => (p__law_asks_first_j1 (v_text) (v_absolute, v_relative))) else (((((Res.ok (v_text)).bind fun t108 => (Res.ok (none : Option Int)).bind fun t109 => ((Res.ok ((.int 1) : D)).bind asI).bind fun t110 => dSl t108 t109 t110).bind fun t111 => (Res.ok ((.str "/") : D)).bind fun t112 => dEq t111 t112).bind asB).bind fun t118 => if t118 = true then (((((Res.ok (v_text)).bind fun t119 => ((Res.ok ((.int 1) : D)).bind asI).bind fun t120 => (Res.ok (none : Option Int)).bind fun t121 => dSl t119 t120 t121).bind fun t122 => (Res.ok ([] : List D)).bind fun t123 => .ok (t122 :: t123)).bind f__law_row).bind fun v_absolute => (p__law_asks_first_j1 (v_text) (v_absolute, v_relative))) else (p__law_asks_first_j1 (v_text) (v_absolute, v_relative))))) else (p__law_asks_first_j1 (v_text) (v_absolute, v_relative))))))
def p__law_asks_first (v_script : D) : Res (D) := ((((((Res.ok (v_script)).bind fun t260 => ((Res.ok ((.int 40) : D)).bind fun t258 => (Res.ok ([] : List D)).bind fun t259 => .ok (t258 :: t259)).bind fun t261 => .ok (t260 :: t261)).bind f__law_draws).bind dItems).bind fun t266 => foldF (p__law_asks_first_b1) t266 ()).bind fun r268 => r268.all (fun s257 => (Res.ok ((.bl true) : D))) (fun _ => .no) (fun _ => .no) (fun d269 => .ok d269))
theorem k__law_asks_first (v_script : D) : p__law_asks_first v_script = .no ∨ f__law_asks_first [v_script] = p__law_asks_first v_script := runF_sat rfl (show Sat (fun _ => True) CT (p__law_asks_first v_script) (m__law_asks_first [some v_script, none, none, none, none]) from (sat_seqF (Γ := fun (s : Unit) g => [some (v_script), g 1, g 2, g 3, g 4]) (sat_forF rc_T (e_items (e_call (e_consA (e_get rfl) (e_consA e_con e_noA)))) True.intro rfl fun s1 x2 _ => (sat_nm (sat_stmt (s_set (e_call (e_consA (e_get rfl) e_noA))) True.intro fun v_text => (sat_stmt (s_set e_con) True.intro fun v_absolute => (sat_stmt (s_set e_con) True.intro fun v_relative => (sat_join (J := fun s => (p__law_asks_first_j1 (v_text) s)) (Γ := fun s g => [some (v_script), some (x2), some (v_text), some (s.1), some (s.2)]) (fun s134 _ => (sat_ifS (e_not (e_tru (e_call (e_consA (e_call (e_consA (e_get rfl) e_noA)) (e_consA (e_bin (e_get rfl) e_con) e_noA))))) True.intro (sat_cut (sat_retF e_con True.intro) nn_ret) (sat_skip (sat_ifS (e_not (e_tru (e_call (e_consA (e_call (e_consA (e_get rfl) e_noA)) (e_consA (e_orV (e_bin (e_get rfl) e_con) (e_bin (e_get rfl) e_con)) e_noA))))) True.intro (sat_cut (sat_retF e_con True.intro) nn_ret) (sat_skip (sat_ifS (e_and (e_toB (e_bin (e_get rfl) e_con)) (e_toB (e_bin (e_call (e_consA (e_get rfl) e_noA)) (e_get rfl)))) True.intro (sat_cut (sat_retF e_con True.intro) nn_ret) (sat_skip (sat_last (sat_ifS (e_and (e_toB (e_bin (e_get rfl) e_con)) (e_toB (e_bin (e_call (e_consA (e_get rfl) e_noA)) (e_get rfl)))) True.intro (sat_cut (sat_retF e_con True.intro) nn_ret) (sat_skip (sat_endF rfl))))))))))) fun hj215 => sat_ifS (e_toB (e_bin (e_call (e_consA (e_get rfl) e_noA)) e_con)) True.intro (sat_assoc (sat_stmt (s_set (e_call (e_consA (e_get rfl) e_noA))) True.intro fun v_relative => (sat_ifS (e_toB (e_bin (e_get rfl) e_con)) True.intro (sat_stmt (s_set (e_lstD (e_lstV e_noA))) True.intro fun v_absolute => (hj215 (v_absolute, v_relative) _ rfl)) (sat_ifS (e_toB (e_bin (e_sl (e_get rfl) e_noPart (e_part e_con)) e_con)) True.intro (sat_stmt (s_set (e_call (e_consA (e_sl (e_get rfl) (e_part e_con) e_noPart) e_noA))) True.intro fun v_absolute => (hj215 (v_absolute, v_relative) _ rfl)) (sat_skip (hj215 (v_absolute, v_relative) _ rfl)))))) (sat_skip (hj215 (v_absolute, v_relative) _ rfl)))))))) (fun s257 _ => (sat_last (sat_cut (sat_retT e_con True.intro) nn_ret))) (fun _ _ => ⟨True.intro⟩) (fun _ _ => ⟨True.intro⟩) (fun _ _ h => rt_T h)))
theorem q__law_asks_first {v_script : D} {r : D} (h : p__law_asks_first v_script = .ok r) : f__law_asks_first [v_script] = .ok r := of_sat (k__law_asks_first v_script) h
end Law
set_option Elab.async false
set_option linter.all false
set_option maxRecDepth 100000
set_option maxHeartbeats 4000000
namespace Law
open PySem L2 T
local macro_rules
  | `(tactic| array_mem_dec) => `(tactic| first
    | omega
    | with_reducible assumption
    | (simp; done)
    | (simp; omega)
    | (simp at *; omega)
    | (refine cm_ss ?_ ?_ ?_ ?_ <;> omega)
    | (refine cm_sw ?_ ?_ ?_ <;> first | assumption | omega)
    | (refine cm_ws ?_ ?_ ?_ <;> first | assumption | omega))
theorem dItems_S (l : List Nat) : dItems (dS l) = .ok (l.map fun c => dS [c]) := by
  show Res.ok ((SX.S l).cps.toList.map fun c => D.str ⟨#[c]⟩) = _
  have : (SX.S l).cps.toList = l := by simp [SX.S]
  rw [this]
def nmC : List Nat := [65, 66, 67, 68, 69, 70, 71, 72, 73, 74, 75, 76, 77, 78, 79, 80, 81, 82, 83, 84, 85, 86, 87, 88, 89, 90, 97, 98, 99, 100, 101, 102, 103, 104, 105, 106, 107, 108, 109, 110, 111, 112, 113, 114, 115, 116, 117, 118, 119, 120, 121, 122, 48, 49, 50, 51, 52, 53, 54, 55, 56, 57, 95, 45, 46]
theorem nmC_S : Str.ofString "ABCDEFGHIJKLMNOPQRSTUVWXYZabcdefghijklmnopqrstuvwxyz0123456789_-." = SX.S nmC := by decide +kernel
def okc (c : Nat) : Bool := decide (97 ≤ c ∧ c ≤ 122) || decide (65 ≤ c ∧ c ≤ 90) || decide (48 ≤ c ∧ c ≤ 57) || decide (c = 95) || decide (c = 45) || decide (c = 46)
theorem okc_mem {c : Nat} : decide (c ∈ nmC) = okc c := by
  by_cases h : c < 128
  · exact (by decide +kernel : ∀ c : Fin 128, decide (c.val ∈ nmC) = okc c.val) ⟨c, h⟩
  · have h1 : c ∉ nmC := fun z => by
      have := (by decide +kernel : ∀ x ∈ nmC, x < 128) c z
      omega
    rw [decide_eq_false h1]
    unfold okc
    rw [decide_eq_false (by omega), decide_eq_false (by omega), decide_eq_false (by omega), decide_eq_false (by omega), decide_eq_false (by omega), decide_eq_false (by omega)]
    rfl
def isN (a : List Nat) : Bool := decide (1 ≤ a.length ∧ a.length ≤ 32) && a.all okc && !a.all (fun c => decide (c = 46))
theorem tw_all {p : Nat → Bool} : ∀ {l : List Nat}, l.all p = true → l.takeWhile p = l
  | [], _ => rfl
  | x :: l, h => by
    rw [List.all_cons, Bool.and_eq_true] at h
    rw [List.takeWhile_cons, if_pos h.1, tw_all h.2]
theorem tw_lt {p : Nat → Bool} : ∀ {l : List Nat}, l.all p = false → (l.takeWhile p).length < l.length ∧ (l.drop (l.takeWhile p).length).all p = false
  | [], h => Bool.noConfusion h
  | x :: l, h => by
    rw [List.takeWhile_cons]
    by_cases hx : p x = true
    · rw [if_pos hx]
      rw [List.all_cons, hx, Bool.true_and] at h
      have := tw_lt h
      exact ⟨by simp only [List.length_cons]; omega, by simpa using this.2⟩
    · rw [if_neg hx]
      exact ⟨Nat.succ_pos _, by simpa using h⟩
theorem strip_len {a : List Nat} : ((Txt.stripChars (SX.S a) (SX.S [46])).length = 0) ↔ a.all (fun c => decide (c = 46)) = true := by
  have hg : (SX.S [46]).cps.contains = fun c => decide (c = 46) := by
    funext c
    have : (SX.S [46]).cps = #[46] := rfl
    rw [this]
    by_cases h : c = 46 <;> simp [h]
  have hl : (SX.S a).length = a.length := SX.S_len a
  have hc : (SX.S a).cps.toList = a := by simp [SX.S]
  have hh : stripHi (fun c => decide (c = 46)) true (SX.S a) (stripLo (fun c => decide (c = 46)) true (SX.S a)) ≤ (SX.S a).length := by
    unfold stripHi
    split <;> omega
  have hs : (Txt.stripChars (SX.S a) (SX.S [46])).length = stripHi (fun c => decide (c = 46)) true (SX.S a) (stripLo (fun c => decide (c = 46)) true (SX.S a)) - stripLo (fun c => decide (c = 46)) true (SX.S a) := by
    rw [Txt.stripChars, hg, Txt.stripBy]
    split
    · rename_i h
      simp only [stripSame, Bool.and_eq_true, beq_iff_eq] at h
      rw [h.2, h.1]
      rfl
    · rw [stripped, size_strSub _ _ _ hh]
  rw [hs]
  unfold stripLo stripHi
  rw [hc, hl]
  simp only [if_true]
  cases h : a.all (fun c => decide (c = 46)) with
  | true =>
    rw [tw_all h]
    simp
  | false =>
    obtain ⟨h1, h2⟩ := tw_lt h
    have h3 : ((a.drop (a.takeWhile fun c => decide (c = 46)).length).reverse.all fun c => decide (c = 46)) = false := by rw [List.all_reverse]; exact h2
    have h4 := (tw_lt h3).1
    rw [List.length_reverse, List.length_drop] at h4
    simp only [Bool.false_eq_true, iff_false]
    omega
theorem str_nil {s : Str} : s = Str.ofString "" ↔ s.length = 0 := by
  constructor
  · rintro rfl; rfl
  · intro h
    obtain ⟨c⟩ := s
    have : c = #[] := Array.eq_empty_of_size_eq_zero h
    subst this
    rfl
theorem is_name_ok {a : List Nat} (h : a.length ≤ 1000000) : f_is_name [dS a] = .ok (.bl (isN a)) := by
  refine q_is_name ?_
  have hlen := dLen_S (a := a) h
  have h0 : (SX.S a).length = a.length := SX.S_len a
  have hn : D.str (Str.ofString "ABCDEFGHIJKLMNOPQRSTUVWXYZabcdefghijklmnopqrstuvwxyz0123456789_-.") = dS nmC := dS_of nmC_S
  have hdot : D.str (Str.ofString ".") = dS [46] := dS_of (by decide +kernel)
  have hst : dStripC (dS a) [dS [46]] = .ok (.str (Txt.stripChars (SX.S a) (SX.S [46]))) := if_pos (by rw [size_line, h0]; omega)
  have hmap : mapR (fun x : Nat => dIn (D.str { cps := #[x] }) d_NAME_CHARS) a = .ok (a.map fun c => .bl (okc c)) := mapR_ok fun c _ => by
    rw [d_NAME_CHARS, hn, ← okc_mem]
    exact dIn_S
  have hst2 : dStripC (dS a) [.str (Str.ofString ".")] = .ok (.str (Txt.stripChars (SX.S a) (SX.S [46]))) := by rw [hdot]; exact hst
  have hty : D.isTy "str" (dS a) = true := rfl
  have hsz : (a.map fun c => dS [c]).length ≤ 16777216 := by rw [List.length_map]; omega
  have hne : dNe (.str (Txt.stripChars (SX.S a) (SX.S [46]))) (.str (Str.ofString "")) = .ok (.bl (!a.all (fun c => decide (c = 46)))) := by
    rw [dNe_s]
    congr 2
    cases h3 : a.all (fun c => decide (c = 46)) with
    | true => rw [decide_eq_true (str_nil.mpr (strip_len.mpr h3))]
    | false => rw [decide_eq_false fun z => by rw [strip_len.mp (str_nil.mp z)] at h3; cases h3]
  unfold isN
  by_cases h1 : 1 ≤ a.length
  · have i1 : (1 : Int) ≤ a.length := by omega
    by_cases h2 : a.length ≤ 32
    · have i2 : (a.length : Int) ≤ 32 := by omega
      cases h4 : a.all okc with
      | false =>
        simp (disch := array_mem_dec) [p_is_name, d_NAME_MOST, hlen, hmap, i1, i2, h1, h2, h4, szR_ok hsz, dItems_S, -dItems_s, -dLen_s, -dAdd_s, -dNe_s]
      | true =>
        simp (disch := array_mem_dec) [p_is_name, d_NAME_MOST, hlen, hmap, i1, i2, h1, h2, h4, szR_ok hsz, dItems_S, hst2, hty, hne, -dItems_s, -dLen_s, -dAdd_s, -dNe_s]
    · have i2 : ¬ (a.length : Int) ≤ 32 := by omega
      simp (disch := array_mem_dec) [p_is_name, d_NAME_MOST, hlen, i1, i2, h1, h2, -dLen_s]
  · have i1 : ¬ (1 : Int) ≤ a.length := by omega
    simp (disch := array_mem_dec) [p_is_name, d_NAME_MOST, hlen, i1, h1, -dLen_s]
theorem dLe_chr {x c : Nat} : dLe (dS [x]) (dS [c]) = .ok (.bl (decide (x ≤ c))) := by
  show Res.ok (D.bl (!decide ((SX.S [c]).cps.toList < (SX.S [x]).cps.toList))) = _
  have h1 : (SX.S [c]).cps.toList = [c] := by simp [SX.S]
  have h2 : (SX.S [x]).cps.toList = [x] := by simp [SX.S]
  rw [h1, h2]
  congr 2
  have h3 : ([c] < [x]) ↔ c < x := by simp [List.cons_lt_cons_iff]
  by_cases h : x ≤ c
  · rw [decide_eq_false (fun z => by have := h3.mp z; omega), decide_eq_true h]
    rfl
  · rw [decide_eq_true (h3.mpr (by omega)), decide_eq_false h]
    rfl
theorem chain_chr {x y c : Nat} : (((dLe (dS [x]) (dS [c])).bind fun t5 => (asB t5).bind fun t6 => if t6 = true then dLe (dS [c]) (dS [y]) else .ok (.bl false)).bind asB) = .ok (decide (x ≤ c ∧ c ≤ y)) := by
  rw [dLe_chr, dLe_chr]
  by_cases h : x ≤ c <;> simp [h]
theorem dot3 {c : Nat} : dIn (dS [c]) (.lst [dS [95], dS [45], dS [46]]) = .ok (.bl (decide (c = 95) || decide (c = 45) || decide (c = 46))) := by
  have key : ∀ a b : Nat, (dS [a]).eqb (dS [b]) = decide (b = a) := fun a b => by
    have h1 := dEq_S (a := [a]) (b := [b])
    rw [dEq_d rfl rfl] at h1
    have h2 := D.bl.inj (Res.ok.inj h1)
    rw [h2]
    exact decide_eq_decide.mpr ⟨fun z => by injection z with z; exact z.symm, fun z => by rw [z]⟩
  show (if D.dat 60 (dS [c]) = true ∧ D.datA 60 [dS [95], dS [45], dS [46]] = true then Res.ok (D.bl ([dS [95], dS [45], dS [46]].any fun y => y.eqb (dS [c]))) else .no) = _
  rw [if_pos ⟨rfl, rfl⟩]
  simp only [List.any_cons, List.any_nil, key, Bool.or_false, Bool.or_assoc]
theorem lin_b1 {v : D} {c : Nat} : p__law_is_name_b1 v () (dS [c]) = .ok (if okc c = true then .nx () else .rt (.bl false)) := by
  have ea : D.str (Str.ofString "a") = dS [97] := dS_of (by decide +kernel)
  have ez : D.str (Str.ofString "z") = dS [122] := dS_of (by decide +kernel)
  have eA : D.str (Str.ofString "A") = dS [65] := dS_of (by decide +kernel)
  have eZ : D.str (Str.ofString "Z") = dS [90] := dS_of (by decide +kernel)
  have e0 : D.str (Str.ofString "0") = dS [48] := dS_of (by decide +kernel)
  have e9 : D.str (Str.ofString "9") = dS [57] := dS_of (by decide +kernel)
  have e_ : D.str (Str.ofString "_") = dS [95] := dS_of (by decide +kernel)
  have em : D.str (Str.ofString "-") = dS [45] := dS_of (by decide +kernel)
  have ed : D.str (Str.ofString ".") = dS [46] := dS_of (by decide +kernel)
  have h3 : szR [dS [95], dS [45], dS [46]] = .ok [dS [95], dS [45], dS [46]] := szR_ok (by simp)
  unfold p__law_is_name_b1
  rw [ea, ez, eA, eZ, e0, e9, e_, em, ed]
  simp only [Res.bind_ok]
  rw [chain_chr, chain_chr, chain_chr]
  simp only [Res.bind_ok, h3, dot3, asB_b]
  unfold okc
  by_cases h1 : 97 ≤ c ∧ c ≤ 122
  · simp [h1]
  · by_cases h2 : 65 ≤ c ∧ c ≤ 90
    · simp [h1, h2]
    · by_cases h4 : 48 ≤ c ∧ c ≤ 57
      · simp [h1, h2, h4]
      · cases h5 : (decide (c = 95) || decide (c = 45) || decide (c = 46)) <;> simp [h1, h2, h4, h5]
end Law
set_option Elab.async false
set_option linter.all false
set_option maxRecDepth 100000
set_option maxHeartbeats 4000000
namespace Law
open PySem L2 T
local macro_rules
  | `(tactic| array_mem_dec) => `(tactic| first
    | omega
    | with_reducible assumption
    | (simp; done)
    | (simp; omega)
    | (simp at *; omega)
    | (refine cm_ss ?_ ?_ ?_ ?_ <;> omega)
    | (refine cm_sw ?_ ?_ ?_ <;> first | assumption | omega)
    | (refine cm_ws ?_ ?_ ?_ <;> first | assumption | omega))
theorem lin_fold {v : D} : ∀ {a : List Nat}, foldF (p__law_is_name_b1 v) (a.map fun c => dS [c]) () = .ok (if a.all okc = true then .nx () else .rt (.bl false))
  | [] => rfl
  | c :: a => by
    rw [List.map_cons, foldF_cons, lin_b1, Res.bind_ok, List.all_cons]
    cases h : okc c with
    | true =>
      show foldF (p__law_is_name_b1 v) (a.map fun c => dS [c]) () = _
      rw [lin_fold, Bool.true_and]
    | false => rfl
theorem dot_filt {a : List Nat} : filR (fun x : Nat => (dNe (dS [x]) (.str (Str.ofString "."))).bind asB) (fun x : Nat => Res.ok (dS [x])) a = .ok ((a.filter fun c => !decide (c = 46)).map fun c => dS [c]) := by
  have ed : D.str (Str.ofString ".") = dS [46] := dS_of (by decide +kernel)
  refine filR_ok (fun c _ => ?_) fun _ _ _ => rfl
  rw [ed, dNe_S]
  show Res.ok (!decide ([c] = [46])) = _
  congr 2
  exact decide_eq_decide.mpr ⟨fun z => by injection z, fun z => by rw [z]⟩
theorem filt_pos {a : List Nat} : (0 < (a.filter fun c => !decide (c = 46)).length) ↔ a.all (fun c => decide (c = 46)) = false := by
  induction a with
  | nil => simp
  | cons c a ih =>
    by_cases h : c = 46
    · simp only [List.filter_cons, List.all_cons, decide_eq_true h]
      simpa using ih
    · simp [List.filter_cons, List.all_cons, h]
theorem law_is_name_ok {a : List Nat} (h : a.length ≤ 1000000) : f__law_is_name [dS a] = .ok (.bl (isN a)) := by
  refine q__law_is_name ?_
  have hlen := dLen_S (a := a) h
  have hsz : (a.map fun c => dS [c]).length ≤ 16777216 := by rw [List.length_map]; omega
  have hf := lin_fold (v := dS a) (a := a)
  unfold p__law_is_name
  simp only [Res.bind_ok, dItems_S, hf]
  unfold isN
  cases h4 : a.all okc with
  | false =>
    rw [if_neg Bool.false_ne_true]
    simp [Fl.all]
  | true =>
    rw [if_pos rfl]
    simp only [Fl.all, hlen, Res.bind_ok, dItems_S, szR_ok hsz, filR_map]
    rw [dot_filt]
    simp only [Res.bind_ok, dLen_l, List.length_map, dGt_i, dLe_i, asB_b]
    by_cases h1 : 1 ≤ a.length
    · have i1 : (1 : Int) ≤ a.length := by omega
      by_cases h2 : a.length ≤ 32
      · have i2 : (a.length : Int) ≤ 32 := by omega
        cases h3 : a.all (fun c => decide (c = 46)) with
        | false =>
          have := filt_pos.mpr h3
          simp [i1, i2, h1, h2, h3]
          simpa using h3
        | true =>
          have h5 : ¬ 0 < (a.filter fun c => !decide (c = 46)).length := fun z => by
            rw [filt_pos.mp z] at h3
            cases h3
          simp [i1, i2, h1, h2, h3]
          simpa using h3
      · have i2 : ¬ (a.length : Int) ≤ 32 := by omega
        simp [i1, i2, h1, h2]
    · have i1 : ¬ (1 : Int) ≤ a.length := by omega
      simp [i1, h1]
def cutA (a : List Nat) : List (List Nat) := TL.spl [47] 0 [] a
def hasN (a : List Nat) : Bool := decide ((cutA a).length ≤ 16) && (cutA a).all isN
theorem spl_mem : ∀ (a acc : List Nat) (x : List Nat), x ∈ TL.spl [47] 0 acc a → x.length ≤ acc.length + a.length
  | [], acc, x, h => by
    simp only [TL.spl, List.mem_singleton] at h
    subst h
    simp
  | c :: r, acc, x, h => by
    unfold TL.spl at h
    split at h
    · rcases List.mem_cons.mp h with rfl | h
      · omega
      · have := spl_mem r [] x h
        simp only [List.length_nil, List.length_cons] at this ⊢
        omega
    · have := spl_mem r (acc ++ [c]) x h
      simp only [List.length_append, List.length_cons, List.length_nil] at this ⊢
      omega
theorem spl_cnt : ∀ (a acc : List Nat), (TL.spl [47] 0 acc a).length ≤ a.length + 1
  | [], acc => by simp [TL.spl]
  | c :: r, acc => by
    unfold TL.spl
    split
    · have := spl_cnt r []
      simp only [List.length_cons]
      show (TL.spl [47] 0 [] r).length + 1 ≤ _
      omega
    · have := spl_cnt r (acc ++ [c])
      simp only [List.length_cons]
      omega
theorem split_A {a : List Nat} (h : a.length ≤ 900000) : dSplit (dS a) [.str (Str.ofString "/")] = .ok ((cutA a).map dS) := by
  have e : D.str (Str.ofString "/") = dS [47] := dS_of (by decide +kernel)
  rw [e]
  exact dSplit_S (by decide) (by omega)
theorem has_ok {a : List Nat} (h : a.length ≤ 900000) : f_has_names [dS a] = .ok (.bl (hasN a)) := by
  refine q_has_names ?_
  have hty : D.isTy "str" (dS a) = true := rfl
  have hc : (cutA a).length ≤ a.length + 1 := spl_cnt a []
  have hsz : (cutA a).length ≤ 16777216 := by omega
  have hm : mapR (fun x : List Nat => f_is_name [dS x]) (cutA a) = .ok ((cutA a).map fun x => .bl (isN x)) := mapR_ok fun x hx => is_name_ok (by have := spl_mem a [] x hx; simp only [List.length_nil] at this; omega)
  unfold p_has_names hasN
  simp only [Res.bind_ok, hty, if_true, split_A h, dLen_l, List.length_map, d_NAMES_MOST, dLe_i, asB_b, dItems_l, mapR_map]
  by_cases h1 : (cutA a).length ≤ 16
  · have i1 : ((cutA a).length : Int) ≤ 16 := by omega
    rw [szR_ok (by rw [List.length_map]; exact hsz)]
    simp only [Res.bind_ok, mapR_map]
    rw [hm]
    simp [i1, h1]
  · have i1 : ¬ ((cutA a).length : Int) ≤ 16 := by omega
    simp [i1, h1]
def rowA (a : List Nat) : D := if hasN a = true then .lst ((cutA a).map dS) else .non
theorem row_fold {v : D} : ∀ {l : List (List Nat)}, (∀ x ∈ l, x.length ≤ 1000000) → foldF (p__law_row_b1 v) (l.map dS) () = .ok (if l.all isN = true then .nx () else .rt .non)
  | [], _ => rfl
  | x :: l, h => by
    have h1 := law_is_name_ok (h x (List.mem_cons_self ..))
    have e : p__law_row_b1 v () (dS x) = .ok (if isN x = true then .nx () else .rt .non) := by
      unfold p__law_row_b1
      simp only [Res.bind_ok, h1, dTru_b]
      cases isN x <;> simp
    rw [List.map_cons, foldF_cons, e, Res.bind_ok, List.all_cons]
    cases h2 : isN x with
    | true =>
      show foldF (p__law_row_b1 v) (l.map dS) () = _
      rw [row_fold fun y hy => h y (List.mem_cons_of_mem _ hy), Bool.true_and]
    | false => rfl
theorem row_ok {a : List Nat} (h : a.length ≤ 900000) : f__law_row [dS a] = .ok (rowA a) := by
  refine q__law_row ?_
  have hty : D.isTy "str" (dS a) = true := rfl
  have hf := row_fold (v := .lst ((cutA a).map dS)) (l := cutA a) fun x hx => by have := spl_mem a [] x hx; simp only [List.length_nil] at this; omega
  unfold p__law_row rowA hasN
  simp only [Res.bind_ok, hty, if_true, split_A h, dLen_l, List.length_map, dGt_i, asB_b, dItems_l, hf]
  by_cases h1 : (cutA a).length ≤ 16
  · have i1 : ¬ (16 : Int) < ((cutA a).length : Int) := by omega
    cases h2 : (cutA a).all isN <;> simp [i1, h1, Fl.all]
  · have i1 : (16 : Int) < ((cutA a).length : Int) := by omega
    simp [i1, h1]
end Law
set_option Elab.async false
set_option linter.all false
set_option maxRecDepth 100000
set_option maxHeartbeats 4000000
namespace Law
open PySem L2 T
local macro_rules
  | `(tactic| array_mem_dec) => `(tactic| first
    | omega
    | with_reducible assumption
    | (simp; done)
    | (simp; omega)
    | (simp at *; omega)
    | (refine cm_ss ?_ ?_ ?_ ?_ <;> omega)
    | (refine cm_sw ?_ ?_ ?_ <;> first | assumption | omega)
    | (refine cm_ws ?_ ?_ ?_ <;> first | assumption | omega))
def pfx : List Nat → Bool
  | c :: _ => decide (c = 47)
  | [] => false
theorem sl_D : D.str (Str.ofString "/") = dS [47] := dS_of (by decide +kernel)
theorem em_D : D.str (Str.ofString "") = dS [] := dS_of (by decide +kernel)
theorem starts_A {a : List Nat} : dStarts (dS a) [.str (Str.ofString "/")] = .ok (.bl (pfx a)) := by
  rw [sl_D]
  show Res.ok (D.bl (Txt.startswith (SX.S a) (SX.S [47]))) = _
  congr 2
  cases a with
  | nil => rfl
  | cons c r =>
    unfold Txt.startswith
    have h1 : (SX.S (c :: r)).length = r.length + 1 := SX.S_len _
    have h2 : (SX.S [47]).length = 1 := SX.S_len _
    rw [h1, h2, decide_eq_true (by omega), Bool.true_and]
    unfold Builtin.Str.subAt
    rw [h2]
    have h3 : (SX.S (c :: r)).cps.extract 0 (0 + 1) = #[c] := by
      apply Array.toList_inj.mp
      simp [SX.S, Array.toList_extract]
    have h4 : (SX.S [47]).cps = #[47] := rfl
    rw [h3, h4]
    show (#[c] == #[47]) = decide (c = 47)
    by_cases h : c = 47
    · subst h; rfl
    · rw [decide_eq_false h]
      simp [h]
theorem drop_A {a : List Nat} (h : a.length ≤ 900000) : dSl (dS a) (some 1) none = .ok (dS (a.drop 1)) := by
  rw [dSl_S (by omega), cutL_z_ (show (0 : Int) ≤ 1 by decide)]
  rfl
theorem take_A {a : List Nat} (h : a.length ≤ 900000) : dSl (dS a) none (some 1) = .ok (dS (a.take 1)) := by
  rw [dSl_S (by omega), cutL__z (show (0 : Int) ≤ 1 by decide)]
  rfl
theorem take_pfx {a : List Nat} : decide (a.take 1 = [47]) = pfx a := by
  cases a with
  | nil => rfl
  | cons c r =>
    show decide ([c] = [47]) = decide (c = 47)
    exact decide_eq_decide.mpr ⟨fun z => by injection z, fun z => by rw [z]⟩
theorem hasN_nil : hasN [] = false := by decide
theorem hasN_sl {a : List Nat} (h : pfx a = true) : hasN a = false := by
  cases a with
  | nil => cases h
  | cons c r =>
    have hc : c = 47 := of_decide_eq_true h
    subst hc
    have : cutA (47 :: r) = [] :: cutA r := by
      unfold cutA
      rw [TL.spl, if_pos (by simp [TL.pre])]
      rfl
    unfold hasN
    rw [this, List.all_cons, show isN [] = false from rfl, Bool.false_and, Bool.and_false]
def absO (a : List Nat) : Option (List (List Nat)) := if a.length ≤ 256 then if a = [47] then some [] else if pfx a = true ∧ hasN (a.drop 1) = true then some (cutA (a.drop 1)) else none else none
def relO (a : List Nat) : Option (List (List Nat)) := if a.length ≤ 256 ∧ hasN a = true then some (cutA a) else none
def oD23 : Option (List (List Nat)) → D
  | some l => .lst (l.map dS)
  | none => .non
def nmA (a : List Nat) : List (List Nat) := if (if pfx a = true then a.drop 1 else a) = [] then [] else cutA (if pfx a = true then a.drop 1 else a)
theorem abs_nm {a : List Nat} {l : List (List Nat)} (h : absO a = some l) : nmA a = l := by
  unfold absO at h
  split at h
  · split at h
    · rename_i e
      subst e
      cases h
      rfl
    · split at h
      · rename_i e
        cases h
        unfold nmA
        rw [if_pos e.1, if_neg fun z => by rw [z, hasN_nil] at e; cases e.2]
      · cases h
  · cases h
theorem rel_nm {a : List Nat} {l : List (List Nat)} (h : relO a = some l) : nmA a = l := by
  unfold relO at h
  split at h
  · rename_i e
    cases h
    have hp : pfx a = false := by
      cases hq : pfx a with
      | false => rfl
      | true =>
        rw [hasN_sl hq] at e
        cases e.2
    unfold nmA
    rw [hp, if_neg Bool.false_ne_true, if_neg fun z => by rw [z, hasN_nil] at e; cases e.2]
  · cases h
theorem names_ok23 {a : List Nat} (h : a.length ≤ 900000) : f_names_of [dS a] = .ok (.lst ((nmA a).map dS)) := by
  refine q_names_of ?_
  have hty : ∀ b : List Nat, D.isTy "str" (dS b) = true := fun _ => rfl
  have hj : ∀ b : List Nat, b.length ≤ 900000 → p_names_of_j1 (dS b) = .ok (.lst ((if b = [] then [] else cutA b).map dS)) := fun b hb => by
    have e1 : szR ([] : List D) = .ok [] := szR_ok (by simp)
    unfold p_names_of_j1
    simp only [Res.bind_ok, hty, if_true, split_A hb, em_D, dEq_S, asB_b, e1]
    by_cases h1 : b = []
    · subst h1
      rfl
    · simp [h1]
  have hl : (a.drop 1).length ≤ 900000 := by rw [List.length_drop]; omega
  unfold p_names_of nmA
  simp only [Res.bind_ok, hty, if_true, starts_A, dTru_b, drop_A h, asI]
  cases hp : pfx a with
  | true =>
    simp only [if_true, Res.bind_ok]
    exact hj _ hl
  | false =>
    simp only [Bool.false_eq_true, if_false]
    exact hj _ h
theorem path_ok23 {a : List Nat} (h : a.length ≤ 900000) : f_is_path [dS a] = .ok (.bl (absO a).isSome) := by
  refine q_is_path ?_
  have hty : D.isTy "str" (dS a) = true := rfl
  have hl : (a.drop 1).length ≤ 900000 := by rw [List.length_drop]; omega
  have hlen := dLen_S (a := a) (by omega)
  unfold p_is_path absO
  simp only [Res.bind_ok, hty, if_true, sl_D, dEq_S, asB_b]
  rw [← sl_D]
  simp only [starts_A, Res.bind_ok, asB_b, hlen, d_PATH_MOST, dLe_i, asI]
  by_cases h1 : a = [47]
  · subst h1
    rfl
  · rw [decide_eq_false h1]
    cases hp : pfx a with
    | false => by_cases h2 : a.length ≤ 256 <;> simp [h1, h2]
    | true =>
      by_cases h2 : a.length ≤ 256
      · have i2 : (a.length : Int) ≤ 256 := by omega
        simp only [decide_eq_true i2, if_true, Res.bind_ok, Bool.false_eq_true, if_false]
        rw [drop_A h]
        simp only [Res.bind_ok, has_ok hl]
        cases h3 : hasN (a.drop 1) <;> simp [h1, h2]
      · have i2 : ¬ (a.length : Int) ≤ 256 := by omega
        simp [i2, h2]
theorem target_ok23 {a : List Nat} (h : a.length ≤ 900000) : f_is_target [dS a] = .ok (.bl ((absO a).isSome || (relO a).isSome)) := by
  refine q_is_target ?_
  have hlen := dLen_S (a := a) (by omega)
  unfold p_is_target
  simp only [Res.bind_ok, path_ok23 h, asB_b, hlen, d_PATH_MOST, dLe_i]
  cases h1 : (absO a).isSome with
  | true => simp
  | false =>
    unfold relO
    by_cases h2 : a.length ≤ 256
    · have i2 : (a.length : Int) ≤ 256 := by omega
      simp only [decide_eq_true i2, if_true, Res.bind_ok, Bool.false_eq_true, if_false, has_ok h]
      cases h3 : hasN a <;> simp [h2]
    · have i2 : ¬ (a.length : Int) ≤ 256 := by omega
      simp [i2, h2]
theorem flag_ok {x : Bool} : f__law_flag [.bl x, .bl x] = .ok (.bl true) := by
  refine q__law_flag ?_
  unfold p__law_flag
  cases x <;> simp
theorem oD_not {o : Option (List (List Nat))} : dIsNot (oD23 o) .non = .ok (.bl o.isSome) := by cases o <;> rfl
theorem dSs_dat {l : List (List Nat)} {f : Nat} : D.datA (f + 1) (l.map dS) = true := by
  induction l with
  | nil => rfl
  | cons c l ih =>
    rw [List.map_cons, D.datA, ih, Bool.and_true]
    rfl
theorem dSs_ne {l : List (List Nat)} : dNe (.lst (l.map dS)) (.lst (l.map dS)) = .ok (.bl false) := dNe_self (by simpa using dSs_dat)
theorem first_j1 {a : List Nat} (h : a.length ≤ 900000) : p__law_asks_first_j1 (dS a) (oD23 (absO a), oD23 (relO a)) = .ok (.nx ()) := by
  unfold p__law_asks_first_j1
  simp only [Res.bind_ok, path_ok23 h, target_ok23 h, names_ok23 h, oD_not, flag_ok, dTru_b, asB_b]
  have ha := @abs_nm a
  have hr := @rel_nm a
  have hf : ∀ x : Bool, f__law_flag [.bl true, .bl true] = .ok (.bl true) := fun _ => flag_ok
  cases h1 : absO a with
  | some l =>
    rw [ha h1]
    cases h2 : relO a with
    | some l2 =>
      have : l = l2 := by rw [← ha h1, hr h2]
      subst this
      simp [oD23, dSs_ne, flag_ok]
    | none => simp [oD23, dSs_ne, flag_ok]
  | none =>
    cases h2 : relO a with
    | some l2 =>
      rw [hr h2]
      simp [oD23, dSs_ne, flag_ok]
    | none => simp [oD23, flag_ok]
theorem first_b1 {a : List Nat} {d : D} (h : a.length ≤ 900000) (ht : f__law_text [d] = .ok (dS a)) : p__law_asks_first_b1 () d = .ok (.nx ()) := by
  have hj := first_j1 h
  have hlen := dLen_S (a := a) (by omega)
  have hl : (a.drop 1).length ≤ 900000 := by rw [List.length_drop]; omega
  have e1 : szR ([] : List D) = .ok [] := szR_ok (by simp)
  unfold p__law_asks_first_b1
  simp only [Res.bind_ok, ht, hlen, dLe_i, asB_b]
  by_cases h2 : a.length ≤ 256
  · have i2 : (a.length : Int) ≤ 256 := by omega
    have er : rowA a = oD23 (relO a) := by
      unfold rowA relO
      cases h3 : hasN a <;> simp [h2, oD23]
    simp only [decide_eq_true i2, if_true, row_ok h, Res.bind_ok, er, sl_D, dEq_S, asB_b, e1]
    by_cases h1 : a = [47]
    · subst h1
      exact hj
    · rw [decide_eq_false h1]
      simp only [Bool.false_eq_true, if_false, asI, Res.bind_ok]
      rw [take_A h]
      simp only [Res.bind_ok, dEq_S, asB_b, take_pfx]
      cases hp : pfx a with
      | true =>
        simp only [if_true]
        rw [drop_A h]
        simp only [Res.bind_ok, row_ok hl]
        have ea : rowA (a.drop 1) = oD23 (absO a) := by
          unfold rowA absO
          cases h3 : hasN (a.drop 1) <;> simp [h1, h2, hp, oD23]
        rw [ea]
        exact hj
      | false =>
        have ea : D.non = oD23 (absO a) := by
          unfold absO
          simp [h1, h2, hp, oD23]
        simp only [Bool.false_eq_true, if_false]
        rw [ea]
        exact hj
  · have i2 : ¬ (a.length : Int) ≤ 256 := by omega
    have ea : D.non = oD23 (absO a) := by
      unfold absO
      simp [h2, oD23]
    have er : D.non = oD23 (relO a) := by
      unfold relO
      simp [h2, oD23]
    simp only [decide_eq_false i2, Bool.false_eq_true, if_false]
    rw [show ((D.non, D.non) : D × D) = (oD23 (absO a), oD23 (relO a)) by rw [← ea, ← er]]
    exact hj
end Law
set_option Elab.async false
set_option linter.all false
set_option maxRecDepth 100000
set_option maxHeartbeats 4000000
namespace T
open PySem L2
def cIf0 : Rho → Out := sIf (toB (bin dGt (callV dLen (consA (getV 0) noA)) (conD (.int 0)))) (sSet 4 (callV dInt (consA (bin dIx (getV 0) (bin dMod (callV dInt (consA (getV 3) noA)) (callV dLen (consA (getV 0) noA)))) noA))) sSkip
def cIf1 : Rho → Out := sIf (toB (bin dLt (getV 4) (conD (.int 0)))) (sSet 4 (bin dSub (conD (.int 1)) (bin dMul (conD (.int 2)) (getV 4)))) sSkip
def cStA : Rho → Out := sSet 4 (bin dMod (callV dInt (consA (bin dAdd (bin dMul (bin dAdd (bin dAdd (getV 4) (bin dMul (conD (.int 97)) (getV 3))) (conD (.int 5))) (conD (.int 69069))) (bin dMul (bin dMul (getV 3) (getV 3)) (conD (.int 40692)))) noA)) (conD (.int 2147483399)))
def cStB : Rho → Out := sSet 4 (bin dMod (callV dInt (consA (bin dMul (bin dAdd (bin dAdd (getV 4) (bin dMul (conD (.int 13)) (getV 3))) (conD (.int 1))) (conD (.int 6364136223846793005))) noA)) (conD (.int 18446744073709551533)))
def cIf2 : Rho → Out := sIf (orB (toB (bin dGe (getV 3) (callV dLen (consA (getV 0) noA)))) (toB (bin dLt (getV 4) (conD (.int 1000000000))))) (sSeq cStA cStB) sSkip
def bDrawsB : Rho → Out := sSeq (sSet 4 (conD (.int 0))) (sSeq cIf0 (sSeq cIf1 (sSeq cIf2 (sApp 2 (getV 4)))))
def mDrawsB : Rho → Out := (sSeq (sSetN 2 (lstV noA)) (sSeq (sFor (callV dRng1 (consA (getV 1) noA)) (bNm 3) bDrawsB) (sRet (getV 2))))
def cellB (ns : List Int) (k : Nat) : Int := if ns.length ≤ k ∨ cell1 ns k < 1000000000 then ((((cell1 ns k + 97 * (k : Int) + 5) * 69069 + (k : Int) * (k : Int) * 40692) % 2147483399) + 13 * (k : Int) + 1) * 6364136223846793005 % 18446744073709551533 else cell1 ns k
theorem Fits.add64 {n : Nat} {x y : Int} (h : Fits n x) (h' : Fits 64 y) : Fits (n + 66) (x + y) := by
  unfold Fits at *
  have h1 : 2 ^ n ≤ 2 ^ (n + 64) := Nat.pow_le_pow_right (by decide) (by omega)
  have h2 : 2 ^ 64 ≤ 2 ^ (n + 64) := Nat.pow_le_pow_right (by decide) (by omega)
  have h3 : (2 : Nat) ^ (n + 66) = 2 ^ (n + 64) * 4 := by rw [show n + 66 = n + 64 + 2 by omega, Nat.pow_add]
  omega
section
variable {ns : List Int} {n : Nat} (hn : n ≤ 2000000) (hb : ∀ z ∈ ns, Fits n z)
theorem cellB_nn (k : Nat) : 0 ≤ cellB ns k := by
  unfold cellB
  split
  · exact Int.emod_nonneg _ (by decide)
  · exact cell1_nn k
theorem drawsB_e0 (S C L K : D) (x : Nat) (hK : K = .int (x : Int)) (hS : S = .scr (ns.map D.int)) : cIf0 [some S, some C, some L, some K, some (.int 0)] = .nx [some S, some C, some L, some K, some (.int (cell0 ns x))] := by
  subst hK hS
  unfold cIf0
  by_cases h : 0 < ns.length
  · have hm : (0 : Int) < ns.length := by omega
    have hlt : x % ns.length < ns.length := Nat.mod_lt _ h
    have hix : dIx (.scr (ns.map D.int)) (.int ((x : Int) % ns.length)) = .ok (.int (cell0 ns x)) := by
      refine dIx_c (atI_get (j := x % ns.length) (by simp) ?_)
      rw [List.getElem?_map, List.getElem?_eq_getElem hlt]
      unfold cell0
      rw [if_pos h, List.getD_eq_getElem?_getD, List.getElem?_eq_getElem hlt]
      rfl
    simp only [sIf_ap, toB_ap, bin_ap, callV_ap, consA_ap, noA_ap, getV_s, getV_0, conD_ap, Res.bind_ok, dLen_c, List.length_map, dGt_i, hm, decide_true, thenS_ok, if_true, sSet_ap, dMod_ok hm, hix, dInt_i, List.set]
  · have hm : ¬ (0 : Int) < ns.length := by omega
    simp only [sIf_ap, toB_ap, bin_ap, callV_ap, consA_ap, noA_ap, getV_s, getV_0, conD_ap, Res.bind_ok, dLen_c, List.length_map, dGt_i, hm, decide_false, thenS_ok, if_false, Bool.false_eq_true, sSkip_ap, cell0, h]
include hn hb
theorem drawsB_e2 (S C L K : D) (x : Nat) (hx : x < 100000) (hK : K = .int (x : Int)) (hS : S = .scr (ns.map D.int)) : cIf2 [some S, some C, some L, some K, some (.int (cell1 ns x))] = .nx [some S, some C, some L, some K, some (.int (cellB ns x))] := by
  subst hK hS
  have f1 := cell1_fits hb x
  generalize hc : cell1 ns x = c at f1
  have q1 : CMulX 97 (x : Int) := Fits.mul (n := 64) (m := 64) (fits_small (by decide) (by decide)) (fits_small (by omega) (by omega)) (by omega)
  have q2 : CMulX (c + 97 * (x : Int) + 5) 69069 := by
    have h1 : Fits (n + 2 + 66) (c + (97 * (x : Int) + 5)) := f1.add64 (fits_small (by omega) (by omega))
    rw [show c + 97 * (x : Int) + 5 = c + (97 * (x : Int) + 5) by omega]
    exact h1.mul (m := 64) (fits_small (by decide) (by decide)) (by omega)
  have q3 : CMulX (x : Int) (x : Int) := Fits.mul (n := 64) (m := 64) (fits_small (by omega) (by omega)) (fits_small (by omega) (by omega)) (by omega)
  have hxx : (x : Int) * (x : Int) ≤ 100000 * 100000 := Int.mul_le_mul (by omega) (by omega) (by omega) (by omega)
  have hx0 : 0 ≤ (x : Int) * (x : Int) := Int.mul_nonneg (by omega) (by omega)
  have q4 : CMulX ((x : Int) * (x : Int)) 40692 := Fits.mul (n := 64) (m := 64) (fits_small (by omega) (by omega)) (fits_small (by decide) (by decide)) (by omega)
  generalize hd : ((c + 97 * (x : Int) + 5) * 69069 + (x : Int) * (x : Int) * 40692) % 2147483399 = d
  have d0 : 0 ≤ d := by rw [← hd]; exact Int.emod_nonneg _ (by decide)
  have d1 : d < 2147483399 := by rw [← hd]; exact Int.emod_lt_of_pos _ (by decide)
  have q5 : CMulX 13 (x : Int) := Fits.mul (n := 64) (m := 64) (fits_small (by decide) (by decide)) (fits_small (by omega) (by omega)) (by omega)
  have q6 : CMulX (d + 13 * (x : Int) + 1) 6364136223846793005 := Fits.mul (n := 64) (m := 64) (fits_small (by omega) (by omega)) (fits_small (by decide) (by decide)) (by omega)
  have hA : cStA [some (.scr (ns.map D.int)), some C, some L, some (.int (x : Int)), some (.int c)] = .nx [some (.scr (ns.map D.int)), some C, some L, some (.int (x : Int)), some (.int d)] := by
    unfold cStA
    simp only [sSet_ap, bin_ap, callV_ap, consA_ap, getV_s, getV_0, conD_ap, noA_ap, Res.bind_ok, dMul_ok q1, dAdd_i, dMul_ok q2, dMul_ok q3, dMul_ok q4, dInt_i, dMod_ok (show (0 : Int) < 2147483399 by decide), thenS_ok, hd]
    rfl
  have hB : cStB [some (.scr (ns.map D.int)), some C, some L, some (.int (x : Int)), some (.int d)] = .nx [some (.scr (ns.map D.int)), some C, some L, some (.int (x : Int)), some (.int ((d + 13 * (x : Int) + 1) * 6364136223846793005 % 18446744073709551533))] := by
    unfold cStB
    simp only [sSet_ap, bin_ap, callV_ap, consA_ap, getV_s, getV_0, conD_ap, noA_ap, Res.bind_ok, dMul_ok q5, dAdd_i, dMul_ok q6, dInt_i, dMod_ok (show (0 : Int) < 18446744073709551533 by decide), thenS_ok]
    rfl
  have h4 : (orB (toB (bin dGe (getV 3) (callV dLen (consA (getV 0) noA)))) (toB (bin dLt (getV 4) (conD (.int 1000000000))))) [some (.scr (ns.map D.int)), some C, some L, some (.int (x : Int)), some (.int c)] = .ok (decide (ns.length ≤ x ∨ c < 1000000000)) := by
    simp only [orB_ap, toB_ap, bin_ap, callV_ap, consA_ap, getV_s, getV_0, conD_ap, noA_ap, Res.bind_ok, dLt_i, dGe_i, dLen_c, List.length_map, Int.ofNat_le]
    by_cases h : ns.length ≤ x <;> simp [h]
  unfold cIf2
  rw [sIf_ap, h4, thenS_ok]
  unfold cellB
  rw [hc]
  by_cases h : ns.length ≤ x ∨ c < 1000000000
  · rw [decide_eq_true h, if_pos rfl, if_pos h, sSeq_nx hA, hB, hd]
  · rw [decide_eq_false h, if_neg Bool.false_ne_true, if_neg h]
    rfl
theorem drawsB_body (x : Nat) (hx : x < 100000) (C : D) (a : Option D) (s : List Int) (hs : s.length < 100000) : bDrawsB [some (.scr (ns.map D.int)), some C, some (.lst (s.map D.int)), some (.int (x : Int)), a] = .nx [some (.scr (ns.map D.int)), some C, some (.lst ((s ++ [cellB ns x]).map D.int)), some (.int (x : Int)), some (.int (cellB ns x))] := by
  have e := drawsB_e2 hn hb (.scr (ns.map D.int)) C (.lst (s.map D.int)) (.int (x : Int)) x hx rfl rfl
  generalize cellB ns x = z at e ⊢
  unfold bDrawsB
  rw [sSeq_nx (f := sSet 4 (conD (.int 0))) (ρ' := [some (.scr (ns.map D.int)), some C, some (.lst (s.map D.int)), some (.int (x : Int)), some (.int 0)]) rfl, sSeq_nx (drawsB_e0 _ _ _ _ x rfl rfl), sSeq_nx (f := cIf1) (draws_e1 hn hb _ _ _ _ x), sSeq_nx e]
  exact draws_app _ _ _ s z hs
theorem drawsB_run (c : Nat) (hc : c ≤ 100000) : runF 2 5 mDrawsB [.scr (ns.map D.int), .int c] = .ok (.lst (((List.range c).map (cellB ns)).map D.int)) :=
  draws_loop bDrawsB (cellB ns) _ c hc fun x hx C a s hs => drawsB_body hn hb x hx C a s hs
end
/-- the draws, as a list of numbers that are not negative -/
theorem drawsB_ok {ns : List Int} (hb : ∀ z ∈ ns, Builtin.Int.intBits z ≤ 1048576) (c : Nat) (hc : c ≤ 100000) : ∃ ds : List Int, ds.length = c ∧ (∀ d ∈ ds, 0 ≤ d) ∧ runF 2 5 mDrawsB [.scr (ns.map D.int), .int c] = .ok (.lst (ds.map D.int)) := by
  have hb' : ∀ z ∈ ns, Fits 1048576 z := fun z hz => fits_of_bits (hb z hz)
  refine ⟨(List.range c).map (cellB ns), by simp, fun d hd => ?_, drawsB_run (n := 1048576) (by omega) hb' c hc⟩
  obtain ⟨k, _, rfl⟩ := List.mem_map.mp hd
  exact cellB_nn k
end T
set_option Elab.async false
set_option linter.all false
set_option maxRecDepth 100000
set_option maxHeartbeats 4000000
namespace Law
open PySem L2 T
local macro_rules
  | `(tactic| array_mem_dec) => `(tactic| first
    | omega
    | with_reducible assumption
    | (simp; done)
    | (simp; omega)
    | (simp at *; omega)
    | (refine cm_ss ?_ ?_ ?_ ?_ <;> omega)
    | (refine cm_sw ?_ ?_ ?_ <;> first | assumption | omega)
    | (refine cm_ws ?_ ?_ ?_ <;> first | assumption | omega))
theorem dIx_md {L : List D} {x k : Int} (hk : (L.length : Int) = k) (h0 : 0 < k) : ∃ v, v ∈ L ∧ dIx (.lst L) (.int (x % k)) = .ok v := by
  have h1 := Int.emod_nonneg x (show k ≠ 0 by omega)
  have h2 := Int.emod_lt_of_pos x h0
  have h3 : (x % k).toNat < L.length := by omega
  exact ⟨L[(x % k).toNat], List.getElem_mem h3, dIx_l (atI_get (j := (x % k).toNat) (by omega) (List.getElem?_eq_getElem h3))⟩
theorem sum_le {B : Nat} : ∀ {l : List Str}, (∀ x ∈ l, x.length ≤ B) → (l.map (·.length)).sum ≤ l.length * B
  | [], _ => by simp
  | x :: l, h => by
    have h1 := h x (List.mem_cons_self ..)
    have h2 := sum_le (l := l) fun y hy => h y (List.mem_cons_of_mem _ hy)
    rw [List.map_cons, List.sum_cons, List.length_cons, Nat.succ_mul]
    omega
theorem jn23 {sep : Str} {l : List Str} {B : Nat} (h : ∀ x ∈ l, x.length ≤ B) (hs : sep.length ≤ 1) (hz : l.length * (B + 1) ≤ 100000) : ∃ s, dJoin (.str sep) [.lst (l.map D.str)] = .ok (.str s) ∧ s.length ≤ l.length * (B + 1) := by
  have h1 := sum_le h
  have h2 : l.length * sep.length ≤ l.length * 1 := Nat.mul_le_mul_left _ hs
  rw [Nat.mul_succ] at hz ⊢
  refine ⟨Txt.join sep l, ?_, ?_⟩
  · show (match D.strs (l.map D.str) with | some ys => if (ys.map fun x : Str => x.length).sum + ys.length * sep.length ≤ 16777216 then Res.ok (D.str (Txt.join sep ys)) else .no | none => .no) = _
    rw [strs_map]
    exact if_pos (by omega)
  · cases l with
    | nil => exact Nat.zero_le _
    | cons a l =>
      have h3 : (Txt.join sep (a :: l)).length = ((a :: l).map (·.length)).sum + l.length * sep.length := by
        show (Builtin.Str.glued sep (a :: l)).length = _
        rw [StrLaws.glued_eq_join]
        exact PyProof.Rows.len_join_cons sep a l
      have h4 : l.length * sep.length ≤ (a :: l).length * sep.length := Nat.mul_le_mul_right _ (by simp)
      omega
theorem name_ok {d : Int} : ∃ s, f__law_name [.int d] = .ok (.str s) ∧ s.length ≤ 41 := by
  obtain ⟨v, hv, e⟩ := @dIx_md [.int 1, .int 1, .int 2, .int 3, .int 14, .int 20] d 6 rfl (by decide)
  have hn : ∃ n : Nat, n ≤ 20 ∧ v = .int (n : Int) := by
    simp only [List.mem_cons, List.not_mem_nil, or_false] at hv
    rcases hv with rfl | rfl | rfl | rfl | rfl | rfl
    · exact ⟨1, by decide, rfl⟩
    · exact ⟨1, by decide, rfl⟩
    · exact ⟨2, by decide, rfl⟩
    · exact ⟨3, by decide, rfl⟩
    · exact ⟨14, by decide, rfl⟩
    · exact ⟨20, by decide, rfl⟩
  obtain ⟨n, hn, rfl⟩ := hn
  have ec : D.str (Str.ofString "abXY09_-.") = dS [97, 98, 88, 89, 48, 57, 95, 45, 46] := dS_of (by decide +kernel)
  obtain ⟨ys, y1, y2, y3, hm⟩ := mapR_ex (f := fun x : Nat => (dMul (.int 5) (.int (x : Int))).bind fun a => (dAdd (.int (d / 6)) a).bind fun a => (dInt [a]).bind fun a => (dMod a (.int 9)).bind fun t55 => dIx (.str (Str.ofString "abXY09_-.")) t55) (h := D.str) (P := fun _ y => y.length ≤ 1) (xs := List.range n) fun x hx => by
    have := List.mem_range.mp hx
    have h0 := Int.emod_nonneg (d / 6 + 5 * (x : Int)) (show (9 : Int) ≠ 0 by decide)
    have h1 := Int.emod_lt_of_pos (d / 6 + 5 * (x : Int)) (show (0 : Int) < 9 by decide)
    obtain ⟨j, hj⟩ := Int.eq_ofNat_of_zero_le h0
    have hj9 : j < 9 := by omega
    obtain ⟨c, hc⟩ : ∃ c, ([97, 98, 88, 89, 48, 57, 95, 45, 46] : List Nat)[j]? = some c := ⟨_, List.getElem?_eq_getElem (by simpa using hj9)⟩
    refine ⟨SX.S [c], by rw [SX.S_len]; simp, ?_⟩
    have hix : dIx (.str (Str.ofString "abXY09_-.")) (.int ((d / 6 + 5 * (x : Int)) % 9)) = .ok (dS [c]) := by
      rw [ec]
      exact dIx_S hj hc (by decide)
    simp (disch := array_mem_dec) [hix]
  obtain ⟨s, hs, hl⟩ := jn23 (sep := Str.ofString "") (l := ys) (B := 1) (fun y hy => by obtain ⟨_, _, h⟩ := y2 y hy; exact h) (by decide) (by rw [y1, List.length_range]; omega)
  rw [y1, List.length_range] at hl
  have hr := rng1 (n := n) (by omega)
  have hsz : ((List.range n).map fun i : Nat => D.int (i : Int)).length ≤ 16777216 := by simp; omega
  have hst : dStripC (.str s) [.str (Str.ofString ".")] = .ok (.str (Txt.stripChars s (Str.ofString "."))) := if_pos (by rw [size_line]; omega)
  have hty : ∀ s : Str, D.isTy "str" (.str s) = true := fun _ => rfl
  have hz1 : (Str.ofString "z").length = 1 := rfl
  have hadd : dAdd (.str (Str.ofString "z")) (.str s) = .ok (.str (Str.ofString "z" ++ s)) := by
    rw [dAdd_s, if_pos (by rw [size_line]; omega)]
  have hl2 : (Str.ofString "z" ++ s).length ≤ 41 := by rw [strLen_append]; omega
  have key : p__law_name (.int d) = .ok (.str s) ∨ p__law_name (.int d) = .ok (.str (Str.ofString "z" ++ s)) := by
    by_cases c1 : 0 < d / 54 % 11
    · by_cases c2 : Txt.stripChars s (Str.ofString ".") = Str.ofString ""
      · right
        simp (disch := array_mem_dec) [p__law_name, e, hr, szR_ok hsz, hm, hs, hst, hty, hadd, c1, c2, -dAdd_s, -rng1_z]
      · left
        simp (disch := array_mem_dec) [p__law_name, e, hr, szR_ok hsz, hm, hs, hst, hty, hadd, c1, c2, -dAdd_s, -rng1_z]
    · left
      simp (disch := array_mem_dec) [p__law_name, e, hr, szR_ok hsz, hm, hs, hst, hty, hadd, c1, -dAdd_s, -rng1_z]
  rcases key with k | k
  · exact ⟨s, q__law_name k, by omega⟩
  · exact ⟨_, q__law_name k, hl2⟩
theorem str_A (s : Str) : D.str s = dS s.cps.toList := dS_of (by
  obtain ⟨c⟩ := s
  simp [SX.S])
theorem strA_len (s : Str) : s.cps.toList.length = s.length := by
  obtain ⟨c⟩ := s
  simp [Str.length]
theorem j3_ok {r : Int} {s : Str} (h : s.length ≤ 1000) : ∃ s', p__law_text_j3 (.int r) (.str s) = .ok (.str s') ∧ s'.length ≤ 1001 := by
  have hz1 : (Str.ofString "/").length = 1 := rfl
  have hadd : dAdd (.str (Str.ofString "/")) (.str s) = .ok (.str (Str.ofString "/" ++ s)) := by
    rw [dAdd_s, if_pos (by rw [size_line]; omega)]
  by_cases c : 0 < r / 5 % 3
  · exact ⟨_, by simp (disch := array_mem_dec) [p__law_text_j3, p__law_text_j4, c, hadd, -dAdd_s]; rfl, by rw [strLen_append]; omega⟩
  · exact ⟨s, by simp (disch := array_mem_dec) [p__law_text_j3, p__law_text_j4, c], by omega⟩
theorem j2_ok {r m : Int} {l : List Str} (h : ∀ x ∈ l, x.length ≤ 41) (hl : l.length ≤ 18) : ∃ s, p__law_text_j2 (.int r) (.int m) (.lst (l.map D.str)) = .ok (.str s) ∧ s.length ≤ 1001 := by
  obtain ⟨s, hs, hn⟩ := jn23 (sep := Str.ofString "/") h (by decide) (by omega)
  have hn2 : s.length ≤ 756 := by omega
  have hty : ∀ s : Str, D.isTy "str" (.str s) = true := fun _ => rfl
  have hz1 : (Str.ofString "/").length = 1 := rfl
  have hadd : dAdd (.str s) (.str (Str.ofString "/")) = .ok (.str (s ++ Str.ofString "/")) := by
    rw [dAdd_s, if_pos (by rw [size_line]; omega)]
  by_cases c : m = 3
  · obtain ⟨s', h1, h2⟩ := j3_ok (r := r) (s := s ++ Str.ofString "/") (by rw [strLen_append]; omega)
    exact ⟨s', by simp (disch := array_mem_dec) [p__law_text_j2, hs, hty, c, hadd, h1, -dAdd_s], h2⟩
  · obtain ⟨s', h1, h2⟩ := j3_ok (r := r) (s := s) (by omega)
    exact ⟨s', by simp (disch := array_mem_dec) [p__law_text_j2, hs, hty, c, h1], h2⟩
theorem set_ok {l : List Str} {x : Str} {z : Int} (h0 : 0 ≤ z) (h1 : z < l.length) : putR (l.map D.str) (.int z) (.str x) = .ok (.lst ((l.set z.toNat x).map D.str)) := by
  rw [putR_ok h0 (by rw [List.length_map]; exact h1), List.map_set]
theorem set_le {l : List Str} {x : Str} {k : Nat} (h : ∀ y ∈ l, y.length ≤ 41) (hx : x.length ≤ 41) : ∀ y ∈ l.set k x, y.length ≤ 41 := fun y hy => by
  rcases List.mem_or_eq_of_mem_set hy with h1 | rfl
  · exact h y h1
  · exact hx
theorem j1_ok {r m : Int} {l : List Str} (h : ∀ x ∈ l, x.length ≤ 41) (hl : l.length ≤ 18) : ∃ s, p__law_text_j1 (.int (l.length : Int)) (.int r) (.int m) (.lst (l.map D.str)) = .ok (.str s) ∧ s.length ≤ 1001 := by
  by_cases c : m = 2 ∧ 0 < l.length
  · obtain ⟨v, hv, e⟩ := @dIx_md [.str "..", .str "a b", .str "c*", .str "x/", .str "."] (r / 300) 5 rfl (by decide)
    have hn : ∃ p : Str, p.length ≤ 41 ∧ v = .str p := by
      simp only [List.mem_cons, List.not_mem_nil, or_false] at hv
      rcases hv with rfl | rfl | rfl | rfl | rfl <;> exact ⟨_, by decide +kernel, rfl⟩
    obtain ⟨p, hp, rfl⟩ := hn
    have c2 : (0 : Int) < l.length := by omega
    have z0 := Int.emod_nonneg (r / 12) (show ((l.length : Nat) : Int) ≠ 0 by omega)
    have z1 := Int.emod_lt_of_pos (r / 12) c2
    have hset := set_ok (x := p) z0 z1
    obtain ⟨s, h1, h2⟩ := j2_ok (r := r) (m := m) (l := l.set (r / 12 % (l.length : Int)).toNat p) (set_le h hp) (by rw [List.length_set]; exact hl)
    refine ⟨s, ?_, h2⟩
    have hmd : dMod (.int (r / 12)) (.int (l.length : Int)) = .ok (.int (r / 12 % (l.length : Int))) := dMod_ok c2
    have c3 := c.2
    simp (disch := array_mem_dec) [p__law_text_j1, c.1, c2, c3, e, asLs, hmd, hset, -putR_ok, -List.map_set]
    rw [← c.1]
    exact h1
  · obtain ⟨s, h1, h2⟩ := j2_ok (r := r) (m := m) h hl
    refine ⟨s, ?_, h2⟩
    by_cases cm : m = 2
    · have c2 : ¬ (0 : Int) < l.length := by omega
      have c3 : ¬ 0 < l.length := by omega
      simp (disch := array_mem_dec) [p__law_text_j1, cm, c2, c3]
      rw [← cm]
      exact h1
    · simp (disch := array_mem_dec) [p__law_text_j1, cm, h1]
theorem text_ok {d : Int} : ∃ a : List Nat, f__law_text [.int d] = .ok (dS a) ∧ a.length ≤ 900000 := by
  obtain ⟨v, hv, e⟩ := @dIx_md [.int 1, .int 2, .int 3, .int 1, .int 15, .int 16, .int 17, .int 18, .int 12, .int 0] d 10 rfl (by decide)
  have hn : ∃ n : Nat, n ≤ 18 ∧ v = .int (n : Int) := by
    simp only [List.mem_cons, List.not_mem_nil, or_false] at hv
    rcases hv with rfl | rfl | rfl | rfl | rfl | rfl | rfl | rfl | rfl | rfl
    · exact ⟨1, by decide, rfl⟩
    · exact ⟨2, by decide, rfl⟩
    · exact ⟨3, by decide, rfl⟩
    · exact ⟨1, by decide, rfl⟩
    · exact ⟨15, by decide, rfl⟩
    · exact ⟨16, by decide, rfl⟩
    · exact ⟨17, by decide, rfl⟩
    · exact ⟨18, by decide, rfl⟩
    · exact ⟨12, by decide, rfl⟩
    · exact ⟨0, by decide, rfl⟩
  obtain ⟨n, hn, rfl⟩ := hn
  obtain ⟨ys, y1, y2, y3, hm⟩ := mapR_ex (f := fun x : Nat => (dDiv (.int (d / 10)) (.int ((x : Int) + 3))).bind fun t74 => (dMul (.int 131) (.int (x : Int))).bind fun a => (dAdd t74 a).bind fun a => f__law_name [a]) (h := D.str) (P := fun _ y => y.length ≤ 41) (xs := List.range n) fun x hx => by
    have := List.mem_range.mp hx
    obtain ⟨s, h1, h2⟩ := @name_ok (d / 10 / ((x : Int) + 3) + 131 * (x : Int))
    refine ⟨s, h2, ?_⟩
    simp (disch := array_mem_dec) [h1]
  have hyl : ys.length = n := by rw [y1, List.length_range]
  have hr := rng1 (n := n) (by omega)
  have hsz : ((List.range n).map fun i : Nat => D.int (i : Int)).length ≤ 16777216 := by simp; omega
  have hall : ∀ y ∈ ys, y.length ≤ 41 := fun y hy => by obtain ⟨_, _, h⟩ := y2 y hy; exact h
  have key : ∃ s, p__law_text (.int d) = .ok (.str s) ∧ s.length ≤ 1001 := by
    by_cases c : d / 10 % 12 = 1 ∧ 0 < n
    · have c2 : (0 : Int) < n := by omega
      have c3 := c.2
      have z0 := Int.emod_nonneg (d / 10 / 12) (show ((n : Nat) : Int) ≠ 0 by omega)
      have z1 := Int.emod_lt_of_pos (d / 10 / 12) c2
      have hset := set_ok (x := Str.ofString "") (l := ys) z0 (by rw [hyl]; exact z1)
      have hmd : dMod (.int (d / 10 / 12)) (.int (n : Int)) = .ok (.int (d / 10 / 12 % (n : Int))) := dMod_ok c2
      obtain ⟨s, h1, h2⟩ := j1_ok (r := d / 10) (m := d / 10 % 12) (l := ys.set (d / 10 / 12 % (n : Int)).toNat (Str.ofString "")) (set_le hall (by decide)) (by rw [List.length_set, hyl]; exact hn)
      rw [List.length_set, hyl] at h1
      refine ⟨s, ?_, h2⟩
      simp (disch := array_mem_dec) [p__law_text, e, hr, szR_ok hsz, hm, c.1, c2, c3, asLs, hmd, hset, -putR_ok, -List.map_set, -rng1_z]
      rw [← c.1]
      exact h1
    · obtain ⟨s, h1, h2⟩ := j1_ok (r := d / 10) (m := d / 10 % 12) hall (by rw [hyl]; exact hn)
      rw [hyl] at h1
      refine ⟨s, ?_, h2⟩
      by_cases cm : d / 10 % 12 = 1
      · have c2 : ¬ (0 : Int) < n := by omega
        have c3 : ¬ 0 < n := by omega
        rw [cm] at h1
        simp (disch := array_mem_dec) [p__law_text, e, hr, szR_ok hsz, hm, cm, c2, c3, h1, -rng1_z]
      · simp (disch := array_mem_dec) [p__law_text, e, hr, szR_ok hsz, hm, cm, h1, -rng1_z]
  obtain ⟨s, k1, k2⟩ := key
  refine ⟨s.cps.toList, ?_, by rw [strA_len]; omega⟩
  rw [← str_A]
  exact q__law_text k1
theorem first_fold : ∀ {ds : List Int}, foldF p__law_asks_first_b1 (ds.map D.int) () = .ok (.nx ())
  | [] => rfl
  | d :: ds => by
    obtain ⟨a, h1, h2⟩ := @text_ok d
    rw [List.map_cons, foldF_cons, first_b1 h2 h1, Res.bind_ok]
    exact first_fold
theorem first_ok {S : D} {ds : List Int} (h : f__law_draws [S, .int 40] = .ok (.lst (ds.map D.int))) : f__law_asks_first [S] = .ok (.bl true) := by
  refine q__law_asks_first ?_
  unfold p__law_asks_first
  simp only [Res.bind_ok, h, dItems_l, first_fold, Fl.all]
end Law
set_option Elab.async false
set_option linter.all false
set_option maxRecDepth 100000
set_option maxHeartbeats 4000000
namespace Law
open PySem L2 T
local macro_rules
  | `(tactic| array_mem_dec) => `(tactic| first
    | omega
    | with_reducible assumption
    | (simp; done)
    | (simp; omega)
    | (simp at *; omega)
    | (refine cm_ss ?_ ?_ ?_ ?_ <;> omega)
    | (refine cm_sw ?_ ?_ ?_ <;> first | assumption | omega)
    | (refine cm_ws ?_ ?_ ?_ <;> first | assumption | omega))
/-- a body -/
structure BOk (b : D) : Prop where
  nr : b.nref = true
  dat : ∀ f, D.dat (f + 3) b = true
  len : ∃ n : Nat, dLen [b] = .ok (.int (n : Int))
theorem eqb_comm {d e : D} (h : D.dat 60 d = true) (h' : D.dat 60 e = true) : d.eqb e = e.eqb d := by
  obtain ⟨p, hp, _⟩ := D.dat_py d 60 h
  obtain ⟨q, hq, _⟩ := D.dat_py e 60 h'
  rw [← D.eqb_py d e p q hp hq, ← D.eqb_py e d q p hq hp, PySem.W.eqv_comm]
section
variable {os : List D} {K B K2 B2 : D} {l l2 : Int} {i j : Nat}
theorem node_init {o : List D} {kd bd lk : D} : f_Node___init__ (o ++ [.ins 0 []]) [refD o.length, kd, bd, lk] = .ok .non (o ++ [.ins 0 [kd, bd, lk]]) := by
  have h0 : ∀ z : D, (o ++ [z])[o.length]? = some z := fun z => by simp
  simp (disch := array_mem_dec) [f_Node___init__, startR, m_Node___init__, h0, tab_kind, tab_body, tab_links, putN]
theorem with_body_ok {b : D} (h : os[i]? = some (.ins 0 [K, B, .int l])) : f_Node_with_body os [refD i, b] = .ok (refD os.length) (os ++ [.ins 0 [K, b, .int l]]) := by
  have h1 := @node_init os K b (.int l)
  simp (disch := array_mem_dec) [f_Node_with_body, startR, m_Node_with_body, h, h1, tab_kind, tab_links]
theorem with_links_ok {z : Int} (h : os[i]? = some (.ins 0 [K, B, .int l])) : f_Node_with_links os [refD i, .int z] = .ok (refD os.length) (os ++ [.ins 0 [K, B, .int z]]) := by
  have h1 := @node_init os K B (.int z)
  simp (disch := array_mem_dec) [f_Node_with_links, startR, m_Node_with_links, h, h1, tab_kind, tab_body]
theorem parts_ok (h : os[i]? = some (.ins 0 [K, B, .int l])) (hk : K.nref = true) (hb : B.nref = true) : f__law_parts os [refD i] = .ok (.tup [K, B, .int l]) os := by
  have h1 := nrR_ok hk
  have h2 := nrR_ok hb
  simp (disch := array_mem_dec) [f__law_parts, startR, m__law_parts, h, h1, h2, hk, hb, tab_kind, tab_body, tab_links]
theorem measure_ok {n : Nat} (h : os[i]? = some (.ins 0 [K, B, .int l])) (hb : B.nref = true) (hl : dLen [B] = .ok (.int (n : Int))) : f_Node_measure os [refD i] = .ok (.int (n : Int)) os := by
  simp (disch := array_mem_dec) [f_Node_measure, startR, m_Node_measure, h, hb, hl, tab_body]
theorem eq_ok (h : os[i]? = some (.ins 0 [K, B, .int l])) (h' : os[j]? = some (.ins 0 [K2, B2, .int l2])) (k1 : D.dat 60 K = true) (k2 : D.dat 60 K2 = true) (b1 : D.dat 60 B = true) (b2 : D.dat 60 B2 = true)
    (n1 : K.nref = true) (n2 : K2.nref = true) (n3 : B.nref = true) (n4 : B2.nref = true) : f_Node___eq__ os [refD i, refD j] = .ok (.bl (K.eqb K2 && (B.eqb B2 && decide (l = l2)))) os := by
  have e1 := dEq_d k1 k2
  have e2 := dEq_d b1 b2
  have hc : isClsS 0 (some os) (refD j) = true := by simp [h']
  cases c1 : K.eqb K2 with
  | false =>
    rw [c1] at e1
    simp (disch := array_mem_dec) [f_Node___eq__, startR, m_Node___eq__, isiS, h, h', hc, e1, n1, n2, n3, n4, tab_kind, tab_body, tab_links, -isClsS_ref, -dEq_same]
  | true =>
    rw [c1] at e1
    cases c2 : B.eqb B2 with
    | false =>
      rw [c2] at e2
      simp (disch := array_mem_dec) [f_Node___eq__, startR, m_Node___eq__, isiS, h, h', hc, e1, e2, n1, n2, n3, n4, tab_kind, tab_body, tab_links, -isClsS_ref, -dEq_same]
    | true =>
      rw [c2] at e2
      simp (disch := array_mem_dec) [f_Node___eq__, startR, m_Node___eq__, isiS, h, h', hc, e1, e2, n1, n2, n3, n4, tab_kind, tab_body, tab_links, -isClsS_ref, -dEq_same]
theorem eq_s {s : Str} (h : os[i]? = some (.ins 0 [K, B, .int l])) : f_Node___eq__ os [refD i, .str s] = .ok (.bl false) os := by
  have hc : isClsS 0 (some os) (.str s) = false := rfl
  simp (disch := array_mem_dec) [f_Node___eq__, startR, m_Node___eq__, isiS, h, hc]
theorem eq_t {s : List D} (h : os[i]? = some (.ins 0 [K, B, .int l])) : f_Node___eq__ os [refD i, .tup s] = .ok (.bl false) os := by
  have hc : isClsS 0 (some os) (.tup s) = false := rfl
  simp (disch := array_mem_dec) [f_Node___eq__, startR, m_Node___eq__, isiS, h, hc]
end
def kd3 : List D := [.str "file", .str "directory", .str "link"]
theorem ints_datA {b : List Int} : ∀ f, D.datA (f + 1) (b.map D.int) = true := fun f => by
  induction b with
  | nil => rfl
  | cons c b ih =>
    rw [List.map_cons, D.datA, ih]
    rfl
def prD (p : Str × Nat) : D := .tup [.str p.1, .int (p.2 : Int)]
theorem prs_datA {b : List (Str × Nat)} : ∀ f, D.datA (f + 2) (b.map prD) = true := fun f => by
  induction b with
  | nil => rfl
  | cons c b ih =>
    rw [List.map_cons, D.datA, ih]
    rfl
theorem bok_f {b : List Int} : BOk (.tup (b.map D.int)) := ⟨by simp [D.nref], fun f => ints_datA (f + 1), ⟨b.length, by simp⟩⟩
theorem bok_d {b : List (Str × Nat)} : BOk (.tup (b.map prD)) := ⟨by
  have : (b.map prD).all D.nref = true := by
    rw [List.all_map]
    exact List.all_eq_true.mpr fun _ _ => rfl
  simp [D.nref, this], fun f => prs_datA f, ⟨b.length, by simp⟩⟩
theorem bok_l {s : Str} (h : s.length ≤ 1000) : BOk (.str s) := ⟨rfl, fun f => rfl, ⟨s.length, by rw [dLen_s, if_pos (by rw [size_line]; omega)]⟩⟩
theorem body_f {d : Int} : ∃ b : List Int, f__law_body [.int d, .str "file"] = .ok (.tup (b.map D.int)) := by
  have h0 := Int.emod_nonneg d (show (7 : Int) ≠ 0 by decide)
  have h1 := Int.emod_lt_of_pos d (show (0 : Int) < 7 by decide)
  obtain ⟨n, hn⟩ := Int.eq_ofNat_of_zero_le h0
  have hr := rng1 (n := n) (by omega)
  have hm : mapR (fun x : Nat => (dMul (.int 41) (.int (x : Int))).bind fun a => (dAdd (.int (d / 3)) a).bind fun a => (dInt [a]).bind fun a => dMod a (.int 256)) (List.range n) = .ok ((List.range n).map fun j : Nat => D.int ((d / 3 + 41 * (j : Int)) % 256)) := mapR_ok fun j hj => by
    have := List.mem_range.mp hj
    simp (disch := array_mem_dec)
  have hsz : ((List.range n).map fun i : Nat => D.int (i : Int)).length ≤ 16777216 := by simp; omega
  refine ⟨(List.range n).map fun (j : Nat) => (d / 3 + 41 * (j : Int)) % 256, q__law_body ?_⟩
  simp (disch := array_mem_dec) [p__law_body, hn, hr, szR_ok hsz, hm, -rng1_z]
  try rfl
theorem body_l {d : Int} : ∃ s : Str, f__law_body [.int d, .str "link"] = .ok (.str s) ∧ s.length ≤ 1000 := by
  obtain ⟨v, hv, e⟩ := @dIx_md [.str "/a", .str "b/c", .str "/", .str "x"] d 4 rfl (by decide)
  have hn : ∃ p : Str, v = .str p ∧ p.length ≤ 1000 := by
    simp only [List.mem_cons, List.not_mem_nil, or_false] at hv
    rcases hv with rfl | rfl | rfl | rfl <;> exact ⟨_, rfl, by decide +kernel⟩
  obtain ⟨p, rfl, hp⟩ := hn
  have h1 : ¬ Str.ofString "link" = Str.ofString "file" := by decide
  exact ⟨p, q__law_body (by simp (disch := array_mem_dec) [p__law_body, e, h1]), hp⟩
def nm5 : List Str := ["a", "b.c", "d-", "e", "f"]
theorem body_d {d : Int} : ∃ b : List (Str × Nat), f__law_body [.int d, .str "directory"] = .ok (.tup (b.map prD)) ∧ b.length ≤ 4 := by
  have h0 := Int.emod_nonneg d (show (5 : Int) ≠ 0 by decide)
  have h1 := Int.emod_lt_of_pos d (show (0 : Int) < 5 by decide)
  obtain ⟨n, hn⟩ := Int.eq_ofNat_of_zero_le h0
  have hr := rng1 (n := n) (by omega)
  have hsz : ((List.range n).map fun i : Nat => D.int (i : Int)).length ≤ 16777216 := by simp; omega
  have k1 : ¬ Str.ofString "directory" = Str.ofString "file" := by decide
  have k2 : ¬ Str.ofString "directory" = Str.ofString "link" := by decide
  obtain ⟨ys, y1, _, _, hm⟩ := mapR_ex (f := fun x : Nat => (dIx (.lst [.str (Str.ofString "a"), .str (Str.ofString "b.c"), .str (Str.ofString "d-"), .str (Str.ofString "e"), .str (Str.ofString "f")]) (.int (x : Int))).bind fun a => (dMul (.int 3) (.int (x : Int))).bind fun a_1 => (dAdd (.int (d / 5)) a_1).bind fun a_2 => (dInt [a_2]).bind fun a_3 => (dMod a_3 (.int 256)).bind fun a_4 => Res.ok (.tup [a, a_4])) (h := prD) (P := fun _ _ => True) (xs := List.range n) fun x hx => by
    have := List.mem_range.mp hx
    obtain ⟨c, hc⟩ : ∃ c, nm5[x]? = some c := ⟨_, List.getElem?_eq_getElem (show x < nm5.length by simp [nm5]; omega)⟩
    have hix : dIx (.lst [.str (Str.ofString "a"), .str (Str.ofString "b.c"), .str (Str.ofString "d-"), .str (Str.ofString "e"), .str (Str.ofString "f")]) (.int (x : Int)) = .ok (.str c) := dIx_lz (h := D.str) (xs := nm5) rfl hc
    have z0 := Int.emod_nonneg (d / 5 + 3 * (x : Int)) (show (256 : Int) ≠ 0 by decide)
    obtain ⟨k, hk⟩ := Int.eq_ofNat_of_zero_le z0
    refine ⟨(c, k), True.intro, ?_⟩
    simp (disch := array_mem_dec) [hix, hk, prD]
  refine ⟨ys, q__law_body ?_, by rw [y1, List.length_range]; omega⟩
  simp (disch := array_mem_dec) [p__law_body, hn, hr, szR_ok hsz, hm, k1, k2, -rng1_z]
theorem body_ok {d : Int} {k : D} (hk : k ∈ kd3) : ∃ B, f__law_body [.int d, k] = .ok B ∧ BOk B := by
  simp only [kd3, List.mem_cons, List.not_mem_nil, or_false] at hk
  rcases hk with rfl | rfl | rfl
  · obtain ⟨b, h⟩ := @body_f d
    exact ⟨_, h, bok_f⟩
  · obtain ⟨b, h, _⟩ := @body_d d
    exact ⟨_, h, bok_d⟩
  · obtain ⟨b, h, hl⟩ := @body_l d
    exact ⟨_, h, bok_l hl⟩
end Law
set_option Elab.async false
set_option linter.all false
set_option maxRecDepth 100000
set_option maxHeartbeats 4000000
namespace Law
open PySem L2 T
local macro_rules
  | `(tactic| array_mem_dec) => `(tactic| first
    | omega
    | with_reducible assumption
    | (simp; done)
    | (simp; omega)
    | (simp at *; omega)
    | (refine cm_ss ?_ ?_ ?_ ?_ <;> omega)
    | (refine cm_sw ?_ ?_ ?_ <;> first | assumption | omega)
    | (refine cm_ws ?_ ?_ ?_ <;> first | assumption | omega))
def nR (DR : D) (os : List D) (x1 x2 x3 x4 x5 x6 : Option D) : Rho := [some DR, x1, x2, x3, x4, x5, x6, some (stoD os)]
theorem lst_at {o : List D} {a : D} : (o ++ [a])[o.length]? = some a := by simp
theorem lst_st {o : List D} {a b : D} {i : Nat} (h : o[i]? = some b) : (o ++ [a])[i]? = some b := by
  rw [List.getElem?_append_left (List.getElem?_eq_some_iff.mp h).1]
  exact h
theorem nodes_b1 {ds : List Int} {os : List D} {j : Nat} {x2 x3 x4 x5 x6 : Option D} (hl : ds.length = 10) (hj : j < 3) : ∃ os' y2 y3 y4 y5 y6, m__law_nodes_b1 (nR (.lst (ds.map D.int)) os (some (.int (j : Int))) x2 x3 x4 x5 x6) = .nx (nR (.lst (ds.map D.int)) os' (some (.int (j : Int))) y2 y3 y4 y5 y6) := by
  obtain ⟨ks, hks, hK, hkl⟩ : ∃ ks : Str, dIx (.lst [.str (Str.ofString "file"), .str (Str.ofString "directory"), .str (Str.ofString "link")]) (.int (j : Int)) = .ok (.str ks) ∧ D.str ks ∈ kd3 ∧ (ks = Str.ofString "link" ∨ ∃ k2 : Str, dIx (.lst [.str (Str.ofString "directory"), .str (Str.ofString "file")]) (.int (j : Int)) = .ok (.str k2) ∧ ks ≠ k2) := by
    rcases (by omega : j = 0 ∨ j = 1 ∨ j = 2) with rfl | rfl | rfl
    · exact ⟨Str.ofString "file", dIx_l0, by simp [kd3], .inr ⟨Str.ofString "directory", dIx_l0, by decide⟩⟩
    · exact ⟨Str.ofString "directory", dIx_l1, by simp [kd3], .inr ⟨Str.ofString "file", dIx_l1, by decide⟩⟩
    · exact ⟨Str.ofString "link", dIx_l2, by simp [kd3], .inl rfl⟩
  have g0 : ds[j]? = some (ds[j]'(by omega)) := List.getElem?_eq_getElem _
  have g3 : ds[j + 3]? = some (ds[j + 3]'(by omega)) := List.getElem?_eq_getElem _
  generalize ds[j]'(by omega) = d0 at g0
  generalize ds[j + 3]'(by omega) = d3 at g3
  have a0 : atI (ds.map D.int) (j : Int) = some (.int d0) := atI_get rfl (by rw [List.getElem?_map, g0]; rfl)
  have a3 : atI (ds.map D.int) ((j : Int) + 3) = some (.int d3) := atI_get (j := j + 3) (by omega) (by rw [List.getElem?_map, g3]; rfl)
  have x0 := dIx_l a0
  have x3' := dIx_l a3
  obtain ⟨B, hB, bB⟩ := @body_ok d0 _ hK
  obtain ⟨O, hO, bO⟩ := @body_ok d3 _ hK
  obtain ⟨nb, hnb⟩ := bB.len
  generalize hld : d0 / 1000 % 6 = l
  have n1 : (D.str ks).nref = true := rfl
  have n2 := bB.nr
  have n3 := bO.nr
  have t1 : D.dat 60 (D.str ks) = true := rfl
  have t2 : D.dat 60 B = true := bB.dat 57
  have t3 : D.dat 60 O = true := bO.dat 57
  have tt : ∀ (b : D) (z : Int), BOk b → dNe (.tup [.str ks, b, .int z]) (.tup [.str ks, b, .int z]) = .ok (.bl false) := fun b z hb => dNe_self (by
    show D.datA 59 [.str ks, b, .int z] = true
    simp only [D.datA, hb.dat 56]
    rfl)
  have tB := fun z => tt B z bB
  have tO := fun z => tt O z bO
  have hOB := dEq_d t3 t2
  have hcm := eqb_comm t3 t2
  have ksf : (D.str ks).eqb (D.str ks) = true := D.dat_self _ 60 t1
  have Bsf : B.eqb B = true := D.dat_self _ 60 t2
  obtain ⟨o1, q1⟩ : ∃ o, o = os ++ [D.ins 0 [.str ks, B, .int l]] := ⟨_, rfl⟩
  have e1 := @node_init os (.str ks) B (.int l)
  rw [← q1] at e1
  have i1 : o1[os.length]? = some (.ins 0 [.str ks, B, .int l]) := by rw [q1]; exact lst_at
  have p1 := parts_ok i1 n1 n2
  obtain ⟨o2, q2⟩ : ∃ o, o = o1 ++ [D.ins 0 [.str ks, B, .int 1]] := ⟨_, rfl⟩
  have e2 := @node_init o1 (.str ks) B (.int 1)
  rw [← q2] at e2
  have i2 : o2[os.length]? = some (.ins 0 [.str ks, B, .int l]) := by rw [q2]; exact lst_st i1
  have j2 : o2[o1.length]? = some (.ins 0 [.str ks, B, .int 1]) := by rw [q2]; exact lst_at
  have p2 := parts_ok j2 n1 n2
  have m2 := measure_ok i2 n2 hnb
  obtain ⟨o3, q3⟩ : ∃ o, o = o2 ++ [D.ins 0 [.str ks, O, .int l]] := ⟨_, rfl⟩
  have e3 := with_body_ok (b := O) i2
  rw [← q3] at e3
  have i3 : o3[os.length]? = some (.ins 0 [.str ks, B, .int l]) := by rw [q3]; exact lst_st i2
  have j3 : o3[o2.length]? = some (.ins 0 [.str ks, O, .int l]) := by rw [q3]; exact lst_at
  have p3 := parts_ok j3 n1 n3
  obtain ⟨o4, q4⟩ : ∃ o, o = o3 ++ [D.ins 0 [.str ks, B, .int (l + 1)]] := ⟨_, rfl⟩
  have e4 := with_links_ok (z := l + 1) i3
  rw [← q4] at e4
  have i4 : o4[os.length]? = some (.ins 0 [.str ks, B, .int l]) := by rw [q4]; exact lst_st i3
  have j4 : o4[o3.length]? = some (.ins 0 [.str ks, B, .int (l + 1)]) := by rw [q4]; exact lst_at
  have p4 := parts_ok j4 n1 n2
  have p4' := parts_ok i4 n1 n2
  obtain ⟨o5, q5⟩ : ∃ o, o = o4 ++ [D.ins 0 [.str ks, O, .int l]] := ⟨_, rfl⟩
  have e5 := @node_init o4 (.str ks) O (.int l)
  rw [← q5] at e5
  have i5 : o5[os.length]? = some (.ins 0 [.str ks, B, .int l]) := by rw [q5]; exact lst_st i4
  have j5 : o5[o4.length]? = some (.ins 0 [.str ks, O, .int l]) := by rw [q5]; exact lst_at
  have r5 := eq_ok i5 j5 t1 t1 t2 t3 n1 n1 n2 n3
  rw [ksf, Bool.true_and, decide_eq_true rfl, Bool.and_true, ← hcm] at r5
  obtain ⟨o6, q6⟩ : ∃ o, o = o5 ++ [D.ins 0 [.str ks, B, .int (l + 1)]] := ⟨_, rfl⟩
  have e6 := with_links_ok (z := l + 1) i5
  rw [← q6] at e6
  have i6 : o6[os.length]? = some (.ins 0 [.str ks, B, .int l]) := by rw [q6]; exact lst_st i5
  have j6 : o6[o5.length]? = some (.ins 0 [.str ks, B, .int (l + 1)]) := by rw [q6]; exact lst_at
  have r6 := eq_ok i6 j6 t1 t1 t2 t2 n1 n1 n2 n2
  rw [decide_eq_false (show ¬ l = l + 1 by omega), Bool.and_false, Bool.and_false] at r6
  obtain ⟨o7, q7⟩ : ∃ o, o = o6 ++ [D.ins 0 [.str ks, B, .int l]] := ⟨_, rfl⟩
  have e7 := @node_init o6 (.str ks) B (.int l)
  rw [← q7] at e7
  have i7 : o7[os.length]? = some (.ins 0 [.str ks, B, .int l]) := by rw [q7]; exact lst_st i6
  have j7 : o7[o6.length]? = some (.ins 0 [.str ks, B, .int l]) := by rw [q7]; exact lst_at
  have r7 := eq_ok i7 j7 t1 t1 t2 t2 n1 n1 n2 n2
  rw [ksf, Bsf, decide_eq_true rfl, Bool.and_true, Bool.and_true] at r7
  have r8 := eq_t (s := [.str ks, B, .int l]) i7
  have r9 := eq_s (s := ks) i7
  have hlz : D.dat 60 (.tup []) = true := rfl
  have hemp := dEq_d t2 hlz
  rcases hkl with rfl | ⟨k2, hk2, hne⟩
  · refine ⟨o7, some (.str (Str.ofString "link")), some B, some O, some (.int l), some (refD os.length), ?_⟩
    unfold nR
    simp (disch := array_mem_dec) [m__law_nodes_b1, hks, a0, a3, x0, x3', hB, hO, hld, hnb, e1, e2, e3, e4, e5, e6, e7, i1, i2, i3, i4, i5, i6, i7, j2, j3, j4, j5, j6, j7, p1, p2, p3, p4, p4', m2, r5, r6, r7, r8, r9, tB, tO, hOB, eqS, okArgS, callR, n1, n2, n3]
  · have k3 : (D.str ks).eqb (D.str k2) = false := by
      have := dEq_s (s := ks) (t := k2)
      rw [dEq_d rfl rfl, decide_eq_false hne] at this
      exact D.bl.inj (Res.ok.inj this)
    have hkl : ¬ ks = Str.ofString "link" := by
      intro z
      rcases (by omega : j = 0 ∨ j = 1 ∨ j = 2) with rfl | rfl | rfl
      · rw [show ((0 : Nat) : Int) = 0 from rfl, dIx_l0] at hks
        rw [← D.str.inj (Res.ok.inj hks)] at z
        exact absurd z (by decide)
      · rw [show ((1 : Nat) : Int) = 1 from rfl, dIx_l1] at hks
        rw [← D.str.inj (Res.ok.inj hks)] at z
        exact absurd z (by decide)
      · have : dIx (.lst [.str (Str.ofString "directory"), .str (Str.ofString "file")]) (.int ((2 : Nat) : Int)) = .ok (.str k2) → False := by
          intro w
          cases w
        exact this hk2
    cases hbe : B.eqb (.tup []) with
    | false =>
      rw [hbe] at hemp
      refine ⟨o7, some (.str ks), some B, some O, some (.int l), some (refD os.length), ?_⟩
      unfold nR
      simp (disch := array_mem_dec) [m__law_nodes_b1, hks, a0, a3, x0, x3', hB, hO, hld, hnb, e1, e2, e3, e4, e5, e6, e7, i1, i2, i3, i4, i5, i6, i7, j2, j3, j4, j5, j6, j7, p1, p2, p3, p4, p4', m2, r5, r6, r7, r8, r9, tB, tO, hOB, eqS, okArgS, callR, n1, n2, n3, hkl, hemp]
    | true =>
      rw [hbe] at hemp
      obtain ⟨o8, q8⟩ : ∃ o, o = o7 ++ [D.ins 0 [.str k2, .tup [], .int l]] := ⟨_, rfl⟩
      have e8 := @node_init o7 (.str k2) (.tup []) (.int l)
      rw [← q8] at e8
      have i8 : o8[os.length]? = some (.ins 0 [.str ks, B, .int l]) := by rw [q8]; exact lst_st i7
      have j8 : o8[o7.length]? = some (.ins 0 [.str k2, .tup [], .int l]) := by rw [q8]; exact lst_at
      have s8 := eq_ok i8 j8 t1 (show D.dat 60 (D.str k2) = true from rfl) t2 hlz n1 rfl n2 rfl
      rw [k3, Bool.false_and] at s8
      refine ⟨o8, some (.str ks), some B, some O, some (.int l), some (refD os.length), ?_⟩
      unfold nR
      simp (disch := array_mem_dec) [m__law_nodes_b1, hks, a0, a3, x0, x3', hB, hO, hld, hnb, e1, e2, e3, e4, e5, e6, e7, i1, i2, i3, i4, i5, i6, i7, j2, j3, j4, j5, j6, j7, p1, p2, p3, p4, p4', m2, r5, r6, r7, r8, r9, tB, tO, hOB, eqS, okArgS, callR, n1, n2, n3, hkl, hemp, hk2, e8, i8, j8, s8]
end Law
set_option Elab.async false
set_option linter.all false
set_option maxRecDepth 100000
set_option maxHeartbeats 4000000
namespace Law
open PySem L2 T
local macro_rules
  | `(tactic| array_mem_dec) => `(tactic| first
    | omega
    | with_reducible assumption
    | (simp; done)
    | (simp; omega)
    | (simp at *; omega)
    | (refine cm_ss ?_ ?_ ?_ ?_ <;> omega)
    | (refine cm_sw ?_ ?_ ?_ <;> first | assumption | omega)
    | (refine cm_ws ?_ ?_ ?_ <;> first | assumption | omega))
theorem nodes_ok {ds : List Int} {os : List D} (hl : ds.length = 10) : ∃ os', f__law_nodes os [.lst (ds.map D.int)] = .ok (.bl true) os' := by
  have loop : ∀ (l : List Nat) (os : List D) (x1 x2 x3 x4 x5 x6 : Option D), (∀ j ∈ l, j < 3) → ∃ os' y1 y2 y3 y4 y5 y6, T.forM (bNm 1) m__law_nodes_b1 (l.map fun (j : Nat) => D.int (j : Int)) (nR (.lst (ds.map D.int)) os x1 x2 x3 x4 x5 x6) = .nx (nR (.lst (ds.map D.int)) os' y1 y2 y3 y4 y5 y6) := by
    intro l
    induction l with
    | nil => exact fun os x1 x2 x3 x4 x5 x6 _ => ⟨os, x1, x2, x3, x4, x5, x6, rfl⟩
    | cons j l ih =>
      intro os x1 x2 x3 x4 x5 x6 hm
      obtain ⟨o1, y2, y3, y4, y5, y6, e⟩ := nodes_b1 (os := os) (x2 := x2) (x3 := x3) (x4 := x4) (x5 := x5) (x6 := x6) hl (hm j (List.mem_cons_self ..))
      obtain ⟨o2, z1, z2, z3, z4, z5, z6, ih⟩ := ih o1 (some (.int (j : Int))) y2 y3 y4 y5 y6 fun i hi => hm i (List.mem_cons_of_mem _ hi)
      refine ⟨o2, z1, z2, z3, z4, z5, z6, ?_⟩
      rw [List.map_cons, T.forM]
      show (match m__law_nodes_b1 (nR (.lst (ds.map D.int)) os (some (.int (j : Int))) x2 x3 x4 x5 x6) with | .nx ρ2 => T.forM (bNm 1) m__law_nodes_b1 (l.map fun (j : Nat) => D.int (j : Int)) ρ2 | .ct ρ2 => T.forM (bNm 1) m__law_nodes_b1 (l.map fun (j : Nat) => D.int (j : Int)) ρ2 | .bk ρ2 => .nx ρ2 | o => o) = _
      rw [e]
      exact ih
  obtain ⟨os', y1, y2, y3, y4, y5, y6, e⟩ := loop (List.range 3) os none none none none none none fun j hj => List.mem_range.mp hj
  have hr : dRng1 [.int 3] = .ok ((List.range 3).map fun (i : Nat) => D.int (i : Int)) := rng1 (n := 3) (by omega)
  unfold nR at e
  generalize D.lst (ds.map D.int) = DR at e ⊢
  refine ⟨os', ?_⟩
  simp (disch := array_mem_dec) [f__law_nodes, startR, m__law_nodes, hr, e, -rng1_z, -List.map_map]
def tr0 (n : Nat) : List D := [.ins 1 [refD (n + 1), refD (n + 3)], .dct [(.int 0, refD (n + 2))], .ins 0 [.str "directory", .tup [], .int 1], .lst (List.replicate 16 .non)]
theorem tree_init {o : List D} : f_FileTree___init__ (o ++ [.ins 1 []]) [refD o.length] = .ok .non (o ++ tr0 o.length) := by
  have h0 : ∀ z : D, (o ++ [z])[o.length]? = some z := fun z => by simp
  have h1 : ∀ z y : D, (o ++ [z, y])[o.length]? = some z := fun z y => by simp
  have h2 : ∀ z y x : D, (o ++ [z, y, x])[o.length]? = some z := fun z y x => by simp
  have h3 : ∀ z y x w : D, (o ++ [z, y, x, w])[o.length]? = some z := fun z y x w => by simp
  have g2 : ∀ z y x : D, (o ++ [z, y, x])[o.length + 1]? = some y := fun z y x => by simp
  have hi := @node_init (o ++ [.ins 1 [], .dct []]) (.str "directory") (.tup []) (.int 1)
  have e1 : (o ++ [D.ins 1 [], D.dct []]).length = o.length + 2 := by simp
  rw [e1] at hi
  simp only [List.append_assoc, List.cons_append, List.nil_append] at hi
  have s1 : ∀ z y x w : D, (o ++ [z, y, x]).set (o.length + 1) w = o ++ [z, w, x] := fun z y x w => by simp
  have s0 : ∀ z y x w : D, (o ++ [z, y, x]).set o.length w = o ++ [w, y, x] := fun z y x w => by simp
  have s3 : ∀ z y x v w : D, (o ++ [z, y, x, v]).set o.length w = o ++ [w, y, x, v] := fun z y x v w => by simp
  have hr : dRep (.lst [.non]) (.int 16) = .ok (List.replicate 16 .non) := rfl
  have hn : (List.replicate 16 D.non).all D.nref = true := rfl
  simp (disch := array_mem_dec) [f_FileTree___init__, startR, m_FileTree___init__, h0, h1, h2, h3, g2, hi, e1, s0, s1, s3, tab_nodes, tab_handles, putN, d_HANDLES, hr, hn, keyD, tr0, -List.reduceReplicate]
/-- what a copy adds -/
def cpL (n : Nat) (kvs : List (D × D)) (hs : List D) : List D := [.ins 1 [refD (n + 4), refD (n + 5)], .dct [(.int 0, refD (n + 2))], .ins 0 [.str "directory", .tup [], .int 1], .lst (List.replicate 16 .non), .dct kvs, .lst hs]
theorem copied_ok {os : List D} {t nd hd : Nat} {kvs : List (D × D)} {hs : List D} (h : os[t]? = some (.ins 1 [refD nd, refD hd])) (hk : os[nd]? = some (.dct kvs)) (hh : os[hd]? = some (.lst hs)) (hkd : keyedD kvs = true) (hn : hs.all D.nref = true) (hz : hs.length ≤ 1000) :
    f_FileTree_copied os [refD t] = .ok (refD os.length) (os ++ cpL os.length kvs hs) := by
  have hti := @tree_init os
  have st : ∀ {i : Nat} {b : D} (l : List D), os[i]? = some b → (os ++ l)[i]? = some b := fun l h => by
    rw [List.getElem?_append_left (List.getElem?_eq_some_iff.mp h).1]
    exact h
  obtain ⟨s0, q0⟩ : ∃ o, o = os ++ tr0 os.length := ⟨_, rfl⟩
  rw [← q0] at hti
  have a1 : s0[t]? = some (.ins 1 [refD nd, refD hd]) := by rw [q0]; exact st _ h
  have a2 : s0[nd]? = some (.dct kvs) := by rw [q0]; exact st _ hk
  have a3 : s0[os.length]? = some (.ins 1 [refD (os.length + 1), refD (os.length + 3)]) := by rw [q0]; simp [tr0]
  have l0 : s0.length = os.length + 4 := by rw [q0]; simp [tr0]
  obtain ⟨s1, q1⟩ : ∃ o, o = (s0 ++ [D.dct kvs]).set os.length (.ins 1 [refD (os.length + 4), refD (os.length + 3)]) := ⟨_, rfl⟩
  have b0 : (s0 ++ [D.dct kvs])[os.length]? = some (.ins 1 [refD (os.length + 1), refD (os.length + 3)]) := lst_st a3
  have b1 : s1[t]? = some (.ins 1 [refD nd, refD hd]) := by
    rw [q1, q0]
    have ht := (List.getElem?_eq_some_iff.mp h).1
    rw [List.getElem?_set_ne (by omega), List.append_assoc]
    exact st _ h
  have b2 : s1[hd]? = some (.lst hs) := by
    rw [q1, q0]
    have ht := (List.getElem?_eq_some_iff.mp hh).1
    rw [List.getElem?_set_ne (by omega), List.append_assoc]
    exact st _ hh
  have b3 : s1[os.length]? = some (.ins 1 [refD (os.length + 4), refD (os.length + 3)]) := by
    rw [q1, List.getElem?_set_self (by simp [l0]; omega)]
  have l1 : s1.length = os.length + 5 := by rw [q1]; simp [l0]
  have b4 : (s1 ++ [D.lst hs])[os.length]? = some (.ins 1 [refD (os.length + 4), refD (os.length + 3)]) := lst_st b3
  have fin : (s1 ++ [D.lst hs]).set os.length (.ins 1 [refD (os.length + 4), refD (os.length + 5)]) = os ++ cpL os.length kvs hs := by
    rw [q1, q0]
    simp [tr0, cpL, List.set_append]
  have hsz : hs.length ≤ 16777216 := by omega
  clear q0 st
  obtain ⟨s01, q01⟩ : ∃ o, o = s0 ++ [D.dct kvs] := ⟨_, rfl⟩
  obtain ⟨s11, q11⟩ : ∃ o, o = s1 ++ [D.lst hs] := ⟨_, rfl⟩
  rw [← q01] at b0 q1
  rw [← q11] at b4 fin
  have q01' := q01.symm
  have q11' := q11.symm
  have q1' := q1.symm
  simp (disch := array_mem_dec) [f_FileTree_copied, startR, m_FileTree_copied, hti, a1, a2, a3, l0, q01', b0, q1', q11', dcopyM, kvsAt, hkd, b1, b2, b3, b4, l1, hn, szR_ok hsz, fin, tab_nodes, tab_handles, putN]
end Law
set_option Elab.async false
set_option linter.all false
set_option maxRecDepth 100000
set_option maxHeartbeats 4000000
namespace Law
open PySem L2 T
local macro_rules
  | `(tactic| array_mem_dec) => `(tactic| first
    | omega
    | with_reducible assumption
    | (simp; done)
    | (simp; omega)
    | (simp at *; omega)
    | (refine cm_ss ?_ ?_ ?_ ?_ <;> omega)
    | (refine cm_sw ?_ ?_ ?_ <;> first | assumption | omega)
    | (refine cm_ws ?_ ?_ ?_ <;> first | assumption | omega))
def lkD (es : List (Str × Nat)) (x : Str) : D := match es.find? (fun p => decide (p.1 = x)) with
  | some p => .int (p.2 : Int)
  | none => .non
section
variable {os : List D} {t nd hd n a : Nat} {kvs : List (D × D)} {es : List (Str × Nat)} {x : Str} {K : D} {l : Int}
theorem entry_ok (h : os[t]? = some (.ins 1 [refD nd, refD hd])) (hk : os[nd]? = some (.dct kvs)) (hl : lookD kvs (.inl (n : Int)) = some (refD a)) (ha : os[a]? = some (.ins 0 [K, .tup (es.map prD), .int l])) : f_FileTree_entry os [refD t, .int (n : Int), .str x] = .ok (lkD es x) os := by
  have loop : ∀ (es : List (Str × Nat)) (x3 x4 : Option D), ∃ x3' x4', T.forM (bTp 2 (bCons (bNm 3) (bCons (bNm 4) bNil))) m_FileTree_entry_b1 (es.map prD) [some (refD t), some (.int (n : Int)), some (.str x), x3, x4, some (stoD os)] = (match es.find? (fun p => decide (p.1 = x)) with
      | some p => .rl (.int (p.2 : Int)) [some (refD t), some (.int (n : Int)), some (.str x), x3', x4', some (stoD os)]
      | none => .nx [some (refD t), some (.int (n : Int)), some (.str x), x3', x4', some (stoD os)]) := by
    intro es
    induction es with
    | nil => exact fun x3 x4 => ⟨x3, x4, rfl⟩
    | cons p es ih =>
      intro x3 x4
      by_cases ep : p.1 = x
      · refine ⟨some (.str p.1), some (.int p.2), ?_⟩
        have : (p :: es).find? (fun p => decide (p.1 = x)) = some p := by simp [ep]
        rw [this]
        simp (disch := array_mem_dec) [T.forM, m_FileTree_entry_b1, prD, ep]
      · obtain ⟨x3', x4', ih⟩ := ih (some (.str p.1)) (some (.int p.2))
        have : (p :: es).find? (fun p => decide (p.1 = x)) = es.find? (fun p => decide (p.1 = x)) := by simp [ep]
        rw [this]
        refine ⟨x3', x4', ?_⟩
        rw [← ih]
        simp (disch := array_mem_dec) [T.forM, m_FileTree_entry_b1, prD, ep]
  obtain ⟨x3, x4, e⟩ := loop es none none
  have hn : (D.tup (es.map prD)).nref = true := bok_d.nr
  have hnr := nrR_ok hn
  have hky : keyOf (.int (n : Int)) = some (.inl (n : Int)) := rfl
  unfold lkD
  cases hf : es.find? (fun p => decide (p.1 = x)) with
  | some p =>
    rw [hf] at e
    simp (disch := array_mem_dec) [f_FileTree_entry, startR, m_FileTree_entry, h, hk, hl, ha, hky, hnr, e, dkR2, tab_nodes, tab_body]
  | none =>
    rw [hf] at e
    simp (disch := array_mem_dec) [f_FileTree_entry, startR, m_FileTree_entry, h, hk, hl, ha, hky, hnr, e, dkR2, tab_nodes, tab_body]
def eR (t : Nat) (N : D) (B : D) (os : List D) (x3 x4 x5 : Option D) : Rho := [some (refD t), some N, some B, x3, x4, x5, some (stoD os)]
theorem ents_b2 {N B : D} : ∀ (es : List (Str × Nat)) (v : D) (x5 : Option D), (es.map (·.1)).Nodup → ∃ x5', T.forM (bNm 5) m__law_entries_b2 (es.map prD) (eR t N B os (some (.str x)) (some v) x5) = .nx (eR t N B os (some (.str x)) (some (match es.find? (fun p => decide (p.1 = x)) with | some p => .int (p.2 : Int) | none => v)) x5')
  | [], v, x5, _ => ⟨x5, rfl⟩
  | p :: es, v, x5, hn => by
    rw [List.map_cons, List.nodup_cons] at hn
    by_cases ep : p.1 = x
    · obtain ⟨x5', ih⟩ := ents_b2 (N := N) (B := B) es (.int (p.2 : Int)) (some (prD p)) hn.2
      have hnone : es.find? (fun p => decide (p.1 = x)) = none := by
        rw [List.find?_eq_none]
        intro q hq z
        have : q.1 = x := of_decide_eq_true z
        exact hn.1 (by rw [ep, ← this]; exact List.mem_map_of_mem hq)
      rw [hnone] at ih
      refine ⟨x5', ?_⟩
      have : (p :: es).find? (fun p => decide (p.1 = x)) = some p := by simp [ep]
      rw [this, List.map_cons]
      have e : m__law_entries_b2 (eR t N B os (some (.str x)) (some v) (some (prD p))) = .nx (eR t N B os (some (.str x)) (some (.int (p.2 : Int))) (some (prD p))) := by
        simp (disch := array_mem_dec) [m__law_entries_b2, eR, prD, ep]
      rw [T.forM]
      show (match m__law_entries_b2 (eR t N B os (some (.str x)) (some v) (some (prD p))) with | .nx ρ2 => T.forM (bNm 5) m__law_entries_b2 (es.map prD) ρ2 | .ct ρ2 => T.forM (bNm 5) m__law_entries_b2 (es.map prD) ρ2 | .bk ρ2 => .nx ρ2 | o => o) = _
      rw [e]
      exact ih
    · obtain ⟨x5', ih⟩ := ents_b2 (N := N) (B := B) es v (some (prD p)) hn.2
      refine ⟨x5', ?_⟩
      have : (p :: es).find? (fun p => decide (p.1 = x)) = es.find? (fun p => decide (p.1 = x)) := by simp [ep]
      rw [this, List.map_cons]
      have e : m__law_entries_b2 (eR t N B os (some (.str x)) (some v) (some (prD p))) = .nx (eR t N B os (some (.str x)) (some v) (some (prD p))) := by
        simp (disch := array_mem_dec) [m__law_entries_b2, eR, prD, ep]
      rw [T.forM]
      show (match m__law_entries_b2 (eR t N B os (some (.str x)) (some v) (some (prD p))) with | .nx ρ2 => T.forM (bNm 5) m__law_entries_b2 (es.map prD) ρ2 | .ct ρ2 => T.forM (bNm 5) m__law_entries_b2 (es.map prD) ρ2 | .bk ρ2 => .nx ρ2 | o => o) = _
      rw [e]
      exact ih
theorem ne_same (es : List (Str × Nat)) (x : Str) : dNe (lkD es x) (lkD es x) = .ok (.bl false) := by
  unfold lkD
  split <;> exact dNe_self rfl
theorem nr_lk (es : List (Str × Nat)) (x : Str) : (lkD es x).nref = true := by
  unfold lkD
  split <;> rfl
theorem ents_b1 {B : D} (h : os[t]? = some (.ins 1 [refD nd, refD hd])) (hk : os[nd]? = some (.dct kvs)) (hl : lookD kvs (.inl (n : Int)) = some (refD a)) (ha : os[a]? = some (.ins 0 [K, .tup (es.map prD), .int l])) (hnd : (es.map (·.1)).Nodup) (hB : B.nref = true) (hi : dItems B = .ok (es.map prD)) {x4 x5 : Option D} : ∃ x4' x5', m__law_entries_b1 (eR t (.int (n : Int)) B os (some (.str x)) x4 x5) = .nx (eR t (.int (n : Int)) B os (some (.str x)) x4' x5') := by
  obtain ⟨x5', e⟩ := ents_b2 (t := t) (os := os) (x := x) (N := .int (n : Int)) (B := B) es .non x5 hnd
  have he := entry_ok (x := x) h hk hl ha
  have hv : (match es.find? (fun p => decide (p.1 = x)) with | some p => D.int (p.2 : Int) | none => .non) = lkD es x := rfl
  rw [hv] at e
  have h1 := ne_same es x
  have h2 := nrR_ok (nr_lk es x)
  have h3 := nrR_ok hB
  refine ⟨some (lkD es x), x5', ?_⟩
  generalize lkD es x = v at e he h1 h2
  unfold eR at e ⊢
  simp (disch := array_mem_dec) [m__law_entries_b1, h3, hi, e, he, h1, h2, h]
theorem entries_ok {B : D} (h : os[t]? = some (.ins 1 [refD nd, refD hd])) (hk : os[nd]? = some (.dct kvs)) (hl : lookD kvs (.inl (n : Int)) = some (refD a)) (ha : os[a]? = some (.ins 0 [K, .tup (es.map prD), .int l])) (hnd : (es.map (·.1)).Nodup) (hB : B.nref = true) (hi : dItems B = .ok (es.map prD)) : f__law_entries os [refD t, .int (n : Int), B] = .ok (.bl true) os := by
  have loop : ∀ (xs : List Str) (x3 x4 x5 : Option D), ∃ x3' x4' x5', T.forM (bNm 3) m__law_entries_b1 (xs.map D.str) (eR t (.int (n : Int)) B os x3 x4 x5) = .nx (eR t (.int (n : Int)) B os x3' x4' x5') := by
    intro xs
    induction xs with
    | nil => exact fun x3 x4 x5 => ⟨x3, x4, x5, rfl⟩
    | cons x xs ih =>
      intro x3 x4 x5
      obtain ⟨x4', x5', e⟩ := ents_b1 (x := x) h hk hl ha hnd hB hi (x4 := x4) (x5 := x5)
      obtain ⟨y3, y4, y5, ih⟩ := ih (some (.str x)) x4' x5'
      refine ⟨y3, y4, y5, ?_⟩
      rw [List.map_cons, T.forM]
      show (match m__law_entries_b1 (eR t (.int (n : Int)) B os (some (.str x)) x4 x5) with | .nx ρ2 => T.forM (bNm 3) m__law_entries_b1 (xs.map D.str) ρ2 | .ct ρ2 => T.forM (bNm 3) m__law_entries_b1 (xs.map D.str) ρ2 | .bk ρ2 => .nx ρ2 | o => o) = _
      rw [e]
      exact ih
  obtain ⟨x3, x4, x5, e⟩ := loop ["a", "b.c", "d-", "e", "f", "g"] none none none
  have e0 : (["a", "b.c", "d-", "e", "f", "g"] : List Str).map D.str = [.str (Str.ofString "a"), .str (Str.ofString "b.c"), .str (Str.ofString "d-"), .str (Str.ofString "e"), .str (Str.ofString "f"), .str (Str.ofString "g")] := rfl
  rw [e0] at e
  unfold eR at e
  simp (disch := array_mem_dec) [f__law_entries, startR, m__law_entries, e]
end
end Law
set_option Elab.async false
set_option linter.all false
set_option maxRecDepth 100000
set_option maxHeartbeats 4000000
namespace Law
open PySem L2 T
local macro_rules
  | `(tactic| array_mem_dec) => `(tactic| first
    | omega
    | with_reducible assumption
    | (simp; done)
    | (simp; omega)
    | (simp at *; omega)
    | (refine cm_ss ?_ ?_ ?_ ?_ <;> omega)
    | (refine cm_sw ?_ ?_ ?_ <;> first | assumption | omega)
    | (refine cm_ws ?_ ?_ ?_ <;> first | assumption | omega))
def sortK (ks : List Nat) : List Nat := ks.mergeSort fun i j => leG (.int (i : Int)) (.int (j : Int))
theorem sortK_perm {ks : List Nat} : (sortK ks).Perm ks := List.mergeSort_perm ..
theorem ints_dat : ∀ {l : List Nat}, D.datA 60 (l.map fun (n : Nat) => D.int (n : Int)) = true
  | [] => rfl
  | n :: l => by
    rw [List.map_cons, D.datA, ints_dat (l := l), Bool.and_true]
    rfl
theorem ints_alike {l : List Nat} : alikeG (l.map fun (n : Nat) => D.int (n : Int)) = true := by
  unfold alikeG
  rw [List.all_eq_true]
  intro d hd
  rw [List.all_eq_true]
  intro e he
  obtain ⟨p, _, rfl⟩ := List.mem_map.mp hd
  obtain ⟨q, _, rfl⟩ := List.mem_map.mp he
  rfl
theorem ints_sortable {l : List Nat} : sortableG (l.map fun (n : Nat) => D.int (n : Int)) = true := by
  unfold sortableG
  rw [Bool.or_eq_true]
  refine .inr (List.all_eq_true.mpr fun d hd => ?_)
  obtain ⟨p, _, rfl⟩ := List.mem_map.mp hd
  rfl
theorem sort_ints {l : List Nat} : sortG (l.map fun (n : Nat) => D.int (n : Int)) = (sortK l).map fun (n : Nat) => D.int (n : Int) := by
  unfold sortG sortK
  rw [List.map_mergeSort]
  intros
  rfl
theorem sorted_lst {ks : List Nat} : dSortedG [.lst (ks.map fun (n : Nat) => D.int (n : Int))] = .ok ((sortK ks).map fun (n : Nat) => D.int (n : Int)) := by
  unfold dSortedG
  refine (if_pos ⟨ints_dat, ints_alike, ints_sortable⟩).trans ?_
  rw [sort_ints]
theorem body_d2 {d : Int} : ∃ b : List (Str × Nat), f__law_body [.int d, .str "directory"] = .ok (.tup (b.map prD)) ∧ (b.map (·.1)).Nodup := by
  have h0 := Int.emod_nonneg d (show (5 : Int) ≠ 0 by decide)
  have h1 := Int.emod_lt_of_pos d (show (0 : Int) < 5 by decide)
  obtain ⟨n, hn⟩ := Int.eq_ofNat_of_zero_le h0
  have hr := rng1 (n := n) (by omega)
  have hsz : ((List.range n).map fun i : Nat => D.int (i : Int)).length ≤ 16777216 := by simp; omega
  have k1 : ¬ Str.ofString "directory" = Str.ofString "file" := by decide
  have k2 : ¬ Str.ofString "directory" = Str.ofString "link" := by decide
  obtain ⟨ys, y1, _, y3, hm⟩ := mapR_ex (f := fun x : Nat => (dIx (.lst [.str (Str.ofString "a"), .str (Str.ofString "b.c"), .str (Str.ofString "d-"), .str (Str.ofString "e"), .str (Str.ofString "f")]) (.int (x : Int))).bind fun a => (dMul (.int 3) (.int (x : Int))).bind fun a_1 => (dAdd (.int (d / 5)) a_1).bind fun a_2 => (dInt [a_2]).bind fun a_3 => (dMod a_3 (.int 256)).bind fun a_4 => Res.ok (.tup [a, a_4])) (h := prD) (P := fun x y => nm5[x]? = some y.1) (xs := List.range n) fun x hx => by
    have := List.mem_range.mp hx
    obtain ⟨c, hc⟩ : ∃ c, nm5[x]? = some c := ⟨_, List.getElem?_eq_getElem (show x < nm5.length by simp [nm5]; omega)⟩
    have hix : dIx (.lst [.str (Str.ofString "a"), .str (Str.ofString "b.c"), .str (Str.ofString "d-"), .str (Str.ofString "e"), .str (Str.ofString "f")]) (.int (x : Int)) = .ok (.str c) := dIx_lz (h := D.str) (xs := nm5) rfl hc
    have z0 := Int.emod_nonneg (d / 5 + 3 * (x : Int)) (show (256 : Int) ≠ 0 by decide)
    obtain ⟨k, hk⟩ := Int.eq_ofNat_of_zero_le z0
    refine ⟨(c, k), hc, ?_⟩
    simp (disch := array_mem_dec) [hix, hk, prD]
  refine ⟨ys, q__law_body ?_, ?_⟩
  rotate_left
  · rw [List.Nodup, List.pairwise_iff_getElem]
    intro i j hi hj hij
    have hi' : i < ys.length := by simpa using hi
    have hj' : j < ys.length := by simpa using hj
    have yl : ys.length = n := by rw [y1, List.length_range]
    have gi := y3 i i ys[i] (by rw [List.getElem?_range (by omega)]) (List.getElem?_eq_getElem hi')
    have gj := y3 j j ys[j] (by rw [List.getElem?_range (by omega)]) (List.getElem?_eq_getElem hj')
    rw [List.getElem_map, List.getElem_map]
    intro e
    rw [e, ← gj] at gi
    exact (by decide +kernel : ∀ i j : Fin 5, i < j → nm5[i.val]? ≠ nm5[j.val]?) ⟨i, by omega⟩ ⟨j, by omega⟩ hij gi
  simp (disch := array_mem_dec) [p__law_body, hn, hr, szR_ok hsz, hm, k1, k2, -rng1_z]
end Law
set_option Elab.async false
set_option linter.all false
set_option maxRecDepth 100000
set_option maxHeartbeats 4000000
namespace Law
open PySem L2 T
local macro_rules
  | `(tactic| array_mem_dec) => `(tactic| first
    | omega
    | with_reducible assumption
    | (simp; done)
    | (simp; omega)
    | (simp at *; omega)
    | (refine cm_ss ?_ ?_ ?_ ?_ <;> omega)
    | (refine cm_sw ?_ ?_ ?_ <;> first | assumption | omega)
    | (refine cm_ws ?_ ?_ ?_ <;> first | assumption | omega))
theorem ints_dat59 {l : List Nat} : D.datA 59 (l.map fun (n : Nat) => D.int (n : Int)) = true := by
  induction l with
  | nil => rfl
  | cons n l ih =>
    rw [List.map_cons, D.datA, ih, Bool.and_true]
    rfl
theorem app_st {o l : List D} {i : Nat} {b : D} (h : o[i]? = some b) : (o ++ l)[i]? = some b := by
  rw [List.getElem?_append_left (List.getElem?_eq_some_iff.mp h).1]
  exact h
theorem app_at {o l : List D} {c k : Nat} (hc : o.length = c) : (o ++ l)[c + k]? = l[k]? := by
  rw [List.getElem?_append_right (by omega)]
  congr 1
  omega
theorem any_set {α : Type} {p : α → Bool} {x : α} : ∀ {l : List α} {h : Nat}, (∀ y ∈ l, p y = false) → h < l.length → (l.set h x).any p = p x
  | [], _, _, hh => absurd hh (by simp)
  | y :: l, 0, hp, _ => by
    have : l.any p = false := List.any_eq_false.mpr fun z hz => by rw [hp z (List.mem_cons_of_mem _ hz)]; exact Bool.false_ne_true
    rw [List.set_cons_zero, List.any_cons, this, Bool.or_false]
  | y :: l, h + 1, hp, hh => by
    rw [List.set_cons_succ, List.any_cons, hp y (List.mem_cons_self ..), Bool.false_or]
    exact any_set (fun z hz => hp z (List.mem_cons_of_mem _ hz)) (by simpa using hh)
theorem dat_set {x : D} {f : Nat} (hx : D.dat f x = true) : ∀ {l : List D} {h : Nat}, D.datA f l = true → D.datA f (l.set h x) = true
  | [], _, _ => by
    rw [List.set_nil]
    assumption
  | y :: l, 0, hp => by
    rw [D.datA, Bool.and_eq_true] at hp
    rw [List.set_cons_zero, D.datA, hx, hp.2]
    rfl
  | y :: l, h + 1, hp => by
    rw [D.datA, Bool.and_eq_true] at hp
    rw [List.set_cons_succ, D.datA, hp.1, dat_set hx hp.2]
    rfl
theorem is_open_ok {os : List D} {t nd hd : Nat} {hs : List D} {z : Int} {b : Bool} (h : os[t]? = some (.ins 1 [refD nd, refD hd])) (hh : os[hd]? = some (.lst hs)) (hi : dIn (.int z) (.lst hs) = .ok (.bl b)) : f_FileTree_is_open os [refD t, .int z] = .ok (.bl b) os := by
  simp (disch := array_mem_dec) [f_FileTree_is_open, startR, m_FileTree_is_open, h, hh, hi, tab_handles]
theorem stR_okT {os : List D} {p : Pl} {ds : List D} {z : Int} {y : D} (h0 : 0 ≤ z) (h1 : z < ds.length) : stR os p ds (.int z) y = .ok (putC os p (.lst (ds.set z.toNat y))) := by
  unfold stR ixN
  simp only [if_pos h0, if_pos h1]
theorem lk_ne {z w : Int} {y : D} {r : List (D × D)} (h : ¬ z = w) : lookD (((.int z : D), y) :: r) (.inl w : Key) = lookD r (.inl w : Key) := by
  have e : ¬ keyOf (.int z) = some (.inl w : Key) := fun e => h (by
    have : some (Sum.inl z : Key) = some (.inl w) := e
    injection this with e
    injection e)
  simp [lookD, List.find?_cons, e]
theorem lk_eq {z : Int} {y : D} {r : List (D × D)} : lookD (((.int z : D), y) :: r) (.inl z : Key) = some y := by
  have e : keyOf (.int z) = some (.inl z : Key) := rfl
  simp [lookD, List.find?_cons, e]
theorem second_ok {S : D} {ds : List Int} (hl : ds.length = 10) (hdr : f__law_draws [S, .int 10] = .ok (.lst (ds.map D.int))) (hS : S.nref = true) : ∃ os', f__law_asks_second [] [S] = .ok (.bl true) os' := by
  obtain ⟨o, hno⟩ := nodes_ok (os := []) hl
  obtain ⟨n0, hn0⟩ : ∃ n, o.length = n := ⟨_, rfl⟩
  obtain ⟨H16, hH⟩ : ∃ l, l = List.replicate 16 D.non := ⟨_, rfl⟩
  have hHn : H16.all D.nref = true := by rw [hH]; rfl
  have hHl : H16.length = 16 := by rw [hH]; rfl
  have hHz : H16.length ≤ 1000 := by omega
  have g6 : ds[6]? = some (ds[6]'(by omega)) := List.getElem?_eq_getElem _
  have g7 : ds[7]? = some (ds[7]'(by omega)) := List.getElem?_eq_getElem _
  have g8 : ds[8]? = some (ds[8]'(by omega)) := List.getElem?_eq_getElem _
  have g9 : ds[9]? = some (ds[9]'(by omega)) := List.getElem?_eq_getElem _
  generalize ds[6]'(by omega) = d6 at g6
  generalize ds[7]'(by omega) = d7 at g7
  generalize ds[8]'(by omega) = d8 at g8
  generalize ds[9]'(by omega) = d9 at g9
  have x6 : dIx (.lst (ds.map D.int)) (.int 6) = .ok (.int d6) := dIx_l (atI_get (j := 6) rfl (by rw [List.getElem?_map, g6]; rfl))
  have x7 : dIx (.lst (ds.map D.int)) (.int 7) = .ok (.int d7) := dIx_l (atI_get (j := 7) rfl (by rw [List.getElem?_map, g7]; rfl))
  have x8 : dIx (.lst (ds.map D.int)) (.int 8) = .ok (.int d8) := dIx_l (atI_get (j := 8) rfl (by rw [List.getElem?_map, g8]; rfl))
  have x9 : dIx (.lst (ds.map D.int)) (.int 9) = .ok (.int d9) := dIx_l (atI_get (j := 9) rfl (by rw [List.getElem?_map, g9]; rfl))
  have m0 := Int.emod_nonneg d6 (show (255 : Int) ≠ 0 by decide)
  have m1 := Int.emod_lt_of_pos d6 (show (0 : Int) < 255 by decide)
  obtain ⟨nn, hnn⟩ := Int.eq_ofNat_of_zero_le (show 0 ≤ 1 + d6 % 255 by omega)
  obtain ⟨ll, hll⟩ := Int.eq_ofNat_of_zero_le (show 0 ≤ 1 + (nn : Int) % 255 by omega)
  obtain ⟨hh, hhh⟩ := Int.eq_ofNat_of_zero_le (Int.emod_nonneg d7 (show (16 : Int) ≠ 0 by decide))
  have hh16 : hh < 16 := by have := Int.emod_lt_of_pos d7 (show (0 : Int) < 16 by decide); omega
  have hnn0 : ¬ nn = 0 := by omega
  have hnn0' : ¬ (nn : Int) = 0 := by omega
  have hnn0'' : ¬ (0 : Int) = (nn : Int) := by omega
  have hll0 : ¬ ll = 0 := by omega
  have hll0' : ¬ (ll : Int) = 0 := by omega
  have hll0'' : ¬ (0 : Int) = (ll : Int) := by omega
  have hnl : ¬ nn = ll := by omega
  have hnl' : ¬ (nn : Int) = (ll : Int) := by omega
  have hnl'' : ¬ (ll : Int) = (nn : Int) := by omega
  have hnl3 : ¬ ll = nn := by omega
  obtain ⟨es, hes, hnd⟩ := @body_d2 d8
  obtain ⟨bf, hbf⟩ := @body_f d9
  obtain ⟨HS, hHS⟩ : ∃ l, l = H16.set hh (.int (ll : Int)) := ⟨_, rfl⟩
  have hSn : HS.all D.nref = true := by
    rw [hHS, hH]
    refine List.all_eq_true.mpr fun y hy => ?_
    rcases List.mem_or_eq_of_mem_set hy with h | rfl
    · rw [List.eq_of_mem_replicate h]; rfl
    · rfl
  have hSl : HS.length = 16 := by rw [hHS, List.length_set, hHl]
  have hSz : HS.length ≤ 1000 := by omega
  have hback : HS.set hh .non = H16 := by
    rw [hHS, List.set_set, hH]
    exact List.set_replicate_self
  obtain ⟨s0, q0⟩ : ∃ s, s = o ++ tr0 n0 := ⟨_, rfl⟩
  have hti := @tree_init o
  rw [hn0, ← q0] at hti
  have A0 : s0[n0]? = some (.ins 1 [refD (n0 + 1), refD (n0 + 3)]) := by rw [q0]; exact (app_at (k := 0) hn0).trans rfl
  have B0 : s0[n0 + 1]? = some (.dct [(.int 0, refD (n0 + 2))]) := by rw [q0]; exact (app_at (k := 1) hn0).trans rfl
  have C0 : s0[n0 + 2]? = some (.ins 0 [.str "directory", .tup [], .int 1]) := by rw [q0]; exact (app_at (k := 2) hn0).trans rfl
  have D0 : s0[n0 + 3]? = some (.lst H16) := by rw [q0]; exact (app_at (k := 3) hn0).trans (by rw [hH]; rfl)
  obtain ⟨c, hc⟩ : ∃ c, s0.length = c := ⟨_, rfl⟩
  have hc' : c = n0 + 4 := by rw [← hc, q0]; simp [tr0, hn0]
  obtain ⟨s1, q1⟩ : ∃ s, s = s0 ++ cpL c [(.int 0, refD (n0 + 2))] H16 := ⟨_, rfl⟩
  have hcp1 := copied_ok A0 B0 D0 rfl hHn hHz
  rw [hc, ← q1] at hcp1
  have A1 : s1[n0]? = some (.ins 1 [refD (n0 + 1), refD (n0 + 3)]) := by rw [q1]; exact app_st A0
  have B1 : s1[n0 + 1]? = some (.dct [(.int 0, refD (n0 + 2))]) := by rw [q1]; exact app_st B0
  have C1 : s1[n0 + 2]? = some (.ins 0 [.str "directory", .tup [], .int 1]) := by rw [q1]; exact app_st C0
  have D1 : s1[n0 + 3]? = some (.lst H16) := by rw [q1]; exact app_st D0
  have E1 : s1[c]? = some (.ins 1 [refD (c + 4), refD (c + 5)]) := by rw [q1]; exact (app_at (k := 0) hc).trans rfl
  have F1 : s1[c + 4]? = some (.dct [(.int 0, refD (n0 + 2))]) := by rw [q1]; exact (app_at (k := 4) hc).trans rfl
  have G1 : s1[c + 5]? = some (.lst H16) := by rw [q1]; exact (app_at (k := 5) hc).trans rfl
  obtain ⟨N1, hN1⟩ : ∃ c, s1.length = c := ⟨_, rfl⟩
  have hN1' : N1 = c + 6 := by rw [← hN1, q1]; simp [cpL, hc]
  obtain ⟨s2, q2⟩ : ∃ s, s = s1 ++ [D.ins 0 [.str "directory", .tup (es.map prD), .int 1]] := ⟨_, rfl⟩
  have e2 := @node_init s1 (.str "directory") (.tup (es.map prD)) (.int 1)
  rw [hN1, ← q2] at e2
  have A2 : s2[n0]? = some (.ins 1 [refD (n0 + 1), refD (n0 + 3)]) := by rw [q2]; exact app_st A1
  have B2 : s2[n0 + 1]? = some (.dct [(.int 0, refD (n0 + 2))]) := by rw [q2]; exact app_st B1
  have C2 : s2[n0 + 2]? = some (.ins 0 [.str "directory", .tup [], .int 1]) := by rw [q2]; exact app_st C1
  have D2 : s2[n0 + 3]? = some (.lst H16) := by rw [q2]; exact app_st D1
  have E2 : s2[c]? = some (.ins 1 [refD (c + 4), refD (c + 5)]) := by rw [q2]; exact app_st E1
  have F2 : s2[c + 4]? = some (.dct [(.int 0, refD (n0 + 2))]) := by rw [q2]; exact app_st F1
  have G2 : s2[c + 5]? = some (.lst H16) := by rw [q2]; exact app_st G1
  have H2 : s2[N1]? = some (.ins 0 [.str "directory", .tup (es.map prD), .int 1]) := by rw [q2]; exact (app_at (k := 0) hN1).trans rfl
  obtain ⟨kvs1, hkv1⟩ : ∃ k, k = [((.int 0 : D), refD (n0 + 2)), (.int (nn : Int), refD N1)] := ⟨_, rfl⟩
  have hput1 : putD [((.int 0 : D), refD (n0 + 2))] (.inl (nn : Int)) (refD N1) = kvs1 := by
    have hlk : lookD [((.int 0 : D), refD (n0 + 2))] (.inl (nn : Int)) = none := by rw [lk_ne hnn0'']; rfl
    rw [hkv1]
    simp [putD, hlk, keyD]
  have hky1 : keyedD kvs1 = true := by rw [hkv1]; rfl
  obtain ⟨s3, q3⟩ : ∃ s, s = s2.set (c + 4) (.dct kvs1) := ⟨_, rfl⟩
  have l2 : s2.length = N1 + 1 := by rw [q2]; simp [hN1]
  have A3 : s3[n0]? = some (.ins 1 [refD (n0 + 1), refD (n0 + 3)]) := by rw [q3, List.getElem?_set_ne (by omega)]; exact A2
  have B3 : s3[n0 + 1]? = some (.dct [(.int 0, refD (n0 + 2))]) := by rw [q3, List.getElem?_set_ne (by omega)]; exact B2
  have C3 : s3[n0 + 2]? = some (.ins 0 [.str "directory", .tup [], .int 1]) := by rw [q3, List.getElem?_set_ne (by omega)]; exact C2
  have D3 : s3[n0 + 3]? = some (.lst H16) := by rw [q3, List.getElem?_set_ne (by omega)]; exact D2
  have E3 : s3[c]? = some (.ins 1 [refD (c + 4), refD (c + 5)]) := by rw [q3, List.getElem?_set_ne (by omega)]; exact E2
  have G3 : s3[c + 5]? = some (.lst H16) := by rw [q3, List.getElem?_set_ne (by omega)]; exact G2
  have H3 : s3[N1]? = some (.ins 0 [.str "directory", .tup (es.map prD), .int 1]) := by rw [q3, List.getElem?_set_ne (by omega)]; exact H2
  have F3 : s3[c + 4]? = some (.dct kvs1) := by rw [q3, List.getElem?_set_self (by omega)]
  obtain ⟨N2, hN2⟩ : ∃ c, s3.length = c := ⟨_, rfl⟩
  have hN2' : N2 = N1 + 1 := by rw [← hN2, q3, List.length_set, l2]
  obtain ⟨s4, q4⟩ : ∃ s, s = s3 ++ [D.ins 0 [.str "file", .tup (bf.map D.int), .int 1]] := ⟨_, rfl⟩
  have e4 := @node_init s3 (.str "file") (.tup (bf.map D.int)) (.int 1)
  rw [hN2, ← q4] at e4
  have l4 : s4.length = N2 + 1 := by rw [q4]; simp [hN2]
  have A4 : s4[n0]? = some (.ins 1 [refD (n0 + 1), refD (n0 + 3)]) := by rw [q4]; exact app_st A3
  have B4 : s4[n0 + 1]? = some (.dct [(.int 0, refD (n0 + 2))]) := by rw [q4]; exact app_st B3
  have C4 : s4[n0 + 2]? = some (.ins 0 [.str "directory", .tup [], .int 1]) := by rw [q4]; exact app_st C3
  have D4 : s4[n0 + 3]? = some (.lst H16) := by rw [q4]; exact app_st D3
  have E4 : s4[c]? = some (.ins 1 [refD (c + 4), refD (c + 5)]) := by rw [q4]; exact app_st E3
  have F4 : s4[c + 4]? = some (.dct kvs1) := by rw [q4]; exact app_st F3
  have G4 : s4[c + 5]? = some (.lst H16) := by rw [q4]; exact app_st G3
  have H4 : s4[N1]? = some (.ins 0 [.str "directory", .tup (es.map prD), .int 1]) := by rw [q4]; exact app_st H3
  obtain ⟨kvs2, hkv2⟩ : ∃ k, k = [((.int 0 : D), refD (n0 + 2)), (.int (nn : Int), refD N1), (.int (ll : Int), refD N2)] := ⟨_, rfl⟩
  have hput2 : putD kvs1 (.inl (ll : Int)) (refD N2) = kvs2 := by
    have hlk : lookD [((.int 0 : D), refD (n0 + 2)), (.int (nn : Int), refD N1)] (.inl (ll : Int)) = none := by rw [lk_ne hll0'', lk_ne hnl']; rfl
    rw [hkv1, hkv2]
    simp [putD, hlk, keyD]
  have hky2 : keyedD kvs2 = true := by rw [hkv2]; rfl
  obtain ⟨s5, q5⟩ : ∃ s, s = s4.set (c + 4) (.dct kvs2) := ⟨_, rfl⟩
  have A5 : s5[n0]? = some (.ins 1 [refD (n0 + 1), refD (n0 + 3)]) := by rw [q5, List.getElem?_set_ne (by omega)]; exact A4
  have B5 : s5[n0 + 1]? = some (.dct [(.int 0, refD (n0 + 2))]) := by rw [q5, List.getElem?_set_ne (by omega)]; exact B4
  have C5 : s5[n0 + 2]? = some (.ins 0 [.str "directory", .tup [], .int 1]) := by rw [q5, List.getElem?_set_ne (by omega)]; exact C4
  have D5 : s5[n0 + 3]? = some (.lst H16) := by rw [q5, List.getElem?_set_ne (by omega)]; exact D4
  have E5 : s5[c]? = some (.ins 1 [refD (c + 4), refD (c + 5)]) := by rw [q5, List.getElem?_set_ne (by omega)]; exact E4
  have G5 : s5[c + 5]? = some (.lst H16) := by rw [q5, List.getElem?_set_ne (by omega)]; exact G4
  have H5 : s5[N1]? = some (.ins 0 [.str "directory", .tup (es.map prD), .int 1]) := by rw [q5, List.getElem?_set_ne (by omega)]; exact H4
  have F5 : s5[c + 4]? = some (.dct kvs2) := by rw [q5, List.getElem?_set_self (by omega)]
  have l5 : s5.length = N2 + 1 := by rw [q5, List.length_set, l4]
  obtain ⟨s6, q6⟩ : ∃ s, s = s5.set (c + 5) (.lst HS) := ⟨_, rfl⟩
  have A6 : s6[n0]? = some (.ins 1 [refD (n0 + 1), refD (n0 + 3)]) := by rw [q6, List.getElem?_set_ne (by omega)]; exact A5
  have B6 : s6[n0 + 1]? = some (.dct [(.int 0, refD (n0 + 2))]) := by rw [q6, List.getElem?_set_ne (by omega)]; exact B5
  have C6 : s6[n0 + 2]? = some (.ins 0 [.str "directory", .tup [], .int 1]) := by rw [q6, List.getElem?_set_ne (by omega)]; exact C5
  have D6 : s6[n0 + 3]? = some (.lst H16) := by rw [q6, List.getElem?_set_ne (by omega)]; exact D5
  have E6 : s6[c]? = some (.ins 1 [refD (c + 4), refD (c + 5)]) := by rw [q6, List.getElem?_set_ne (by omega)]; exact E5
  have F6 : s6[c + 4]? = some (.dct kvs2) := by rw [q6, List.getElem?_set_ne (by omega)]; exact F5
  have H6 : s6[N1]? = some (.ins 0 [.str "directory", .tup (es.map prD), .int 1]) := by rw [q6, List.getElem?_set_ne (by omega)]; exact H5
  have G6 : s6[c + 5]? = some (.lst HS) := by rw [q6, List.getElem?_set_self (by omega)]
  obtain ⟨g, hg⟩ : ∃ c, s6.length = c := ⟨_, rfl⟩
  have hg' : g = N2 + 1 := by rw [← hg, q6, List.length_set, l5]
  obtain ⟨s7, q7⟩ : ∃ s, s = s6 ++ cpL g kvs2 HS := ⟨_, rfl⟩
  have hcp7 := copied_ok E6 F6 G6 hky2 hSn hSz
  rw [hg, ← q7] at hcp7
  have A7 : s7[n0]? = some (.ins 1 [refD (n0 + 1), refD (n0 + 3)]) := by rw [q7]; exact app_st A6
  have B7 : s7[n0 + 1]? = some (.dct [(.int 0, refD (n0 + 2))]) := by rw [q7]; exact app_st B6
  have C7 : s7[n0 + 2]? = some (.ins 0 [.str "directory", .tup [], .int 1]) := by rw [q7]; exact app_st C6
  have D7 : s7[n0 + 3]? = some (.lst H16) := by rw [q7]; exact app_st D6
  have E7 : s7[c]? = some (.ins 1 [refD (c + 4), refD (c + 5)]) := by rw [q7]; exact app_st E6
  have F7 : s7[c + 4]? = some (.dct kvs2) := by rw [q7]; exact app_st F6
  have G7 : s7[c + 5]? = some (.lst HS) := by rw [q7]; exact app_st G6
  have H7 : s7[N1]? = some (.ins 0 [.str "directory", .tup (es.map prD), .int 1]) := by rw [q7]; exact app_st H6
  have I7 : s7[g]? = some (.ins 1 [refD (g + 4), refD (g + 5)]) := by rw [q7]; exact (app_at (k := 0) hg).trans rfl
  have J7 : s7[g + 4]? = some (.dct kvs2) := by rw [q7]; exact (app_at (k := 4) hg).trans rfl
  have K7 : s7[g + 5]? = some (.lst HS) := by rw [q7]; exact (app_at (k := 5) hg).trans rfl
  have l7 : s7.length = g + 6 := by rw [q7]; simp [cpL, hg]
  obtain ⟨s8, q8⟩ : ∃ s, s = s7.set (g + 5) (.lst H16) := ⟨_, rfl⟩
  have A8 : s8[n0]? = some (.ins 1 [refD (n0 + 1), refD (n0 + 3)]) := by rw [q8, List.getElem?_set_ne (by omega)]; exact A7
  have B8 : s8[n0 + 1]? = some (.dct [(.int 0, refD (n0 + 2))]) := by rw [q8, List.getElem?_set_ne (by omega)]; exact B7
  have C8 : s8[n0 + 2]? = some (.ins 0 [.str "directory", .tup [], .int 1]) := by rw [q8, List.getElem?_set_ne (by omega)]; exact C7
  have D8 : s8[n0 + 3]? = some (.lst H16) := by rw [q8, List.getElem?_set_ne (by omega)]; exact D7
  have E8 : s8[c]? = some (.ins 1 [refD (c + 4), refD (c + 5)]) := by rw [q8, List.getElem?_set_ne (by omega)]; exact E7
  have F8 : s8[c + 4]? = some (.dct kvs2) := by rw [q8, List.getElem?_set_ne (by omega)]; exact F7
  have G8 : s8[c + 5]? = some (.lst HS) := by rw [q8, List.getElem?_set_ne (by omega)]; exact G7
  have H8 : s8[N1]? = some (.ins 0 [.str "directory", .tup (es.map prD), .int 1]) := by rw [q8, List.getElem?_set_ne (by omega)]; exact H7
  have I8 : s8[g]? = some (.ins 1 [refD (g + 4), refD (g + 5)]) := by rw [q8, List.getElem?_set_ne (by omega)]; exact I7
  have J8 : s8[g + 4]? = some (.dct kvs2) := by rw [q8, List.getElem?_set_ne (by omega)]; exact J7
  have K8 : s8[g + 5]? = some (.lst H16) := by rw [q8, List.getElem?_set_self (by omega)]
  have lk0 : lookD kvs2 (.inl ((0 : Nat) : Int)) = some (refD (n0 + 2)) := by rw [hkv2]; exact lk_eq
  have lkn : lookD kvs2 (.inl (nn : Int)) = some (refD N1) := by rw [hkv2, lk_ne hnn0'']; exact lk_eq
  have lkz : lookD [((.int 0 : D), refD (n0 + 2))] (.inl 0) = some (refD (n0 + 2)) := lk_eq
  have p0 := parts_ok C0 rfl rfl
  have d16 : D.datA 60 H16 = true := by rw [hH]; rfl
  have dS : D.datA 60 HS = true := by rw [hHS]; exact dat_set rfl d16
  have in16 : ∀ z : Int, dIn (.int z) (.lst H16) = .ok (.bl false) := fun z => by
    show (if D.dat 60 (.int z) = true ∧ D.datA 60 H16 = true then Res.ok (D.bl (H16.any fun y => y.eqb (.int z))) else .no) = _
    rw [if_pos ⟨rfl, d16⟩, hH]
    rfl
  have inS : ∀ z : Int, dIn (.int z) (.lst HS) = .ok (.bl (decide ((ll : Int) = z))) := fun z => by
    show (if D.dat 60 (.int z) = true ∧ D.datA 60 HS = true then Res.ok (D.bl (HS.any fun y => y.eqb (.int z))) else .no) = _
    rw [if_pos ⟨rfl, dS⟩, hHS, any_set (fun y hy => by rw [hH] at hy; rw [List.eq_of_mem_replicate hy]; rfl) (by rw [hHl]; exact hh16), eqb_int]
  have o1 := is_open_ok (z := 0) A6 D6 (in16 0)
  have o2 := is_open_ok (z := ll) E6 G6 (inS ll)
  have o3 := is_open_ok (z := nn) E6 G6 (inS nn)
  have o4 := is_open_ok (z := 0) E6 G6 (inS 0)
  have o5 := is_open_ok (z := ll) E8 G8 (inS ll)
  have o6 := is_open_ok (z := ll) I8 K8 (in16 ll)
  rw [decide_eq_true rfl] at o2 o5
  rw [decide_eq_false hnl''] at o3
  rw [decide_eq_false hll0'] at o4
  have ne16 : dNe (.lst H16) (.lst H16) = .ok (.bl false) := dNe_self (by
    show D.datA 59 H16 = true
    rw [hH]; rfl)
  have hrep : dRep (.lst [.non]) (.int 16) = .ok H16 := by rw [hH]; rfl
  have lst0 : dListD [.dct [((.int 0 : D), refD (n0 + 2))]] = .ok [.int 0] := dListD_d rfl
  have ne0 : dNe (.lst [.int 0]) (.lst [.int 0]) = .ok (.bl false) := dNe_self rfl
  have hls2 : dListD [.dct kvs2] = .ok [.int 0, .int (nn : Int), .int (ll : Int)] := by rw [dListD_d hky2, hkv2]; rfl
  have hsrt : dSortedG [.lst [.int 0, .int (nn : Int), .int (ll : Int)]] = .ok ((sortK [0, nn, ll]).map fun (n : Nat) => D.int (n : Int)) := sorted_lst (ks := [0, nn, ll])
  have neS : dNe (.lst ((sortK [0, nn, ll]).map fun (n : Nat) => D.int (n : Int))) (.lst ((sortK [0, nn, ll]).map fun (n : Nat) => D.int (n : Int))) = .ok (.bl false) := dNe_self ints_dat59
  have szS : ((sortK [0, nn, ll]).map fun (n : Nat) => D.int (n : Int)).length ≤ 16777216 := by
    rw [List.length_map, sortK_perm.length_eq]
    simp
  generalize ((sortK [0, nn, ll]).map fun (n : Nat) => D.int (n : Int)) = LS at hsrt neS szS
  have n1 := entries_ok (B := .tup (es.map prD)) E8 F8 lkn H8 hnd bok_d.nr rfl
  have n2 := entries_ok (B := .lst []) (es := []) E8 F8 lk0 C8 (by simp) rfl rfl
  have nrB : (D.tup (es.map prD)).nref = true := bok_d.nr
  have nrF : (D.tup (bf.map D.int)).nref = true := bok_f.nr
  have nrB' := nrR_ok nrB
  have nrF' := nrR_ok nrF
  have nrDR : (D.lst (ds.map D.int)).nref = true := by simp [D.nref]
  have nrDR' := nrR_ok nrDR
  have nrS' := nrR_ok hS
  have q3' := q3.symm
  have q5' := q5.symm
  have q6' := q6.symm
  have q8' := q8.symm
  have hst6 := stR_okT (os := s5) (p := (c + 5, none)) (ds := H16) (z := (hh : Int)) (y := .int (ll : Int)) (by omega) (by rw [hHl]; omega)
  have hst8 := stR_okT (os := s7) (p := (g + 5, none)) (ds := HS) (z := (hh : Int)) (y := .non) (by omega) (by rw [hSl]; omega)
  have hhn : ((hh : Nat) : Int).toNat = hh := by omega
  rw [hhn, ← hHS] at hst6
  rw [hhn, hback] at hst8
  have ky1 : keyOf (.int (nn : Int)) = some (.inl (nn : Int)) := rfl
  have ky2 : keyOf (.int (ll : Int)) = some (.inl (ll : Int)) := rfl
  generalize ds.map D.int = DS at hdr hno x6 x7 x8 x9 nrDR nrDR'
  generalize D.tup (es.map prD) = BE at *
  generalize D.tup (bf.map D.int) = BF at *
  have n2 : f__law_entries s8 [refD c, .int 0, .lst []] = .ok (.bl true) s8 := n2
  have hsl1 : 1 < sizeLine := by rw [size_line]; decide
  have hk0 : keyedD [((.int 0 : D), refD (n0 + 2))] = true := rfl
  have hsl2 : kvs1.length < sizeLine := by rw [hkv1, size_line]; simp
  clear hkv1 hkv2
  clear hc' hN1' hN2' hg' l2 l4 l5 l7 q0 q1 q2 q3 q4 q5 q6 q7 q8 hHl hSl hHz hSz
  refine ⟨s8, ?_⟩
  simp (disch := array_mem_dec) [f__law_asks_second, startR, m__law_asks_second, nrS', hS, hdr, nrDR, nrDR', hno, hti, hn0, A0, B0, C0, D0, lkz, p0, lst0, ne0, ne16, hrep, x6, x7, x8, x9, hnn, hll, hhh, hcp1, hc, E1, F1, G1, hes, hbf, nrB, nrB', nrF, nrF', e2, hN1, E2, F2, hput1, q3', ky1, ky2, e4, hN2, E4, F4, hput2, q5', E5, G5, hst6, q6', o1, o2, o3, o4, A6, B6, D6, E6, F6, G6, hcp7, hg, I7, K7, hst8, q8', o5, o6, A8, E8, F8, G8, I8, J8, K8, hls2, hsrt, neS, szR_ok szS, n1, n2, hsl1, hsl2, hk0, hky1, hky2, tab_nodes, tab_handles, dkR2]
end Law
set_option Elab.async false
set_option linter.all false
set_option maxRecDepth 100000
set_option maxHeartbeats 4000000
namespace Law
open PySem L2 T
local macro_rules
  | `(tactic| array_mem_dec) => `(tactic| first
    | omega
    | with_reducible assumption
    | (simp; done)
    | (simp; omega)
    | (simp at *; omega)
    | (refine cm_ss ?_ ?_ ?_ ?_ <;> omega)
    | (refine cm_sw ?_ ?_ ?_ <;> first | assumption | omega)
    | (refine cm_ws ?_ ?_ ?_ <;> first | assumption | omega))
theorem goal : ∀ ns : List Int, ns.length ≤ 63 → (∀ z ∈ ns, Builtin.Int.intBits z ≤ 1048576) → f_law [.scr (ns.map D.int)] = .ok (.bl true) := by
  intro ns hl hb
  obtain ⟨ds, k1, _, k2⟩ := drawsB_ok hb 40 (by decide)
  obtain ⟨es, l1, _, l2⟩ := drawsB_ok hb 10 (by decide)
  have w1 : f__law_draws [.scr (ns.map D.int), .int 40] = .ok (.lst (ds.map D.int)) := k2
  have w2 : f__law_draws [.scr (ns.map D.int), .int 10] = .ok (.lst (es.map D.int)) := l2
  have r1 := first_ok w1
  have hS : (D.scr (ns.map D.int)).nref = true := by simp [D.nref]
  obtain ⟨os', r2⟩ := second_ok l1 w2 hS
  have hnr := nrR_ok hS
  generalize D.scr (ns.map D.int) = S at r1 r2 hS hnr ⊢
  simp (disch := array_mem_dec) [f_law, runE_ap, startR, m_law, r1, r2, hS, hnr]
end Law
open PySem PySem.W PyProof.Rows
set_option maxRecDepth 100000 in
set_option maxHeartbeats 0 in
theorem PySem.Challenge.cw_tideland_k23_paths_and_targets_and_nodes_holds : PySem.Challenge.rw_tideland_k23_paths_and_targets_and_nodes.Holds := by
  w_on; o_law; k_head; (case hw => w_witness2)
  k_fill
  refine L2.walk_ofB (l := PySem.Challenge.rw_tideland_k23_paths_and_targets_and_nodes) (n := 63) (k := 7) (x := "script") (CX := fun w => L2.CX (PySem.Challenge.rw_tideland_k23_paths_and_targets_and_nodes).prog w)  (sp := fun w => T.spLaw _) rfl (by decide) rfl ⟨rfl, by decide, by decide⟩ (fun w h Y => PySem.W.kIn_of Y) ?F (fun _ _ a ns hl hb _ hS => ⟨a, ns, rfl, hS, hl, hb, fun _ => rfl⟩) (fun _ _ _ _ _ h => T.cx_false h)
  case F =>
    intro w mg fa h KX G hmg
    refine' Law.all_mk Law.goal KX G hmg ?ag0 ?pg0 ?hd0 ?po0 ?sa0 ?mk0 ?kc0 ?ha0 ?hn0 ?ht0 ?hm0 ?mt0 ?nf0_0 ?nf0_1 ?nf0_2 ?ag1 ?pg1 ?hd1 ?po1 ?sa1 ?mk1 ?kc1 ?nf1_0 ?nf1_1 ?a0 ?l0 ?c0 ?k0 ?a1 ?l1 ?c1 ?k1 ?a2 ?i2 ?l2 ?c2 ?k2 ?kw2_0 ?a3 ?i3 ?l3 ?c3 ?k3 ?a4 ?i4 ?l4 ?c4 ?k4 ?a5 ?i5 ?l5 ?c5 ?k5 ?a6 ?l6 ?c6 ?k6 ?a7 ?l7 ?c7 ?k7 ?a8 ?l8 ?c8 ?k8 ?a9 ?l9 ?c9 ?k9 ?a10 ?l10 ?c10 ?k10 ?a11 ?l11 ?c11 ?k11 ?a12 ?l12 ?c12 ?k12 ?a13 ?l13 ?c13 ?k13 ?a14 ?l14 ?c14 ?k14 ?a15 ?l15 ?c15 ?k15 ?a16 ?l16 ?c16 ?k16 ?a17 ?i17 ?l17 ?c17 ?k17 ?a18 ?i18 ?l18 ?c18 ?k18 ?a19 ?i19 ?l19 ?c19 ?k19 ?a20 ?i20 ?l20 ?c20 ?k20 ?a21 ?l21 ?c21 ?k21 ?a22 ?l22 ?c22 ?k22 ?a23 ?i23 ?l23 ?c23 ?k23 ?a24 ?l24 ?c24 ?k24 ?a25 ?l25 ?c25 ?k25 ?a26 ?l26 ?c26 ?k26 ?u0 ?u1 ?u2 ?u3 ?u4 ?z0 ?z1 ?z2 ?z3 ?z4 ?z5 ?z6 ?z7 ?z8
    (case ag0 => k_is); (case pg0 => k_is); (case hd0 => k_is); (case po0 => k_is); (case sa0 => k_is); (case mk0 => k_is); (case kc0 => k_is); (case ha0 => k_is); (case hn0 => k_is); (case ht0 => k_is); (case hm0 => k_is); (case mt0 => k_is); (case nf0_0 => k_is); (case nf0_1 => k_is); (case nf0_2 => k_is); (case ag1 => k_is); (case pg1 => k_is); (case hd1 => k_is); (case po1 => k_is); (case sa1 => k_is); (case mk1 => k_is); (case kc1 => k_is); (case nf1_0 => k_is); (case nf1_1 => k_is); (case a0 => k_is); (case l0 => k_is); (case c0 => k_is); (case k0 => k_is); (case a1 => k_is); (case l1 => k_is); (case c1 => k_is); (case k1 => k_is); (case a2 => k_is); (case i2 => k_is); (case l2 => k_is); (case c2 => k_is); (case k2 => k_is); (case kw2_0 => k_is); (case a3 => k_is); (case i3 => k_is); (case l3 => k_is); (case c3 => k_is); (case k3 => k_is); (case a4 => k_is); (case i4 => k_is); (case l4 => k_is); (case c4 => k_is); (case k4 => k_is); (case a5 => k_is); (case i5 => k_is); (case l5 => k_is); (case c5 => k_is); (case k5 => k_is); (case a6 => k_is); (case l6 => k_is); (case c6 => k_is); (case k6 => k_is); (case a7 => k_is); (case l7 => k_is); (case c7 => k_is); (case k7 => k_is); (case a8 => k_is); (case l8 => k_is); (case c8 => k_is); (case k8 => k_is); (case a9 => k_is); (case l9 => k_is); (case c9 => k_is); (case k9 => k_is); (case a10 => k_is); (case l10 => k_is); (case c10 => k_is); (case k10 => k_is); (case a11 => k_is); (case l11 => k_is); (case c11 => k_is); (case k11 => k_is); (case a12 => k_is); (case l12 => k_is); (case c12 => k_is); (case k12 => k_is); (case a13 => k_is); (case l13 => k_is); (case c13 => k_is); (case k13 => k_is); (case a14 => k_is); (case l14 => k_is); (case c14 => k_is); (case k14 => k_is); (case a15 => k_is); (case l15 => k_is); (case c15 => k_is); (case k15 => k_is); (case a16 => k_is); (case l16 => k_is); (case c16 => k_is); (case k16 => k_is); (case a17 => k_is); (case i17 => k_is); (case l17 => k_is); (case c17 => k_is); (case k17 => k_is); (case a18 => k_is); (case i18 => k_is); (case l18 => k_is); (case c18 => k_is); (case k18 => k_is); (case a19 => k_is); (case i19 => k_is); (case l19 => k_is); (case c19 => k_is); (case k19 => k_is); (case a20 => k_is); (case i20 => k_is); (case l20 => k_is); (case c20 => k_is); (case k20 => k_is); (case a21 => k_is); (case l21 => k_is); (case c21 => k_is); (case k21 => k_is); (case a22 => k_is); (case l22 => k_is); (case c22 => k_is); (case k22 => k_is); (case a23 => k_is); (case i23 => k_is); (case l23 => k_is); (case c23 => k_is); (case k23 => k_is); (case a24 => k_is); (case l24 => k_is); (case c24 => k_is); (case k24 => k_is); (case a25 => k_is); (case l25 => k_is); (case c25 => k_is); (case k25 => k_is); (case a26 => k_is); (case l26 => k_is); (case c26 => k_is); (case k26 => k_is); (case u0 => k_is); (case u1 => k_is); (case u2 => k_is); (case u3 => k_is); (case u4 => k_is); (case z0 => k_is); (case z1 => k_is); (case z2 => k_is); (case z3 => k_is); (case z4 => k_is); (case z5 => k_is); (case z6 => k_is); (case z7 => k_is); (case z8 => k_is)
