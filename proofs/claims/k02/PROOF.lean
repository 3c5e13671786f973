import PyProof.Rows.All
import Wide.All
import OpenK.AllK
import Wide.FinOn
import HandS.ForMost
import HandS.ForExc
import HandS.Walk
import HandS.Deep
import HandS.Lambda
import HandS.EndTab
import HandS.TupAny
import HandS.TupLe
import HandS.Flow
import HandS.IsInst
import HandS.OwnEq
import HandS.Zip
import HandS.Conv
import HandS.More
import HandS.ExcInit
import HandS.SortOrd
import KE.LtData
import KE.SortData
import KE.DataMinMax
import KE.DataAny
import PyProof.ReprRoads
import HandS.ExcIs
import HandS.ExcField
import KE.KExcIs
import KE.SortCalls
import PyProof.TupleOfSeq
import HandS.Star
import HandS.New
import HandS.Style
import HandS.TupMul
import KE.GoesEnum
import PySem.Challenge.RW_changedminds_k02_whole_first_ones
set_option Elab.async false
set_option linter.all false
set_option maxRecDepth 100000
set_option maxHeartbeats 4000000
/-! Mir1: plain values, what stands for what, expressions with plain meanings. -/
namespace Mir
open PySem PySem.Spec PyProof.Rows L2

/-- plain values -/
inductive A where
  | non | bl (b : Bool) | int (i : Int) | str (s : Str)
  | tup (xs : List A) | lst (xs : List A)
  | ins (c : Nat) (fs : List A)
  | dct (ks : List Key) (vs : List A)
  | clo (n : Nat) (caps : List A)
  | fn (n : Nat)
  | pen
  deriving Inhabited

/-- the source of draws -/
structure Pen where
  cells : List Int
  at_ : Int
  digits : Int
  count : Int
  fold : Int

inductive Res (α : Type) where
  | ok (a : α) (p : Pen)
  | exc (c : Nat) (fs : List A) (p : Pen)
  | stuck

abbrev M (α : Type) := Pen → Res α
def Res.bind {α β : Type} (r : Res α) (f : α → M β) : Res β := match r with
  | .ok a p => f a p
  | .exc c fs p => .exc c fs p
  | .stuck => .stuck
def ret {α : Type} (a : α) : M α := fun p => .ok a p
def bd {α β : Type} (m : M α) (f : α → M β) : M β := fun p => (m p).bind f
abbrev Env' := List (Option A)
abbrev ME' := Env' → M A

/-- what is told of a law's world: the pen's address, the tables of code objects, the classes, the defs that are values -/
structure Lam where
  q : Str
  params : Arguments
  body : Expr
  scope : Scope
  fr : List Str
structure Dcl where
  π : Addr
  κ : Addr
  T : List (Addr × Str)
  cls : Nat → Option Addr
  flds : Nat → List Str
  fns : Nat → Option Addr
  lams : Nat → Option Lam
  cl : Nat → Option (List (Str × Addr))
  xc : Option Hp
/-- the lambda at f -/
def FnL (f : Addr) (L : Lam) (cl : List (Str × Addr)) (c : Addr) : HO := .ext fun h => ∃ pm ctv : Value, h.get? f = some (PySem.W.kla_obj "<lambda>" L.q L.params L.body L.scope cl pm c ctv)
/-- the cell at c, and what stands in it -/
def CelO (c : Addr) (o : Obj) : HO := .ext fun h => h.get? c = some o
def CapsAt (S : Hp) (fr : List Str) (cl : List (Str × Addr)) (vs : List V) : Prop := (fr.length = vs.length ∧ (∀ x y c, cl.lookup x = some c → cl.lookup y = some c → x = y) ∧ ∀ y c, cl.lookup y = some c → y ∈ fr) ∧ ∀ (i : Nat) y v, fr[i]? = some y → vs[i]? = some v → ∃ (c : Addr) (o : Obj) (u : Value), cl.lookup y = some c ∧ S c = some (CelO c o) ∧ o.data = .cell (some u) ∧ RelV v u

section
variable (K : PySem.W.Frag) (D : Dcl)
mutual
def Rep (S : Hp) : A → V → Prop
  | .non, v => v = .non
  | .bl b, v => v = .bl b
  | .int i, v => v = .int i
  | .str s, v => v = .str s
  | .tup xs, v => ∃ a vs, v = .ref a ∧ SqT K S a vs ∧ Reps S xs vs
  | .lst xs, v => ∃ a vs, v = .ref a ∧ S a = some (.lst vs) ∧ Reps S xs vs
  | .ins c fs, v => ∃ a C dx vs, v = .ref a ∧ D.cls c = some C ∧ S a = some (.ins C dx ((D.flds c).zip vs)) ∧ (D.flds c).length = vs.length ∧ Reps S fs vs
  | .dct ks xs, v => ∃ a vs, v = .ref a ∧ S a = some (.dK (ks.zip vs)) ∧ ks.length = vs.length ∧ Reps S xs vs
  | .clo n cs, v => ∃ f c cl L, v = .ref f ∧ D.lams n = some L ∧ S f = some (FnL f L cl c) ∧ S c = some (LamX.CodeO c L.q) ∧ ((D.cl n = some cl ∧ cs = []) ∨ ∃ vs, CapsAt S L.fr cl vs ∧ Reps S cs vs)
  | .fn n, v => ∃ f, v = .ref f ∧ D.fns n = some f
  | .pen, v => v = .ref D.π
def Reps (S : Hp) : List A → List V → Prop
  | [], vs => vs = []
  | x :: xs, vs => ∃ v r, vs = v :: r ∧ Rep S x v ∧ Reps S xs r
end
/-- S grows to S', H to H': the pen and the tables apart all that is told in H stays; what is new in S is new in H -/
structure Ext (S H S' H' : Hp) : Prop where
  sub : ∀ a o, S a = some o → S' a = some o
  keep : ∀ a o, H a = some o → a ≠ D.π → (∀ ps, o ≠ .tbl ps) → H' a = some o
  there : ∀ a, H a ≠ none → H' a ≠ none
  dom : ∀ a, S' a ≠ none → S a ≠ none ∨ H a = none
def PenAt (S H : Hp) (p : Pen) : Prop := H D.π = some (.dK [(.inr "cells", .ref D.κ), (.inr "at", .int p.at_), (.inr "digits", .int p.digits), (.inr "count", .int p.count), (.inr "fold", .int p.fold)]) ∧ S D.κ = some (.lst (p.cells.map V.int))
/-- what is told of tables, and of what is known by a truth of its own -/
structure Ghost (S H : Hp) : Prop where
  tabs : LamX.Tabs D.T H
  exts : ∀ c φ, H c = some (.ext φ) → S c = some (.ext φ)
  tbls : ∀ c ps, H c = some (.tbl ps) → ∃ q, (c, q) ∈ D.T
  xc : ∀ Sx, D.xc = some Sx → ∀ a o, Sx a = some o → S a = some o
/-- S is what stands still of H -/
structure Good (S H : Hp) (p : Pen) : Prop where
  sub : ∀ a o, S a = some o → H a = some o
  npen : S D.π = none
  ntbl : ∀ a ps, S a ≠ some (.tbl ps)
  pen : PenAt D S H p
  tabs : Ghost D S H
def OwnAt (S H : Hp) (q : Addr) : A → Prop
  | .lst xs => ∃ vs, H q = some (.lst vs) ∧ Reps K D S xs vs
  | .dct ks xs => ∃ vs, H q = some (.dK (ks.zip vs)) ∧ ks.length = vs.length ∧ Reps K D S xs vs
  | _ => False
structure Rel (S0 H0 S H : Hp) (σ : L2.St) (ρ : Env') (own : List Nat) (p : Pen) : Prop where
  good : Good D S H p
  ext : Ext D S0 H0 S H
  slot : ∀ (i : Nat) a, ρ[i]? = some (some a) → i ∉ own → ∃ v, σ[i]? = some (some v) ∧ Rep K D S a v
  ownd : ∀ (i : Nat) a, ρ[i]? = some (some a) → i ∈ own → ∃ q, σ[i]? = some (some (.ref q)) ∧ S q = none ∧ H0 q = none ∧ q ≠ D.π ∧ OwnAt K D S H q a
  dist : ∀ (i j : Nat) a b q, ρ[i]? = some (some a) → ρ[j]? = some (some b) → i ∈ own → j ∈ own → σ[i]? = some (some (.ref q)) → σ[j]? = some (some (.ref q)) → i = j
  len : ρ.length = σ.length
/-- what is wanted of an outcome; Rp: what stands for what -/
def Aft {α β : Type} (Rp : Hp → α → β → Prop) (xk : XK) (S0 H0 S H : Hp) (σ : L2.St) (ρ : Env') (own : List Nat) (r : Res α) (Q : β → Hp → Prop) : Prop := match r with
  | .ok a p => ∀ S' H' v, Ext D S H S' H' → Rel K D S0 H0 S' H' σ ρ own p → Rp S' a v → Q v H'
  | .exc c fs p => ∀ S' H' C d vs, Ext D S0 H0 S' H' → Good D S' H' p → H0 d = none → D.cls c = some C → H' d = some (.xd ((D.flds c).zip vs)) → (D.flds c).length = vs.length → Reps K D S' fs vs → xk (.ref C) (some d) H'
  | .stuck => False
/-- the reading that a plain meaning gives -/
def tG {α β : Type} (Rp : Hp → α → β → Prop) (own : List Nat) (xk : XK) (m : Env' → M α) : L2.St → Hp → (β → Hp → Prop) → Prop := fun σ H Q => ∃ S0 H0 S ρ p, Rel K D S0 H0 S H σ ρ own p ∧ Aft K D Rp xk S0 H0 S H σ ρ own (m ρ p) Q
abbrev tM (own : List Nat) (xk : XK) (m : ME') : TE := tG K D (Rep K D) own xk m
abbrev tMs (own : List Nat) (xk : XK) (m : Env' → M (List A)) : TA := tG K D (Reps K D) own xk m
def RpB : Hp → Bool → Bool → Prop := fun _ a b => b = a
abbrev tMb (own : List Nat) (xk : XK) (m : Env' → M Bool) : TT := tG K D RpB own xk m
end

section
variable {K : PySem.W.Frag} {D : Dcl} {S S' S1 S2 H H' H1 H2 S0 H0 : Hp} {σ : L2.St} {ρ : Env'} {own : List Nat} {p p' : Pen} {xk : XK}
theorem SqL.mono (h : ∀ a o, S a = some o → S' a = some o) {a : Addr} {vs : List V} (q : SqL K S a vs) : SqL K S' a vs := by
  rcases q with (q | ⟨o, q⟩) | q
  · exact .inl (.inl (h _ _ q))
  · exact .inl (.inr ⟨o, h _ _ q⟩)
  · exact .inr q
theorem SqT.mono (h : ∀ a o, S a = some o → S' a = some o) {a : Addr} {vs : List V} (q : SqT K S a vs) : SqT K S' a vs := by
  rcases q with (q | ⟨o, q⟩) | q
  · exact .inl (.inl (h _ _ q))
  · exact .inl (.inr ⟨o, h _ _ q⟩)
  · exact .inr q
mutual
theorem Rep.mono (h : ∀ a o, S a = some o → S' a = some o) : ∀ (a : A) (v : V), Rep K D S a v → Rep K D S' a v
  | .non, _, q => q
  | .bl _, _, q => q
  | .int _, _, q => q
  | .str _, _, q => q
  | .tup xs, _, q => by
    simp only [Rep] at q ⊢
    obtain ⟨a, vs, e, s, r⟩ := q
    exact ⟨a, vs, e, SqT.mono h s, Reps.mono h xs vs r⟩
  | .lst xs, _, q => by
    simp only [Rep] at q ⊢
    obtain ⟨a, vs, e, s, r⟩ := q
    exact ⟨a, vs, e, h _ _ s, Reps.mono h xs vs r⟩
  | .ins c fs, _, q => by
    simp only [Rep] at q ⊢
    obtain ⟨a, C, dx, vs, e, c, s, l, r⟩ := q
    exact ⟨a, C, dx, vs, e, c, h _ _ s, l, Reps.mono h fs vs r⟩
  | .dct ks xs, _, q => by
    simp only [Rep] at q ⊢
    obtain ⟨a, vs, e, s, l, r⟩ := q
    exact ⟨a, vs, e, h _ _ s, l, Reps.mono h xs vs r⟩
  | .clo n cs, _, q => by
    simp only [Rep] at q ⊢
    obtain ⟨f, c, cl, L, e, h1, h2, h3, h4⟩ := q
    refine ⟨f, c, cl, L, e, h1, h _ _ h2, h _ _ h3, ?_⟩
    rcases h4 with h4 | ⟨vs, ⟨h5, h6⟩, h7⟩
    · exact .inl h4
    · refine .inr ⟨vs, ⟨h5, fun i y v a b => ?_⟩, Reps.mono h cs vs h7⟩
      obtain ⟨c, o, u, k1, k2, k3⟩ := h6 i y v a b
      exact ⟨c, o, u, k1, h _ _ k2, k3⟩
  | .fn n, _, q => by simpa only [Rep] using q
  | .pen, _, q => by simpa only [Rep] using q
theorem Reps.mono (h : ∀ a o, S a = some o → S' a = some o) : ∀ (xs : List A) (vs : List V), Reps K D S xs vs → Reps K D S' xs vs
  | [], _, q => by simpa only [Reps] using q
  | x :: xs, _, q => by
    simp only [Reps] at q ⊢
    obtain ⟨v, r, e, a, b⟩ := q
    exact ⟨v, r, e, Rep.mono h x v a, Reps.mono h xs r b⟩
end
theorem Ext.refl : Ext D S H S H := ⟨fun _ _ h => h, fun _ _ h _ _ => h, fun _ h => h, fun _ h => .inl h⟩
theorem Ext.trans (a : Ext D S H S1 H1) (b : Ext D S1 H1 S2 H2) : Ext D S H S2 H2 where
  sub := fun c o h => b.sub c o (a.sub c o h)
  keep := fun c o h n t => b.keep c o (a.keep c o h n t) n t
  there := fun c h => b.there c (a.there c h)
  dom := fun c h => by
    rcases b.dom c h with h | h
    · exact a.dom c h
    · refine .inr ?_
      cases q : H c with
      | none => rfl
      | some o => exact absurd h (a.there c (by rw [q]; exact fun z => nomatch z))
theorem Aft.mono {α β : Type} {Rp : Hp → α → β → Prop} {r : Res α} {Q : β → Hp → Prop} (h : Aft K D Rp xk S0 H0 S H σ ρ own r Q) (e : Ext D S H S1 H1) : Aft K D Rp xk S0 H0 S1 H1 σ ρ own r Q := by
  cases r with
  | ok a p => exact fun S' H' v e' R q => h S' H' v (e.trans e') R q
  | exc c fs p => exact h
  | stuck => exact h
theorem Aft.bind {α β γ δ : Type} {Rp : Hp → α → β → Prop} {Rq : Hp → γ → δ → Prop} {r : Res α} {k : α → M γ} {Q : δ → Hp → Prop} {Q' : β → Hp → Prop} (h : Aft K D Rq xk S0 H0 S H σ ρ own (r.bind k) Q)
    (hQ : ∀ a p1 S1 H1 v, r = .ok a p1 → Ext D S H S1 H1 → Rel K D S0 H0 S1 H1 σ ρ own p1 → Rp S1 a v → Aft K D Rq xk S0 H0 S1 H1 σ ρ own (k a p1) Q → Q' v H1) : Aft K D Rp xk S0 H0 S H σ ρ own r Q' := by
  cases r with
  | ok a p1 => exact fun S1 H1 v e R q => hQ a p1 S1 H1 v rfl e R q (Aft.mono h e)
  | exc c fs p => exact h
  | stuck => exact h
theorem tG.bind {α β γ δ : Type} {Rp : Hp → α → β → Prop} {Rq : Hp → γ → δ → Prop} {m : Env' → M α} {k : α → M γ} {Q : δ → Hp → Prop} {Q' : β → Hp → Prop} (R : Rel K D S0 H0 S H σ ρ own p) (h : Aft K D Rq xk S0 H0 S H σ ρ own (bd (m ρ) k p) Q)
    (hQ : ∀ a p1 S1 H1 v, m ρ p = .ok a p1 → Ext D S H S1 H1 → Rel K D S0 H0 S1 H1 σ ρ own p1 → Rp S1 a v → Aft K D Rq xk S0 H0 S1 H1 σ ρ own (k a p1) Q → Q' v H1) : tG K D Rp own xk m σ H Q' :=
  ⟨S0, H0, S, ρ, p, R, Aft.bind h hQ⟩
/-- an outcome that is there -/
theorem Aft.ok {α β : Type} {Rp : Hp → α → β → Prop} {a : α} {v : β} {Q : β → Hp → Prop} (h : Aft K D Rp xk S0 H0 S H σ ρ own (.ok a p) Q) (R : Rel K D S0 H0 S H σ ρ own p) (r : Rp S a v) : Q v H := h S H v .refl R r
theorem Ghost.grow (g : Ghost D S H) (h : ∀ a o, S a = some o → S' a = some o) : Ghost D S' H := ⟨g.tabs, fun c φ e => h _ _ (g.exts c φ e), g.tbls, fun Sx e a o z => h _ _ (g.xc Sx e a o z)⟩
theorem Ghost.new {q : Addr} {o : HO} (g : Ghost D S H) (hs : S q = none) (hq : H q = none) (ho : ∀ ps, o ≠ .tbl ps) : Ghost D (upd S q o) (upd H q o) := by
  refine ⟨g.tabs.ext fun b u h => by rw [upd_ne (ne_of_none h hq)]; exact h, fun c φ e => ?_, fun c ps e => ?_, fun Sx e a u z => by rw [upd_ne (ne_of_none (g.xc Sx e a u z) hs)]; exact g.xc Sx e a u z⟩
  · by_cases z : c = q
    · rw [z, upd_same] at e ⊢
      exact e
    · rw [upd_ne z] at e ⊢
      exact g.exts c φ e
  · by_cases z : c = q
    · rw [z, upd_same] at e
      exact absurd (Option.some.inj e) (ho ps)
    · rw [upd_ne z] at e
      exact g.tbls c ps e
theorem Ghost.newOwn {q : Addr} {o : HO} (g : Ghost D S H) (hq : H q = none) (ho : ∀ ps, o ≠ .tbl ps) (he : ∀ φ, o ≠ .ext φ) : Ghost D S (upd H q o) := by
  refine ⟨g.tabs.ext fun b u h => by rw [upd_ne (ne_of_none h hq)]; exact h, fun c φ e => ?_, fun c ps e => ?_, g.xc⟩
  · by_cases z : c = q
    · rw [z, upd_same] at e
      exact absurd (Option.some.inj e) (he φ)
    · rw [upd_ne z] at e
      exact g.exts c φ e
  · by_cases z : c = q
    · rw [z, upd_same] at e
      exact absurd (Option.some.inj e) (ho ps)
    · rw [upd_ne z] at e
      exact g.tbls c ps e
theorem tabs_upd {H : Hp} {P Dq : Addr} {q : Str} {o u : HO} (h : LamX.TabS H P q) (hd : H Dq = some o) (n1 : ∀ ps, o ≠ .tbl ps) (n2 : ∀ φ, o ≠ .ext φ) : LamX.TabS (upd H Dq u) P q := by
  obtain ⟨ps, h1, h2, h3⟩ := h
  have nP : P ≠ Dq := fun z => by
    rw [z, hd] at h1
    exact n1 ps (Option.some.inj h1)
  refine ⟨ps, by rw [upd_ne nP]; exact h1, h2, fun pos cv hc => ?_⟩
  obtain ⟨c, e1, e2⟩ := h3 pos cv hc
  have nC : c ≠ Dq := fun z => by
    rw [z, hd] at e2
    exact n2 _ (Option.some.inj e2)
  exact ⟨c, e1, by rw [upd_ne nC]; exact e2⟩
theorem Ghost.write {q : Addr} {u o : HO} (g : Ghost D S H) (hq : H q = some u) (n1 : ∀ ps, u ≠ .tbl ps) (n2 : ∀ φ, u ≠ .ext φ) (m1 : ∀ ps, o ≠ .tbl ps) (m2 : ∀ φ, o ≠ .ext φ) : Ghost D S (upd H q o) := by
  refine ⟨fun t ht => tabs_upd (g.tabs t ht) hq n1 n2, fun c φ e => ?_, fun c ps e => ?_, g.xc⟩
  · by_cases z : c = q
    · rw [z, upd_same] at e
      exact absurd (Option.some.inj e) (m2 φ)
    · rw [upd_ne z] at e
      exact g.exts c φ e
  · by_cases z : c = q
    · rw [z, upd_same] at e
      exact absurd (Option.some.inj e) (m1 ps)
    · rw [upd_ne z] at e
      exact g.tbls c ps e
/-- an object laid: it stands still -/
theorem Good.new {q : Addr} {o : HO} (g : Good D S H p) (hq : H q = none) (ho : ∀ ps, o ≠ .tbl ps) : Good D (upd S q o) (upd H q o) p ∧ Ext D S H (upd S q o) (upd H q o) := by
  have ne : ∀ a u, H a = some u → a ≠ q := fun a u h => ne_of_none h hq
  have hp : D.π ≠ q := by
    exact ne _ _ g.pen.1
  refine ⟨⟨fun a u h => ?_, by rw [upd_ne hp]; exact g.npen, fun a ps h => ?_, ?_, g.tabs.new (by
    cases z : S q with
    | none => rfl
    | some u => exact absurd rfl (ne q u (g.sub q u z))) hq ho⟩, fun a u h => ?_, fun a u h _ _ => by rw [upd_ne (ne a u h)]; exact h, fun a h => ?_, fun a h => ?_⟩
  · by_cases e : a = q
    · subst e
      rw [upd_same] at h ⊢
      exact h
    · rw [upd_ne e] at h ⊢
      exact g.sub a u h
  · by_cases e : a = q
    · subst e
      rw [upd_same] at h
      exact ho ps (Option.some.inj h)
    · rw [upd_ne e] at h
      exact g.ntbl a ps h
  · obtain ⟨h1, h2⟩ := g.pen
    exact ⟨by rw [upd_ne hp]; exact h1, by rw [upd_ne (ne D.κ _ (g.sub _ _ h2))]; exact h2⟩
  · rw [upd_ne (ne a u (g.sub _ _ h))]
    exact h
  · by_cases e : a = q
    · rw [e]
      exact fun z => by rw [upd_same] at z; cases z
    · rw [upd_ne e]
      exact h
  · by_cases e : a = q
    · exact .inr (by rw [e]; exact hq)
    · rw [upd_ne e] at h
      exact .inl h
theorem OwnAt.mono {q : Addr} {a : A} (h : ∀ b o, S b = some o → S' b = some o) (hq : ∀ o, H q = some o → H' q = some o) (x : OwnAt K D S H q a) : OwnAt K D S' H' q a := by
  cases a with
  | lst xs =>
    obtain ⟨vs, e, r⟩ := x
    exact ⟨vs, hq _ e, Reps.mono h _ _ r⟩
  | dct ks xs =>
    obtain ⟨vs, e, l, r⟩ := x
    exact ⟨vs, hq _ e, l, Reps.mono h _ _ r⟩
  | _ => exact x.elim
theorem OwnAt.there {q : Addr} {a : A} (x : OwnAt K D S H q a) : ∃ o, H q = some o ∧ ∀ ps, o ≠ .tbl ps := by
  cases a with
  | lst xs =>
    obtain ⟨vs, e, r⟩ := x
    exact ⟨_, e, fun _ z => by cases z⟩
  | dct ks xs =>
    obtain ⟨vs, e, l, r⟩ := x
    exact ⟨_, e, fun _ z => by cases z⟩
  | _ => exact x.elim
/-- the relation goes along -/
theorem Rel.step (R : Rel K D S0 H0 S H σ ρ own p) (e : Ext D S H S1 H1) (g : Good D S1 H1 p') : Rel K D S0 H0 S1 H1 σ ρ own p' where
  good := g
  ext := R.ext.trans e
  slot := fun i a h1 h2 => by
    obtain ⟨v, h3, h4⟩ := R.slot i a h1 h2
    exact ⟨v, h3, Rep.mono e.sub _ _ h4⟩
  ownd := fun i a h1 h2 => by
    obtain ⟨q, h3, h4, h5, h6, h7⟩ := R.ownd i a h1 h2
    obtain ⟨o, h8, h9⟩ := h7.there
    refine ⟨q, h3, ?_, h5, h6, h7.mono e.sub fun u hu => ?_⟩
    · cases z : S1 q with
      | none => rfl
      | some u =>
        rcases e.dom q (by rw [z]; exact fun z => nomatch z) with y | y
        · exact absurd h4 y
        · rw [h8] at y; cases y
    · rw [h8] at hu; cases hu
      exact e.keep q _ h8 h6 h9
  dist := R.dist
  len := R.len
theorem Rel.new {q : Addr} {o : HO} (R : Rel K D S0 H0 S H σ ρ own p) (hq : H q = none) (ho : ∀ ps, o ≠ .tbl ps) : Rel K D S0 H0 (upd S q o) (upd H q o) σ ρ own p ∧ Ext D S H (upd S q o) (upd H q o) :=
  let ⟨g, e⟩ := R.good.new hq ho
  ⟨R.step e g, e⟩
end

section
variable {X : Cx} {D : Dcl} {own : List Nat} {xk : XK}
/-- an expression has a plain meaning -/
abbrev ME (X : Cx) (D : Dcl) (own : List Nat) (xk : XK) (e : Expr) (m : ME') : Prop := PE X e (tM X.K D own xk m)
theorem PE.of {e : Expr} {t t' : TE} (h : PE X e t) (i : ∀ σ H Q, t' σ H Q → t σ H Q) : PE X e t' := ⟨fun pins s σ H Q I q => h.run pins s σ H Q I (i σ H Q q)⟩
def cM (a : A) : ME' := fun _ => ret a
theorem tM.ret {a : A} {σ : L2.St} {H : Hp} {Q : VK} {v : V} (h : tM X.K D own xk (cM a) σ H Q) (r : ∀ S, Rep X.K D S a v) : Q v H := by
  obtain ⟨S0, H0, S, ρ, p, R, q⟩ := h
  exact q S H v .refl R (r S)
theorem me_int {i j pos} : ME X D own xk (.Constant (.int i) j pos) (cM (.int i)) := PE.of pe_int fun σ H Q h => tM.ret h fun _ => by simp only [Rep]
theorem me_bl {b j pos} : ME X D own xk (.Constant (.bool b) j pos) (cM (.bl b)) := PE.of pe_bl fun σ H Q h => tM.ret h fun _ => by simp only [Rep]
theorem me_non {j pos} : ME X D own xk (.Constant .none j pos) (cM .non) := PE.of pe_non fun σ H Q h => tM.ret h fun _ => by simp only [Rep]
theorem me_str {x j pos} : ME X D own xk (.Constant (.str x) j pos) (cM (.str x)) := PE.of pe_str fun σ H Q h => tM.ret h fun _ => by simp only [Rep]
def vM (i : Nat) : ME' := fun ρ => match ρ[i]? with
  | some (some a) => ret a
  | _ => fun _ => .stuck
theorem me_var {i : Nat} {x : Str} {pos : Pos} (hN : X.N[i]? = some x) (hv : Vis X.env.scope x) (ho : i ∉ own) (hd : (x == ("__debug__" : Str)) = false := by decide) (hcd : (x == ("__classdict__" : Str)) = false := by decide) : ME X D own xk (.Name x pos) (vM i) :=
  PE.of (pe_var hN hv hd hcd) fun σ H Q h => by
    obtain ⟨S0, H0, S, ρ, p, R, q⟩ := h
    unfold vM at q
    cases e : ρ[i]? with
    | none => rw [e] at q; exact q.elim
    | some o =>
      rw [e] at q
      cases o with
      | none => exact q.elim
      | some a =>
        obtain ⟨v, h1, h2⟩ := R.slot i a e ho
        exact ⟨v, h1, q S H v .refl R h2⟩
end
end Mir

/-! Mir2: operators, comparisons, displays, subscripts, calls of built-ins. -/
namespace Mir
open PySem PySem.Spec PyProof.Rows L2

section
variable {X : Cx} {D : Dcl} {own : List Nat} {xk : XK}
/-! ### two-place operations -/
def op2 (g : A → A → M A) (ma mb : ME') : ME' := fun ρ => bd (ma ρ) fun a => bd (mb ρ) fun b => g a b
/-- the plain g tells what the rule r asks -/
def Op2 (X : Cx) (D : Dcl) (own : List Nat) (xk : XK) (r : R2) (g : A → A → M A) : Prop :=
  ∀ (S0 H0 S H : Hp) (σ : L2.St) (ρ : Env') (p : Pen) (a b : A) (x y : V) (Q : VK), Rel X.K D S0 H0 S H σ ρ own p → Rep X.K D S a x → Rep X.K D S b y → Aft X.K D (Rep X.K D) xk S0 H0 S H σ ρ own (g a b p) Q → r x y H Q
theorem tOp_of {r : R2} {g : A → A → M A} {ma mb : ME'} (hg : Op2 X D own xk r g) {σ : L2.St} {H : Hp} {Q : VK} (h : tM X.K D own xk (op2 g ma mb) σ H Q) : tOp r (tM X.K D own xk ma) (tM X.K D own xk mb) σ H Q := by
  obtain ⟨S0, H0, S, ρ, p, R, q⟩ := h
  refine tG.bind R q fun a p1 S1 H1 x _ e1 R1 r1 q1 => ?_
  refine tG.bind R1 q1 fun b p2 S2 H2 y _ e2 R2 r2 q2 => ?_
  exact hg S0 H0 S2 H2 σ ρ p2 a b x y Q R2 (Rep.mono e2.sub _ _ r1) r2 q2
theorem me_op {op : Operator} {r : R2} {g : A → A → M A} {a b : Expr} {ma mb : ME'} {pos : Pos} (ho : OpR X (binaryOp op) r) (hg : Op2 X D own xk r g) (ha : ME X D own xk a ma) (hb : ME X D own xk b mb) : ME X D own xk (.BinOp a op b pos) (op2 g ma mb) :=
  PE.of (pe_op ho ha hb) fun σ H Q h => tOp_of hg h
theorem me_cmp {op : CmpOp} {r : R2} {g : A → A → M A} {a b : Expr} {ma mb : ME'} {pos : Pos} (ho : OpR X (compareOp op) r) (hg : Op2 X D own xk r g) (hm : behindInMarks op b = false) (ha : ME X D own xk a ma) (hb : ME X D own xk b mb) : ME X D own xk (.Compare a [op] [b] pos) (op2 g ma mb) :=
  PE.of (pe_cmpR ho ha hb hm) fun σ H Q h => tOp_of hg h
abbrev no {α : Type} : M α := fun _ => .stuck
/-! ### outcomes by the value -/
theorem Rep.non_iff {K : PySem.W.Frag} {S : Hp} {v : V} : Rep K D S .non v ↔ v = .non := by simp only [Rep]
theorem Rep.bl_iff {K : PySem.W.Frag} {S : Hp} {b : Bool} {v : V} : Rep K D S (.bl b) v ↔ v = .bl b := by simp only [Rep]
theorem Rep.int_iff {K : PySem.W.Frag} {S : Hp} {i : Int} {v : V} : Rep K D S (.int i) v ↔ v = .int i := by simp only [Rep]
theorem Rep.str_iff {K : PySem.W.Frag} {S : Hp} {i : Str} {v : V} : Rep K D S (.str i) v ↔ v = .str i := by simp only [Rep]
theorem Rep.tup_iff {K : PySem.W.Frag} {S : Hp} {xs : List A} {v : V} : Rep K D S (.tup xs) v ↔ ∃ a vs, v = .ref a ∧ SqT K S a vs ∧ Reps K D S xs vs := by simp only [Rep]
theorem Rep.lst_iff {K : PySem.W.Frag} {S : Hp} {xs : List A} {v : V} : Rep K D S (.lst xs) v ↔ ∃ a vs, v = .ref a ∧ S a = some (.lst vs) ∧ Reps K D S xs vs := by simp only [Rep]
theorem Reps.nil_iff {K : PySem.W.Frag} {S : Hp} {vs : List V} : Reps K D S [] vs ↔ vs = [] := by simp only [Reps]
theorem Reps.cons_iff {K : PySem.W.Frag} {S : Hp} {x : A} {xs : List A} {vs : List V} : Reps K D S (x :: xs) vs ↔ ∃ v r, vs = v :: r ∧ Rep K D S x v ∧ Reps K D S xs r := by simp only [Reps]
section
variable {K : PySem.W.Frag} {S : Hp}
theorem Reps.length : ∀ {xs : List A} {vs : List V}, Reps K D S xs vs → xs.length = vs.length
  | [], vs, h => by
    rw [Reps.nil_iff] at h
    rw [h]
    rfl
  | x :: xs, vs, h => by
    obtain ⟨v, r, rfl, _, h⟩ := Reps.cons_iff.mp h
    rw [List.length_cons, List.length_cons, Reps.length h]
theorem Reps.append : ∀ {xs ys : List A} {vs ws : List V}, Reps K D S xs vs → Reps K D S ys ws → Reps K D S (xs ++ ys) (vs ++ ws)
  | [], ys, vs, ws, h, h2 => by
    rw [Reps.nil_iff] at h
    rw [h]
    exact h2
  | x :: xs, ys, vs, ws, h, h2 => by
    obtain ⟨v, r, rfl, h1, h⟩ := Reps.cons_iff.mp h
    exact Reps.cons_iff.mpr ⟨v, r ++ ws, rfl, h1, Reps.append h h2⟩
theorem Reps.get : ∀ {xs : List A} {vs : List V} {i : Nat} {x : A}, Reps K D S xs vs → xs[i]? = some x → ∃ v, vs[i]? = some v ∧ Rep K D S x v
  | [], _, _, _, _, e => by simp at e
  | y :: xs, vs, 0, x, h, e => by
    obtain ⟨v, r, rfl, h1, _⟩ := Reps.cons_iff.mp h
    simp at e
    subst e
    exact ⟨v, rfl, h1⟩
  | y :: xs, vs, i + 1, x, h, e => by
    obtain ⟨v, r, rfl, _, h⟩ := Reps.cons_iff.mp h
    obtain ⟨w, h1, h2⟩ := Reps.get (i := i) (x := x) h (by simpa using e)
    exact ⟨w, by simpa using h1, h2⟩
theorem Reps.get' : ∀ {xs : List A} {vs : List V} {i : Nat} {v : V}, Reps K D S xs vs → vs[i]? = some v → ∃ x, xs[i]? = some x ∧ Rep K D S x v := fun {xs vs i v} h e => by
  have hl := h.length
  have hi : i < vs.length := (List.getElem?_eq_some_iff.mp e).1
  obtain ⟨w, h1, h2⟩ := h.get (x := xs[i]'(by omega)) (List.getElem?_eq_getElem (by omega))
  rw [e] at h1
  cases h1
  exact ⟨_, List.getElem?_eq_getElem (by omega), h2⟩
theorem Reps.take : ∀ {xs : List A} {vs : List V} (n : Nat), Reps K D S xs vs → Reps K D S (xs.take n) (vs.take n)
  | _, _, 0, _ => Reps.nil_iff.mpr rfl
  | [], vs, n + 1, h => by
    rw [Reps.nil_iff] at h
    rw [h]
    exact Reps.nil_iff.mpr rfl
  | x :: xs, vs, n + 1, h => by
    obtain ⟨v, r, rfl, h1, h⟩ := Reps.cons_iff.mp h
    exact Reps.cons_iff.mpr ⟨v, r.take n, rfl, h1, Reps.take n h⟩
theorem Reps.drop : ∀ {xs : List A} {vs : List V} (n : Nat), Reps K D S xs vs → Reps K D S (xs.drop n) (vs.drop n)
  | _, _, 0, h => h
  | [], vs, n + 1, h => by
    rw [Reps.nil_iff] at h
    rw [h]
    exact Reps.nil_iff.mpr rfl
  | x :: xs, vs, n + 1, h => by
    obtain ⟨v, r, rfl, h1, h⟩ := Reps.cons_iff.mp h
    exact Reps.drop n h
theorem Reps.set {x : A} {v : V} (r : Rep K D S x v) : ∀ {xs : List A} {vs : List V} (n : Nat), Reps K D S xs vs → Reps K D S (xs.set n x) (vs.set n v)
  | [], vs, n, h => by
    rw [Reps.nil_iff] at h
    rw [h]
    exact Reps.nil_iff.mpr rfl
  | y :: xs, vs, 0, h => by
    obtain ⟨w, q, rfl, h1, h⟩ := Reps.cons_iff.mp h
    exact Reps.cons_iff.mpr ⟨v, q, rfl, r, h⟩
  | y :: xs, vs, n + 1, h => by
    obtain ⟨w, q, rfl, h1, h⟩ := Reps.cons_iff.mp h
    exact Reps.cons_iff.mpr ⟨w, q.set n v, rfl, h1, Reps.set r n h⟩
theorem Reps.reverse : ∀ {xs : List A} {vs : List V}, Reps K D S xs vs → Reps K D S xs.reverse vs.reverse
  | [], vs, h => by
    rw [Reps.nil_iff] at h
    rw [h]
    exact Reps.nil_iff.mpr rfl
  | x :: xs, vs, h => by
    obtain ⟨v, r, rfl, h1, h⟩ := Reps.cons_iff.mp h
    rw [List.reverse_cons, List.reverse_cons]
    exact (Reps.reverse h).append (Reps.cons_iff.mpr ⟨v, [], rfl, h1, Reps.nil_iff.mpr rfl⟩)
theorem Reps.ints : ∀ {ns : List Int} {vs : List V}, Reps K D S (ns.map A.int) vs → vs = ns.map V.int
  | [], vs, h => Reps.nil_iff.mp h
  | n :: ns, vs, h => by
    obtain ⟨v, r, rfl, h1, h⟩ := Reps.cons_iff.mp h
    rw [Rep.int_iff.mp h1, Reps.ints h]
    rfl
theorem Reps.bls : ∀ {ns : List Bool} {vs : List V}, Reps K D S (ns.map A.bl) vs → vs = ns.map V.bl
  | [], vs, h => Reps.nil_iff.mp h
  | n :: ns, vs, h => by
    obtain ⟨v, r, rfl, h1, h⟩ := Reps.cons_iff.mp h
    rw [Rep.bl_iff.mp h1, Reps.bls h]
    rfl
end
/-- what stands still may be read -/
theorem SqL.up {K : PySem.W.Frag} {S H : Hp} {p : Pen} (g : Good D S H p) {a : Addr} {vs : List V} (h : SqL K S a vs) : SqL K H a vs := SqL.mono g.sub h
theorem SqT.up {K : PySem.W.Frag} {S H : Hp} {p : Pen} (g : Good D S H p) {a : Addr} {vs : List V} (h : SqT K S a vs) : SqT K H a vs := SqT.mono g.sub h
/-- a new tuple, a new list -/
theorem Aft.newT {K : PySem.W.Frag} {S0 H0 S H : Hp} {σ : L2.St} {ρ : Env'} {p : Pen} {xs : List A} {vs : List V} {Q : VK} {q : Addr} (R : Rel K D S0 H0 S H σ ρ own p) (r : Reps K D S xs vs) (h : Aft K D (Rep K D) xk S0 H0 S H σ ρ own (.ok (.tup xs) p) Q) (hq : H q = none) :
    Q (.ref q) (upd H q (.tup vs)) := by
  obtain ⟨R', e⟩ := R.new (o := .tup vs) hq fun _ z => by cases z
  exact h _ _ _ e R' (Rep.tup_iff.mpr ⟨q, vs, rfl, .inl (.inl upd_same), Reps.mono e.sub _ _ r⟩)
theorem Aft.newL {K : PySem.W.Frag} {S0 H0 S H : Hp} {σ : L2.St} {ρ : Env'} {p : Pen} {xs : List A} {vs : List V} {Q : VK} {q : Addr} (R : Rel K D S0 H0 S H σ ρ own p) (r : Reps K D S xs vs) (h : Aft K D (Rep K D) xk S0 H0 S H σ ρ own (.ok (.lst xs) p) Q) (hq : H q = none) :
    Q (.ref q) (upd H q (.lst vs)) := by
  obtain ⟨R', e⟩ := R.new (o := .lst vs) hq fun _ z => by cases z
  exact h _ _ _ e R' (Rep.lst_iff.mpr ⟨q, vs, rfl, upd_same, Reps.mono e.sub _ _ r⟩)

/-! ### ints -/
def iiM (g : Int → Int → M A) : A → A → M A
  | .int i, .int j => g i j
  | _, _ => no
theorem op2_ii {C : Int → Int → Prop} [∀ i j, Decidable (C i j)] {f : Int → Int → Int} : Op2 X D own xk (rI C fun i j => .int (f i j)) (iiM fun i j => if C i j then ret (.int (f i j)) else no) := by
  intro S0 H0 S H σ ρ p a b x y Q R ra rb h
  cases a <;> cases b <;> first | exact h.elim | skip
  rw [Rep.int_iff] at ra rb
  subst ra rb
  rename_i i j
  simp only [iiM] at h
  by_cases c : C i j
  · rw [if_pos c] at h
    exact ⟨i, j, rfl, rfl, c, Aft.ok h R (Rep.int_iff.mpr rfl)⟩
  · rw [if_neg c] at h
    exact h.elim
theorem op2_iib {f : Int → Int → Bool} : Op2 X D own xk (rI0 fun i j => .bl (f i j)) (iiM fun i j => ret (.bl (f i j))) := by
  intro S0 H0 S H σ ρ p a b x y Q R ra rb h
  cases a <;> cases b <;> first | exact h.elim | skip
  rw [Rep.int_iff] at ra rb
  subst ra rb
  exact ⟨_, _, rfl, rfl, Aft.ok h R (Rep.bl_iff.mpr rfl)⟩
instance (i j : Int) : Decidable (CDiv i j) := by unfold CDiv; infer_instance
instance (i j : Int) : Decidable (CPow i j) := by unfold CPow; infer_instance
instance (i j : Int) : Decidable (CMul i j) := by unfold CMul; infer_instance
/-- + of ints, texts, tuples, lists -/
def addA : A → A → M A
  | .int i, .int j => ret (.int (i + j))
  | .str s, .str t => if s.length + t.length ≤ sizeLine then ret (.str (s ++ t)) else no
  | .tup xs, .tup ys => if xs.length + ys.length ≤ sizeLine then ret (.tup (xs ++ ys)) else no
  | .lst xs, .lst ys => if xs.length + ys.length ≤ sizeLine then ret (.lst (xs ++ ys)) else no
  | _, _ => no
def rAdd (X : Cx) : R2 := fun x y H Q => (rI0 fun i j => .int (i + j)) x y H Q ∨ (∃ i j, x = .str i ∧ y = .str j ∧ i.length + j.length ≤ sizeLine ∧ Q (.str (i ++ j)) H) ∨ rCatA X.K x y H Q ∨ rCat x y H Q
theorem op_addX : OpR X (binaryOp .Add) (rAdd X) := op_add.or (op_add_str.or (op_catA.or op_cat))
theorem op2_add : Op2 X D own xk (rAdd X) addA := by
  intro S0 H0 S H σ ρ p a b x y Q R ra rb h
  cases a <;> cases b <;> first | exact h.elim | skip
  · rw [Rep.int_iff] at ra rb
    subst ra rb
    exact .inl ⟨_, _, rfl, rfl, Aft.ok h R (Rep.int_iff.mpr rfl)⟩
  · rw [Rep.str_iff] at ra rb
    subst ra rb
    simp only [addA] at h
    split at h
    · rename_i c
      exact .inr (.inl ⟨_, _, rfl, rfl, c, Aft.ok h R (Rep.str_iff.mpr rfl)⟩)
    · exact h.elim
  · obtain ⟨a1, vs, rfl, s1, r1⟩ := Rep.tup_iff.mp ra
    obtain ⟨a2, ws, rfl, s2, r2⟩ := Rep.tup_iff.mp rb
    simp only [addA] at h
    split at h
    · rename_i xs ys c
      refine .inr (.inr (.inl ⟨a1, a2, vs, ws, rfl, rfl, SqT.up R.good s1, SqT.up R.good s2, by rw [← r1.length, ← r2.length]; exact c, fun e => ?_, fun _ e => ?_, fun _ _ q hq => ?_⟩))
      · have e2 : xs = [] := by
          have := r1.length
          rw [e] at this
          exact List.eq_nil_of_length_eq_zero this
        rw [e2] at h
        exact Aft.ok h R rb
      · have e2 : ys = [] := by
          have := r2.length
          rw [e] at this
          exact List.eq_nil_of_length_eq_zero this
        rw [e2, List.append_nil] at h
        exact Aft.ok h R ra
      · exact Aft.newT R (r1.append r2) h hq
    · exact h.elim
  · obtain ⟨a1, vs, rfl, s1, r1⟩ := Rep.lst_iff.mp ra
    obtain ⟨a2, ws, rfl, s2, r2⟩ := Rep.lst_iff.mp rb
    simp only [addA] at h
    split at h
    · rename_i xs ys c
      exact .inr (.inr (.inr ⟨a1, a2, vs, ws, rfl, rfl, R.good.sub _ _ s1, R.good.sub _ _ s2, by rw [← r1.length, ← r2.length]; exact c, fun q hq => Aft.newL R (r1.append r2) h hq⟩))
    · exact h.elim
end
end Mir

/-! Mir3: more operators and comparisons. -/
namespace Mir
open PySem PySem.Spec PyProof.Rows L2
section
variable {X : Cx} {D : Dcl} {own : List Nat} {xk : XK}
def mulA : A → A → M A
  | .int i, .int j => if CMul i j then ret (.int (i * j)) else no
  | .lst xs, .int k => if -(2 ^ 63) ≤ k ∧ k < 2 ^ 63 ∧ xs.length * k.toNat ≤ sizeLine then ret (.lst (List.replicate k.toNat xs).flatten) else no
  | _, _ => no
def rMul : R2 := fun x y H Q => rI CMul (fun i j => .int (i * j)) x y H Q ∨ rRep x y H Q
theorem op_mulX : OpR X (binaryOp .Mult) rMul := op_mul.or op_rep
theorem Reps.rep {K : PySem.W.Frag} {S : Hp} {xs : List A} {vs : List V} (h : Reps K D S xs vs) : ∀ k : Nat, Reps K D S (List.replicate k xs).flatten (List.replicate k vs).flatten
  | 0 => Reps.nil_iff.mpr rfl
  | k + 1 => by
    rw [List.replicate_succ, List.replicate_succ, List.flatten_cons, List.flatten_cons]
    exact h.append (Reps.rep h k)
theorem op2_mul : Op2 X D own xk rMul mulA := by
  intro S0 H0 S H σ ρ p a b x y Q R ra rb h
  cases a <;> cases b <;> first | exact h.elim | skip
  · rw [Rep.int_iff] at ra rb
    subst ra rb
    simp only [mulA] at h
    split at h
    · rename_i c
      exact .inl ⟨_, _, rfl, rfl, c, Aft.ok h R (Rep.int_iff.mpr rfl)⟩
    · exact h.elim
  · obtain ⟨a1, vs, rfl, s1, r1⟩ := Rep.lst_iff.mp ra
    rw [Rep.int_iff] at rb
    subst rb
    simp only [mulA] at h
    split at h
    · rename_i c
      exact .inr ⟨a1, _, vs, rfl, rfl, R.good.sub _ _ s1, c.1, c.2.1, by rw [← r1.length]; exact c.2.2, fun q hq => Aft.newL R (r1.rep _) h hq⟩
    · exact h.elim
theorem op2_sub : Op2 X D own xk (rI0 fun i j => .int (i - j)) (iiM fun i j => ret (.int (i - j))) := by
  intro S0 H0 S H σ ρ p a b x y Q R ra rb h
  cases a <;> cases b <;> first | exact h.elim | skip
  rw [Rep.int_iff] at ra rb
  subst ra rb
  exact ⟨_, _, rfl, rfl, Aft.ok h R (Rep.int_iff.mpr rfl)⟩
theorem op2_bit {f : Int → Int → Int} : Op2 X D own xk (rI0 fun i j => .int (f i j)) (iiM fun i j => ret (.int (f i j))) := by
  intro S0 H0 S H σ ρ p a b x y Q R ra rb h
  cases a <;> cases b <;> first | exact h.elim | skip
  rw [Rep.int_iff] at ra rb
  subst ra rb
  exact ⟨_, _, rfl, rfl, Aft.ok h R (Rep.int_iff.mpr rfl)⟩
def subA := iiM fun i j => ret (.int (i - j))
def modA := iiM fun i j => if 0 < j then ret (.int (i % j)) else no
def fdivA := iiM fun i j => if CDiv i j then ret (.int (i / j)) else no
def powA := iiM fun i j => if CPow i j then ret (.int (i ^ j.toNat)) else no
def shlA := iiM fun i j => if CPow i j then ret (.int (i * 2 ^ j.toNat)) else no
def shrA := iiM fun i j => if 0 ≤ j then ret (.int (i / 2 ^ j.toNat)) else no
def andA := iiM fun i j => ret (.int (Builtin.bitAnd i j))
def orA := iiM fun i j => ret (.int (Builtin.bitOr i j))
def xorA := iiM fun i j => ret (.int (Builtin.bitXor i j))
section
variable {a b : Expr} {ma mb : ME'} {pos : Pos} (ha : ME X D own xk a ma) (hb : ME X D own xk b mb)
include ha hb
theorem me_add : ME X D own xk (.BinOp a .Add b pos) (op2 addA ma mb) := me_op op_addX op2_add ha hb
theorem me_sub : ME X D own xk (.BinOp a .Sub b pos) (op2 subA ma mb) := me_op op_sub op2_sub ha hb
theorem me_mul : ME X D own xk (.BinOp a .Mult b pos) (op2 mulA ma mb) := me_op op_mulX op2_mul ha hb
theorem me_mod : ME X D own xk (.BinOp a .Mod b pos) (op2 modA ma mb) := me_op op_mod op2_ii ha hb
theorem me_fdiv : ME X D own xk (.BinOp a .FloorDiv b pos) (op2 fdivA ma mb) := me_op op_fdiv op2_ii ha hb
theorem me_pow : ME X D own xk (.BinOp a .Pow b pos) (op2 powA ma mb) := me_op op_pow op2_ii ha hb
theorem me_shl : ME X D own xk (.BinOp a .LShift b pos) (op2 shlA ma mb) := me_op op_shl op2_ii ha hb
theorem me_shr : ME X D own xk (.BinOp a .RShift b pos) (op2 shrA ma mb) := me_op op_shr op2_ii ha hb
theorem me_band : ME X D own xk (.BinOp a .BitAnd b pos) (op2 andA ma mb) := me_op op_and op2_bit ha hb
theorem me_bor : ME X D own xk (.BinOp a .BitOr b pos) (op2 orA ma mb) := me_op op_or op2_bit ha hb
theorem me_bxor : ME X D own xk (.BinOp a .BitXor b pos) (op2 xorA ma mb) := me_op op_xor op2_bit ha hb
end
/-! ### - -/
def un1 (g : A → M A) (ma : ME') : ME' := fun ρ => bd (ma ρ) g
def negA : A → M A
  | .int i => ret (.int (-i))
  | _ => no
theorem me_neg {a : Expr} {ma : ME'} {pos : Pos} (ha : ME X D own xk a ma) : ME X D own xk (.UnaryOp .USub a pos) (un1 negA ma) :=
  PE.of (pe_un un_neg ha) fun σ H Q h => by
    obtain ⟨S0, H0, S, ρ, p, R, q⟩ := h
    refine tG.bind R q fun a p1 S1 H1 x _ e1 R1 r1 q1 => ?_
    cases a <;> first | exact q1.elim | skip
    rw [Rep.int_iff] at r1
    subst r1
    exact ⟨_, rfl, Aft.ok q1 R1 (Rep.int_iff.mpr rfl)⟩
/-! ### data -/
mutual
def toPy : A → Option PyData
  | .non => some .none
  | .bl b => some (.bool b)
  | .int i => some (.int i)
  | .str s => some (.str s)
  | .tup xs => (toPys xs).map .tuple
  | .lst xs => (toPys xs).map .list
  | _ => none
def toPys : List A → Option (List PyData)
  | [] => some []
  | x :: xs => match toPy x, toPys xs with
    | some d, some ds => some (d :: ds)
    | _, _ => none
end
mutual
theorem Rep.dp {K : PySem.W.Frag} {S H : Hp} (hs : ∀ a o, S a = some o → H a = some o) : ∀ (a : A) (v : V) (d : PyData), toPy a = some d → Rep K D S a v → Dp K H v d
  | .non, v, d, h, r => by
    simp only [toPy, Option.some.injEq] at h
    rw [← h, Rep.non_iff.mp r]
    exact .non
  | .bl b, v, d, h, r => by
    simp only [toPy, Option.some.injEq] at h
    rw [← h, Rep.bl_iff.mp r]
    exact .bl b
  | .int b, v, d, h, r => by
    simp only [toPy, Option.some.injEq] at h
    rw [← h, Rep.int_iff.mp r]
    exact .int b
  | .str b, v, d, h, r => by
    simp only [toPy, Option.some.injEq] at h
    rw [← h, Rep.str_iff.mp r]
    exact .str b
  | .tup xs, v, d, h, r => by
    simp only [toPy, Option.map_eq_some_iff] at h
    obtain ⟨ds, h, rfl⟩ := h
    obtain ⟨a, vs, rfl, s, r⟩ := Rep.tup_iff.mp r
    exact .tup (SqT.mono hs s) (Reps.dp hs xs vs ds h r)
  | .lst xs, v, d, h, r => by
    simp only [toPy, Option.map_eq_some_iff] at h
    obtain ⟨ds, h, rfl⟩ := h
    obtain ⟨a, vs, rfl, s, r⟩ := Rep.lst_iff.mp r
    exact .lst (SqL.of (hs _ _ s)) (Reps.dp hs xs vs ds h r)
  | .ins _ _, _, _, h, _ => by simp only [toPy] at h; cases h
  | .dct _ _, _, _, h, _ => by simp only [toPy] at h; cases h
  | .clo _ _, _, _, h, _ => by simp only [toPy] at h; cases h
  | .fn _, _, _, h, _ => by simp only [toPy] at h; cases h
  | .pen, _, _, h, _ => by simp only [toPy] at h; cases h
theorem Reps.dp {K : PySem.W.Frag} {S H : Hp} (hs : ∀ a o, S a = some o → H a = some o) : ∀ (xs : List A) (vs : List V) (ds : List PyData), toPys xs = some ds → Reps K D S xs vs → DpAll K H vs ds
  | [], vs, ds, h, r => by
    simp only [toPys, Option.some.injEq] at h
    rw [← h, Reps.nil_iff.mp r]
    exact .nil
  | x :: xs, vs, ds, h, r => by
    obtain ⟨v, vr, rfl, r1, r2⟩ := Reps.cons_iff.mp r
    simp only [toPys] at h
    cases hx : toPy x with
    | none => simp [hx] at h
    | some d =>
      cases hxs : toPys xs with
      | none => simp [hx, hxs] at h
      | some es =>
        simp only [hx, hxs, Option.some.injEq] at h
        rw [← h]
        exact .cons (Rep.dp hs x v d hx r1) (Reps.dp hs xs vr es hxs r2)
end
def eqO (a b : A) : Option Bool := match toPy a, toPy b with
  | some d, some e => if SeqAt.shaped d && SeqAt.shaped e then some (PyData.eqv d e) else none
  | _, _ => none
def eqA (a b : A) : M A := match eqO a b with
  | some r => ret (.bl r)
  | none => no
def neA (a b : A) : M A := match eqO a b with
  | some r => ret (.bl (!r))
  | none => no
theorem eqO_some {a b : A} {r : Bool} (h : eqO a b = some r) : ∃ d e, toPy a = some d ∧ toPy b = some e ∧ SeqAt.shaped d = true ∧ SeqAt.shaped e = true ∧ r = PyData.eqv d e := by
  unfold eqO at h
  cases ha : toPy a with
  | none => simp [ha] at h
  | some d =>
    cases hb : toPy b with
    | none => simp [ha, hb] at h
    | some e =>
      simp only [ha, hb] at h
      split at h
      · rename_i c
        rw [Bool.and_eq_true] at c
        exact ⟨d, e, rfl, rfl, c.1, c.2, (Option.some.inj h).symm⟩
      · cases h
theorem op2_eq : Op2 X D own xk (rEqD X.K) eqA := by
  intro S0 H0 S H σ ρ p a b x y Q R ra rb h
  unfold eqA at h
  cases e : eqO a b with
  | none => rw [e] at h; exact h.elim
  | some r =>
    rw [e] at h
    obtain ⟨d, e2, h1, h2, h3, h4, rfl⟩ := eqO_some e
    exact ⟨d, e2, Rep.dp R.good.sub a x d h1 ra, Rep.dp R.good.sub b y e2 h2 rb, h3, h4, Aft.ok h R (Rep.bl_iff.mpr rfl)⟩
theorem op2_ne : Op2 X D own xk (rNeD X.K) neA := by
  intro S0 H0 S H σ ρ p a b x y Q R ra rb h
  unfold neA at h
  cases e : eqO a b with
  | none => rw [e] at h; exact h.elim
  | some r =>
    rw [e] at h
    obtain ⟨d, e2, h1, h2, h3, h4, rfl⟩ := eqO_some e
    exact ⟨d, e2, Rep.dp R.good.sub a x d h1 ra, Rep.dp R.good.sub b y e2 h2 rb, h3, h4, Aft.ok h R (Rep.bl_iff.mpr rfl)⟩
/-- in, not in: lists, tuples -/
def rInX (K : PySem.W.Frag) : R2 := fun x y H Q => rInD K x y H Q ∨ ∃ d ds, Dp K H x d ∧ Dp K H y (.tuple ds) ∧ SeqAt.shaped d = true ∧ SeqAt.shaped (.list ds) = true ∧ Q (.bl (ds.any fun z => PyData.eqv z d)) H
def rNotInX (K : PySem.W.Frag) : R2 := fun x y H Q => rNotInD K x y H Q ∨ ∃ d ds, Dp K H x d ∧ Dp K H y (.tuple ds) ∧ SeqAt.shaped d = true ∧ SeqAt.shaped (.list ds) = true ∧ Q (.bl (!ds.any fun z => PyData.eqv z d)) H
theorem op_inX (hu : X.A.units + 65 < cLine) : OpR X (compareOp .In) (rInX X.K) := by
  refine (op_inD hu).or ?_
  intro pins s σ H x y v u Q I rx ry h
  obtain ⟨d, ds, hd, he, sd, se, q⟩ := h
  obtain ⟨as, r1⟩ := Dp.reads I d x v hd rx
  obtain ⟨bs, r2⟩ := Dp.reads I (.tuple ds) y u he ry
  exact SeqAt.in_tuple_reads r2 r1 (SeqAt.canLay_of_shaped se) (SeqAt.canLay_of_shaped sd) (room_in_shaped sd hu) ⟨.bl _, H, I, rfl, q⟩
theorem op_notInX (hu : X.A.units + 65 < cLine) : OpR X (compareOp .NotIn) (rNotInX X.K) := by
  refine (op_notInD hu).or ?_
  intro pins s σ H x y v u Q I rx ry h
  obtain ⟨d, ds, hd, he, sd, se, q⟩ := h
  obtain ⟨as, r1⟩ := Dp.reads I d x v hd rx
  obtain ⟨bs, r2⟩ := Dp.reads I (.tuple ds) y u he ry
  exact SeqAt.notIn_tuple_reads r2 r1 (SeqAt.canLay_of_shaped se) (SeqAt.canLay_of_shaped sd) (room_in_shaped sd hu) ⟨.bl _, H, I, rfl, q⟩
def inO (a : A) (ys : List A) : Option Bool := match toPy a, toPys ys with
  | some d, some ds => if SeqAt.shaped d && SeqAt.shaped (.list ds) then some (ds.any fun z => PyData.eqv z d) else none
  | _, _ => none
def inA : A → A → M A
  | a, .lst ys => match inO a ys with
    | some r => ret (.bl r)
    | none => no
  | a, .tup ys => match inO a ys with
    | some r => ret (.bl r)
    | none => no
  | _, _ => no
def notInA : A → A → M A
  | a, .lst ys => match inO a ys with
    | some r => ret (.bl (!r))
    | none => no
  | a, .tup ys => match inO a ys with
    | some r => ret (.bl (!r))
    | none => no
  | _, _ => no
theorem inO_some {a : A} {ys : List A} {r : Bool} (h : inO a ys = some r) : ∃ d ds, toPy a = some d ∧ toPys ys = some ds ∧ SeqAt.shaped d = true ∧ SeqAt.shaped (.list ds) = true ∧ r = ds.any fun z => PyData.eqv z d := by
  unfold inO at h
  cases ha : toPy a with
  | none => simp [ha] at h
  | some d =>
    cases hb : toPys ys with
    | none => simp [ha, hb] at h
    | some e =>
      simp only [ha, hb] at h
      split at h
      · rename_i c
        rw [Bool.and_eq_true] at c
        exact ⟨d, e, rfl, rfl, c.1, c.2, (Option.some.inj h).symm⟩
      · cases h
theorem op2_in : Op2 X D own xk (rInX X.K) inA := by
  intro S0 H0 S H σ ρ p a b x y Q R ra rb h
  cases b <;> first | exact h.elim | skip
  all_goals
    rename_i ys
    simp only [inA] at h
    cases e : inO a ys with
    | none => rw [e] at h; exact h.elim
    | some r =>
      rw [e] at h
      obtain ⟨d, ds, h1, h2, h3, h4, rfl⟩ := inO_some e
      first
        | exact .inl ⟨d, ds, Rep.dp R.good.sub a x d h1 ra, Rep.dp R.good.sub (.lst ys) y (.list ds) (by simp [toPy, h2]) rb, h3, h4, Aft.ok h R (Rep.bl_iff.mpr rfl)⟩
        | exact .inr ⟨d, ds, Rep.dp R.good.sub a x d h1 ra, Rep.dp R.good.sub (.tup ys) y (.tuple ds) (by simp [toPy, h2]) rb, h3, h4, Aft.ok h R (Rep.bl_iff.mpr rfl)⟩
theorem op2_notIn : Op2 X D own xk (rNotInX X.K) notInA := by
  intro S0 H0 S H σ ρ p a b x y Q R ra rb h
  cases b <;> first | exact h.elim | skip
  all_goals
    rename_i ys
    simp only [notInA] at h
    cases e : inO a ys with
    | none => rw [e] at h; exact h.elim
    | some r =>
      rw [e] at h
      obtain ⟨d, ds, h1, h2, h3, h4, rfl⟩ := inO_some e
      first
        | exact .inl ⟨d, ds, Rep.dp R.good.sub a x d h1 ra, Rep.dp R.good.sub (.lst ys) y (.list ds) (by simp [toPy, h2]) rb, h3, h4, Aft.ok h R (Rep.bl_iff.mpr rfl)⟩
        | exact .inr ⟨d, ds, Rep.dp R.good.sub a x d h1 ra, Rep.dp R.good.sub (.tup ys) y (.tuple ds) (by simp [toPy, h2]) rb, h3, h4, Aft.ok h R (Rep.bl_iff.mpr rfl)⟩
/-! ### < of ints and of alike data -/
def isNonP : PyData → Bool
  | .none => true
  | _ => false
def ltO (a b : A) : Option Bool := match toPy a, toPy b with
  | some d, some e => if PySem.W.alike d e && !isNonP d && decide (d.depth ≤ 64) then some (PySem.W.dataLt d e) else none
  | _, _ => none
def ltA : A → A → M A
  | .int i, .int j => ret (.bl (decide (i < j)))
  | a, b => match ltO a b with
    | some r => ret (.bl r)
    | none => no
def rLtD (K : PySem.W.Frag) : R2 := fun x y H Q => ∃ d e, Dp K H x d ∧ Dp K H y e ∧ PySem.W.alike d e = true ∧ d ≠ .none ∧ d.depth ≤ 64 ∧ Q (.bl (PySem.W.dataLt d e)) H
theorem op_ltD (hu : X.A.units + 65 < cLine) : OpR X (compareOp .Lt) (rLtD X.K) := by
  intro pins s σ H x y v u Q I rx ry h
  obtain ⟨d, e, hd, he, al, hn, dp, q⟩ := h
  obtain ⟨as, r1⟩ := Dp.reads I d x v hd rx
  obtain ⟨bs, r2⟩ := Dp.reads I e y u he ry
  exact PySem.W.rcLt_alike d e X.A s v u as bs r1 r2 al hn (by omega) X.prog X.w _ _ ⟨.bl _, H, I, rfl, q⟩
theorem op2_lt : Op2 X D own xk (fun x y H Q => rI0 (fun i j => .bl (decide (i < j))) x y H Q ∨ rLtD X.K x y H Q) ltA := by
  intro S0 H0 S H σ ρ p a b x y Q R ra rb h
  have gen : ∀ r, ltO a b = some r → Aft X.K D (Rep X.K D) xk S0 H0 S H σ ρ own (.ok (.bl r) p) Q → rLtD X.K x y H Q := fun r e h => by
    unfold ltO at e
    cases h1 : toPy a with
    | none => simp [h1] at e
    | some d =>
      cases h2 : toPy b with
      | none => simp [h1, h2] at e
      | some e2 =>
        simp only [h1, h2] at e
        split at e
        · rename_i c
          simp only [Bool.and_eq_true, decide_eq_true_eq, Bool.not_eq_true'] at c
          have e := Option.some.inj e
          subst e
          exact ⟨d, e2, Rep.dp R.good.sub a x d h1 ra, Rep.dp R.good.sub b y e2 h2 rb, c.1.1, fun z => by rw [z] at c; simp [isNonP] at c, c.2, Aft.ok h R (Rep.bl_iff.mpr rfl)⟩
        · cases e
  by_cases hi : ∃ i j, a = .int i ∧ b = .int j
  · obtain ⟨i, j, rfl, rfl⟩ := hi
    rw [Rep.int_iff] at ra rb
    subst ra rb
    exact .inl ⟨_, _, rfl, rfl, Aft.ok h R (Rep.bl_iff.mpr rfl)⟩
  · have e : ltA a b = match ltO a b with
      | some r => ret (.bl r)
      | none => no := by
      cases a <;> cases b <;> first | rfl | exact absurd ⟨_, _, rfl, rfl⟩ hi
    rw [e] at h
    cases z : ltO a b with
    | none => rw [z] at h; exact h.elim
    | some r => rw [z] at h; exact .inr (gen r z h)
def leA := iiM fun i j => ret (.bl (decide (i ≤ j)))
def gtA := iiM fun i j => ret (.bl (decide (j < i)))
def geA := iiM fun i j => ret (.bl (decide (j ≤ i)))
/-! ### is -/
theorem op_isB : OpR X (compareOp .Is) (fun x y H Q => ∃ b, y = .bl b ∧ Q (.bl (decide (x = .bl b))) H) := by
  intro pins s σ H x y v u Q I rx ry h
  obtain ⟨b, rfl, q⟩ := h
  cases (show u = Value.bool b from ry)
  have fin : ∀ c, (v == Value.bool b) = c → decide (x = .bl b) = c → plainIs v (.bool b) = true → wpAny (model X.prog X.w) X.A (compareOp .Is v (.bool b)) (EP X pins σ Q) X.xe s := fun c h1 h2 h3 =>
    wpAny_is_plain h3 ⟨.bl c, H, I, by rw [h1]; rfl, by rw [← h2]; exact q⟩
  cases x with
  | bl a =>
    cases (show v = Value.bool a from rx)
    exact fin (a == b) (by cases a <;> cases b <;> rfl) (by cases a <;> cases b <;> rfl) rfl
  | non => cases (show v = Value.none from rx); exact fin false rfl rfl rfl
  | int i => obtain ⟨t, rfl⟩ := rx; exact fin false rfl rfl rfl
  | str i => obtain ⟨t, rfl⟩ := rx; exact fin false rfl rfl rfl
  | byt i => obtain ⟨t, rfl⟩ := rx; exact fin false rfl rfl rfl
  | flt i => obtain ⟨t, rfl⟩ := rx; exact fin false rfl rfl rfl
  | ref i => cases (show v = Value.ref i from rx); exact fin false rfl rfl rfl
  | ty i => cases (show v = Value.type i from rx); exact fin false rfl rfl rfl
def sameN : A → A → Option Bool
  | .non, .non => some true
  | _, .non => some false
  | .bl a, .bl b => some (a == b)
  | _, .bl _ => some false
  | _, _ => none
def isA (a b : A) : M A := match sameN a b with
  | some r => ret (.bl r)
  | none => no
def isNotA (a b : A) : M A := match sameN a b with
  | some r => ret (.bl (!r))
  | none => no
theorem Rep.not_non {K : PySem.W.Frag} {S : Hp} {a : A} {v : V} (r : Rep K D S a v) (h : a ≠ .non) : v ≠ .non := by
  cases a <;> simp only [Rep] at r <;> first
    | exact absurd rfl h
    | (subst r; exact fun z => by cases z)
    | (obtain ⟨_, _, _, _, rfl, _⟩ := r; exact fun z => by cases z)
    | (obtain ⟨_, _, rfl, _⟩ := r; exact fun z => by cases z)
    | (obtain ⟨_, rfl, _⟩ := r; exact fun z => by cases z)
theorem Rep.not_bl {K : PySem.W.Frag} {S : Hp} {a : A} {v : V} {b : Bool} (r : Rep K D S a v) (h : ∀ c, a ≠ .bl c) : v ≠ .bl b := by
  cases a <;> simp only [Rep] at r <;> first
    | exact absurd rfl (h _)
    | (subst r; exact fun z => by cases z)
    | (obtain ⟨_, _, _, _, rfl, _⟩ := r; exact fun z => by cases z)
    | (obtain ⟨_, _, rfl, _⟩ := r; exact fun z => by cases z)
    | (obtain ⟨_, rfl, _⟩ := r; exact fun z => by cases z)
theorem op2_is : Op2 X D own xk (fun x y H Q => (y = .non ∧ Q (.bl (decide (x = .non))) H) ∨ ∃ b, y = .bl b ∧ Q (.bl (decide (x = .bl b))) H) isA := by
  intro S0 H0 S H σ ρ p a b x y Q R ra rb h
  unfold isA at h
  cases z : sameN a b with
  | none => rw [z] at h; exact h.elim
  | some r =>
    rw [z] at h
    have q : Q (.bl r) H := Aft.ok h R (Rep.bl_iff.mpr rfl)
    cases b <;> first | (cases a <;> simp [sameN] at z; done) | skip
    · rw [Rep.non_iff] at rb
      subst rb
      refine .inl ⟨rfl, ?_⟩
      by_cases e : a = .non
      · subst e
        rw [Rep.non_iff] at ra
        subst ra
        simp [sameN] at z
        subst z
        simpa using q
      · have n := Rep.not_non ra e
        have : r = false := by cases a <;> simp [sameN] at z e ⊢ <;> first | exact z | exact z.symm
        subst this
        simpa [n] using q
    · rename_i b
      rw [Rep.bl_iff] at rb
      subst rb
      refine .inr ⟨b, rfl, ?_⟩
      by_cases e : ∃ c, a = .bl c
      · obtain ⟨c, rfl⟩ := e
        rw [Rep.bl_iff] at ra
        subst ra
        simp [sameN] at z
        subst z
        cases b <;> cases c <;> simpa using q
      · have n := Rep.not_bl (b := b) ra fun c z => e ⟨c, z⟩
        have : r = false := by cases a <;> simp [sameN] at z e ⊢ <;> first | exact z | exact z.symm
        subst this
        simpa [n] using q
theorem op_isX : OpR X (compareOp .Is) (fun x y H Q => (y = .non ∧ Q (.bl (decide (x = .non))) H) ∨ ∃ b, y = .bl b ∧ Q (.bl (decide (x = .bl b))) H) := op_isN.or op_isB
theorem op_isNotN : OpR X (compareOp .IsNot) (fun x y H Q => y = .non ∧ Q (.bl (!decide (x = .non))) H) := op_notN
theorem op2_isNot : Op2 X D own xk (fun x y H Q => y = .non ∧ Q (.bl (!decide (x = .non))) H) (fun a b => match b with | .non => isNotA a .non | _ => no) := by
  intro S0 H0 S H σ ρ p a b x y Q R ra rb h
  cases b <;> first | exact h.elim | skip
  rw [Rep.non_iff] at rb
  subst rb
  refine ⟨rfl, ?_⟩
  by_cases e : a = .non
  · subst e
    rw [Rep.non_iff] at ra
    subst ra
    exact Aft.ok (a := A.bl false) h R (Rep.bl_iff.mpr rfl)
  · have n := Rep.not_non ra e
    have e2 : isNotA a .non = ret (.bl true) := by cases a <;> first | exact absurd rfl e | rfl
    have h : Aft X.K D (Rep X.K D) xk S0 H0 S H σ ρ own (isNotA a .non p) Q := h
    rw [e2] at h
    have q := Aft.ok (a := A.bl true) h R (Rep.bl_iff.mpr rfl)
    simpa [n] using q
def isNotNA : A → A → M A := fun a b => match b with | .non => isNotA a .non | _ => no
section
variable {a b : Expr} {ma mb : ME'} {pos : Pos} (hu : X.A.units + 65 < cLine) (ha : ME X D own xk a ma) (hb : ME X D own xk b mb)
include hu ha hb
theorem me_eq : ME X D own xk (.Compare a [.Eq] [b] pos) (op2 eqA ma mb) := me_cmp (op_eqD (by omega)) op2_eq (nomark _) ha hb
theorem me_ne : ME X D own xk (.Compare a [.NotEq] [b] pos) (op2 neA ma mb) := me_cmp (op_neD (by omega)) op2_ne (nomark _) ha hb
theorem me_in (hm : behindInMarks .In b = false) : ME X D own xk (.Compare a [.In] [b] pos) (op2 inA ma mb) := me_cmp (op_inX hu) op2_in hm ha hb
theorem me_notIn (hm : behindInMarks .NotIn b = false) : ME X D own xk (.Compare a [.NotIn] [b] pos) (op2 notInA ma mb) := me_cmp (op_notInX hu) op2_notIn hm ha hb
theorem me_lt : ME X D own xk (.Compare a [.Lt] [b] pos) (op2 ltA ma mb) := me_cmp (op_lt.or (op_ltD hu)) op2_lt (nomark _) ha hb
omit hu
theorem me_le : ME X D own xk (.Compare a [.LtE] [b] pos) (op2 leA ma mb) := me_cmp op_le op2_iib (nomark _) ha hb
theorem me_gt : ME X D own xk (.Compare a [.Gt] [b] pos) (op2 gtA ma mb) := me_cmp op_gt op2_iib (nomark _) ha hb
theorem me_ge : ME X D own xk (.Compare a [.GtE] [b] pos) (op2 geA ma mb) := me_cmp op_ge op2_iib (nomark _) ha hb
theorem me_is : ME X D own xk (.Compare a [.Is] [b] pos) (op2 isA ma mb) := me_cmp op_isX op2_is (nomark _) ha hb
theorem me_isNot : ME X D own xk (.Compare a [.IsNot] [b] pos) (op2 isNotNA ma mb) := me_cmp op_isNotN op2_isNot (nomark _) ha hb
end
end
end Mir

/-! Mir4: tests, and, or, not; arguments, displays, subscripts. -/
namespace Mir
open PySem PySem.Spec PyProof.Rows L2
section
variable {X : Cx} {D : Dcl} {own : List Nat} {xk : XK}
abbrev MT (X : Cx) (D : Dcl) (own : List Nat) (xk : XK) (e : Expr) (m : Env' → M Bool) : Prop := PT X e (tMb X.K D own xk m)
abbrev MW (X : Cx) (D : Dcl) (own : List Nat) (xk : XK) (e : Expr) (m : Env' → M Bool) : Prop := PW X e (tMb X.K D own xk m)
abbrev MA (X : Cx) (D : Dcl) (own : List Nat) (xk : XK) (es : List Expr) (m : Env' → M (List A)) : Prop := PA X es (tMs X.K D own xk m)
theorem PT.of {e : Expr} {t t' : TT} (h : PT X e t) (i : ∀ σ H Q, t' σ H Q → t σ H Q) : PT X e t' := ⟨fun pins s σ H Q I q => h.run pins s σ H Q I (i σ H Q q)⟩
theorem PW.of {e : Expr} {t t' : TT} (h : PW X e t) (i : ∀ σ H Q, t' σ H Q → t σ H Q) : PW X e t' := ⟨fun w pins s σ H Q I q => h.run w pins s σ H Q I (i σ H Q q)⟩
theorem PA.of {es : List Expr} {t t' : TA} (h : PA X es t) (i : ∀ σ H Q, t' σ H Q → t σ H Q) : PA X es t' := ⟨fun pos pins s σ H Q I q => h.run pos pins s σ H Q I (i σ H Q q)⟩
/-! ### truth -/
def truthA : A → M Bool
  | .non => ret false
  | .bl b => ret b
  | .int i => ret (i != 0)
  | .str s => if s.length ≤ sizeLine then ret ((s.length : Int) != 0) else no
  | .tup xs => ret (!xs.isEmpty)
  | .lst xs => ret (!xs.isEmpty)
  | .dct ks xs => ret (!xs.isEmpty)
  | _ => no
theorem Reps.isEmpty {K : PySem.W.Frag} {S : Hp} {xs : List A} {vs : List V} (h : Reps K D S xs vs) : xs.isEmpty = vs.isEmpty := by
  have := h.length
  cases xs <;> cases vs <;> simp_all
theorem truth_of {S0 H0 S H : Hp} {σ : L2.St} {ρ : Env'} {p : Pen} {a : A} {x : V} {Q : Bool → Hp → Prop} (R : Rel X.K D S0 H0 S H σ ρ own p) (r : Rep X.K D S a x) (h : Aft X.K D RpB xk S0 H0 S H σ ρ own (truthA a p) Q) :
    ∃ k, TruV X.K x H k ∧ Q k H := by
  cases a <;> simp only [truthA] at h
  · rw [Rep.non_iff] at r; subst r
    exact ⟨false, rfl, Aft.ok h R rfl⟩
  · rw [Rep.bl_iff] at r; subst r
    exact ⟨_, rfl, Aft.ok h R rfl⟩
  · rw [Rep.int_iff] at r; subst r
    exact ⟨_, rfl, Aft.ok h R rfl⟩
  · rw [Rep.str_iff] at r; subst r
    split at h
    · rename_i c
      exact ⟨_, ⟨c, rfl⟩, Aft.ok h R rfl⟩
    · exact h.elim
  · obtain ⟨a, vs, rfl, s, r⟩ := Rep.tup_iff.mp r
    exact ⟨_, .inr (.inl ⟨vs, SqT.up R.good s, rfl⟩), by rw [← r.isEmpty]; exact Aft.ok h R rfl⟩
  · obtain ⟨a, vs, rfl, s, r⟩ := Rep.lst_iff.mp r
    exact ⟨_, .inl ⟨vs, SqL.of (R.good.sub _ _ s), rfl⟩, by rw [← r.isEmpty]; exact Aft.ok h R rfl⟩
  · exact h.elim
  · rename_i ks xs
    simp only [Rep] at r
    obtain ⟨a, vs, rfl, s, l, r⟩ := r
    refine ⟨_, .inr (.inr ⟨_, R.good.sub _ _ s, rfl⟩), ?_⟩
    have e : (ks.zip vs).isEmpty = xs.isEmpty := by
      rw [r.isEmpty]
      cases ks <;> cases vs <;> simp_all
    rw [e]
    exact Aft.ok h R rfl
  all_goals exact h.elim
def truM (m : ME') : Env' → M Bool := fun ρ => bd (m ρ) truthA
theorem mt_val {e : Expr} {m : ME'} (h : ME X D own xk e m) (he : ∀ whole, isTrue e X.env whole = (do let v ← whole; standAt e.pos; holding [v] (truthy v))) : MT X D own xk e (truM m) :=
  PT.of (pt_truth h he) fun σ H Q q => by
    obtain ⟨S0, H0, S, ρ, p, R, q⟩ := q
    exact tG.bind R q fun a p1 S1 H1 x _ e1 R1 r1 q1 => truth_of R1 r1 q1
def toB : A → M Bool
  | .bl b => ret b
  | _ => no
def tstM (m : ME') : Env' → M Bool := fun ρ => bd (m ρ) toB
theorem t_test {m : ME'} {σ : L2.St} {H : Hp} {Q : Bool → Hp → Prop} (q : tMb X.K D own xk (tstM m) σ H Q) : tM X.K D own xk m σ H (fun x H' => ∃ k, x = .bl k ∧ Q k H') := by
  obtain ⟨S0, H0, S, ρ, p, R, q⟩ := q
  refine tG.bind R q fun a p1 S1 H1 x _ e1 R1 r1 q1 => ?_
  cases a <;> first | exact q1.elim | skip
  rw [Rep.bl_iff] at r1
  exact ⟨_, r1, Aft.ok q1 R1 rfl⟩
theorem mt_cmp {op : CmpOp} {r : R2} {g : A → A → M A} {a b : Expr} {ma mb : ME'} {pos : Pos} (ho : OpR X (compareOp op) r) (hg : Op2 X D own xk r g) (hm : behindInMarks op b = false) (ha : ME X D own xk a ma) (hb : ME X D own xk b mb) : MT X D own xk (.Compare a [op] [b] pos) (tstM (op2 g ma mb)) :=
  PT.of (pt_cmpR ho ha hb hm) fun σ H Q h => tOp_of hg (t_test h)
section
variable {a b : Expr} {ma mb : ME'} {pos : Pos} (hu : X.A.units + 65 < cLine) (ha : ME X D own xk a ma) (hb : ME X D own xk b mb)
include hu ha hb
theorem mt_eq : MT X D own xk (.Compare a [.Eq] [b] pos) (tstM (op2 eqA ma mb)) := mt_cmp (op_eqD (by omega)) op2_eq (nomark _) ha hb
theorem mt_ne : MT X D own xk (.Compare a [.NotEq] [b] pos) (tstM (op2 neA ma mb)) := mt_cmp (op_neD (by omega)) op2_ne (nomark _) ha hb
theorem mt_in (hm : behindInMarks .In b = false) : MT X D own xk (.Compare a [.In] [b] pos) (tstM (op2 inA ma mb)) := mt_cmp (op_inX hu) op2_in hm ha hb
theorem mt_notIn (hm : behindInMarks .NotIn b = false) : MT X D own xk (.Compare a [.NotIn] [b] pos) (tstM (op2 notInA ma mb)) := mt_cmp (op_notInX hu) op2_notIn hm ha hb
theorem mt_lt : MT X D own xk (.Compare a [.Lt] [b] pos) (tstM (op2 ltA ma mb)) := mt_cmp (op_lt.or (op_ltD hu)) op2_lt (nomark _) ha hb
omit hu
theorem mt_le : MT X D own xk (.Compare a [.LtE] [b] pos) (tstM (op2 leA ma mb)) := mt_cmp op_le op2_iib (nomark _) ha hb
theorem mt_gt : MT X D own xk (.Compare a [.Gt] [b] pos) (tstM (op2 gtA ma mb)) := mt_cmp op_gt op2_iib (nomark _) ha hb
theorem mt_ge : MT X D own xk (.Compare a [.GtE] [b] pos) (tstM (op2 geA ma mb)) := mt_cmp op_ge op2_iib (nomark _) ha hb
theorem mt_is : MT X D own xk (.Compare a [.Is] [b] pos) (tstM (op2 isA ma mb)) := mt_cmp op_isX op2_is (nomark _) ha hb
theorem mt_isNot : MT X D own xk (.Compare a [.IsNot] [b] pos) (tstM (op2 isNotNA ma mb)) := mt_cmp op_isNotN op2_isNot (nomark _) ha hb
end
/-! ### a op b op' c (ints) -/
def chn (g g' : A → A → M A) (ma mb mc : ME') : ME' := fun ρ => bd (ma ρ) fun a => bd (mb ρ) fun b => bd (g a b) fun r => bd (toB r) fun k => if k then bd (mc ρ) fun c => g' b c else ret (.bl false)
theorem tChain_of {r r' : R2} {g g' : A → A → M A} {ma mb mc : ME'} (hg : Op2 X D own xk r g) (hg' : Op2 X D own xk r' g') {σ : L2.St} {H : Hp} {Q : VK} (h : tM X.K D own xk (chn g g' ma mb mc) σ H Q) : tChain r r' (tM X.K D own xk ma) (tM X.K D own xk mb) (tM X.K D own xk mc) σ H Q := by
  obtain ⟨S0, H0, S, ρ, p, R, q⟩ := h
  refine tG.bind R q fun a p1 S1 H1 x _ e1 R1 r1 q1 => ?_
  refine tG.bind R1 q1 fun b p2 S2 H2 y _ e2 R2 r2 q2 => ?_
  refine hg S0 H0 S2 H2 σ ρ p2 a b x y _ R2 (Rep.mono e2.sub _ _ r1) r2 (Aft.bind q2 fun c p3 S3 H3 z _ e3 R3 r3 q3 => ?_)
  cases c <;> first | exact q3.elim | skip
  rename_i k _
  rw [Rep.bl_iff] at r3
  refine ⟨k, r3, ?_⟩
  cases k with
  | false => exact Aft.ok (a := A.bl false) q3 R3 (Rep.bl_iff.mpr rfl)
  | true =>
    rw [if_pos rfl]
    exact tG.bind R3 q3 fun c p4 S4 H4 w _ e4 R4 r4 q4 => hg' S0 H0 S4 H4 σ ρ p4 b c y w Q R4 (Rep.mono e4.sub _ _ (Rep.mono e3.sub _ _ r2)) r4 q4
theorem me_chain {op op' : CmpOp} {r r' : R2} {g g' : A → A → M A} {a b c : Expr} {ma mb mc : ME'} {pos : Pos} (ho : OpR X (compareOp op) r) (ho' : OpR X (compareOp op') r') (hg : Op2 X D own xk r g) (hg' : Op2 X D own xk r' g') (ha : ME X D own xk a ma) (hb : ME X D own xk b mb) (hc : ME X D own xk c mc)
    (hm : lastMarks [op, op'] [b, c] = false) : ME X D own xk (.Compare a [op, op'] [b, c] pos) (chn g g' ma mb mc) :=
  PE.of (pe_chain ho ho' ha hb hc hm) fun σ H Q h => tChain_of hg hg' h
theorem mt_chain {op op' : CmpOp} {r r' : R2} {g g' : A → A → M A} {a b c : Expr} {ma mb mc : ME'} {pos : Pos} (ho : OpR X (compareOp op) r) (ho' : OpR X (compareOp op') r') (hg : Op2 X D own xk r g) (hg' : Op2 X D own xk r' g') (ha : ME X D own xk a ma) (hb : ME X D own xk b mb) (hc : ME X D own xk c mc)
    (hm : lastMarks [op, op'] [b, c] = false) : MT X D own xk (.Compare a [op, op'] [b, c] pos) (tstM (chn g g' ma mb mc)) :=
  PT.of (pt_chain ho ho' ha hb hc hm) fun σ H Q h => tChain_of hg hg' (t_test h)
theorem op_ltI (hu : X.A.units + 65 < cLine) : OpR X (compareOp .Lt) (fun x y H Q => rI0 (fun i j => .bl (decide (i < j))) x y H Q ∨ rLtD X.K x y H Q) := op_lt.or (op_ltD hu)
/-! ### and, or, not -/
def notT (m : Env' → M Bool) : Env' → M Bool := fun ρ => bd (m ρ) fun b => ret (!b)
def andT (m n : Env' → M Bool) : Env' → M Bool := fun ρ => bd (m ρ) fun b => if b then n ρ else ret false
def orT (m n : Env' → M Bool) : Env' → M Bool := fun ρ => bd (m ρ) fun b => if b then ret true else n ρ
section
variable {a b : Expr} {m n : Env' → M Bool} {rest : List Expr} {pos : Pos}
theorem mt_not (h : MT X D own xk a m) : MT X D own xk (.UnaryOp .Not a pos) (notT m) := PT.of (pt_not h) fun σ H Q q => by
  obtain ⟨S0, H0, S, ρ, p, R, q⟩ := q
  refine tG.bind R q fun a p1 S1 H1 x _ e1 R1 r1 q1 => ?_
  have r1 : x = a := r1
  rw [r1]
  exact Aft.ok q1 R1 rfl
theorem mw_and1 (h : MT X D own xk a m) : MW X D own xk (.BoolOp .And [a] pos) m := pw_and1 h
theorem mw_or1 (h : MT X D own xk a m) : MW X D own xk (.BoolOp .Or [a] pos) m := pw_or1 h
theorem mw_and (h : MT X D own xk a m) (hb : MW X D own xk (.BoolOp .And (b :: rest) pos) n) : MW X D own xk (.BoolOp .And (a :: b :: rest) pos) (andT m n) := PW.of (pw_and h hb) fun σ H Q q => by
  obtain ⟨S0, H0, S, ρ, p, R, q⟩ := q
  refine tG.bind R q fun a p1 S1 H1 x _ e1 R1 r1 q1 => ?_
  have r1 : x = a := r1
  subst r1
  cases x with
  | true => exact ⟨_, _, _, _, _, R1, q1⟩
  | false => exact Aft.ok (a := false) q1 R1 rfl
theorem mw_or (h : MT X D own xk a m) (hb : MW X D own xk (.BoolOp .Or (b :: rest) pos) n) : MW X D own xk (.BoolOp .Or (a :: b :: rest) pos) (orT m n) := PW.of (pw_or h hb) fun σ H Q q => by
  obtain ⟨S0, H0, S, ρ, p, R, q⟩ := q
  refine tG.bind R q fun a p1 S1 H1 x _ e1 R1 r1 q1 => ?_
  have r1 : x = a := r1
  subst r1
  cases x with
  | true => exact Aft.ok (a := true) q1 R1 rfl
  | false => exact ⟨_, _, _, _, _, R1, q1⟩
theorem MW.pt {e : Expr} (h : MW X D own xk e m) : MT X D own xk e m := PW.pt h
end
def andV (ma mb : ME') : ME' := fun ρ => bd (ma ρ) fun a => bd (truthA a) fun k => if k then mb ρ else ret a
def orV (ma mb : ME') : ME' := fun ρ => bd (ma ρ) fun a => bd (truthA a) fun k => if k then ret a else mb ρ
def notV (ma : ME') : ME' := fun ρ => bd (ma ρ) fun a => bd (truthA a) fun k => ret (.bl (!k))
section
variable {a b : Expr} {ma mb : ME'} {rest : List Expr} {pos : Pos}
theorem me_one {op} (h : ME X D own xk a ma) : ME X D own xk (.BoolOp op [a] pos) ma := pe_one h
theorem truth_bind {S0 H0 S H : Hp} {σ : L2.St} {ρ : Env'} {p : Pen} {a : A} {x : V} {k : Bool → M A} {Q : VK} {Q' : Bool → Hp → Prop} (R : Rel X.K D S0 H0 S H σ ρ own p) (r : Rep X.K D S a x) (h : Aft X.K D (Rep X.K D) xk S0 H0 S H σ ρ own (bd (truthA a) k p) Q)
    (hQ : ∀ b p1 S1 H1, Ext D S H S1 H1 → Rel X.K D S0 H0 S1 H1 σ ρ own p1 → Aft X.K D (Rep X.K D) xk S0 H0 S1 H1 σ ρ own (k b p1) Q → Q' b H1) : ∃ k, TruV X.K x H k ∧ Q' k H :=
  truth_of R r (Aft.bind h fun b p1 S1 H1 y _ e1 R1 r1 q1 => by
    have r1 : y = b := r1
    rw [r1]
    exact hQ b p1 S1 H1 e1 R1 q1)
theorem me_and (ha : ME X D own xk a ma) (hb : ME X D own xk (.BoolOp .And (b :: rest) pos) mb) : ME X D own xk (.BoolOp .And (a :: b :: rest) pos) (andV ma mb) := PE.of (pe_andT ha hb) fun σ H Q q => by
  obtain ⟨S0, H0, S, ρ, p, R, q⟩ := q
  refine tG.bind R q fun a p1 S1 H1 x _ e1 R1 r1 q1 => ?_
  have q1 : Aft X.K D (Rep X.K D) xk S0 H0 S1 H1 σ ρ own (bd (truthA a) (fun k => if k then mb ρ else ret a) p1) Q := q1
  obtain ⟨k, t, z⟩ := truth_bind (Q' := fun k H2 => H2 = H1 → if k = true then tM X.K D own xk mb σ H1 Q else Q x H1) R1 r1 q1 fun k p2 S2 H2 e2 R2 q2 eH => by
    subst eH
    cases k with
    | true =>
      rw [if_pos rfl] at q2 ⊢
      exact ⟨_, _, _, _, _, R2, q2⟩
    | false =>
      rw [if_neg Bool.false_ne_true] at q2 ⊢
      exact Aft.ok q2 R2 (Rep.mono e2.sub _ _ r1)
  exact ⟨k, t, z rfl⟩
theorem me_or (ha : ME X D own xk a ma) (hb : ME X D own xk (.BoolOp .Or (b :: rest) pos) mb) : ME X D own xk (.BoolOp .Or (a :: b :: rest) pos) (orV ma mb) := PE.of (pe_orT ha hb) fun σ H Q q => by
  obtain ⟨S0, H0, S, ρ, p, R, q⟩ := q
  refine tG.bind R q fun a p1 S1 H1 x _ e1 R1 r1 q1 => ?_
  have q1 : Aft X.K D (Rep X.K D) xk S0 H0 S1 H1 σ ρ own (bd (truthA a) (fun k => if k then ret a else mb ρ) p1) Q := q1
  obtain ⟨k, t, z⟩ := truth_bind (Q' := fun k H2 => H2 = H1 → if k = true then Q x H1 else tM X.K D own xk mb σ H1 Q) R1 r1 q1 fun k p2 S2 H2 e2 R2 q2 eH => by
    subst eH
    cases k with
    | true =>
      rw [if_pos rfl] at q2 ⊢
      exact Aft.ok q2 R2 (Rep.mono e2.sub _ _ r1)
    | false =>
      rw [if_neg Bool.false_ne_true] at q2 ⊢
      exact ⟨_, _, _, _, _, R2, q2⟩
  exact ⟨k, t, z rfl⟩
theorem me_not (ha : ME X D own xk a ma) : ME X D own xk (.UnaryOp .Not a pos) (notV ma) := PE.of (pe_notT ha) fun σ H Q q => by
  obtain ⟨S0, H0, S, ρ, p, R, q⟩ := q
  refine tG.bind R q fun a p1 S1 H1 x _ e1 R1 r1 q1 => ?_
  have q1 : Aft X.K D (Rep X.K D) xk S0 H0 S1 H1 σ ρ own (bd (truthA a) (fun k => ret (.bl (!k))) p1) Q := q1
  obtain ⟨k, t, z⟩ := truth_bind (Q' := fun k H2 => H2 = H1 → Q (.bl (!k)) H1) R1 r1 q1 fun k p2 S2 H2 e2 R2 q2 eH => by
    subst eH
    exact Aft.ok q2 R2 (Rep.bl_iff.mpr rfl)
  exact ⟨k, t, z rfl⟩
end
def iteM {α : Type} (t : Env' → M Bool) (m n : Env' → M α) : Env' → M α := fun ρ => bd (t ρ) fun b => if b then m ρ else n ρ
theorem me_if {c a b : Expr} {t : Env' → M Bool} {ma mb : ME'} {pos : Pos} (hc : MT X D own xk c t) (ha : ME X D own xk a ma) (hb : ME X D own xk b mb) : ME X D own xk (.IfExp c a b pos) (iteM t ma mb) := PE.of (pe_ifExp hc ha hb) fun σ H Q q => by
  obtain ⟨S0, H0, S, ρ, p, R, q⟩ := q
  refine tG.bind R q fun a p1 S1 H1 x _ e1 R1 r1 q1 => ?_
  have r1 : x = a := r1
  subst r1
  cases x with
  | true => exact ⟨_, _, _, _, _, R1, q1⟩
  | false => exact ⟨_, _, _, _, _, R1, q1⟩
/-! ### arguments, displays -/
def nilM : Env' → M (List A) := fun _ => ret []
def consM (m : ME') (ms : Env' → M (List A)) : Env' → M (List A) := fun ρ => bd (m ρ) fun a => bd (ms ρ) fun as => ret (a :: as)
theorem ma_nil : MA X D own xk [] nilM := PA.of pa_nil fun σ H Q q => by
  obtain ⟨S0, H0, S, ρ, p, R, q⟩ := q
  exact Aft.ok q R (Reps.nil_iff.mpr rfl)
theorem ma_cons {e : Expr} {es : List Expr} {m : ME'} {ms : Env' → M (List A)} (ha : ME X D own xk e m) (hr : MA X D own xk es ms) (hs : starEach (e :: es) X.env = (false, eval e X.env) :: starEach es X.env := by rfl) : MA X D own xk (e :: es) (consM m ms) := PA.of (pa_cons ha hr hs) fun σ H Q q => by
  obtain ⟨S0, H0, S, ρ, p, R, q⟩ := q
  refine tG.bind R q fun a p1 S1 H1 x _ e1 R1 r1 q1 => ?_
  refine tG.bind R1 q1 fun as p2 S2 H2 xs _ e2 R2 r2 q2 => ?_
  exact Aft.ok q2 R2 (Reps.cons_iff.mpr ⟨x, xs, rfl, Rep.mono e2.sub _ _ r1, r2⟩)
def mkTup (as : List A) : M A := if as.length ≤ sizeLine then ret (.tup as) else no
def mkLst (as : List A) : M A := if as.length ≤ sizeLine then ret (.lst as) else no
def onA (g : List A → M A) (ms : Env' → M (List A)) : ME' := fun ρ => bd (ms ρ) g
theorem me_tup {es : List Expr} {ms : Env' → M (List A)} {k : Nat} {pos : Pos} (h : MA X D own xk es ms) : ME X D own xk (.Tuple es k pos) (onA mkTup ms) := PE.of (pe_tup h) fun σ H Q q => by
  obtain ⟨S0, H0, S, ρ, p, R, q⟩ := q
  refine tG.bind R q fun as p1 S1 H1 xs _ e1 R1 r1 q1 => ?_
  simp only [mkTup] at q1
  split at q1
  · rename_i c
    exact ⟨by rw [← r1.length]; exact c, fun l hl => Aft.newT R1 r1 q1 hl⟩
  · exact q1.elim
theorem me_lst {es : List Expr} {ms : Env' → M (List A)} {pos : Pos} (h : MA X D own xk es ms) : ME X D own xk (.List es pos) (onA mkLst ms) := PE.of (pe_lst h) fun σ H Q q => by
  obtain ⟨S0, H0, S, ρ, p, R, q⟩ := q
  refine tG.bind R q fun as p1 S1 H1 xs _ e1 R1 r1 q1 => ?_
  simp only [mkLst] at q1
  split at q1
  · rename_i c
    exact ⟨by rw [← r1.length]; exact c, fun l hl => Aft.newL R1 r1 q1 hl⟩
  · exact q1.elim
/-! ### subscripts -/
def ixA : A → A → M A
  | .lst xs, .int i => match atI xs i with
    | some a => ret a
    | none => no
  | .tup xs, .int i => match atI xs i with
    | some a => ret a
    | none => no
  | .str s, .int i => if s.length ≤ sizeLine then match atI s.cps.toList i with
    | some c => ret (.str ⟨#[c]⟩)
    | none => no else no
  | _, _ => no
theorem Reps.atI {K : PySem.W.Frag} {S : Hp} {xs : List A} {vs : List V} {i : Int} {a : A} (r : Reps K D S xs vs) (h : atI xs i = some a) : ∃ v, L2.atI vs i = some v ∧ Rep K D S a v := by
  unfold L2.atI at h ⊢
  rw [← r.length]
  cases e : ixN xs.length i with
  | none => rw [e] at h; cases h
  | some j =>
    rw [e] at h
    exact r.get h
theorem op2_ix : Op2 X D own xk (rIx X.K) ixA := by
  intro S0 H0 S H σ ρ p a b x y Q R ra rb h
  cases a <;> cases b <;> first | exact h.elim | skip
  · rw [Rep.str_iff] at ra
    rw [Rep.int_iff] at rb
    subst ra rb
    simp only [ixA] at h
    split at h
    · rename_i s i c
      cases e : L2.atI s.cps.toList i with
      | none => rw [e] at h; exact h.elim
      | some c' =>
        rw [e] at h
        exact .inr (.inr ⟨s, i, c', rfl, rfl, c, e, Aft.ok h R (Rep.str_iff.mpr rfl)⟩)
    · exact h.elim
  · obtain ⟨a1, vs, rfl, s1, r1⟩ := Rep.tup_iff.mp ra
    rw [Rep.int_iff] at rb
    subst rb
    rename_i xs i
    simp only [ixA] at h
    cases e : L2.atI xs i with
    | none => rw [e] at h; exact h.elim
    | some c =>
      rw [e] at h
      obtain ⟨v, h1, h2⟩ := Reps.atI r1 e
      exact .inr (.inl ⟨a1, vs, i, v, rfl, rfl, SqT.up R.good s1, h1, Aft.ok h R h2⟩)
  · obtain ⟨a1, vs, rfl, s1, r1⟩ := Rep.lst_iff.mp ra
    rw [Rep.int_iff] at rb
    subst rb
    rename_i xs i
    simp only [ixA] at h
    cases e : L2.atI xs i with
    | none => rw [e] at h; exact h.elim
    | some c =>
      rw [e] at h
      obtain ⟨v, h1, h2⟩ := Reps.atI r1 e
      exact .inl ⟨a1, vs, i, v, rfl, rfl, SqL.of (R.good.sub _ _ s1), h1, Aft.ok h R h2⟩
theorem me_ix {a b : Expr} {ma mb : ME'} {pos : Pos} (ha : ME X D own xk a ma) (hb : ME X D own xk b mb) (hs : PlainIx b) : ME X D own xk (.Subscript a b pos) (op2 ixA ma mb) :=
  PE.of (pe_ix ix_seq ha hb hs) fun σ H Q h => tOp_of op2_ix h
end
end Mir

/-! Mir5: calls of built-ins. -/
namespace Mir
open PySem PySem.Spec PyProof.Rows L2
section
variable {X : Cx} {D : Dcl} {own : List Nat} {xk : XK}
/-- a built-in's rule, told by the plain g -/
def FnM (X : Cx) (D : Dcl) (own : List Nat) (xk : XK) (r : List V → Hp → VK → Prop) (g : List A → M A) : Prop :=
  ∀ (S0 H0 S H : Hp) (σ : L2.St) (ρ : Env') (p : Pen) (as : List A) (vs : List V) (Q : VK), Rel X.K D S0 H0 S H σ ρ own p → Reps X.K D S as vs → Aft X.K D (Rep X.K D) xk S0 H0 S H σ ρ own (g as p) Q → r vs H Q
section
variable {x : Str} {pp pos : Pos} {e : Expr} {es : List Expr} {ms : Env' → M (List A)} {id T : String} {r : List V → Hp → VK → Prop} {g : List A → M A}
theorem me_callB (hc : CallR X (.builtin id) r) (hG : FnM X D own xk r g) (hg : Gl X x) (hm : X.mg x = none) (hv : bootBuiltins x = some (.builtin id)) (ha : MA X D own xk (e :: es) ms) (hn : x ≠ "__name__" := by decide) (hdb : (x == ("__debug__" : Str)) = false := by decide)
    (he : starEach (e :: es) X.env = (false, eval e X.env) :: starEach es X.env := by rfl) (hpl : (backTo pos (starEach es X.env)).any (·.1) = false := by rfl) : ME X D own xk (.Call (.Name x pp) (e :: es) [] pos) (onA g ms) :=
  PE.of (pe_callB hc hg hm hv ha hn hdb he hpl) fun σ H Q q => by
    obtain ⟨S0, H0, S, ρ, p, R, q⟩ := q
    exact tG.bind R q fun as p1 S1 H1 vs _ e1 R1 r1 q1 => hG S0 H0 S1 H1 σ ρ p1 as vs Q R1 r1 q1
theorem me_callTy (hc : CallR X (.type T) r) (hG : FnM X D own xk r g) (hg : Gl X x) (hm : X.mg x = none) (hv : bootBuiltins x = some (.type T)) (ha : MA X D own xk (e :: es) ms) (hn : x ≠ "__name__" := by decide) (hdb : (x == ("__debug__" : Str)) = false := by decide)
    (he : starEach (e :: es) X.env = (false, eval e X.env) :: starEach es X.env := by rfl) (hpl : (backTo pos (starEach es X.env)).any (·.1) = false := by rfl) : ME X D own xk (.Call (.Name x pp) (e :: es) [] pos) (onA g ms) :=
  PE.of (pe_callTy hc hg hm hv ha hn hdb he hpl) fun σ H Q q => by
    obtain ⟨S0, H0, S, ρ, p, R, q⟩ := q
    exact tG.bind R q fun as p1 S1 H1 vs _ e1 R1 r1 q1 => hG S0 H0 S1 H1 σ ρ p1 as vs Q R1 r1 q1
end
theorem Reps.one {K : PySem.W.Frag} {S : Hp} {a : A} {vs : List V} (h : Reps K D S [a] vs) : ∃ v, vs = [v] ∧ Rep K D S a v := by
  obtain ⟨v, r, rfl, h1, h2⟩ := Reps.cons_iff.mp h
  rw [Reps.nil_iff] at h2
  exact ⟨v, by rw [h2], h1⟩
theorem Reps.two {K : PySem.W.Frag} {S : Hp} {a b : A} {vs : List V} (h : Reps K D S [a, b] vs) : ∃ v w, vs = [v, w] ∧ Rep K D S a v ∧ Rep K D S b w := by
  obtain ⟨v, r, rfl, h1, h2⟩ := Reps.cons_iff.mp h
  obtain ⟨w, rfl, h3⟩ := Reps.one h2
  exact ⟨v, w, rfl, h1, h3⟩
/-! ### len -/
def lenA : List A → M A
  | [.tup xs] => ret (.int xs.length)
  | [.lst xs] => ret (.int xs.length)
  | [.str s] => if s.length ≤ sizeLine then ret (.int s.length) else no
  | _ => no
def rLen (X : Cx) : List V → Hp → VK → Prop := fun xs H Q => (∃ p ys, xs = [.ref p] ∧ (SqL X.K H p ys ∨ SqT X.K H p ys) ∧ Q (.int ys.length) H) ∨ (∃ z, xs = [.str z] ∧ z.length ≤ sizeLine ∧ Q (.int z.length) H)
theorem call_lenX : CallR X (.builtin "len") (rLen X) := call_len_seq.or call_len_str
theorem fnm_len : FnM X D own xk (rLen X) lenA := by
  intro S0 H0 S H σ ρ p as vs Q R r h
  unfold lenA at h
  split at h
  · obtain ⟨v, ev, r1⟩ := Reps.one r
    subst ev
    replace r := r1
    obtain ⟨a, ws, rfl, s, r⟩ := Rep.tup_iff.mp r
    exact .inl ⟨a, ws, rfl, .inr (SqT.up R.good s), Aft.ok h R (by rw [Rep.int_iff, r.length])⟩
  · obtain ⟨v, ev, r1⟩ := Reps.one r
    subst ev
    replace r := r1
    obtain ⟨a, ws, rfl, s, r⟩ := Rep.lst_iff.mp r
    exact .inl ⟨a, ws, rfl, .inl (SqL.of (R.good.sub _ _ s)), Aft.ok h R (by rw [Rep.int_iff, r.length])⟩
  · rename_i z
    obtain ⟨v, ev, r1⟩ := Reps.one r
    subst ev
    replace r := r1
    rw [Rep.str_iff] at r
    subst r
    split at h
    · rename_i c
      exact .inr ⟨z, rfl, c, Aft.ok h R (Rep.int_iff.mpr rfl)⟩
    · exact h.elim
  · exact h.elim
/-! ### tuple, list -/
def tupA : List A → M A
  | [.tup xs] => ret (.tup xs)
  | [.lst xs] => ret (.tup xs)
  | _ => no
def lstA : List A → M A
  | [.tup xs] => ret (.lst xs)
  | [.lst xs] => ret (.lst xs)
  | _ => no
theorem fnm_tuple : FnM X D own xk (fun xs H Q => ∃ p ys, xs = [.ref p] ∧ ((SqL X.K H p ys ∧ ∀ l, H l = none → Q (.ref l) (upd H l (.tup ys))) ∨ (SqT X.K H p ys ∧ Q (.ref p) H))) tupA := by
  intro S0 H0 S H σ ρ p as vs Q R r h
  unfold tupA at h
  split at h
  · obtain ⟨v, ev, r1⟩ := Reps.one r
    subst ev
    replace r := r1
    have r' := r
    obtain ⟨a, ws, rfl, s, r⟩ := Rep.tup_iff.mp r
    exact ⟨a, ws, rfl, .inr ⟨SqT.up R.good s, Aft.ok h R r'⟩⟩
  · obtain ⟨v, ev, r1⟩ := Reps.one r
    subst ev
    replace r := r1
    obtain ⟨a, ws, rfl, s, r⟩ := Rep.lst_iff.mp r
    exact ⟨a, ws, rfl, .inl ⟨SqL.of (R.good.sub _ _ s), fun l hl => Aft.newT R r h hl⟩⟩
  · exact h.elim
theorem fnm_list : FnM X D own xk (fun xs H Q => ∃ p ys, xs = [.ref p] ∧ (SqL X.K H p ys ∨ SqT X.K H p ys) ∧ ∀ l, H l = none → Q (.ref l) (upd H l (.lst ys))) lstA := by
  intro S0 H0 S H σ ρ p as vs Q R r h
  unfold lstA at h
  split at h
  · obtain ⟨v, ev, r1⟩ := Reps.one r
    subst ev
    replace r := r1
    obtain ⟨a, ws, rfl, s, r⟩ := Rep.tup_iff.mp r
    exact ⟨a, ws, rfl, .inr (SqT.up R.good s), fun l hl => Aft.newL R r h hl⟩
  · obtain ⟨v, ev, r1⟩ := Reps.one r
    subst ev
    replace r := r1
    obtain ⟨a, ws, rfl, s, r⟩ := Rep.lst_iff.mp r
    exact ⟨a, ws, rfl, .inl (SqL.of (R.good.sub _ _ s)), fun l hl => Aft.newL R r h hl⟩
  · exact h.elim
/-! ### int, abs, max, min of ints -/
def intA : List A → M A
  | [.int i] => ret (.int i)
  | [.bl k] => ret (.int (if k then 1 else 0))
  | _ => no
theorem fnm_int : FnM X D own xk (fun xs H Q => (∃ i, xs = [.int i] ∧ Q (.int i) H) ∨ ∃ k, xs = [.bl k] ∧ Q (.int (if k then 1 else 0)) H) intA := by
  intro S0 H0 S H σ ρ p as vs Q R r h
  unfold intA at h
  split at h
  · obtain ⟨v, ev, r1⟩ := Reps.one r
    subst ev
    replace r := r1
    rw [Rep.int_iff] at r
    exact .inl ⟨_, by rw [r], Aft.ok h R (Rep.int_iff.mpr rfl)⟩
  · obtain ⟨v, ev, r1⟩ := Reps.one r
    subst ev
    replace r := r1
    rw [Rep.bl_iff] at r
    exact .inr ⟨_, by rw [r], Aft.ok h R (Rep.int_iff.mpr rfl)⟩
  · exact h.elim
/-! ### all, any -/
def fitB : PyData → Bool
  | .str x => decide (x.length ≤ sizeLine)
  | .list xs => decide (xs.length ≤ sizeLine)
  | .tuple xs => decide (xs.length ≤ sizeLine)
  | _ => true
def tvA (a : A) : Option Bool := match toPy a with
  | some d => if fitB d then some d.truthy else none
  | none => none
def tvAs : List A → Option (List Bool)
  | [] => some []
  | x :: xs => match tvA x, tvAs xs with
    | some a, some b => some (a :: b)
    | _, _ => none
mutual
theorem toPy_plain : ∀ (a : A) (d : PyData), toPy a = some d → d.plain = true
  | .non, d, h => by simp only [toPy, Option.some.injEq] at h; rw [← h]; rfl
  | .bl _, d, h => by simp only [toPy, Option.some.injEq] at h; rw [← h]; rfl
  | .int _, d, h => by simp only [toPy, Option.some.injEq] at h; rw [← h]; rfl
  | .str _, d, h => by simp only [toPy, Option.some.injEq] at h; rw [← h]; rfl
  | .tup xs, d, h => by
    simp only [toPy, Option.map_eq_some_iff] at h
    obtain ⟨ds, h, rfl⟩ := h
    simp only [PyData.plain]
    exact toPys_plain xs ds h
  | .lst xs, d, h => by
    simp only [toPy, Option.map_eq_some_iff] at h
    obtain ⟨ds, h, rfl⟩ := h
    simp only [PyData.plain]
    exact toPys_plain xs ds h
  | .ins _ _, _, h => by simp only [toPy] at h; cases h
  | .dct _ _, _, h => by simp only [toPy] at h; cases h
  | .clo _ _, _, h => by simp only [toPy] at h; cases h
  | .fn _, _, h => by simp only [toPy] at h; cases h
  | .pen, _, h => by simp only [toPy] at h; cases h
theorem toPys_plain : ∀ (xs : List A) (ds : List PyData), toPys xs = some ds → PyData.plainAll ds = true
  | [], ds, h => by simp only [toPys, Option.some.injEq] at h; rw [← h]; rfl
  | x :: xs, ds, h => by
    simp only [toPys] at h
    cases hx : toPy x with
    | none => simp [hx] at h
    | some d =>
      cases hxs : toPys xs with
      | none => simp [hx, hxs] at h
      | some es =>
        simp only [hx, hxs, Option.some.injEq] at h
        rw [← h]
        simp only [PyData.plainAll, toPy_plain x d hx, toPys_plain xs es hxs, Bool.and_self]
end
theorem tvAs_py : ∀ {xs : List A} {bs : List Bool}, tvAs xs = some bs → ∃ ds, toPys xs = some ds ∧ (∀ d ∈ ds, d.fits63) ∧ bs = ds.map PyData.truthy
  | [], bs, h => by
    simp only [tvAs, Option.some.injEq] at h
    exact ⟨[], rfl, fun d z => absurd z (by simp), by rw [← h]; rfl⟩
  | x :: xs, bs, h => by
    simp only [tvAs] at h
    cases hx : tvA x with
    | none => simp [hx] at h
    | some a =>
      cases hxs : tvAs xs with
      | none => simp [hx, hxs] at h
      | some b =>
        simp only [hx, hxs, Option.some.injEq] at h
        obtain ⟨ds, h1, h2, h3⟩ := tvAs_py hxs
        unfold tvA at hx
        cases hp : toPy x with
        | none => simp [hp] at hx
        | some d =>
          simp only [hp] at hx
          split at hx
          · rename_i c
            refine ⟨d :: ds, by simp [toPys, hp, h1], fun e he => ?_, by rw [← h, h3, ← Option.some.inj hx]; rfl⟩
            rcases List.mem_cons.mp he with rfl | he
            · have hs := sizeLine_eq
              cases e <;> simp only [PyData.fits63, fitB, decide_eq_true_eq] at c ⊢ <;> omega
            · exact h2 e he
          · cases hx
def allA : List A → M A
  | [.lst xs] => match tvAs xs with
    | some bs => ret (.bl (bs.all id))
    | none => no
  | [.tup xs] => match tvAs xs with
    | some bs => ret (.bl (bs.all id))
    | none => no
  | _ => no
def anyA : List A → M A
  | [.lst xs] => match tvAs xs with
    | some bs => ret (.bl (bs.any id))
    | none => no
  | [.tup xs] => match tvAs xs with
    | some bs => ret (.bl (bs.any id))
    | none => no
  | _ => no
def rAllD (K : PySem.W.Frag) (f : List PyData → Bool) : List V → Hp → VK → Prop := fun vs H Q => ∃ (a : Addr) (xs : List V) (ds : List PyData), vs = [.ref a] ∧ (SqL K H a xs ∨ SqT K H a xs) ∧ DpAll K H xs ds ∧ PyData.plainAll ds = true ∧ (∀ d ∈ ds, d.fits63) ∧ Q (.bl (f ds)) H
theorem cr_allD (hc : X.calm = true) : CallR X (.builtin "all") (rAllD X.K fun ds => ds.all PyData.truthy) := by
  intro pins s σ H vs us Q I r h
  obtain ⟨a, xs, ds, rfl, hs, hd, hp, hf, q⟩ := h
  rw [Vals.ref1 r]
  rcases hs with hs | hs
  · obtain ⟨its, rv, hl, hz⟩ := I.list hs
    obtain ⟨as, hr⟩ := Dp.readsAll I ds xs its hd rv
    exact PySem.W.all_list_data (I.ok.hd hc) hl.isList (by simpa using hr) hp hf fun h' tk hk => ⟨.bl _, H, I.kept hk, rfl, q⟩
  · obtain ⟨its, rv, hl, hz⟩ := I.tuple hs
    obtain ⟨as, hr⟩ := Dp.readsAll I ds xs its hd rv
    exact PySem.W.all_tuple_data (I.ok.hd hc) (show s.heap.IsTuple a its.toArray from hl) (by simpa using hr) hp hf fun h' tk hk => ⟨.bl _, H, I.kept hk, rfl, q⟩
theorem cr_anyD (hc : X.calm = true) : CallR X (.builtin "any") (rAllD X.K fun ds => ds.any PyData.truthy) := by
  intro pins s σ H vs us Q I r h
  obtain ⟨a, xs, ds, rfl, hs, hd, hp, hf, q⟩ := h
  rw [Vals.ref1 r]
  rcases hs with hs | hs
  · obtain ⟨its, rv, hl, hz⟩ := I.list hs
    obtain ⟨as, hr⟩ := Dp.readsAll I ds xs its hd rv
    exact PySem.W.any_list_data (I.ok.hd hc) hl.isList (by simpa using hr) hp hf fun h' tk hk => ⟨.bl _, H, I.kept hk, rfl, q⟩
  · obtain ⟨its, rv, hl, hz⟩ := I.tuple hs
    obtain ⟨as, hr⟩ := Dp.readsAll I ds xs its hd rv
    exact PySem.W.any_tuple_data (I.ok.hd hc) (show s.heap.IsTuple a its.toArray from hl) (by simpa using hr) hp hf fun h' tk hk => ⟨.bl _, H, I.kept hk, rfl, q⟩
theorem fnm_all : FnM X D own xk (rAllD X.K fun ds => ds.all PyData.truthy) allA := by
  intro S0 H0 S H σ ρ p as vs Q R r h
  have e : ∀ ds : List PyData, (ds.map PyData.truthy).all id = ds.all PyData.truthy := fun ds => by rw [List.all_map]; rfl
  unfold allA at h
  split at h
  · rename_i xs
    obtain ⟨v, ev, r1⟩ := Reps.one r
    subst ev
    replace r := r1
    obtain ⟨a, ws, rfl, s, r⟩ := Rep.lst_iff.mp r
    cases z : tvAs xs with
    | none => rw [z] at h; exact h.elim
    | some bs =>
      rw [z] at h
      obtain ⟨ds, h1, h2, rfl⟩ := tvAs_py z
      exact ⟨a, ws, ds, rfl, .inl (SqL.of (R.good.sub _ _ s)), Reps.dp R.good.sub xs ws ds h1 r, toPys_plain xs ds h1, h2, Aft.ok h R (by rw [Rep.bl_iff, e])⟩
  · rename_i xs
    obtain ⟨v, ev, r1⟩ := Reps.one r
    subst ev
    replace r := r1
    obtain ⟨a, ws, rfl, s, r⟩ := Rep.tup_iff.mp r
    cases z : tvAs xs with
    | none => rw [z] at h; exact h.elim
    | some bs =>
      rw [z] at h
      obtain ⟨ds, h1, h2, rfl⟩ := tvAs_py z
      exact ⟨a, ws, ds, rfl, .inr (SqT.up R.good s), Reps.dp R.good.sub xs ws ds h1 r, toPys_plain xs ds h1, h2, Aft.ok h R (by rw [Rep.bl_iff, e])⟩
  · exact h.elim
theorem fnm_any : FnM X D own xk (rAllD X.K fun ds => ds.any PyData.truthy) anyA := by
  intro S0 H0 S H σ ρ p as vs Q R r h
  have e : ∀ ds : List PyData, (ds.map PyData.truthy).any id = ds.any PyData.truthy := fun ds => by rw [List.any_map]; rfl
  unfold anyA at h
  split at h
  · rename_i xs
    obtain ⟨v, ev, r1⟩ := Reps.one r
    subst ev
    replace r := r1
    obtain ⟨a, ws, rfl, s, r⟩ := Rep.lst_iff.mp r
    cases z : tvAs xs with
    | none => rw [z] at h; exact h.elim
    | some bs =>
      rw [z] at h
      obtain ⟨ds, h1, h2, rfl⟩ := tvAs_py z
      exact ⟨a, ws, ds, rfl, .inl (SqL.of (R.good.sub _ _ s)), Reps.dp R.good.sub xs ws ds h1 r, toPys_plain xs ds h1, h2, Aft.ok h R (by rw [Rep.bl_iff, e])⟩
  · rename_i xs
    obtain ⟨v, ev, r1⟩ := Reps.one r
    subst ev
    replace r := r1
    obtain ⟨a, ws, rfl, s, r⟩ := Rep.tup_iff.mp r
    cases z : tvAs xs with
    | none => rw [z] at h; exact h.elim
    | some bs =>
      rw [z] at h
      obtain ⟨ds, h1, h2, rfl⟩ := tvAs_py z
      exact ⟨a, ws, ds, rfl, .inr (SqT.up R.good s), Reps.dp R.good.sub xs ws ds h1 r, toPys_plain xs ds h1, h2, Aft.ok h R (by rw [Rep.bl_iff, e])⟩
  · exact h.elim
/-! ### sum -/
def intsOf : List A → Option (List Int)
  | [] => some []
  | .int i :: xs => (intsOf xs).map (i :: ·)
  | _ => none
theorem intsOf_some : ∀ {xs : List A} {ns : List Int}, intsOf xs = some ns → xs = ns.map A.int
  | [], ns, h => by
    simp only [intsOf, Option.some.injEq] at h
    rw [← h]
    rfl
  | x :: xs, ns, h => by
    cases x <;> simp only [intsOf] at h <;> first | (cases h; done) | skip
    obtain ⟨ms, h1, rfl⟩ := Option.map_eq_some_iff.mp h
    rw [intsOf_some h1]
    rfl
def sumA : List A → M A
  | [.lst xs] => match intsOf xs with
    | some ns => ret (.int ns.sum)
    | none => no
  | _ => no
theorem fnm_sum : FnM X D own xk (rSum X.K) sumA := by
  intro S0 H0 S H σ ρ p as vs Q R r h
  unfold sumA at h
  split at h
  · rename_i xs
    obtain ⟨v, ev, r1⟩ := Reps.one r
    subst ev
    replace r := r1
    obtain ⟨a, ws, rfl, s, r⟩ := Rep.lst_iff.mp r
    cases z : intsOf xs with
    | none => rw [z] at h; exact h.elim
    | some ns =>
      rw [z] at h
      have e := intsOf_some z
      subst e
      have e := Reps.ints r
      subst e
      exact ⟨a, ns, rfl, SqL.of (R.good.sub _ _ s), Aft.ok h R (Rep.int_iff.mpr rfl)⟩
  · exact h.elim
end
end Mir

/-! Mir6: statements, loops, comprehensions, defs. -/
namespace Mir
open PySem PySem.Spec PyProof.Rows L2
/-- where a statement goes -/
inductive Fl where
  | nx (ρ : Env') | rt (a : A) | bk (ρ : Env') | ct (ρ : Env')
abbrev MS' := Env' → M Fl
section
variable (K : PySem.W.Frag) (D : Dcl)
def AftS (xk : XK) (S0 H0 : Hp) (own ownB : List Nat) (r : Res Fl) (N : Ends) : Prop := match r with
  | .ok (.nx ρ) p => ∀ S H σ, Rel K D S0 H0 S H σ ρ own p → N.nx σ H
  | .ok (.rt a) p => ∀ S H v, Ext D S0 H0 S H → Good D S H p → Rep K D S a v → N.rt v H
  | .ok (.bk ρ) p => ∀ S H σ, Rel K D S0 H0 S H σ ρ ownB p → N.bk σ H
  | .ok (.ct ρ) p => ∀ S H σ, Rel K D S0 H0 S H σ ρ ownB p → N.ct σ H
  | .exc c fs p => ∀ S H C d vs, Ext D S0 H0 S H → Good D S H p → H0 d = none → D.cls c = some C → H d = some (.xd ((D.flds c).zip vs)) → (D.flds c).length = vs.length → Reps K D S fs vs → xk (.ref C) (some d) H
  | .stuck => False
def tS (own own' ownB : List Nat) (xk : XK) (m : MS') : TS := fun N σ H => ∃ S0 H0 S ρ p, Rel K D S0 H0 S H σ ρ own p ∧ AftS K D xk S0 H0 own' ownB (m ρ p) N
end
section
variable {X : Cx} {D : Dcl} {own own' own2 ownB : List Nat} {xk : XK}
abbrev MS (X : Cx) (D : Dcl) (own own' ownB : List Nat) (xk : XK) (st : Stmt) (m : MS') : Prop := PS X st (tS X.K D own own' ownB xk m)
abbrev MSs (X : Cx) (D : Dcl) (own own' ownB : List Nat) (xk : XK) (st : List Stmt) (m : MS') : Prop := PSs X st (tS X.K D own own' ownB xk m)
theorem PS.of {st : Stmt} {t t' : TS} (h : PS X st t) (i : ∀ N σ H, t' N σ H → t N σ H) : PS X st t' := ⟨fun pins s σ H N I q => h.run pins s σ H N I (i N σ H q)⟩
theorem PSs.of {st : List Stmt} {t t' : TS} (h : PSs X st t) (i : ∀ N σ H, t' N σ H → t N σ H) : PSs X st t' := ⟨fun pins s σ H N I q => h.run pins s σ H N I (i N σ H q)⟩
/-- an expression within a statement -/
theorem AftS.bind {α β : Type} {Rp : Hp → α → β → Prop} {K : PySem.W.Frag} {S0 H0 S H : Hp} {σ : L2.St} {ρ : Env'} {p : Pen} {m : Env' → M α} {k : α → M Fl} {N : Ends} {Q : β → Hp → Prop} (R : Rel K D S0 H0 S H σ ρ own p) (h : AftS K D xk S0 H0 own' ownB (bd (m ρ) k p) N)
    (hQ : ∀ a p1 S1 H1 v, m ρ p = .ok a p1 → Ext D S H S1 H1 → Rel K D S0 H0 S1 H1 σ ρ own p1 → Rp S1 a v → AftS K D xk S0 H0 own' ownB (k a p1) N → Q v H1) : tG K D Rp own xk m σ H Q := by
  refine ⟨S0, H0, S, ρ, p, R, ?_⟩
  unfold bd at h
  cases e : m ρ p with
  | ok a p1 =>
    rw [e] at h
    exact fun S1 H1 v e1 R1 q => hQ a p1 S1 H1 v e e1 R1 q h
  | exc c fs p1 =>
    rw [e] at h
    exact h
  | stuck =>
    rw [e] at h
    exact h
/-! ### blocks -/
def nxM : MS' := fun ρ => ret (.nx ρ)
def seqM (m n : MS') : MS' := fun ρ => bd (m ρ) fun f => match f with
  | .nx ρ' => n ρ'
  | .rt a => ret (.rt a)
  | .bk ρ' => ret (.bk ρ')
  | .ct ρ' => ret (.ct ρ')
theorem mss_nil : MSs X D own own ownB xk [] nxM := PSs.of pss_nil fun N σ H q => by
  obtain ⟨S0, H0, S, ρ, p, R, q⟩ := q
  exact q S H σ R
theorem seq_of {K : PySem.W.Frag} {S0 H0 : Hp} {ρ : Env'} {p : Pen} {m n : MS'} {N : Ends} (h : AftS K D xk S0 H0 own2 ownB (seqM m n ρ p) N) : AftS K D xk S0 H0 own' ownB (m ρ p) { N with nx := tS K D own' own2 ownB xk n N } := by
  unfold seqM bd at h
  cases e : m ρ p with
  | ok f p1 =>
    rw [e] at h
    cases f with
    | nx ρ' => exact fun S H σ R => ⟨S0, H0, S, ρ', p1, R, h⟩
    | rt a => exact h
    | bk ρ' => exact h
    | ct ρ' => exact h
  | exc c fs p1 => rw [e] at h; exact h
  | stuck => rw [e] at h; exact h
theorem mss_cons {st : Stmt} {rest : List Stmt} {m n : MS'} (h1 : MS X D own own' ownB xk st m) (h2 : MSs X D own' own2 ownB xk rest n) : MSs X D own own2 ownB xk (st :: rest) (seqM m n) := PSs.of (pss_cons h1 h2) fun N σ H q => by
  obtain ⟨S0, H0, S, ρ, p, R, q⟩ := q
  exact ⟨S0, H0, S, ρ, p, R, seq_of q⟩
theorem mss_one {st : Stmt} {m : MS'} (h1 : MS X D own own' ownB xk st m) : MSs X D own own' ownB xk [st] m := pss_one h1
/-! ### what is owned is given up: it stands still from then on -/
theorem Rel.freezeS {K : PySem.W.Frag} {S0 H0 S H : Hp} {σ : L2.St} {ρ : Env'} {p : Pen} (i : Nat) (R : Rel K D S0 H0 S H σ ρ own p) : ∃ S', Rel K D S0 H0 S' H σ ρ (own.filter (· != i)) p ∧ ∀ b o, S b = some o → S' b = some o := by
  by_cases hi : i ∈ own
  · by_cases ha : ∃ a, ρ[i]? = some (some a)
    · obtain ⟨a, ha⟩ := ha
      obtain ⟨q, h1, h2, h3, h4, h5⟩ := R.ownd i a ha hi
      obtain ⟨o, h6, h7⟩ := h5.there
      have sub : ∀ b u, S b = some u → upd S q o b = some u := fun b u e => by
        have n : b ≠ q := fun z => by rw [z, h2] at e; cases e
        rw [upd_ne n]; exact e
      refine ⟨upd S q o, ⟨⟨fun b u e => ?_, by rw [upd_ne (Ne.symm h4)]; exact R.good.npen, fun b ps e => ?_, ?_, R.good.tabs.grow sub⟩, ⟨fun b u e => sub b u (R.ext.sub b u e), R.ext.keep, R.ext.there, fun b e => ?_⟩, fun j b hj hn => ?_, fun j b hj hn => ?_, fun j k b c q' e1 e2 m1 m2 => ?_, R.len⟩, sub⟩
      · by_cases n : b = q
        · rw [n] at e ⊢
          rw [upd_same] at e
          rw [h6]; exact e
        · rw [upd_ne n] at e
          exact R.good.sub b u e
      · by_cases n : b = q
        · rw [n, upd_same] at e
          exact h7 ps (Option.some.inj e)
        · rw [upd_ne n] at e
          exact R.good.ntbl b ps e
      · exact ⟨R.good.pen.1, sub _ _ R.good.pen.2⟩
      · by_cases n : b = q
        · exact .inr (by rw [n]; exact h3)
        · rw [upd_ne n] at e
          exact R.ext.dom b e
      · by_cases n : j = i
        · subst n
          rw [ha] at hj
          have e := Option.some.inj (Option.some.inj hj)
          subst e
          refine ⟨.ref q, h1, ?_⟩
          cases a with
          | lst xs =>
            obtain ⟨vs, e1, r⟩ := h5
            rw [h6] at e1
            cases e1
            exact Rep.lst_iff.mpr ⟨q, vs, rfl, upd_same, Reps.mono sub _ _ r⟩
          | dct ks xs =>
            obtain ⟨vs, e1, l, r⟩ := h5
            rw [h6] at e1
            cases e1
            simp only [Rep]
            exact ⟨q, vs, rfl, upd_same, l, Reps.mono sub _ _ r⟩
          | _ => exact h5.elim
        · have hn' : j ∉ own := fun z => hn (List.mem_filter.mpr ⟨z, by simpa using n⟩)
          obtain ⟨v, g1, g2⟩ := R.slot j b hj hn'
          exact ⟨v, g1, Rep.mono sub _ _ g2⟩
      · obtain ⟨m1, m2⟩ := List.mem_filter.mp hn
        have n : j ≠ i := by simpa using m2
        obtain ⟨q', g1, g2, g3, g4, g5⟩ := R.ownd j b hj m1
        have nq : q' ≠ q := fun z => n (R.dist j i b a q hj ha m1 hi (by rw [← z]; exact g1) h1)
        exact ⟨q', g1, by rw [upd_ne nq]; exact g2, g3, g4, g5.mono sub fun _ z => z⟩
      · exact R.dist j k b c q' e1 e2 (List.mem_filter.mp m1).1 (List.mem_filter.mp m2).1
    · refine ⟨S, ⟨R.good, R.ext, fun j b hj hn => ?_, fun j b hj hn => R.ownd j b hj (List.mem_filter.mp hn).1, fun j k b c q' e1 e2 m1 m2 => R.dist j k b c q' e1 e2 (List.mem_filter.mp m1).1 (List.mem_filter.mp m2).1, R.len⟩, fun _ _ h => h⟩
      by_cases n : j = i
      · exact absurd ⟨b, by rw [← n]; exact hj⟩ ha
      · exact R.slot j b hj fun z => hn (List.mem_filter.mpr ⟨z, by simpa using n⟩)
  · have e : own.filter (· != i) = own := List.filter_eq_self.mpr fun j hj => by
      have : j ≠ i := fun z => hi (z ▸ hj)
      simpa using this
    exact ⟨S, by rw [e]; exact R, fun _ _ h => h⟩
theorem Rel.freeze {K : PySem.W.Frag} {S0 H0 S H : Hp} {σ : L2.St} {ρ : Env'} {p : Pen} (i : Nat) (R : Rel K D S0 H0 S H σ ρ own p) : ∃ S', Rel K D S0 H0 S' H σ ρ (own.filter (· != i)) p := let ⟨S', h, _⟩ := R.freezeS i; ⟨S', h⟩
def drops (own : List Nat) : List Nat → List Nat
  | [] => own
  | i :: is => drops (own.filter (· != i)) is
theorem Rel.freezes {K : PySem.W.Frag} {S0 H0 H : Hp} {σ : L2.St} {ρ : Env'} {p : Pen} : ∀ (is : List Nat) {own : List Nat} {S : Hp}, Rel K D S0 H0 S H σ ρ own p → ∃ S', Rel K D S0 H0 S' H σ ρ (drops own is) p
  | [], _, S, R => ⟨S, R⟩
  | i :: is, _, _, R => by
    obtain ⟨S', R'⟩ := R.freeze i
    exact Rel.freezes is R'
theorem ms_pre (is : List Nat) {st : Stmt} {m : MS'} (h : MS X D (drops own is) own' ownB xk st m) : MS X D own own' ownB xk st m := PS.of h fun N σ H q => by
  obtain ⟨S0, H0, S, ρ, p, R, q⟩ := q
  obtain ⟨S', R'⟩ := R.freezes is
  exact ⟨S0, H0, S', ρ, p, R', q⟩
theorem mss_end (is : List Nat) : MSs X D own (drops own is) ownB xk [] nxM := PSs.of pss_nil fun N σ H q => by
  obtain ⟨S0, H0, S, ρ, p, R, q⟩ := q
  obtain ⟨S', R'⟩ := R.freezes is
  exact q S' H σ R'
theorem mss_pre (is : List Nat) {sts : List Stmt} {m : MS'} (h : MSs X D (drops own is) own' ownB xk sts m) : MSs X D own own' ownB xk sts m := PSs.of h fun N σ H q => by
  obtain ⟨S0, H0, S, ρ, p, R, q⟩ := q
  obtain ⟨S', R'⟩ := R.freezes is
  exact ⟨S0, H0, S', ρ, p, R', q⟩
/-! ### names -/
theorem Rel.set {K : PySem.W.Frag} {S0 H0 S H : Hp} {σ : L2.St} {ρ : Env'} {p : Pen} {a : A} {v : V} (i : Nat) (R : Rel K D S0 H0 S H σ ρ own p) (r : Rep K D S a v) : Rel K D S0 H0 S H (σ.set i (some v)) (ρ.set i (some a)) (own.filter (· != i)) p where
  good := R.good
  ext := R.ext
  slot := fun j b hj hn => by
    by_cases n : j = i
    · subst n
      have hl : j < ρ.length := by
        have := (List.getElem?_eq_some_iff.mp hj).1
        simpa using this
      rw [List.getElem?_set_self hl] at hj
      have e := Option.some.inj (Option.some.inj hj)
      subst e
      exact ⟨v, by rw [List.getElem?_set_self (by rw [← R.len]; exact hl)], r⟩
    · rw [List.getElem?_set_ne (Ne.symm n)] at hj
      obtain ⟨w, h1, h2⟩ := R.slot j b hj fun z => hn (List.mem_filter.mpr ⟨z, by simpa using n⟩)
      exact ⟨w, by rw [List.getElem?_set_ne (Ne.symm n)]; exact h1, h2⟩
  ownd := fun j b hj hn => by
    obtain ⟨m1, m2⟩ := List.mem_filter.mp hn
    have n : j ≠ i := by simpa using m2
    rw [List.getElem?_set_ne (Ne.symm n)] at hj ⊢
    exact R.ownd j b hj m1
  dist := fun j k b c q e1 e2 m1 m2 e3 e4 => by
    obtain ⟨m1, n1⟩ := List.mem_filter.mp m1
    obtain ⟨m2, n2⟩ := List.mem_filter.mp m2
    have n1 : j ≠ i := by simpa using n1
    have n2 : k ≠ i := by simpa using n2
    rw [List.getElem?_set_ne (Ne.symm n1)] at e1 e3
    rw [List.getElem?_set_ne (Ne.symm n2)] at e2 e4
    exact R.dist j k b c q e1 e2 m1 m2 e3 e4
  len := by rw [List.length_set, List.length_set]; exact R.len
/-- x = e -/
def setM (i : Nat) (m : ME') : MS' := fun ρ => bd (m ρ) fun a => ret (.nx (ρ.set i (some a)))
theorem ms_set {i : Nat} {x : Str} {e : Expr} {m : ME'} {pos pos' : Pos} (hN : X.N.Nodup) (hi : X.N[i]? = some x) (hx : Loc X.env.scope x) (he : ME X D own xk e m) (hs : swapsWith e (some (.Name x pos')) pos.line X.env = pure false := by rfl) (hf : X.fn x = true ∨ X.env.scope.names.lookup x = some .local := by first | exact .inl rfl | exact .inr rfl) :
    MS X D own (own.filter (· != i)) ownB xk (.Assign [.Name x pos'] e pos) (setM i m) := PS.of (ps_set hN hi hx he hs hf) fun N σ H q => by
  obtain ⟨S0, H0, S, ρ, p, R, q⟩ := q
  exact AftS.bind R q fun a p1 S1 H1 v _ e1 R1 r1 q1 => q1 S1 H1 _ (R1.set i r1)
/-- targets: a name, a tuple of targets -/
abbrev Tg := A → Env' → Option Env'
def tgN (i : Nat) : Tg := fun a ρ => some (ρ.set i (some a))
abbrev Tgs := List A → Env' → Option Env'
def tgNil : Tgs := fun as ρ => if as.isEmpty then some ρ else none
def tgCons (t : Tg) (u : Tgs) : Tgs := fun as ρ => match as with
  | [] => none
  | a :: r => (t a ρ).bind (u r)
def tgT (n : Nat) (u : Tgs) : Tg := fun a ρ => match a with
  | .tup xs => if xs.length = n then u xs ρ else none
  | _ => none
/-- only the places of is have changed -/
structure Chg (is : List Nat) (σ σ' : L2.St) : Prop where
  len : σ'.length = σ.length
  at_ : ∀ j, j ∉ is → σ'[j]? = σ[j]?
theorem Chg.refl {σ : L2.St} : Chg [] σ σ := ⟨rfl, fun _ _ => rfl⟩
theorem Chg.trans {a b : List Nat} {σ σ1 σ2 : L2.St} (h : Chg a σ σ1) (h2 : Chg b σ1 σ2) : Chg (a ++ b) σ σ2 :=
  ⟨h2.len.trans h.len, fun j hj => (h2.at_ j fun z => hj (List.mem_append_right _ z)).trans (h.at_ j fun z => hj (List.mem_append_left _ z))⟩
def gM (K : PySem.W.Frag) (D : Dcl) (own own' is : List Nat) (t : Tg) : TG := fun v σ H Q => ∃ S0 H0 S ρ p a, Rel K D S0 H0 S H σ ρ own p ∧ Rep K D S a v ∧ ∃ ρ', t a ρ = some ρ' ∧ ∀ σ', Rel K D S0 H0 S H σ' ρ' own' p → Chg is σ σ' → Q σ' H
def gMs (K : PySem.W.Frag) (D : Dcl) (own own' is : List Nat) (t : Tgs) : TGs := fun vs σ H Q => ∃ S0 H0 S ρ p as, Rel K D S0 H0 S H σ ρ own p ∧ Reps K D S as vs ∧ ∃ ρ', t as ρ = some ρ' ∧ ∀ σ', Rel K D S0 H0 S H σ' ρ' own' p → Chg is σ σ' → Q σ' H
abbrev MG (X : Cx) (D : Dcl) (own own' is : List Nat) (e : Expr) (t : Tg) : Prop := PG X e (gM X.K D own own' is t)
abbrev MGs (X : Cx) (D : Dcl) (own own' is : List Nat) (es : List Expr) (t : Tgs) : Prop := PGs X es (gMs X.K D own own' is t)
theorem PG.of {e : Expr} {t t' : TG} (h : PG X e t) (i : ∀ v σ H Q, t' v σ H Q → t v σ H Q) : PG X e t' := ⟨fun pins s σ H v u Q I r q => h.run pins s σ H v u Q I r (i v σ H Q q)⟩
theorem PGs.of {es : List Expr} {t t' : TGs} (h : PGs X es t) (i : ∀ v σ H Q, t' v σ H Q → t v σ H Q) : PGs X es t' := ⟨fun pins s σ H v u Q I r q => h.run pins s σ H v u Q I r (i v σ H Q q)⟩
theorem mg_name {i : Nat} {x : Str} {pos : Pos} (hN : X.N.Nodup) (hi : X.N[i]? = some x) (hx : Loc X.env.scope x) (hf : X.fn x = true ∨ X.env.scope.names.lookup x = some .local := by first | exact .inl rfl | exact .inr rfl) : MG X D own (own.filter (· != i)) [i] (.Name x pos) (tgN i) :=
  PG.of (pg_name hN hi hx hf) fun v σ H Q q => by
    obtain ⟨S0, H0, S, ρ, p, a, R, r, ρ', e, q⟩ := q
    cases e
    refine q _ (R.set i r) ⟨List.length_set .., fun j hj => ?_⟩
    have n : i ≠ j := fun z => hj (by simp [z])
    exact List.getElem?_set_ne n
theorem mgs_nil : MGs X D own own [] [] tgNil := PGs.of pgs_nil fun v σ H Q q => by
  obtain ⟨S0, H0, S, ρ, p, as, R, r, ρ', e, q⟩ := q
  unfold tgNil at e
  cases as with
  | nil =>
    cases e
    exact ⟨Reps.nil_iff.mp r, q _ R .refl⟩
  | cons a r => cases e
theorem mgs_cons {is js : List Nat} {e : Expr} {es : List Expr} {t : Tg} {u : Tgs} (h1 : MG X D own own' is e t) (h2 : MGs X D own' own2 js es u) (hs : (assignEach (e :: es) X.env).map (·.2) = assign e X.env :: (assignEach es X.env).map (·.2) := by rfl) : MGs X D own own2 (is ++ js) (e :: es) (tgCons t u) :=
  PGs.of (pgs_cons h1 h2 hs) fun vs σ H Q q => by
    obtain ⟨S0, H0, S, ρ, p, as, R, r, ρ', e, q⟩ := q
    cases as with
    | nil => cases e
    | cons a as =>
      obtain ⟨v, vr, ev, r1, r2⟩ := Reps.cons_iff.mp r
      unfold tgCons at e
      dsimp only at e
      cases z : t a ρ with
      | none => rw [z] at e; cases e
      | some ρ1 =>
        rw [z] at e
        exact ⟨v, vr, ev, S0, H0, S, ρ, p, a, R, r1, ρ1, z, fun σ' R' c => ⟨S0, H0, S, ρ1, p, as, R', r2, ρ', e, fun σ2 R2 c2 => q σ2 R2 (c.trans c2)⟩⟩
theorem mg_tup {is : List Nat} {es : List Expr} {k : Nat} {u : Tgs} {n : Nat} {pos : Pos} (hc : X.calm = true) (h : MGs X D own own' is es u) (hn : (assignEach es X.env).length = n := by rfl) (hst : (assignEach es X.env).findIdx? (·.1) = none := by rfl) : MG X D own own' is (.Tuple es k pos) (tgT n u) :=
  PG.of (pg_tup hc h hn hst) fun v σ H Q q => by
    obtain ⟨S0, H0, S, ρ, p, a, R, r, ρ', e, q⟩ := q
    unfold tgT at e
    cases a <;> first | (cases e; done) | skip
    rename_i xs
    obtain ⟨a, vs, rfl, s, r⟩ := Rep.tup_iff.mp r
    dsimp only at e
    split at e
    · rename_i c
      exact ⟨a, vs, rfl, SqT.up R.good s, by rw [← r.length]; exact c, S0, H0, S, ρ, p, xs, R, r, ρ', e, q⟩
    · cases e
/-- target = e -/
def asgM (t : Tg) (m : ME') : MS' := fun ρ => bd (m ρ) fun a => match t a ρ with
  | some ρ' => ret (.nx ρ')
  | none => no
theorem ms_asg {is : List Nat} {tg e : Expr} {t : Tg} {m : ME'} {pos : Pos} (he : ME X D own xk e m) (hg : MG X D own own' is tg t) (hs : swapsWithSole [tg] e pos.line X.env = pure false := by rfl) (hw : swappedStores [tg] e X.env = pure none := by rfl)
    (h1 : (assignEach [tg] X.env).map (·.2) = [assign tg X.env] := by rfl) : MS X D own own' ownB xk (.Assign [tg] e pos) (asgM t m) := PS.of (ps_asg he hg hs hw h1) fun N σ H q => by
  obtain ⟨S0, H0, S, ρ, p, R, q⟩ := q
  refine AftS.bind R q fun a p1 S1 H1 v _ e1 R1 r1 q1 => ?_
  cases z : t a ρ with
  | none => rw [z] at q1; exact q1.elim
  | some ρ' =>
    rw [z] at q1
    exact ⟨S0, H0, S1, ρ, p1, a, R1, r1, ρ', z, fun σ' R' _ => q1 S1 H1 σ' R'⟩
/-! ### small statements -/
def dropM (m : ME') : MS' := fun ρ => bd (m ρ) fun _ => ret (.nx ρ)
theorem ms_expr {e : Expr} {m : ME'} {pos : Pos} (he : ME X D own xk e m) (hs : swapsWith e none pos.line X.env = pure false := by rfl) : MS X D own own ownB xk (.Expr e pos) (dropM m) := PS.of (ps_expr he hs) fun N σ H q => by
  obtain ⟨S0, H0, S, ρ, p, R, q⟩ := q
  exact AftS.bind R q fun a p1 S1 H1 v _ e1 R1 r1 q1 => q1 S1 H1 σ R1
def retM (m : ME') : MS' := fun ρ => bd (m ρ) fun a => ret (.rt a)
theorem ms_ret {e : Expr} {m : ME'} {pos : Pos} (he : ME X D own xk e m) : MS X D own own' ownB xk (.Return (some e) pos) (retM m) := PS.of (ps_ret he) fun N σ H q => by
  obtain ⟨S0, H0, S, ρ, p, R, q⟩ := q
  exact AftS.bind R q fun a p1 S1 H1 v _ e1 R1 r1 q1 => q1 S1 H1 v R1.ext R1.good r1
def retN : MS' := fun _ => ret (.rt .non)
theorem ms_retN {pos : Pos} : MS X D own own' ownB xk (.Return none pos) retN := PS.of ps_retN fun N σ H q => by
  obtain ⟨S0, H0, S, ρ, p, R, q⟩ := q
  exact q S H .non R.ext R.good (Rep.non_iff.mpr rfl)
theorem ms_pass {pos : Pos} : MS X D own own ownB xk (.Pass pos) nxM := PS.of ps_pass fun N σ H q => by
  obtain ⟨S0, H0, S, ρ, p, R, q⟩ := q
  exact q S H σ R
def ctM : MS' := fun ρ => ret (.ct ρ)
def bkM : MS' := fun ρ => ret (.bk ρ)
theorem ms_continue {pos : Pos} : MS X D own own' own xk (.Continue pos) ctM := PS.of ps_continue fun N σ H q => by
  obtain ⟨S0, H0, S, ρ, p, R, q⟩ := q
  exact q S H σ R
theorem ms_break {pos : Pos} : MS X D own own' own xk (.Break pos) bkM := PS.of ps_break fun N σ H q => by
  obtain ⟨S0, H0, S, ρ, p, R, q⟩ := q
  exact q S H σ R
theorem ms_if {c : Expr} {a b : List Stmt} {t : Env' → M Bool} {m n : MS'} {pos : Pos} (hc : MT X D own xk c t) (ha : MSs X D own own' ownB xk a m) (hb : MSs X D own own' ownB xk b n) : MS X D own own' ownB xk (.If c a b pos) (iteM t m n) := PS.of (ps_if hc ha hb) fun N σ H q => by
  obtain ⟨S0, H0, S, ρ, p, R, q⟩ := q
  refine AftS.bind R q fun a p1 S1 H1 x _ e1 R1 r1 q1 => ?_
  have r1 : x = a := r1
  subst r1
  cases x with
  | true => exact ⟨_, _, _, _, _, R1, q1⟩
  | false => exact ⟨_, _, _, _, _, R1, q1⟩
end
end Mir

/-! Mir7: what is walked, for, comprehensions. -/
namespace Mir
open PySem PySem.Spec PyProof.Rows L2
section
variable {K : PySem.W.Frag} {D : Dcl}
/-- the iterator J walks the plain items xs, that stand in S -/
def WalkM (K : PySem.W.Frag) (D : Dcl) (J : It) (xs : List A) (S : Hp) : Prop :=
  Walk J xs.length (fun H => ∀ a o, S a = some o → H a = some o) fun i H v H' =>
    (H' = H ∧ ∃ a, xs[i]? = some a ∧ Rep K D S a v) ∨ (∃ q x y a b, v = .ref q ∧ H q = none ∧ H' = upd H q (.tup [x, y]) ∧ xs[i]? = some (.tup [a, b]) ∧ Rep K D S a x ∧ Rep K D S b y)
end
section
variable {X : Cx} {D : Dcl} {own own' own2 ownB : List Nat} {xk : XK}
/-- what is walked has a plain meaning -/
def tI (K : PySem.W.Frag) (D : Dcl) (own : List Nat) (xk : XK) (m : Env' → M (List A)) : TI := fun σ H R => tG K D (fun S (xs : List A) (J : It) => WalkM K D J xs S) own xk m σ H fun J H' => R J H'
abbrev MI (X : Cx) (D : Dcl) (own : List Nat) (xk : XK) (tg iter : Expr) (m : Env' → M (List A)) : Prop := PI X tg iter (tI X.K D own xk m)
theorem PI.of {tg iter : Expr} {t t' : TI} (h : PI X tg iter t) (i : ∀ σ H R, t' σ H R → t σ H R) : PI X tg iter t' := ⟨fun pins s σ H R I q => h.run pins s σ H R I (i σ H R q)⟩
def seqA : A → M (List A)
  | .tup xs => ret xs
  | .lst xs => ret xs
  | _ => no
def itSeq (m : ME') : Env' → M (List A) := fun ρ => bd (m ρ) seqA
/-- a list or a tuple, walked -/
def iSeq (K : PySem.W.Frag) (tl : TE) : TI := fun σ H R => tl σ H fun x H1 => ∃ a, x = .ref a ∧ (((∃ xs, SqL K H1 a xs) ∧ R (Itl K a) H1) ∨ ((∃ xs, SqT K H1 a xs) ∧ R (Itt K a) H1))
theorem pi_seq {tg l : Expr} {tl : TE} (hl : PE X l tl) : PI X tg l (iSeq X.K tl) := by
  refine ⟨fun pins s σ H R I h => ?_⟩
  refine thn (hl.run pins s σ H _ I h) fun v s1 ⟨x, H1, I1, r1, q1⟩ => ?_
  obtain ⟨a, e, q1⟩ := q1
  subst e
  cases r1
  rcases q1 with ⟨⟨xs, hq⟩, q⟩ | ⟨⟨xs, hq⟩, q⟩
  · obtain ⟨its, rv, p, hz⟩ := I1.list hq
    refine wpAny_pyIter_list p.isList ?_
    refine ⟨s1.heap.objs.size, [s1.heap.objs.size], _, _, H1, rfl, I1.kept (t' := s1.toks) fun b o e => Heap.get?_push_of_some _ e, turn_list a _, ⟨_, Heap.get?_push_size _ rfl, rfl, rfl⟩, fun b hb => ?_, q⟩
    have e : b = s1.heap.objs.size := by simpa using hb
    subst e
    exact I1.fpOk (Nat.le_refl _) (I1.hok.fresh (Nat.le_refl _))
  · obtain ⟨its, rv, p, hz⟩ := I1.tuple hq
    refine wpAny_pyIter_tuple (show s1.heap.IsTuple a its.toArray from p) ?_
    refine ⟨s1.heap.objs.size, [s1.heap.objs.size], _, _, H1, rfl, I1.kept (t' := s1.toks) fun b o e => Heap.get?_push_of_some _ e, turn_tuple a _, ⟨_, Heap.get?_push_size _ rfl, rfl, rfl⟩, fun b hb => ?_, q⟩
    have e : b = s1.heap.objs.size := by simpa using hb
    subst e
    exact I1.fpOk (Nat.le_refl _) (I1.hok.fresh (Nat.le_refl _))
theorem walkM_list {K : PySem.W.Frag} {S : Hp} {a : Addr} {xs : List A} {vs : List V} (h : S a = some (.lst vs)) (r : Reps K D S xs vs) : WalkM K D (Itl K a) xs S := by
  have w := walk_list (K := K) (a := a) (xs := vs)
  rw [← r.length] at w
  refine w.mono (fun H g => SqL.of (g _ _ h)) fun i H x H' _ _ y => .inl ⟨y.1, ?_⟩
  exact r.get' y.2
theorem walkM_tup {K : PySem.W.Frag} {S : Hp} {a : Addr} {xs : List A} {vs : List V} (h : SqT K S a vs) (r : Reps K D S xs vs) : WalkM K D (Itt K a) xs S := by
  have w := walk_tup (K := K) (a := a) (xs := vs)
  rw [← r.length] at w
  refine w.mono (fun H g => SqT.mono g h) fun i H x H' _ _ y => .inl ⟨y.1, ?_⟩
  exact r.get' y.2
theorem mi_seq {tg l : Expr} {m : ME'} (hl : ME X D own xk l m) : MI X D own xk tg l (itSeq m) := PI.of (pi_seq hl) fun σ H R0 q => by
  obtain ⟨S0, H0, S, ρ, p, R, q⟩ := q
  refine tG.bind R q fun a p1 S1 H1 x _ e1 R1 r1 q1 => ?_
  cases a <;> first | exact q1.elim | skip
  · obtain ⟨a, vs, rfl, s, r⟩ := Rep.tup_iff.mp r1
    exact ⟨a, rfl, .inr ⟨⟨vs, SqT.up R1.good s⟩, Aft.ok q1 R1 (walkM_tup s r)⟩⟩
  · obtain ⟨a, vs, rfl, s, r⟩ := Rep.lst_iff.mp r1
    exact ⟨a, rfl, .inl ⟨⟨vs, SqL.of (R1.good.sub _ _ s)⟩, Aft.ok q1 R1 (walkM_list s r)⟩⟩
/-- range(n), range(a, b) -/
def rangeL (lo hi : Int) : List A := (List.range (hi - lo).toNat).map fun i => .int (lo + (i : Nat))
def rngOk (a : Int) : Bool := decide (-(2 ^ 62) ≤ a ∧ a < 2 ^ 62)
def range1A : List A → M (List A)
  | [.int n] => if rngOk n then ret (rangeL 0 n) else no
  | _ => no
def range2A : List A → M (List A)
  | [.int a, .int b] => if rngOk a && rngOk b then ret (rangeL a b) else no
  | _ => no
def itOn (g : List A → M (List A)) (ms : Env' → M (List A)) : Env' → M (List A) := fun ρ => bd (ms ρ) g
theorem walkM_range {K : PySem.W.Frag} {S : Hp} {lo hi : Int} : WalkM K D (Itr lo (hi - lo).toNat) (rangeL lo hi) S := by
  have w := walk_range (lo := lo) (n := (hi - lo).toNat)
  have e : (rangeL lo hi).length = (hi - lo).toNat := by unfold rangeL; rw [List.length_map, List.length_range]
  unfold WalkM
  rw [e]
  refine w.mono (fun H g => True.intro) fun i H x H' hi' _ y => .inl ⟨y.1, .int (lo + i), ?_, by rw [y.2, Rep.int_iff]⟩
  unfold rangeL
  rw [List.getElem?_map, List.getElem?_range hi']
  rfl
theorem mi_range1 {tg a : Expr} {ms : Env' → M (List A)} {p pos : Pos} (hg : Gl X "range") (hm : X.mg "range" = none) (ha : MA X D own xk [a] ms) (hs : starEach [a] X.env = [(false, eval a X.env)] := by rfl) : MI X D own xk tg (.Call (.Name "range" p) [a] [] pos) (itOn range1A ms) :=
  PI.of (pi_range1 hg hm ha hs) fun σ H R0 q => by
    obtain ⟨S0, H0, S, ρ, p, R, q⟩ := q
    refine tG.bind R q fun as p1 S1 H1 vs _ e1 R1 r1 q1 => ?_
    unfold range1A at q1
    split at q1
    · rename_i n _
      obtain ⟨v, ev, r2⟩ := Reps.one r1
      subst ev
      rw [Rep.int_iff] at r2
      subst r2
      split at q1
      · rename_i c
        simp only [rngOk, decide_eq_true_eq] at c
        have w := walkM_range (D := D) (K := X.K) (S := S1) (lo := 0) (hi := n)
        rw [Int.sub_zero] at w
        exact ⟨n, rfl, c.1, c.2, Aft.ok q1 R1 w⟩
      · exact q1.elim
    · exact q1.elim
theorem mi_range2 {tg a b : Expr} {ms : Env' → M (List A)} {p pos : Pos} (hg : Gl X "range") (hm : X.mg "range" = none) (ha : MA X D own xk [a, b] ms) (hs : starEach [a, b] X.env = [(false, eval a X.env), (false, eval b X.env)] := by rfl) (hs2 : starEach [b] X.env = [(false, eval b X.env)] := by rfl) : MI X D own xk tg (.Call (.Name "range" p) [a, b] [] pos) (itOn range2A ms) :=
  PI.of (pi_range2 hg hm ha hs hs2) fun σ H R0 q => by
    obtain ⟨S0, H0, S, ρ, p, R, q⟩ := q
    refine tG.bind R q fun as p1 S1 H1 vs _ e1 R1 r1 q1 => ?_
    unfold range2A at q1
    split at q1
    · rename_i i j _
      obtain ⟨v, w', ev, r2, r3⟩ := Reps.two r1
      subst ev
      rw [Rep.int_iff] at r2 r3
      subst r2 r3
      split at q1
      · rename_i c
        simp only [rngOk, Bool.and_eq_true, decide_eq_true_eq] at c
        exact ⟨i, j, rfl, ⟨c.1.1, c.1.2, c.2.1, c.2.2⟩, Aft.ok q1 R1 walkM_range⟩
      · exact q1.elim
    · exact q1.elim
/-! ### for -/
def forM (t : Tg) (body : MS') : List A → MS'
  | [], ρ => ret (.nx ρ)
  | x :: xs, ρ => match t x ρ with
    | none => no
    | some ρ1 => bd (body ρ1) fun f => match f with
      | .nx ρ2 => forM t body xs ρ2
      | .ct ρ2 => forM t body xs ρ2
      | .bk ρ2 => ret (.nx ρ2)
      | .rt a => ret (.rt a)
def forS (it : Env' → M (List A)) (t : Tg) (body : MS') : MS' := fun ρ => bd (it ρ) fun xs => forM t body xs ρ
theorem Ext.rebase {S0 H0 S1 H1 S H : Hp} (a : Ext D S0 H0 S1 H1) (b : Ext D S1 H0 S H) : Ext D S0 H0 S H :=
  ⟨fun c o h => b.sub c o (a.sub c o h), b.keep, b.there, fun c h => (b.dom c h).elim (fun z => a.dom c z) .inr⟩
theorem Ext.lift {S0 H0 S1 S H : Hp} (a : Ext D S0 H0 S H) (h0 : ∀ c o, S0 c = some o → S1 c = some o) (h1 : ∀ c o, S1 c = some o → S c = some o) : Ext D S1 H0 S H :=
  ⟨h1, a.keep, a.there, fun c h => (a.dom c h).elim (fun z => .inl (by
    cases q : S0 c with
    | none => exact absurd q z
    | some o => rw [h0 c o q]; exact fun z => nomatch z)) .inr⟩
theorem Rel.rebase {K : PySem.W.Frag} {S0 H0 S1 H1 S H : Hp} {σ : L2.St} {ρ : Env'} {p : Pen} (a : Ext D S0 H0 S1 H1) (R : Rel K D S1 H0 S H σ ρ own p) : Rel K D S0 H0 S H σ ρ own p := { R with ext := a.rebase R.ext }
theorem Rel.lift {K : PySem.W.Frag} {S0 H0 S1 S H : Hp} {σ : L2.St} {ρ : Env'} {p : Pen} (R : Rel K D S0 H0 S H σ ρ own p) (h0 : ∀ c o, S0 c = some o → S1 c = some o) (h1 : ∀ c o, S1 c = some o → S c = some o) : Rel K D S1 H0 S H σ ρ own p := { R with ext := R.ext.lift h0 h1 }
theorem AftS.lift {K : PySem.W.Frag} {S0 H0 S1 H1 : Hp} {r : Res Fl} {N : Ends} (h : AftS K D xk S0 H0 own ownB r N) (a : Ext D S0 H0 S1 H1) : AftS K D xk S1 H0 own ownB r N := by
  cases r with
  | ok f p =>
    cases f with
    | nx ρ => exact fun S H σ R => h S H σ (R.rebase a)
    | bk ρ => exact fun S H σ R => h S H σ (R.rebase a)
    | ct ρ => exact fun S H σ R => h S H σ (R.rebase a)
    | rt v => exact fun S H v e => h S H v (a.rebase e)
  | exc c fs p => exact fun S H C d vs e => h S H C d vs (a.rebase e)
  | stuck => exact h
theorem ms_for {is : List Nat} {tg iter : Expr} {body : List Stmt} {it : Env' → M (List A)} {t : Tg} {mb : MS'} {pos : Pos} (hp : PassesOwn (model X.prog X.w) X.A X.env X.xe) (hc : X.calm = true) (hi : MI X D own xk tg iter it) (hg : MG X D own own is tg t) (hb : MSs X D own own own xk body mb)
    (hs : ∀ x, foldedSetIterable iter X.env x = pure x := by intro _; rfl) : MS X D own own ownB xk (.For tg iter body [] pos) (forS it t mb) := PS.of (ps_for hp hc hi hg hb hs) fun N σ H q => by
  obtain ⟨S0, H0, S, ρ, p, R, q⟩ := q
  refine AftS.bind R q fun xs p1 S1 H1 J _ e1 R1 w q1 => ?_
  refine for_it w (fun i σ H => ∃ S ρ p, Rel X.K D S1 H0 S H σ ρ own p ∧ AftS X.K D xk S1 H0 own ownB (forM t mb (xs.drop i) ρ p) N) ⟨S1, ρ, p1, R1.lift R1.ext.sub fun _ _ h => h, q1.lift R1.ext⟩
    (fun i σ H _ ⟨S, ρ, p, R, _⟩ a o h => R.good.sub _ _ (R.ext.sub a o h)) ?_ ?_
  · rintro i x σ H H' hi ⟨S, ρ, p, R, q⟩ y
    have hx : xs.drop i = xs[i] :: xs.drop (i + 1) := List.drop_eq_getElem_cons hi
    have turn : ∀ (S2 : Hp) (a : A), xs[i]? = some a → Rel X.K D S1 H0 S2 H' σ ρ own p → Rep X.K D S2 a x →
        gM X.K D own own is t x σ H' fun σ2 H2 => tS X.K D own own own xk mb { N with nx := fun σ H => ∃ S ρ p, Rel X.K D S1 H0 S H σ ρ own p ∧ AftS X.K D xk S1 H0 own ownB (forM t mb (xs.drop (i + 1)) ρ p) N, ct := fun σ H => ∃ S ρ p, Rel X.K D S1 H0 S H σ ρ own p ∧ AftS X.K D xk S1 H0 own ownB (forM t mb (xs.drop (i + 1)) ρ p) N, bk := N.nx } σ2 H2 := fun S2 a ha R2 r2 => by
      have ea : xs[i] = a := by
        rw [List.getElem?_eq_getElem hi] at ha
        exact Option.some.inj ha
      rw [hx, ea] at q
      unfold forM at q
      cases z : t a ρ with
      | none => simp only [z] at q; exact q.elim
      | some ρ1 =>
        simp only [z] at q
        refine ⟨S1, H0, S2, ρ, p, a, R2, r2, ρ1, z, fun σ2 R3 _ => ⟨S1, H0, S2, ρ1, p, R3, ?_⟩⟩
        unfold bd at q
        cases e : mb ρ1 p with
        | ok f p2 =>
          rw [e] at q
          cases f with
          | nx ρ2 => exact fun S H σ R => ⟨S, ρ2, p2, R, q⟩
          | ct ρ2 => exact fun S H σ R => ⟨S, ρ2, p2, R, q⟩
          | bk ρ2 => exact q
          | rt a => exact q
        | exc c fs p2 => rw [e] at q; exact q
        | stuck => rw [e] at q; exact q
    rcases y with ⟨rfl, a, ha, r⟩ | ⟨q', x1, y1, a, b, rfl, hq, rfl, hab, ra, rb⟩
    · exact turn S a ha R (Rep.mono R.ext.sub _ _ r)
    · obtain ⟨R2, e2⟩ := R.new (o := .tup [x1, y1]) hq fun _ z => by cases z
      exact turn _ (.tup [a, b]) hab R2 (Rep.tup_iff.mpr ⟨q', [x1, y1], rfl, .inl (.inl upd_same), Reps.cons_iff.mpr ⟨x1, [y1], rfl, Rep.mono R2.ext.sub _ _ ra, Reps.cons_iff.mpr ⟨y1, [], rfl, Rep.mono R2.ext.sub _ _ rb, Reps.nil_iff.mpr rfl⟩⟩⟩)
  · rintro σ H ⟨S, ρ, p, R, q⟩
    rw [List.drop_length] at q
    exact q S H σ R
/-! ### while -/
def whileM (t : Env' → M Bool) (body : MS') : Nat → MS'
  | 0, _ => no
  | n + 1, ρ => bd (t ρ) fun b => if b then bd (body ρ) fun f => match f with
      | .nx ρ2 => whileM t body n ρ2
      | .ct ρ2 => whileM t body n ρ2
      | .bk ρ2 => ret (.nx ρ2)
      | .rt a => ret (.rt a)
    else ret (.nx ρ)
theorem ms_while (n : Nat) {c : Expr} {body : List Stmt} {t : Env' → M Bool} {mb : MS'} {pos : Pos} (hp : PassesOwn (model X.prog X.w) X.A X.env X.xe) (hc : MT X D own xk c t) (hb : MSs X D own own own xk body mb) : MS X D own own ownB xk (.While c body [] pos) (whileM t mb n) := PS.of (ps_while hp hc hb) fun N σ H q => by
  obtain ⟨S0, H0, S, ρ, p, R, q⟩ := q
  refine ⟨fun k σ H => ∃ S ρ p, Rel X.K D S0 H0 S H σ ρ own p ∧ AftS X.K D xk S0 H0 own ownB (whileM t mb k ρ p) N, ⟨n, S, ρ, p, R, q⟩, ?_⟩
  rintro k σ H ⟨S, ρ, p, R, q⟩
  cases k with
  | zero => exact q.elim
  | succ k =>
    unfold whileM at q
    refine AftS.bind R q fun b p1 S1 H1 x _ e1 R1 r1 q1 => ?_
    have r1 : x = b := r1
    subst r1
    cases x with
    | false => exact q1 S1 H1 σ R1
    | true =>
      rw [if_pos rfl] at q1 ⊢
      refine ⟨fun σ H => ∃ S ρ p, Rel X.K D S0 H0 S H σ ρ own p ∧ AftS X.K D xk S0 H0 own ownB (whileM t mb k ρ p) N, fun σ' H' h => ⟨k, Nat.lt_succ_self k, h⟩, S0, H0, S1, ρ, p1, R1, ?_⟩
      unfold bd at q1
      cases e : mb ρ p1 with
      | ok f p2 =>
        rw [e] at q1
        cases f with
        | nx ρ2 => exact fun S H σ R => ⟨S, ρ2, p2, R, q1⟩
        | ct ρ2 => exact fun S H σ R => ⟨S, ρ2, p2, R, q1⟩
        | bk ρ2 => exact q1
        | rt a => exact q1
      | exc c fs p2 => rw [e] at q1; exact q1
      | stuck => rw [e] at q1; exact q1
end
end Mir

/-! Mir8: comprehensions; lists of one's own. -/
namespace Mir
open PySem PySem.Spec PyProof.Rows L2
section
variable {X : Cx} {D : Dcl} {own own' own2 ownB : List Nat} {xk : XK}
/-! ### a list of one's own, just made -/
def AftF (K : PySem.W.Frag) (D : Dcl) (xk : XK) (S0 H0 S H : Hp) (σ : L2.St) (ρ : Env') (own : List Nat) (r : Res A) (Q : V → Hp → Prop) : Prop := match r with
  | .ok a p => ∀ S' H' q, Ext D S H S' H' → Rel K D S0 H0 S' H' σ ρ own p → S' q = none → H q = none → q ≠ D.π → OwnAt K D S' H' q a → Q (.ref q) H'
  | .exc c fs p => ∀ S' H' C d vs, Ext D S0 H0 S' H' → Good D S' H' p → H0 d = none → D.cls c = some C → H' d = some (.xd ((D.flds c).zip vs)) → (D.flds c).length = vs.length → Reps K D S' fs vs → xk (.ref C) (some d) H'
  | .stuck => False
def tF (K : PySem.W.Frag) (D : Dcl) (own : List Nat) (xk : XK) (m : ME') : TE := fun σ H Q => ∃ S0 H0 S ρ p, Rel K D S0 H0 S H σ ρ own p ∧ AftF K D xk S0 H0 S H σ ρ own (m ρ p) Q
abbrev MF (X : Cx) (D : Dcl) (own : List Nat) (xk : XK) (e : Expr) (m : ME') : Prop := PE X e (tF X.K D own xk m)
theorem AftF.mono {K : PySem.W.Frag} {S0 H0 S H S1 H1 : Hp} {σ : L2.St} {ρ : Env'} {r : Res A} {Q : VK} (h : AftF K D xk S0 H0 S H σ ρ own r Q) (e : Ext D S H S1 H1) : AftF K D xk S0 H0 S1 H1 σ ρ own r Q := by
  cases r with
  | ok a p => exact fun S' H' q e' R n1 n2 => h S' H' q (e.trans e') R n1 (by
      cases z : H q with
      | none => rfl
      | some o => exact absurd n2 (e.there q (by rw [z]; exact fun z => nomatch z)))
  | exc c fs p => exact h
  | stuck => exact h
theorem AftF.bind {α β : Type} {Rp : Hp → α → β → Prop} {K : PySem.W.Frag} {S0 H0 S H : Hp} {σ : L2.St} {ρ : Env'} {p : Pen} {m : Env' → M α} {k : α → M A} {Q' : VK} {Q : β → Hp → Prop} (R : Rel K D S0 H0 S H σ ρ own p) (h : AftF K D xk S0 H0 S H σ ρ own (bd (m ρ) k p) Q')
    (hQ : ∀ a p1 S1 H1 v, m ρ p = .ok a p1 → Ext D S H S1 H1 → Rel K D S0 H0 S1 H1 σ ρ own p1 → Rp S1 a v → AftF K D xk S0 H0 S1 H1 σ ρ own (k a p1) Q' → Q v H1) : tG K D Rp own xk m σ H Q := by
  refine ⟨S0, H0, S, ρ, p, R, ?_⟩
  unfold bd at h
  cases e : m ρ p with
  | ok a p1 =>
    rw [e] at h
    exact fun S1 H1 v e1 R1 q => hQ a p1 S1 H1 v e e1 R1 q (h.mono e1)
  | exc c fs p1 => rw [e] at h; exact h
  | stuck => rw [e] at h; exact h
/-- an object just laid that does not stand still yet -/
theorem Good.newOwn {S H : Hp} {p : Pen} {q : Addr} {o : HO} (g : Good D S H p) (hq : H q = none) (ho : ∀ ps, o ≠ .tbl ps) (he : ∀ φ, o ≠ .ext φ) : Good D S (upd H q o) p ∧ Ext D S H S (upd H q o) ∧ S q = none ∧ q ≠ D.π := by
  have ne : ∀ a u, H a = some u → a ≠ q := fun a u h => ne_of_none h hq
  have hp : D.π ≠ q := ne _ _ g.pen.1
  refine ⟨⟨fun a u h => by rw [upd_ne (ne a u (g.sub _ _ h))]; exact g.sub a u h, g.npen, g.ntbl, ⟨by rw [upd_ne hp]; exact g.pen.1, g.pen.2⟩, g.tabs.newOwn hq ho he⟩, ⟨fun _ _ h => h, fun a u h _ _ => by rw [upd_ne (ne a u h)]; exact h, fun a h => ?_, fun a h => .inl h⟩, ?_, Ne.symm hp⟩
  · by_cases e : a = q
    · rw [e, upd_same]
      exact fun z => nomatch z
    · rw [upd_ne e]
      exact h
  · cases z : S q with
    | none => rfl
    | some u => rw [g.sub _ _ z] at hq; cases hq
theorem AftF.newL {K : PySem.W.Frag} {S0 H0 S H : Hp} {σ : L2.St} {ρ : Env'} {p : Pen} {xs : List A} {vs : List V} {Q : VK} {q : Addr} (R : Rel K D S0 H0 S H σ ρ own p) (r : Reps K D S xs vs) (h : AftF K D xk S0 H0 S H σ ρ own (.ok (.lst xs) p) Q) (hq : H q = none) :
    Q (.ref q) (upd H q (.lst vs)) := by
  obtain ⟨g, e, n, np⟩ := R.good.newOwn (o := .lst vs) hq (fun _ z => by cases z) (fun _ z => by cases z)
  exact h _ _ q e (R.step e g) n hq np ⟨vs, upd_same, r⟩
theorem mf_lst {es : List Expr} {ms : Env' → M (List A)} {pos : Pos} (h : MA X D own xk es ms) : MF X D own xk (.List es pos) (onA mkLst ms) := PE.of (pe_lst h) fun σ H Q q => by
  obtain ⟨S0, H0, S, ρ, p, R, q⟩ := q
  refine AftF.bind R q fun as p1 S1 H1 xs _ e1 R1 r1 q1 => ?_
  simp only [mkLst] at q1
  split at q1
  · rename_i c
    exact ⟨by rw [← r1.length]; exact c, fun l hl => AftF.newL R1 r1 q1 hl⟩
  · exact q1.elim
theorem mf_list {x : Str} {pp pos : Pos} {e : Expr} {ms : Env' → M (List A)} (hg : Gl X x) (hm : X.mg x = none) (hv : bootBuiltins x = some (.type "list")) (ha : MA X D own xk [e] ms) (hn : x ≠ "__name__" := by decide) (hdb : (x == ("__debug__" : Str)) = false := by decide)
    (he : starEach [e] X.env = (false, eval e X.env) :: starEach [] X.env := by rfl) (hpl : (backTo pos (starEach [] X.env)).any (·.1) = false := by rfl) : MF X D own xk (.Call (.Name x pp) [e] [] pos) (onA lstA ms) :=
  PE.of (pe_callTy call_list_of hg hm hv ha hn hdb he hpl) fun σ H Q q => by
    obtain ⟨S0, H0, S, ρ, p, R, q⟩ := q
    refine AftF.bind R q fun as p1 S1 H1 vs _ e1 R1 r h => ?_
    unfold lstA at h
    split at h
    · obtain ⟨v, ev, r1⟩ := Reps.one r
      subst ev
      obtain ⟨a, ws, rfl, s, r⟩ := Rep.tup_iff.mp r1
      exact ⟨a, ws, rfl, .inr (SqT.up R1.good s), fun l hl => AftF.newL R1 r h hl⟩
    · obtain ⟨v, ev, r1⟩ := Reps.one r
      subst ev
      obtain ⟨a, ws, rfl, s, r⟩ := Rep.lst_iff.mp r1
      exact ⟨a, ws, rfl, .inl (SqL.of (R1.good.sub _ _ s)), fun l hl => AftF.newL R1 r h hl⟩
    · exact h.elim
def repA : A → A → M A
  | .lst xs, .int k => if -(2 ^ 63) ≤ k ∧ k < 2 ^ 63 ∧ xs.length * k.toNat ≤ sizeLine then ret (.lst (List.replicate k.toNat xs).flatten) else no
  | _, _ => no
theorem mf_mul {a b : Expr} {ma mb : ME'} {pos : Pos} (ha : ME X D own xk a ma) (hb : ME X D own xk b mb) : MF X D own xk (.BinOp a .Mult b pos) (op2 repA ma mb) := PE.of (pe_op op_rep ha hb) fun σ H Q q => by
  obtain ⟨S0, H0, S, ρ, p, R, q⟩ := q
  refine AftF.bind R q fun a p1 S1 H1 x _ e1 R1 ra q1 => ?_
  refine AftF.bind R1 q1 fun b p2 S2 H2 y _ e2 R2 rb h => ?_
  have ra := Rep.mono e2.sub _ _ ra
  cases a <;> cases b <;> first | exact h.elim | skip
  obtain ⟨a1, vs, rfl, s1, r1⟩ := Rep.lst_iff.mp ra
  rw [Rep.int_iff] at rb
  subst rb
  simp only [repA] at h
  split at h
  · rename_i c
    exact ⟨a1, _, vs, rfl, rfl, R2.good.sub _ _ s1, c.1, c.2.1, by rw [← r1.length]; exact c.2.2, fun q hq => AftF.newL R2 (r1.rep _) h hq⟩
  · exact h.elim
/-! ### comprehensions -/
/-- nothing is raised -/
def nox {α : Type} (m : M α) : M α := fun p => match m p with
  | .ok a p' => .ok a p'
  | _ => .stuck
def wipeA (ρ : Env') : List Nat → Env'
  | [] => ρ
  | v :: vs => (wipeA ρ vs).set v none
def lcF (t : Tg) (c : Env' → M Bool) (e : ME') (ρ : Env') (x : A) : M (Option A) := match t x ρ with
  | none => no
  | some ρ1 => bd (c ρ1) fun b => if b then bd (e ρ1) fun y => ret (some y) else ret none
def lcL (f : A → M (Option A)) : List A → M (List A)
  | [] => ret []
  | x :: xs => bd (f x) fun o => bd (lcL f xs) fun ys => ret (o.toList ++ ys)
def lcM (it : Env' → M (List A)) (t : Tg) (c : Env' → M Bool) (e : ME') (vs : List Nat) : ME' := fun ρ => bd (it ρ) fun xs => bd (nox (lcL (lcF t c e (wipeA ρ vs)) xs)) mkLst
theorem wipe_len (σ : L2.St) : ∀ vs : List Nat, (wipe σ vs).length = σ.length := wipe_length σ
theorem wipe_get (σ : L2.St) (j : Nat) : ∀ vs : List Nat, (wipe σ vs)[j]? = if j ∈ vs then (if j < σ.length then some none else none) else σ[j]?
  | [] => by simp [wipe]
  | v :: vs => by
    unfold wipe
    have ih := wipe_get σ j vs
    by_cases e : v = j
    · subst e
      by_cases hl : v < σ.length
      · rw [List.getElem?_set_self (by rw [wipe_len]; exact hl)]
        simp [hl]
      · rw [List.getElem?_eq_none (by rw [List.length_set, wipe_len]; omega)]
        simp [hl]
    · rw [List.getElem?_set_ne e, ih]
      have : j ≠ v := fun z => e z.symm
      simp [this]
theorem wipeA_length (ρ : Env') : ∀ vs : List Nat, (wipeA ρ vs).length = ρ.length
  | [] => rfl
  | v :: vs => by unfold wipeA; rw [List.length_set, wipeA_length ρ vs]
theorem wipeA_some {ρ : Env'} {j : Nat} {a : A} : ∀ {vs : List Nat}, (wipeA ρ vs)[j]? = some (some a) → ρ[j]? = some (some a) ∧ j ∉ vs
  | [], h => ⟨h, by simp⟩
  | v :: vs, h => by
    unfold wipeA at h
    by_cases e : v = j
    · subst e
      by_cases hl : v < (wipeA ρ vs).length
      · rw [List.getElem?_set_self hl] at h; cases h
      · rw [List.getElem?_eq_none (by rw [List.length_set]; omega)] at h; cases h
    · rw [List.getElem?_set_ne e] at h
      obtain ⟨h1, h2⟩ := wipeA_some h
      exact ⟨h1, by simp only [List.mem_cons, not_or]; exact ⟨fun z => e z.symm, h2⟩⟩
theorem wipe_chg {σ σ2 : L2.St} {is vs : List Nat} (h : Chg is (wipe σ vs) σ2) (hi : ∀ j ∈ is, j ∈ vs) : wipe σ2 vs = wipe σ vs := by
  have hl : σ2.length = σ.length := by rw [h.len, wipe_len]
  apply List.ext_getElem?
  intro j
  rw [wipe_get, wipe_get, hl]
  by_cases hj : j ∈ vs
  · simp [hj]
  · simp only [hj, if_false]
    rw [h.at_ j fun z => hj (hi j z), wipe_get]
    simp [hj]
/-- the state within a comprehension -/
theorem Rel.wipe {K : PySem.W.Frag} {S0 H0 S H : Hp} {σ : L2.St} {ρ : Env'} {p : Pen} (R : Rel K D S0 H0 S H σ ρ own p) (vs : List Nat) : Rel K D S (fun _ => none) S H (L2.wipe σ vs) (wipeA ρ vs) own p where
  good := R.good
  ext := ⟨fun _ _ h => h, fun _ _ h => (by cases h), fun _ h => absurd rfl h, fun _ h => .inl h⟩
  slot := fun i a h1 h2 => by
    obtain ⟨h3, h4⟩ := wipeA_some h1
    obtain ⟨v, h5, h6⟩ := R.slot i a h3 h2
    exact ⟨v, by rw [wipe_get, if_neg h4]; exact h5, h6⟩
  ownd := fun i a h1 h2 => by
    obtain ⟨h3, h4⟩ := wipeA_some h1
    obtain ⟨q, h5, h6, _, h7, h8⟩ := R.ownd i a h3 h2
    exact ⟨q, by rw [wipe_get, if_neg h4]; exact h5, h6, rfl, h7, h8⟩
  dist := fun i j a b q h1 h2 h3 h4 h5 h6 => by
    obtain ⟨k1, k2⟩ := wipeA_some h1
    obtain ⟨l1, l2⟩ := wipeA_some h2
    rw [wipe_get, if_neg k2] at h5
    rw [wipe_get, if_neg l2] at h6
    exact R.dist i j a b q k1 l1 h3 h4 h5 h6
  len := by rw [wipeA_length, wipe_length]; exact R.len
theorem nox_ok {α : Type} {m : M α} {p p' : Pen} {a : α} (h : nox m p = .ok a p') : m p = .ok a p' := by
  unfold nox at h
  split at h
  · rename_i e
    rw [e]
    exact h
  · cases h
theorem bd_ok {α β : Type} {m : M α} {f : α → M β} {p p' : Pen} {b : β} (h : bd m f p = .ok b p') : ∃ a p1, m p = .ok a p1 ∧ f a p1 = .ok b p' := by
  unfold bd at h
  cases e : m p with
  | ok a p1 =>
    rw [e] at h
    exact ⟨a, p1, rfl, h⟩
  | exc c fs p1 => rw [e] at h; cases h
  | stuck => rw [e] at h; cases h
theorem nox_no {α : Type} {m : M α} {p : Pen} (h : ∀ a p', nox m p ≠ .ok a p') : nox m p = .stuck := by
  unfold nox at h ⊢
  cases e : m p with
  | ok a p' => exact absurd (by rw [e]) (h a p')
  | exc c fs p' => rfl
  | stuck => rfl
abbrev xk0 : XK := fun _ _ _ => False
/-- what the reading of a comprehension asks, where the new list is handed on by its address -/
theorem lc_read {is : List Nat} {it : Env' → M (List A)} {t : Tg} {c : Env' → M Bool} {e : ME'} {vs : List Nat} {σ : L2.St} {ρ : Env'} {S0 H0 S H : Hp} {p : Pen} {Q : VK} (hi : ∀ j ∈ is, j ∈ vs) (R : Rel X.K D S0 H0 S H σ ρ own p)
    (stk : lcM it t c e vs ρ p ≠ .stuck → True)
    (hx : ∀ k fs p', it ρ p = .exc k fs p' → ∀ S' H' C d ws, Ext D S0 H0 S' H' → Good D S' H' p' → H0 d = none → D.cls k = some C → H' d = some (.xd ((D.flds k).zip ws)) → (D.flds k).length = ws.length → Reps X.K D S' fs ws → xk (.ref C) (some d) H')
    (hn : lcM it t c e vs ρ p = .stuck → False)
    (fin : ∀ ys p2 S' H' q acc, lcM it t c e vs ρ p = .ok (.lst ys) p2 → Ext D S H S' H' → Rel X.K D S0 H0 S' H' σ ρ own p2 → S' q = none → H q = none → q ≠ D.π → H' q = some (.lst acc) → Reps X.K D S' ys acc → Q (.ref q) H') :
    tLc (tI X.K D own xk it) (gM X.K D own own is t) (tMb X.K D own xk0 c) (tM X.K D own xk0 e) vs σ H Q := by
  refine ⟨S0, H0, S, ρ, p, R, ?_⟩
  cases ei : it ρ p with
  | stuck => exact (hn (by unfold lcM bd; rw [ei]; rfl)).elim
  | exc k fs p' => exact hx k fs p' ei
  | ok xs p1 =>
    intro S1 H1 J e1 R1 w Dq hD
    have hD0 : H Dq = none := by
      cases z : H Dq with
      | none => rfl
      | some o => exact absurd hD (e1.there Dq (by rw [z]; exact fun z => nomatch z))
    have em : lcM it t c e vs ρ p = bd (nox (lcL (lcF t c e (wipeA ρ vs)) xs)) mkLst p1 := by unfold lcM; show (it ρ p).bind _ = _; rw [ei]; rfl
    cases el : nox (lcL (lcF t c e (wipeA ρ vs)) xs) p1 with
    | stuck => exact (hn (by rw [em]; unfold bd; rw [el]; rfl)).elim
    | exc k fs p' =>
      unfold nox at el
      split at el <;> cases el
    | ok ys p2 =>
      have em2 : lcM it t c e vs ρ p = mkLst ys p2 := by rw [em]; unfold bd; rw [el]; rfl
      by_cases hz : ys.length ≤ sizeLine
      · have em3 : lcM it t c e vs ρ p = .ok (.lst ys) p2 := by rw [em2]; unfold mkLst; rw [if_pos hz]; rfl
        obtain ⟨g1, e2, n1, np⟩ := R1.good.newOwn (o := .lst []) hD (fun _ z => by cases z) (fun _ z => by cases z)
        refine lc_it w (fun i H => ∃ S p acc as zs, Rel X.K D S1 (fun _ => none) S H (wipe σ vs) (wipeA ρ vs) own p ∧ Ext D S1 H1 S H ∧ H Dq = some (.lst acc) ∧ S Dq = none ∧ Reps X.K D S as acc ∧ lcL (lcF t c e (wipeA ρ vs)) (xs.drop i) p = .ok zs p2 ∧ as ++ zs = ys)
          ⟨S1, p1, [], [], ys, (R1.step e2 g1).wipe vs, e2, upd_same, n1, Reps.nil_iff.mpr rfl, nox_ok el, rfl⟩
          (fun i H _ ⟨S, p, acc, as, zs, Rw, ex, _⟩ a o h => Rw.good.sub _ _ (ex.sub _ _ h)) ?_ ?_
        · rintro i x H3 H4 hi3 ⟨S3, p3, acc, as, zs, Rw, ex, hq, hs, hr, hl, hy⟩ y
          have hx3 : xs.drop i = xs[i] :: xs.drop (i + 1) := List.drop_eq_getElem_cons hi3
          rw [hx3] at hl
          unfold lcL at hl
          obtain ⟨o, p4, h1, h2⟩ := bd_ok hl
          obtain ⟨zs', p5, h3, h4⟩ := bd_ok h2
          obtain ⟨hz4, h5⟩ := Res.ok.inj h4
          subst h5
          have turn : ∀ (S4 : Hp) (a : A), xs[i]? = some a → Rel X.K D S1 (fun _ => none) S4 H4 (wipe σ vs) (wipeA ρ vs) own p3 → Ext D S1 H1 S4 H4 → H4 Dq = some (.lst acc) → S4 Dq = none → Reps X.K D S4 as acc → Rep X.K D S4 a x →
              gM X.K D own own is t x (wipe σ vs) H4 fun σ2 H2 => wipe σ2 vs = wipe σ vs ∧ tMb X.K D own xk0 c σ2 H2 fun b H3 => if b = true then tM X.K D own xk0 e σ2 H3 fun y H4 => ∃ acc, H4 Dq = some (.lst acc) ∧ acc.length < sizeLine ∧
                (∃ S p acc' as zs, Rel X.K D S1 (fun _ => none) S (upd H4 Dq (.lst (acc ++ [y]))) (wipe σ vs) (wipeA ρ vs) own p ∧ Ext D S1 H1 S (upd H4 Dq (.lst (acc ++ [y]))) ∧ upd H4 Dq (.lst (acc ++ [y])) Dq = some (.lst acc') ∧ S Dq = none ∧ Reps X.K D S as acc' ∧ lcL (lcF t c e (wipeA ρ vs)) (xs.drop (i + 1)) p = .ok zs p5 ∧ as ++ zs = ys)
                else ∃ S p acc as zs, Rel X.K D S1 (fun _ => none) S H3 (wipe σ vs) (wipeA ρ vs) own p ∧ Ext D S1 H1 S H3 ∧ H3 Dq = some (.lst acc) ∧ S Dq = none ∧ Reps X.K D S as acc ∧ lcL (lcF t c e (wipeA ρ vs)) (xs.drop (i + 1)) p = .ok zs p5 ∧ as ++ zs = ys := by
            intro S4 a ha R4 ex4 hq4 hs4 hr4 ra
            have ea : xs[i] = a := by
              rw [List.getElem?_eq_getElem hi3] at ha
              exact Option.some.inj ha
            rw [ea] at h1
            unfold lcF at h1
            cases z : t a (wipeA ρ vs) with
            | none => simp only [z] at h1; cases h1
            | some ρ1 =>
              simp only [z] at h1
              refine ⟨S1, fun _ => none, S4, wipeA ρ vs, p3, a, R4, ra, ρ1, z, fun σ2 R5 ch => ⟨wipe_chg ch hi, ?_⟩⟩
              obtain ⟨b, p6, h6, h7⟩ := bd_ok h1
              refine ⟨S1, fun _ => none, S4, ρ1, p3, R5, ?_⟩
              rw [h6]
              intro S6 H6 b' e6 R6 eb
              have eb : b' = b := eb
              subst eb
              have keepQ : ∀ {S H : Hp} {p : Pen} {σ : L2.St} {ρ : Env'} {S' H' : Hp}, Rel X.K D S1 (fun _ => none) S H σ ρ own p → Ext D S H S' H' → H Dq = some (.lst acc) → S Dq = none → H' Dq = some (.lst acc) ∧ S' Dq = none := fun {S H p σ ρ S' H'} R e h1 h2 => ⟨e.keep _ _ h1 np (fun ps z => (by cases z)), by
                cases z : S' Dq with
                | none => rfl
                | some u =>
                  rcases e.dom Dq (by rw [z]; exact fun z => (by cases z)) with y | y
                  · exact absurd h2 y
                  · rw [h1] at y; cases y⟩
              -- back to the wiped names
              have back : ∀ {S H : Hp} {p : Pen}, Rel X.K D S1 (fun _ => none) S H σ2 ρ1 own p → Ext D S4 H4 S H → Rel X.K D S1 (fun _ => none) S H (wipe σ vs) (wipeA ρ vs) own p := fun {S H p} R e => R4.step e R.good
              obtain ⟨hq6, hs6⟩ := keepQ R5 e6 hq4 hs4
              cases b' with
              | false =>
                rw [if_neg Bool.false_ne_true] at h7 ⊢
                have h7 := Res.ok.inj h7
                obtain ⟨h7, h8⟩ := h7
                subst h7 h8
                exact ⟨S6, p6, acc, as, zs', back R6 e6, ex4.trans e6, hq6, hs6, Reps.mono e6.sub _ _ hr4, h3, (congrArg (as ++ ·) (show zs' = zs from hz4)).trans hy⟩
              | true =>
                rw [if_pos rfl] at h7 ⊢
                obtain ⟨y', p7, h8, h9⟩ := bd_ok h7
                have h9 := Res.ok.inj h9
                obtain ⟨h9, h10⟩ := h9
                subst h9 h10
                refine ⟨S1, fun _ => none, S6, ρ1, p6, R6, ?_⟩
                rw [h8]
                intro S7 H7 v e7 R7 rv
                obtain ⟨hq7, hs7⟩ := keepQ R6 e7 hq6 hs6
                have hr7 := Reps.mono e7.sub _ _ (Reps.mono e6.sub _ _ hr4)
                have eL : as ++ (y' :: zs') = ys := (congrArg (as ++ ·) (show y' :: zs' = zs from hz4)).trans hy
                have nD : ∀ a u, S7 a = some u → a ≠ Dq := fun a u h z => by rw [z, hs7] at h; cases h
                have Rb := back R7 (e6.trans e7)
                have up : Rel X.K D S1 (fun _ => none) S7 (upd H7 Dq (.lst (acc ++ [v]))) (wipe σ vs) (wipeA ρ vs) own p7 := by
                  have other : ∀ b, b ≠ Dq → upd H7 Dq (.lst (acc ++ [v])) b = H7 b := fun b hb => upd_ne hb
                  refine ⟨⟨fun a u h => by rw [other a (nD a u h)]; exact Rb.good.sub a u h, Rb.good.npen, Rb.good.ntbl, ⟨by rw [other _ (Ne.symm np)]; exact Rb.good.pen.1, Rb.good.pen.2⟩, ?_⟩, ⟨Rb.ext.sub, fun _ _ h => (by cases h), fun _ h => absurd rfl h, Rb.ext.dom⟩, Rb.slot, fun j b hj hn => ?_, Rb.dist, Rb.len⟩
                  · exact Rb.good.tabs.write hq7 (fun ps z => (by cases z)) (fun φ z => (by cases z)) (fun ps z => (by cases z)) (fun φ z => (by cases z))
                  · obtain ⟨q', g1, g2, g3, g4, g5⟩ := Rb.ownd j b hj hn
                    have nq : q' ≠ Dq := fun z => by
                      obtain ⟨q2, k1, _, _, _, k5⟩ := (R1.wipe vs).ownd j b hj hn
                      rw [g1] at k1
                      have k1 := Option.some.inj (Option.some.inj k1)
                      have k1 : q' = q2 := V.ref.inj k1
                      obtain ⟨o, k6, _⟩ := k5.there
                      rw [← k1, z, hD] at k6
                      cases k6
                    exact ⟨q', g1, g2, g3, g4, g5.mono (fun _ _ z => z) fun o z => by rw [other _ nq]; exact z⟩
                refine ⟨acc, hq7, ?_, S7, p7, acc ++ [v], as ++ [y'], zs', up, ?_, upd_same, hs7, hr7.append (Reps.cons_iff.mpr ⟨v, [], rfl, rv, Reps.nil_iff.mpr rfl⟩), h3, by rw [← eL]; simp⟩
                · have h := congrArg List.length eL
                  rw [List.length_append, List.length_cons] at h
                  rw [← hr7.length]
                  omega
                · have ex7 := (ex4.trans e6).trans e7
                  exact ⟨ex7.sub, fun a o h n tb => by rw [upd_ne (ne_of_none h hD)]; exact ex7.keep a o h n tb, fun a h => by rw [upd_ne (fun z => h (by rw [z]; exact hD))]; exact ex7.there a h, ex7.dom⟩
          rcases y with ⟨rfl, a, ha, r⟩ | ⟨q', x1, y1, a, b, rfl, hq', rfl, hab, ra, rb⟩
          · exact turn S3 a ha Rw ex hq hs hr (Rep.mono ex.sub _ _ r)
          · obtain ⟨R2, e2'⟩ := Rw.new (o := .tup [x1, y1]) hq' fun _ z => by cases z
            have nq : Dq ≠ q' := ne_of_none hq hq'
            refine turn _ (.tup [a, b]) hab R2 (ex.trans e2') (by rw [upd_ne nq]; exact hq) (by rw [upd_ne nq]; exact hs) (Reps.mono e2'.sub _ _ hr) (Rep.tup_iff.mpr ⟨q', [x1, y1], rfl, .inl (.inl upd_same), Reps.cons_iff.mpr ⟨x1, [y1], rfl, Rep.mono (fun a o h => e2'.sub _ _ (ex.sub _ _ h)) _ _ ra, Reps.cons_iff.mpr ⟨y1, [], rfl, Rep.mono (fun a o h => e2'.sub _ _ (ex.sub _ _ h)) _ _ rb, Reps.nil_iff.mpr rfl⟩⟩⟩)
        · rintro H3 ⟨S3, p3, acc, as, zs, Rw, ex, hq, hs, hr, hl, hy⟩
          rw [List.drop_length] at hl
          have hl := Res.ok.inj hl
          obtain ⟨hl1, hl2⟩ := hl
          subst hl1 hl2
          rw [List.append_nil] at hy
          subst hy
          exact fin as p3 S3 H3 Dq acc em3 (e1.trans ex) (R1.step ex Rw.good) hs hD0 np hq hr
      · exact (hn (by rw [em2]; unfold mkLst; rw [if_neg hz])).elim
theorem lc_res {it : Env' → M (List A)} {t : Tg} {c : Env' → M Bool} {e : ME'} {vs : List Nat} {ρ : Env'} {p p2 : Pen} {a : A} (h : lcM it t c e vs ρ p = .ok a p2) : ∃ ys, a = .lst ys := by
  unfold lcM at h
  obtain ⟨xs, p1, _, h2⟩ := bd_ok h
  obtain ⟨ys, p3, _, h4⟩ := bd_ok h2
  unfold mkLst at h4
  split at h4
  · exact ⟨ys, (Res.ok.inj h4).1.symm⟩
  · cases h4
theorem lc_exc {it : Env' → M (List A)} {t : Tg} {c : Env' → M Bool} {e : ME'} {vs : List Nat} {ρ : Env'} {p p2 : Pen} {k : Nat} {fs : List A} (h : it ρ p = .exc k fs p2) : lcM it t c e vs ρ p = .exc k fs p2 := by
  unfold lcM bd
  rw [h]
  rfl
/-- a clause's tests -/
abbrev MTs (X : Cx) (D : Dcl) (own : List Nat) (xk : XK) (ifs : List Expr) (t : Env' → M Bool) : Prop := PTs X ifs (tMb X.K D own xk t)
def yesM : Env' → M Bool := fun _ => ret true
theorem mts_nil : MTs X D own xk [] yesM := ⟨fun pins s σ H Q I h => pts_nil.run pins s σ H Q I (by
  obtain ⟨S0, H0, S, ρ, p, R, q⟩ := h
  exact Aft.ok q R rfl)⟩
theorem mts_one {c : Expr} {t : Env' → M Bool} (h : MT X D own xk c t) : MTs X D own xk [c] t := pts_one h
section
variable {is : List Nat} {elt tg iter : Expr} {ifs : List Expr} {scope : Scope} {ow : List (Str × Nat)} {pos : Pos} {it : Env' → M (List A)} {t : Tg} {c : Env' → M Bool} {e : ME'}
theorem lc_tM (hi : ∀ j ∈ is, j ∈ ow.map (·.2)) {σ : L2.St} {H : Hp} {Q : VK} (q : tM X.K D own xk (lcM it t c e (ow.map (·.2))) σ H Q) :
    tLc (tI X.K D own xk it) (gM X.K D own own is t) (tMb X.K D own xk0 c) (tM X.K D own xk0 e) (ow.map (·.2)) σ H Q := by
  obtain ⟨S0, H0, S, ρ, p, R, q⟩ := q
  refine lc_read hi R (fun _ => True.intro) (fun k fs p' h => ?_) (fun h => ?_) fun ys p2 S' H' a acc em ex R' n1 n2 np ha hr => ?_
  · rw [lc_exc h] at q
    exact q
  · rw [h] at q
    exact q
  · rw [em] at q
    -- the new list stands still from here on
    have nm : ∀ b u, S' b = some u → b ≠ a := fun b u h z => by rw [z, n1] at h; cases h
    have sub : ∀ b u, S' b = some u → upd S' a (.lst acc) b = some u := fun b u h => by rw [upd_ne (nm b u h)]; exact h
    have e2 : Ext D S H (upd S' a (.lst acc)) H' := ⟨fun b u h => sub b u (ex.sub b u h), ex.keep, ex.there, fun b h => by
      by_cases z : b = a
      · exact .inr (by rw [z]; exact n2)
      · rw [upd_ne z] at h
        exact ex.dom b h⟩
    have g2 : Good D (upd S' a (.lst acc)) H' p2 := ⟨fun b u h => by
      by_cases z : b = a
      · rw [z] at h ⊢
        rw [upd_same] at h
        rw [ha]; exact h
      · rw [upd_ne z] at h
        exact R'.good.sub b u h, by rw [upd_ne (Ne.symm np)]; exact R'.good.npen, fun b ps h => by
      by_cases z : b = a
      · rw [z, upd_same] at h
        cases h
      · rw [upd_ne z] at h
        exact R'.good.ntbl b ps h, ⟨R'.good.pen.1, sub _ _ R'.good.pen.2⟩, R'.good.tabs.grow sub⟩
    exact q _ _ _ e2 (R.step e2 g2) (Rep.lst_iff.mpr ⟨a, acc, rfl, upd_same, Reps.mono sub _ _ hr⟩)
theorem lc_tF (hi : ∀ j ∈ is, j ∈ ow.map (·.2)) {σ : L2.St} {H : Hp} {Q : VK} (q : tF X.K D own xk (lcM it t c e (ow.map (·.2))) σ H Q) :
    tLc (tI X.K D own xk it) (gM X.K D own own is t) (tMb X.K D own xk0 c) (tM X.K D own xk0 e) (ow.map (·.2)) σ H Q := by
  obtain ⟨S0, H0, S, ρ, p, R, q⟩ := q
  refine lc_read hi R (fun _ => True.intro) (fun k fs p' h => ?_) (fun h => ?_) fun ys p2 S' H' a acc em ex R' n1 n2 np ha hr => ?_
  · rw [lc_exc h] at q
    exact q
  · rw [h] at q
    exact q
  · rw [em] at q
    exact q S' H' a ex R' n1 n2 np ⟨acc, ha, hr⟩
variable (hi : ∀ j ∈ is, j ∈ ow.map (·.2)) (hc : X.calm = true) (hN : X.N.Nodup) (hit : MI X D own xk tg iter it) (ok : BlkOk X.N X.env.scope scope ow)
    (hg : ∀ (s : Shared) (H : Hp) (C : Addr) (cl : List (Str × Addr)) (fp : List Addr), MG (X.blk s H scope (compEnvC scope cl C X.env) fp) D own own is tg t)
    (ht : ∀ (s : Shared) (H : Hp) (C : Addr) (cl : List (Str × Addr)) (fp : List Addr), MTs (X.blk s H scope (compEnvC scope cl C X.env) fp) D own xk0 ifs c)
    (he : ∀ (s : Shared) (H : Hp) (C : Addr) (cl : List (Str × Addr)) (fp : List Addr), ME (X.blk s H scope (compEnvC scope cl C X.env) fp) D own xk0 elt e)
    (hs : ∀ x, foldedSetIterable iter X.env x = pure x)
include hi hc hN hit ok hg ht he hs
theorem me_lc : ME X D own xk (.ListComp elt [⟨tg, iter, ifs, 0⟩] scope pos) (lcM it t c e (ow.map (·.2))) := PE.of (pe_lc hc hN hit ok hg ht he hs) fun σ H Q q => lc_tM hi q
theorem mf_lc : MF X D own xk (.ListComp elt [⟨tg, iter, ifs, 0⟩] scope pos) (lcM it t c e (ow.map (·.2))) := PE.of (pe_lc hc hN hit ok hg ht he hs) fun σ H Q q => lc_tF hi q
theorem ms_setLc {i : Nat} {y : Str} {py spos : Pos} (hy : X.N[i]? = some y) (hyl : X.env.scope.names.lookup y = some .local) (hsw : swapsWith (.ListComp elt [⟨tg, iter, ifs, 0⟩] scope pos) (some (.Name y py)) spos.line X.env = pure true) :
    MS X D own (own.filter (· != i)) ownB xk (.Assign [.Name y py] (.ListComp elt [⟨tg, iter, ifs, 0⟩] scope pos) spos) (setM i (lcM it t c e (ow.map (·.2)))) :=
  PS.of (ps_setLc hc hN hy hyl hsw hit ok hg ht he hs) fun N σ H q => by
    obtain ⟨S0, H0, S, ρ, p, R, q⟩ := q
    exact lc_tM hi (AftS.bind R q fun a p1 S1 H1 v _ e1 R1 r1 q1 => q1 S1 H1 _ (R1.set i r1))
end
end
end Mir

/-! Mir9: what is one's own for a while; defs and calls. -/
namespace Mir
open PySem PySem.Spec PyProof.Rows L2
section
variable {X : Cx} {D : Dcl} {own own' own2 ownB : List Nat} {xk : XK}
/-! ### reading what is one's own -/
def primA : A → M A
  | .non => ret .non
  | .bl b => ret (.bl b)
  | .int i => ret (.int i)
  | .str s => ret (.str s)
  | _ => no
theorem drops_sub : ∀ (is : List Nat) {own : List Nat} {j : Nat}, j ∈ drops own is → j ∈ own
  | [], _, _, h => h
  | i :: is, own, j, h => (List.mem_filter.mp (drops_sub is h)).1
/-- from the frozen state back -/
theorem Rel.back {K : PySem.W.Frag} {S0 H0 S H Sf S1 H1 : Hp} {σ : L2.St} {ρ : Env'} {p p1 : Pen} (R : Rel K D S0 H0 S H σ ρ own p) (sub : ∀ b o, S b = some o → Sf b = some o) (sh : ∀ b o, Sf b = some o → H b = some o) (e : Ext D Sf H S1 H1) (g : Good D S1 H1 p1) :
    ∃ S', Ext D S H S' H1 ∧ Rel K D S0 H0 S' H1 σ ρ own p1 := by
  classical
  let S' : Hp := fun b => if Sf b ≠ none ∧ S b = none then none else S1 b
  have ss : ∀ b o, S b = some o → S' b = some o := fun b o h => by
    show (if Sf b ≠ none ∧ S b = none then none else S1 b) = some o
    rw [if_neg (fun z => by rw [h] at z; exact absurd z.2 (by simp))]
    exact e.sub b o (sub b o h)
  have sl : ∀ b o, S' b = some o → S1 b = some o := fun b o h => by
    have h : (if Sf b ≠ none ∧ S b = none then none else S1 b) = some o := h
    split at h
    · cases h
    · exact h
  have ex : Ext D S H S' H1 := ⟨ss, e.keep, e.there, fun b h => by
    by_cases z : S b = none
    · right
      by_cases y : Sf b = none
      · have h1 : S1 b ≠ none := fun q => h (by
          show (if Sf b ≠ none ∧ S b = none then none else S1 b) = none
          split <;> first | rfl | exact q)
        rcases e.dom b h1 with q | q
        · exact absurd y q
        · exact q
      · exact absurd (show (if Sf b ≠ none ∧ S b = none then none else S1 b) = none from if_pos ⟨y, z⟩) h
    · exact .inl z⟩
  refine ⟨S', ex, R.step ex ⟨fun b o h => g.sub b o (sl b o h), ?_, fun b ps h => g.ntbl b ps (sl b _ h), ⟨g.pen.1, ?_⟩, ⟨g.tabs.tabs, fun c φ h => ?_, g.tabs.tbls, fun Sx e a o z => ss a o (R.good.tabs.xc Sx e a o z)⟩⟩⟩
  · cases z : S' D.π with
    | none => rfl
    | some o => have := sl _ _ z; rw [g.npen] at this; cases this
  · have h1 := ss _ _ R.good.pen.2
    have h2 := sl _ _ h1
    rw [g.pen.2] at h2
    rw [h1, ← h2]
  · have h1 := g.tabs.exts c φ h
    show (if Sf c ≠ none ∧ S c = none then none else S1 c) = some (.ext φ)
    rw [if_neg (fun z => ?_)]
    · exact h1
    · cases y : Sf c with
      | none => exact z.1 y
      | some o =>
        have h2 := e.sub c o y
        rw [h1] at h2
        have h3 := sh c o y
        rw [← Option.some.inj h2] at h3
        have h4 := R.good.tabs.exts c φ h3
        rw [z.2] at h4
        cases h4
theorem Rel.freezes' {K : PySem.W.Frag} {S0 H0 H : Hp} {σ : L2.St} {ρ : Env'} {p : Pen} : ∀ (is : List Nat) {own : List Nat} {S : Hp}, Rel K D S0 H0 S H σ ρ own p → ∃ S', Rel K D S0 H0 S' H σ ρ (drops own is) p ∧ ∀ b o, S b = some o → S' b = some o
  | [], _, S, R => ⟨S, R, fun _ _ h => h⟩
  | i :: is, _, _, R => by
    obtain ⟨S', R', s1⟩ := R.freezeS i
    obtain ⟨S'', R'', s2⟩ := Rel.freezes' is R'
    exact ⟨S'', R'', fun b o h => s2 b o (s1 b o h)⟩
def borM (m : ME') : ME' := fun ρ => bd (m ρ) primA
theorem primA_rep {a b : A} {p p' : Pen} (h : primA a p = .ok b p') : b = a ∧ p' = p ∧ ∀ (K : PySem.W.Frag) (S S' : Hp) (v : V), Rep K D S a v → Rep K D S' a v := by
  cases a <;> first | (cases h; done) | skip
  all_goals
    cases h
    refine ⟨rfl, rfl, fun K S S' v r => ?_⟩
    simp only [Rep] at r ⊢
    exact r
theorem me_own (is : List Nat) {e : Expr} {m : ME'} (h : ME X D (drops own is) xk e m) : ME X D own xk e (borM m) := PE.of h fun σ H Q q => by
  obtain ⟨S0, H0, S, ρ, p, R, q⟩ := q
  obtain ⟨Sf, Rf, sub⟩ := R.freezes' is
  refine ⟨S0, H0, Sf, ρ, p, Rf, ?_⟩
  unfold borM bd at q
  cases em : m ρ p with
  | ok a p1 =>
    rw [em] at q
    have q2 : Aft X.K D (Rep X.K D) xk S0 H0 S H σ ρ own (primA a p1) Q := q
    clear q
    intro S1 H1 v e1 R1 r1
    cases ep : primA a p1 with
    | ok b p2 =>
      rw [ep] at q2
      obtain ⟨eb, ep2, rr⟩ := primA_rep (D := D) ep
      obtain ⟨S', ex, R'⟩ := Rel.back R sub Rf.good.sub e1 R1.good
      subst eb ep2
      exact q2 S' H1 v ex R' (rr _ _ _ _ r1)
    | exc c fs p2 => cases a <;> cases ep
    | stuck => rw [ep] at q2; exact q2.elim
  | exc c fs p1 => rw [em] at q; exact q
  | stuck => rw [em] at q; exact q
theorem mt_own (is : List Nat) {e : Expr} {m : Env' → M Bool} (h : MT X D (drops own is) xk e m) : MT X D own xk e m := PT.of h fun σ H Q q => by
  obtain ⟨S0, H0, S, ρ, p, R, q⟩ := q
  obtain ⟨Sf, Rf, sub⟩ := R.freezes' is
  refine ⟨S0, H0, Sf, ρ, p, Rf, ?_⟩
  cases em : m ρ p with
  | ok a p1 =>
    rw [em] at q
    intro S1 H1 v e1 R1 r1
    obtain ⟨S', ex, R'⟩ := Rel.back R sub Rf.good.sub e1 R1.good
    exact q S' H1 v ex R' r1
  | exc c fs p1 => rw [em] at q; exact q
  | stuck => rw [em] at q; exact q
/-! ### a def's promise -/
def spM (K : PySem.W.Frag) (D : Dcl) (n : Nat) (m : List A → M A) : Sp := fun vs H Q E => ∃ S as p, as.length = n ∧ Good D S H p ∧ Reps K D S as vs ∧ match m as p with
  | .ok a p' => ∀ S' H' v, Ext D S H S' H' → Good D S' H' p' → Rep K D S' a v → Q v H'
  | .exc c fs p' => ∀ S' H' C d ws, Ext D S H S' H' → Good D S' H' p' → H d = none → D.cls c = some C → H' d = some (.xd ((D.flds c).zip ws)) → (D.flds c).length = ws.length → Reps K D S' fs ws → E (.ref C) (some d) H'
  | .stuck => False
/-- a def of the module as it is called -/
structure Def (P : Program) (w : World) (K : PySem.W.Frag) (mg : Str → Option Value) (base : Heap) (D : Dcl) (k : Nat) (x : Str) (n : Nat) (m : List A → M A) : Prop where
  ex : ∃ (f : Addr) (fd : FuncData) (ps : List Str), mg x = some (.ref f) ∧ PySem.W.keepIn K (.ref f) = true ∧ L2.Binds K fd ps [] ∧ ps.length = n ∧ FnOk P w K mg base (L2.CX P w) k f fd ps (spM K D n m)
theorem call_read {n : Nat} {m : List A → M A} {S0 H0 S H : Hp} {σ : L2.St} {ρ : Env'} {p : Pen} {as : List A} {vs : List V} {Q : VK} (hl : as.length = n) (R : Rel X.K D S0 H0 S H σ ρ own p) (r : Reps X.K D S as vs) (q : Aft X.K D (Rep X.K D) xk S0 H0 S H σ ρ own (m as p) Q) :
    spM X.K D n m vs H Q xk := by
  refine ⟨S, as, p, hl, R.good, r, ?_⟩
  cases e : m as p with
  | ok a p1 =>
    rw [e] at q
    exact fun S' H' v ex g rr => q S' H' v ex (R.step ex g) rr
  | exc c fs p1 =>
    rw [e] at q
    exact fun S' H' C d ws ex g n => q S' H' C d ws (R.ext.trans ex) g (by
      cases z : H0 d with
      | none => rfl
      | some o => exact absurd n (R.ext.there d (by rw [z]; exact fun z => (by cases z))))
  | stuck => rw [e] at q; exact q
def callM (n : Nat) (m : List A → M A) (ms : Env' → M (List A)) : ME' := fun ρ => bd (ms ρ) fun as => if as.length = n then m as else no
theorem me_call {k j n : Nat} {x : Str} {m : List A → M A} {e : Expr} {es : List Expr} {ms : Env' → M (List A)} {p pos : Pos} (F : Def X.prog X.w X.K X.mg X.base D k x n m) (hr : Room j X.A) (hk : k ≤ j) (hx : Passes (L2.CX X.prog X.w) X xk) (hg : Gl X x) (ha : MA X D own xk (e :: es) ms)
    (hdb : (x == ("__debug__" : Str)) = false := by decide) (he : starEach (e :: es) X.env = (false, eval e X.env) :: starEach es X.env := by rfl) (hpl : (backTo pos (starEach es X.env)).any (·.1) = false := by rfl) : ME X D own xk (.Call (.Name x p) (e :: es) [] pos) (callM n m ms) := by
  obtain ⟨f, fd, ps, hm, hkp, hb, hl, F⟩ := F.ex
  refine PE.of (pe_call F (hr.mono hk) hg hm hkp hb .nil hx ha hdb he hpl) fun σ H Q q => ?_
  obtain ⟨S0, H0, S, ρ, p, R, q⟩ := q
  refine tG.bind R q fun as p1 S1 H1 vs _ e1 R1 r1 q1 => ?_
  rw [List.append_nil]
  split at q1
  · rename_i c
    exact call_read c R1 r1 q1
  · exact q1.elim
theorem me_call0 {k j : Nat} {x : Str} {m : List A → M A} {p pos : Pos} (F : Def X.prog X.w X.K X.mg X.base D k x 0 m) (hr : Room j X.A) (hk : k ≤ j) (hx : Passes (L2.CX X.prog X.w) X xk) (hg : Gl X x)
    (hdb : (x == ("__debug__" : Str)) = false := by decide) : ME X D own xk (.Call (.Name x p) [] [] pos) (callM 0 m nilM) := by
  obtain ⟨f, fd, ps, hm, hkp, hb, hl, F⟩ := F.ex
  refine PE.of (pe_call0 F (hr.mono hk) hg hm hkp hb .nil hx hdb) fun σ H Q q => ?_
  obtain ⟨S0, H0, S, ρ, p, R, q⟩ := q
  exact call_read (as := []) (vs := []) rfl R (Reps.nil_iff.mpr rfl) q
/-- a def by its body -/
def start' (N : Nat) (as : List A) : Env' := as.map some ++ List.replicate (N - as.length) none
def defM (N : Nat) (m : MS') : List A → M A := fun as => bd (m (start' N as)) fun f => match f with
  | .nx _ => ret .non
  | .rt a => ret a
  | _ => no
theorem start_get {K : PySem.W.Frag} {S : Hp} {N : List Str} {as : List A} {vs : List V} (r : Reps K D S as vs) {i : Nat} {a : A} (h : (start' N.length as)[i]? = some (some a)) : ∃ v, (L2.start N vs)[i]? = some (some v) ∧ Rep K D S a v := by
  unfold start' at h
  by_cases hi : i < as.length
  · rw [List.getElem?_append_left (by simpa using hi), List.getElem?_map] at h
    cases e : as[i]? with
    | none => rw [e] at h; cases h
    | some b =>
      rw [e] at h
      have h := Option.some.inj (Option.some.inj h)
      subst h
      obtain ⟨v, h1, h2⟩ := r.get e
      refine ⟨v, ?_, h2⟩
      unfold L2.start
      rw [List.getElem?_append_left (by rw [List.length_map, ← r.length]; exact hi), List.getElem?_map, h1]
      rfl
  · rw [List.getElem?_append_right (by rw [List.length_map]; omega), List.getElem?_replicate] at h
    split at h <;> cases h
theorem body_read {K : PySem.W.Frag} {N : List Str} {n : Nat} {m : MS'} {vs : List V} {H : Hp} {Q : VK} {E : XK} (hN : n ≤ N.length) (h : spM K D n (defM N.length m) vs H Q E) : tS K D [] own' [] E m { nx := fun _ H' => Q .non H', rt := Q } (L2.start N vs) H := by
  obtain ⟨S, as, p, hl, g, r, h⟩ := h
  refine ⟨S, H, S, start' N.length as, p, ⟨g, .refl, fun i a h1 _ => start_get r h1, fun i a h1 h2 => absurd h2 (by simp), fun i j a b q h1 h2 h3 => absurd h3 (by simp), ?_⟩, ?_⟩
  · unfold start' L2.start
    rw [List.length_append, List.length_append, List.length_map, List.length_map, List.length_replicate, List.length_replicate, r.length]
  · unfold defM bd at h
    cases e : m (start' N.length as) p with
    | ok f p1 =>
      rw [e] at h
      cases f with
      | nx ρ => exact fun S' H' σ R => h S' H' .non R.ext R.good (Rep.non_iff.mpr rfl)
      | rt a => exact h
      | bk ρ => exact h.elim
      | ct ρ => exact h.elim
    | exc c fs p1 => rw [e] at h; exact h
    | stuck => rw [e] at h; exact h
theorem mk_def {P : Program} {w : World} {K : PySem.W.Frag} {mg : Str → Option Value} {base : Heap} {x : Str} {st : Stmt} {f : Addr} {fd : FuncData} {N ps : List Str} {k n : Nat} {m : MS'} (F : L2.Fun K x x st f fd) (hm : mg x = some (.ref f)) (S : FnScope N ps (defScope st)) (hb : L2.Binds K fd ps []) (hn : ps.length = n) (hN : n ≤ N.length)
    (body : ∀ (cdv : Value) (A : Around) (outer : List Env) (s : Shared) (H : Hp) (E : XK), Room k (A.deeper (envOfC x (defScope st) s.heap.objs.size f cdv)) →
      MSs (cxOf (L2.CX P w) P w K mg base N x (defScope st) f cdv A outer s H E) D [] own' [] E (defBody st) m) : Def P w K mg base D (k + 1) x n (defM N.length m) := by
  refine ⟨f, fd, ps, hm, F.kp, hb, hn, F.okX S (fun vs H Q E h => ?_) fun cdv A outer s H vs Q E hr h => ?_⟩
  · obtain ⟨S, as, p, hl, _, r, _⟩ := h
    rw [hn, ← hl, r.length]
  · exact ⟨_, body cdv A outer s H E hr, body_read hN h⟩
end
end Mir

/-! Mir10: isinstance, attributes, slices, names of the module. -/
namespace Mir
open PySem PySem.Spec PyProof.Rows L2
/-- classes asked for -/
inductive Ty where
  | ty (n : String) | own (c : Nat)
inductive Kd where
  | b (n : String) | o (c : Nat)
def kindOf : A → Option Kd
  | .non => some (.b "NoneType")
  | .bl _ => some (.b "bool")
  | .int _ => some (.b "int")
  | .str _ => some (.b "str")
  | .tup _ => some (.b "tuple")
  | .lst _ => some (.b "list")
  | .dct _ _ => some (.b "dict")
  | .ins c _ => some (.o c)
  | _ => none
def isK : Kd → Ty → Bool
  | .b n, .ty m => n == m || (n == "bool" && m == "int")
  | .o c, .own d => c == d
  | _, _ => false
def isiA (ts : List Ty) (a : A) : M A := match kindOf a with
  | some k => ret (.bl (ts.any (isK k)))
  | none => no
def bKinds : List String := ["NoneType", "bool", "int", "str", "tuple", "list", "dict"]
def bTypes : List String := ["bool", "int", "str", "tuple", "list", "dict"]
/-- what is known of the own classes -/
structure ClsF (K : PySem.W.Frag) (D : Dcl) : Prop where
  cls : ∀ c C, 20 ≤ c → D.cls c = some C → Cls K C
  nat : ∀ c C f, 20 ≤ c → D.cls c = some C → f ∈ D.flds c → NoAttr K C f
  ha : ∀ c C, 20 ≤ c → D.cls c = some C → PySem.W.findIn K (.ref C) "__class__" = some (some (.builtin "object.__class__"))
  hm : ∀ c C, 20 ≤ c → D.cls c = some C → PySem.W.mroIn K C (.type "object") = some true
  hn : PySem.W.specialIn K (.builtin "object.__class__") "__get__" = some (some (.builtin "getset_descriptor.__get__"))
  htk : PySem.W.takesIn K (.builtin "object.__class__") = some true
  bo : ∀ c C, 20 ≤ c → D.cls c = some C → ∀ T ∈ bKinds, PySem.W.kitOne K (.type T) (.ref C) = some false
  ob : ∀ c C, 20 ≤ c → D.cls c = some C → ∀ T ∈ bTypes, PySem.W.kitOne K (.ref C) (.type T) = some false
  oo : ∀ c C d C', 20 ≤ c → 20 ≤ d → D.cls c = some C → D.cls d = some C' → PySem.W.kitOne K (.ref C) (.ref C') = some (c == d)
def kVal (D : Dcl) : Kd → Option Value
  | .b n => some (.type n)
  | .o c => (D.cls c).map .ref
def tVal (D : Dcl) : Ty → Option Value
  | .ty n => some (.type n)
  | .own c => (D.cls c).map .ref
def tOk : Ty → Bool
  | .ty n => bTypes.contains n
  | .own c => decide (20 ≤ c)
theorem kit_bb : (bKinds.all fun n => bTypes.all fun m => kitB n m == some (n == m || (n == "bool" && m == "int"))) = true := by decide +kernel
section
variable {X : Cx} {D : Dcl} {own own' own2 ownB : List Nat} {xk : XK}
theorem kind_b {a : A} {n : String} (h : kindOf a = some (.b n)) : n ∈ bKinds := by
  cases a <;> simp only [kindOf] at h <;> first | (cases h; decide) | cases h
theorem ins_big {K : PySem.W.Frag} {S : Hp} {c : Nat} {fs : List A} {v : V} (r : Rep K D S (.ins c fs) v) : ∃ C, D.cls c = some C := by
  simp only [Rep] at r
  obtain ⟨a, C, dx, vs, _, h, _⟩ := r
  exact ⟨C, h⟩
theorem kind_ty {S0 H0 S H : Hp} {σ : L2.St} {ρ : Env'} {p : Pen} {a : A} {v : V} {k : Kd} (F : ClsF X.K D) (R : Rel X.K D S0 H0 S H σ ρ own p) (r : Rep X.K D S a v) (h : kindOf a = some k) (hb : ∀ c, k = .o c → 20 ≤ c) : ∃ t, kVal D k = some t ∧ TyX X.K H v t := by
  cases a <;> simp only [kindOf] at h <;> first | (cases h; done) | skip
  all_goals cases h
  · rw [Rep.non_iff] at r; subst r; exact ⟨_, rfl, .base .non⟩
  · rw [Rep.bl_iff] at r; subst r; exact ⟨_, rfl, .base (.bl _)⟩
  · rw [Rep.int_iff] at r; subst r; exact ⟨_, rfl, .base (.int _)⟩
  · rw [Rep.str_iff] at r; subst r; exact ⟨_, rfl, .base (.str _)⟩
  · obtain ⟨a, vs, rfl, s, r⟩ := Rep.tup_iff.mp r
    rcases SqT.up R.good s with (s | ⟨o, s⟩) | ⟨o, its, n, s, c, _⟩
    · exact ⟨_, rfl, .base (.tup s)⟩
    · exact ⟨_, rfl, .fTuple s⟩
    · exact ⟨_, rfl, .kTuple s c⟩
  · obtain ⟨a, vs, rfl, s, r⟩ := Rep.lst_iff.mp r
    exact ⟨_, rfl, .base (.lst (R.good.sub _ _ s))⟩
  · rename_i c fs
    have hb := hb c rfl
    simp only [Rep] at r
    obtain ⟨a, C, dx, vs, rfl, h, s, _⟩ := r
    refine ⟨.ref C, by show (D.cls c).map Value.ref = _; rw [h]; rfl, .base (.ins (R.good.sub _ _ s) (F.cls c C hb h) (F.ha c C hb h) F.hn F.htk (F.hm c C hb h))⟩
  · simp only [Rep] at r
    obtain ⟨a, vs, rfl, s, l, r⟩ := r
    exact ⟨_, rfl, .base (.dK (R.good.sub _ _ s))⟩
theorem kit_of_kd (F : ClsF X.K D) {k : Kd} {t : Ty} {u w : Value} (hk : kVal D k = some u) (ht : tVal D t = some w) (hb : ∀ n, k = .b n → n ∈ bKinds) (ho : ∀ c, k = .o c → 20 ≤ c) (h1 : tOk t = true) : PySem.W.kitOne X.K u w = some (isK k t) := by
  cases k with
  | b n =>
    have e := Option.some.inj hk
    subst e
    have hn := hb n rfl
    cases t with
    | ty m =>
      have e := Option.some.inj ht
      subst e
      have := List.all_eq_true.mp (List.all_eq_true.mp kit_bb n hn) m (by simpa [tOk] using h1)
      exact kit_ty (beq_iff_eq.mp this)
    | own c =>
      obtain ⟨C, h, rfl⟩ := Option.map_eq_some_iff.mp (show (D.cls c).map Value.ref = some w from ht)
      exact F.bo c C (of_decide_eq_true h1) h n hn
  | o d =>
    obtain ⟨C, h, rfl⟩ := Option.map_eq_some_iff.mp (show (D.cls d).map Value.ref = some u from hk)
    cases t with
    | ty m =>
      have e := Option.some.inj ht
      subst e
      exact F.ob d C (ho d rfl) h m (by simpa [tOk] using h1)
    | own c =>
      obtain ⟨C', h', rfl⟩ := Option.map_eq_some_iff.mp (show (D.cls c).map Value.ref = some w from ht)
      exact F.oo d C c C' (ho d rfl) (of_decide_eq_true h1) h h'
/-- the class asked for, as it is written -/
structure CArg (X : Cx) (D : Dcl) (e : Expr) (t : Ty) : Prop where
  ex : ∃ v u, PE X e (tC v) ∧ ClsV v u ∧ tVal D t = some u ∧ tOk t = true
theorem carg_ty {n : String} {x : Str} {pos : Pos} (hg : Gl X x) (hm : X.mg x = none) (hv : bootBuiltins x = some (.type n)) (hn : bTypes.contains n = true) (h1 : x ≠ "__name__" := by decide) (hd : (x == ("__debug__" : Str)) = false := by decide) : CArg X D (.Name x pos) (.ty n) :=
  ⟨.ty n, .type n, pe_bltn hg hm hv rfl h1 hd, .ty n, rfl, hn⟩
theorem carg_own {c : Nat} {C : Addr} {x : Str} {pos : Pos} (hg : Gl X x) (hm : X.mg x = some (.ref C)) (hc : D.cls c = some C) (h20 : 20 ≤ c) (hd : (x == ("__debug__" : Str)) = false := by decide) : CArg X D (.Name x pos) (.own c) :=
  ⟨.ref C, .ref C, pe_glob hg hm rfl hd, .own C, by show (D.cls c).map Value.ref = _; rw [hc]; rfl, decide_eq_true h20⟩
def bigA : A → M A
  | .ins c fs => if 20 ≤ c then ret (.ins c fs) else no
  | a => ret a
def isi1 (t : Ty) (m : ME') : ME' := fun ρ => bd (bd (m ρ) bigA) (isiA [t])
theorem bigA_ok {a b : A} {p p' : Pen} (h : bigA a p = .ok b p') : b = a ∧ p' = p ∧ ∀ c fs, a = .ins c fs → 20 ≤ c := by
  unfold bigA at h
  split at h
  · split at h
    · rename_i c
      obtain ⟨h1, h2⟩ := Res.ok.inj h
      exact ⟨h1.symm, h2.symm, fun c' fs' e => by cases e; exact c⟩
    · cases h
  · rename_i n
    obtain ⟨h1, h2⟩ := Res.ok.inj h
    exact ⟨h1.symm, h2.symm, fun c' fs' e => absurd e (n c' fs')⟩
theorem kind_o {a : A} {c : Nat} (h : kindOf a = some (.o c)) : ∃ fs, a = .ins c fs := by
  cases a <;> simp only [kindOf] at h <;> first | (cases h; done) | skip
  cases h
  exact ⟨_, rfl⟩
theorem bd_assoc {α β γ : Type} {m : M α} {f : α → M β} {g : β → M γ} : bd (bd m f) g = bd m fun a => bd (f a) g := by
  funext p
  unfold bd
  cases m p <;> rfl
theorem me_isi {x t : Expr} {c : Ty} {m : ME'} {pn pos : Pos} (F : ClsF X.K D) (hg : Gl X "isinstance") (hm : X.mg "isinstance" = none) (hx : ME X D own xk x m) (hc : CArg X D t c)
    (h1 : starEach [x, t] X.env = (false, eval x X.env) :: starEach [t] X.env := by rfl) (h2 : starEach [t] X.env = (false, eval t X.env) :: starEach [] X.env := by rfl) (hpl : (backTo pos (starEach [t] X.env)).any (·.1) = false := by rfl) :
    ME X D own xk (.Call (.Name "isinstance" pn) [x, t] [] pos) (isi1 c m) := by
  obtain ⟨v, u, hp, hv, ht, hok⟩ := hc.ex
  refine PE.of (pe_callB call_isi hg hm boot_isinstance (pa_cons hx (pa_cons hp pa_nil h2) h1) (by decide) (by decide) h1 hpl) fun σ H Q q => ?_
  obtain ⟨S0, H0, S, ρ, p, R, q⟩ := q
  unfold isi1 at q
  rw [bd_assoc] at q
  refine tG.bind R q fun a p1 S1 H1 y _ e1 R1 r1 q1 => ?_
  unfold bd at q1
  cases eb : bigA a p1 with
  | ok b p2 =>
    rw [eb] at q1
    obtain ⟨rfl, rfl, big⟩ := bigA_ok eb
    have q1 : Aft X.K D (Rep X.K D) xk S0 H0 S1 H1 σ ρ own (isiA [c] _ _) Q := q1
    unfold isiA at q1
    cases ek : kindOf b with
    | none => rw [ek] at q1; exact q1.elim
    | some k =>
      rw [ek] at q1
      dsimp only at q1
      have hb : ∀ c, k = .o c → 20 ≤ c := fun c e => by
        rw [e] at ek
        obtain ⟨fs, e2⟩ := kind_o ek
        exact big c fs e2
      obtain ⟨w, hw, ty⟩ := kind_ty F R1 r1 ek hb
      have kk := kit_of_kd F hw ht (fun n e => kind_b (by rw [← e]; exact ek)) hb hok
      refine ⟨y, v, w, u, isK k c, rfl, hv, ty, kk, ?_⟩
      have e : [c].any (isK k) = isK k c := by simp
      rw [e] at q1
      exact Aft.ok q1 R1 (Rep.bl_iff.mpr rfl)
  | exc c fs p2 =>
    unfold bigA at eb
    split at eb
    · split at eb <;> cases eb
    · cases eb
  | stuck => rw [eb] at q1; exact q1.elim
end
end Mir

/-! Mir11: slices, repr, calls where nothing is shown around. -/
namespace Mir
open PySem PySem.Spec PyProof.Rows L2
section
variable {X : Cx} {D : Dcl} {own own' own2 ownB : List Nat} {xk : XK}
/-! ### slices -/
def cutL {α : Type} (xs : List α) (lo hi : Option Int) : List α := (xs.drop (HT.sIx xs.length 0 lo)).take (HT.sIx xs.length xs.length hi - HT.sIx xs.length 0 lo)
theorem Reps.cut {K : PySem.W.Frag} {S : Hp} {xs : List A} {vs : List V} (lo hi : Option Int) (r : Reps K D S xs vs) : Reps K D S (cutL xs lo hi) (cutV vs lo hi) := by
  unfold cutL cutV
  rw [← r.length]
  exact (r.drop _).take _
def cutA (a : A) (lo hi : Option Int) : M A := match a with
  | .tup xs => ret (.tup (cutL xs lo hi))
  | .lst xs => ret (.lst (cutL xs lo hi))
  | _ => no
abbrev ML := Env' → M (Option Int)
def noP : ML := fun _ => ret none
def someP (m : ME') : ML := fun ρ => bd (m ρ) fun a => match a with
  | .int i => ret (some i)
  | _ => no
def RpP : Hp → Option Int → Option Int → Prop := fun _ a b => b = a
abbrev MP (X : Cx) (D : Dcl) (own : List Nat) (xk : XK) (e : Option Expr) (m : ML) : Prop := PO X e (tG X.K D RpP own xk m)
theorem mp_none : MP X D own xk none noP := ⟨fun pins s σ H Q I q => po_none.run pins s σ H Q I (by
  obtain ⟨S0, H0, S, ρ, p, R, q⟩ := q
  exact Aft.ok q R rfl)⟩
theorem mp_some {e : Expr} {m : ME'} (h : ME X D own xk e m) : MP X D own xk (some e) (someP m) := ⟨fun pins s σ H Q I q => (po_some h).run pins s σ H Q I (by
  obtain ⟨S0, H0, S, ρ, p, R, q⟩ := q
  refine tG.bind R q fun a p1 S1 H1 v _ e1 R1 r1 q1 => ?_
  cases a <;> first | exact q1.elim | skip
  rw [Rep.int_iff] at r1
  exact ⟨_, r1, Aft.ok q1 R1 rfl⟩)⟩
def cutM (m : ME') (l u : ML) : ME' := fun ρ => bd (m ρ) fun a => bd (l ρ) fun lo => bd (u ρ) fun hi => cutA a lo hi
def rSlX (K : PySem.W.Frag) : V → Option Int → Option Int → Hp → VK → Prop := fun x lo hi H Q => rSlA K x lo hi H Q ∨ rSlL K x lo hi H Q
theorem sIx_whole {n : Nat} {lo hi : Option Int} (h : HT.sIx n 0 lo = 0 ∧ HT.sIx n n hi = n) {α : Type} {xs : List α} (hn : xs.length = n) : cutL xs lo hi = xs := by
  unfold cutL
  rw [hn, h.1, h.2, List.drop_zero, Nat.sub_zero, ← hn, List.take_length]
theorem me_slice {e : Expr} {lo hi : Option Expr} {m : ME'} {l u : ML} {p2 pos : Pos} (he : ME X D own xk e m) (hl : MP X D own xk lo l) (hu : MP X D own xk hi u) : ME X D own xk (.Subscript e (.Slice lo hi none p2) pos) (cutM m l u) :=
  PE.of (pe_slice (r := rSlX X.K) (sl_tupA.or sl_list) he hl hu) fun σ H Q q => by
    obtain ⟨S0, H0, S, ρ, p, R, q⟩ := q
    refine tG.bind R q fun a p1 S1 H1 x _ e1 R1 r1 q1 => ?_
    refine tG.bind R1 q1 fun b p2 S2 H2 y _ e2 R2 r2 q2 => ?_
    refine tG.bind R2 q2 fun c p3 S3 H3 z _ e3 R3 r3 q3 => ?_
    have r2 : y = b := r2
    have r3 : z = c := r3
    subst r2 r3
    have r1 := Rep.mono e3.sub _ _ (Rep.mono e2.sub _ _ r1)
    unfold cutA at q3
    split at q3
    · rename_i xs
      obtain ⟨t, vs, rfl, s, r⟩ := Rep.tup_iff.mp r1
      refine .inl ⟨t, vs, rfl, SqT.up R3.good s, fun w => ?_, fun _ q hq => Aft.newT R3 (r.cut y z) q3 hq⟩
      rw [sIx_whole w r.length] at q3
      exact Aft.ok q3 R3 r1
    · obtain ⟨t, vs, rfl, s, r⟩ := Rep.lst_iff.mp r1
      exact .inr ⟨t, vs, rfl, SqL.of (R3.good.sub _ _ s), fun q hq => Aft.newL R3 (r.cut y z) q3 hq⟩
    · exact q3.elim
/-! ### repr -/
def rRepr (X : Cx) : List V → Hp → VK → Prop := fun vs H Q => ∃ (v : V) (d : PyData), vs = [v] ∧ Dp X.K H v d ∧ d.showable = true ∧ d.hasDict = false ∧ d.depth ≤ 60 ∧ d.shown.length ≤ sizeLine ∧ Q (.str d.shown) H
theorem cr_repr (hg : X.A.guards = some []) (hu : X.A.units + 64 < cLine) : CallR X (.builtin "repr") (rRepr X) := by
  intro pins s σ H vs us Q I r h
  obtain ⟨v, d, rfl, hd, hs, hn, hdp, hz, q⟩ := h
  obtain ⟨u, rfl, ru⟩ := vals1 r
  obtain ⟨as, rd⟩ := Dp.reads I d v u hd ru
  have fin : ∀ t tk, EP X pins σ Q (.str d.shown t) { s with toks := tk } := fun t tk => ⟨.str _, H, I.tok _, ⟨_, rfl⟩, q⟩
  cases hd with
  | non =>
    cases ru
    exact PySem.P.repr_of_none (by simpa only [PyData.shown] using fin _ _)
  | bl b =>
    cases ru
    exact PySem.P.repr_of_bool (by simpa only [PyData.shown] using fin _ _)
  | int i =>
    obtain ⟨t, rfl⟩ := ru
    exact PySem.P.repr_of_int (by simpa [PyData.showable] using hs) (by simpa only [PyData.shown] using fin _ _)
  | str x =>
    obtain ⟨t, rfl⟩ := ru
    exact PySem.P.repr_of_str (by simpa only [PyData.shown] using fin _ _) (by simpa only [PyData.shown] using hz)
  | lst h1 h2 =>
    cases ru
    exact repr_of_reads' rd hs (PyData.noDict_hsm hn) hg (by omega) (fun _ _ e => e) (fun h' u tk hk => ⟨.str _, H, I.kept hk, ⟨_, rfl⟩, q⟩) hz
  | tup h1 h2 =>
    cases ru
    exact repr_of_reads' rd hs (PyData.noDict_hsm hn) hg (by omega) (fun _ _ e => e) (fun h' u tk hk => ⟨.str _, H, I.kept hk, ⟨_, rfl⟩, q⟩) hz
def reprA : List A → M A
  | [a] => match toPy a with
    | some d => if d.showable = true ∧ d.hasDict = false ∧ d.depth ≤ 60 ∧ d.shown.length ≤ sizeLine then ret (.str d.shown) else no
    | none => no
  | _ => no
theorem fnm_repr : FnM X D own xk (rRepr X) reprA := by
  intro S0 H0 S H σ ρ p as vs Q R r h
  unfold reprA at h
  split at h
  · rename_i a
    obtain ⟨v, ev, r1⟩ := Reps.one r
    subst ev
    cases z : toPy a with
    | none => rw [z] at h; exact h.elim
    | some d =>
      rw [z] at h
      dsimp only at h
      split at h
      · rename_i c
        exact ⟨v, d, rfl, Rep.dp R.good.sub a v d z r1, c.1, c.2.1, c.2.2.1, c.2.2.2, Aft.ok h R (Rep.str_iff.mpr rfl)⟩
      · exact h.elim
  · exact h.elim
/-! ### defs called where no showing is under way -/
/-- as FnOk, the ways that lead here told to be no showing -/
structure FnG (P : Program) (w : World) (K : PySem.W.Frag) (mg : Str → Option Value) (base : Heap) (CX : CXT) (k : Nat) (f : Addr) (fd : FuncData) (ps : List Str) (sp : Sp) : Prop where
  len : ∀ vs H Q E, sp vs H Q E → vs.length = ps.length
  go : ∀ (B : Around) (fl : List Env) (t : Shared) (H : Hp) (gs : Args) (us : List Value) (vs : List V) (Q : VK) (E : XK), Room k B → B.guards = some [] → Env0 P w K mg base B fl t H → BindsTo t fd gs (ps.zip us) → Vals vs us → sp vs H Q E →
    codeAny (model P w) B (.call (.ref f) gs) (CR CX fl P w H t Q E) t
theorem FnG.of {P : Program} {w : World} {K : PySem.W.Frag} {mg : Str → Option Value} {base : Heap} {CX : CXT} {k : Nat} {f : Addr} {fd : FuncData} {ps : List Str} {sp : Sp} (F : FnOk P w K mg base CX k f fd ps sp) : FnG P w K mg base CX k f fd ps sp :=
  ⟨F.len, fun B fl t H gs us vs Q E r _ => F.run B fl t H gs us vs Q E r⟩
/-- a def of the module that is called where no showing is under way -/
structure DefG (P : Program) (w : World) (K : PySem.W.Frag) (mg : Str → Option Value) (base : Heap) (D : Dcl) (k : Nat) (x : Str) (n : Nat) (m : List A → M A) : Prop where
  ex : ∃ (f : Addr) (fd : FuncData) (ps : List Str), mg x = some (.ref f) ∧ PySem.W.keepIn K (.ref f) = true ∧ L2.Binds K fd ps [] ∧ ps.length = n ∧ FnG P w K mg base (L2.CX P w) k f fd ps (spM K D n m)
theorem Def.g {P : Program} {w : World} {K : PySem.W.Frag} {mg : Str → Option Value} {base : Heap} {k : Nat} {x : Str} {n : Nat} {m : List A → M A} (F : Def P w K mg base D k x n m) : DefG P w K mg base D k x n m := by
  obtain ⟨f, fd, ps, h1, h2, h3, h4, h5⟩ := F.ex
  exact ⟨f, fd, ps, h1, h2, h3, h4, .of h5⟩
theorem go_fn {CX : CXT} {k : Nat} {f : Addr} {fd : FuncData} {ps : List Str} {sp : Sp} {pins : List (Addr × Obj)} {σ : L2.St} {H : Hp} {s : Shared} {Q : VK} {E : XK} {us : List Value} {vs : List V} (F : FnG X.prog X.w X.K X.mg X.base CX k f fd ps sp) (hr : Room k X.A) (hG : X.A.guards = some []) (hb : L2.Binds X.K fd ps []) (hx : Passes CX X E)
    (I : Inv X pins σ H s) (r : Vals vs us) (h : sp vs H Q E) : wpAny (model X.prog X.w) X.A (call (.ref f) us) (EP X pins σ Q) X.xe s := by
  have hl : us.length = ps.length := r.length.symm.trans (F.len vs H Q E h)
  have bt := hb s us I.kIn (by rw [List.append_nil]; exact hl)
  rw [List.append_nil] at bt
  refine wpAny_call (codeAny_mono (F.go X.A X.stack s H ⟨us, []⟩ us vs Q E hr hG I.env0 bt r h) fun o t ho => ?_)
  cases o with
  | error e => exact hx pins σ H s e t I ho
  | ok fl =>
    cases fl with
    | ret u => exact I.after ho
    | _ => exact ho.elim
theorem me_callG {k j n : Nat} {x : Str} {m : List A → M A} {e : Expr} {es : List Expr} {ms : Env' → M (List A)} {p pos : Pos} (F : DefG X.prog X.w X.K X.mg X.base D k x n m) (hG : X.A.guards = some []) (hr : Room j X.A) (hk : k ≤ j) (hx : Passes (L2.CX X.prog X.w) X xk) (hg : Gl X x) (ha : MA X D own xk (e :: es) ms)
    (hdb : (x == ("__debug__" : Str)) = false := by decide) (he : starEach (e :: es) X.env = (false, eval e X.env) :: starEach es X.env := by rfl) (hpl : (backTo pos (starEach es X.env)).any (·.1) = false := by rfl) : ME X D own xk (.Call (.Name x p) (e :: es) [] pos) (callM n m ms) := by
  obtain ⟨f, fd, ps, hm, hkp, hb, hl, F⟩ := F.ex
  refine ⟨fun pins s σ H Q I q => wpAny_Call_Name_kw (ld_glob I hg hm ?_ hdb)⟩
  refine PySem.W.callWith_K (h₀ := X.base) I.ok.mod.kin hkp (thn (ha.run pos pins s σ H (fun vs H1 => spM X.K D n m vs H1 Q xk) I ?_) fun us s1 ⟨vs, H1, I1, r, q⟩ => ⟨I1.kIn, go_fn F (hr.mono hk) hG hb hx I1 r q⟩) he hpl
  obtain ⟨S0, H0, S, ρ, p, R, q⟩ := q
  refine tG.bind R q fun as p1 S1 H1 vs _ e1 R1 r1 q1 => ?_
  split at q1
  · rename_i c
    exact call_read c R1 r1 q1
  · exact q1.elim
theorem mk_defG {P : Program} {w : World} {K : PySem.W.Frag} {mg : Str → Option Value} {base : Heap} {x : Str} {st : Stmt} {f : Addr} {fd : FuncData} {N ps : List Str} {k n : Nat} {m : MS'} (F : L2.Fun K x x st f fd) (hm : mg x = some (.ref f)) (S : FnScope N ps (defScope st)) (hb : L2.Binds K fd ps []) (hn : ps.length = n) (hN : n ≤ N.length)
    (body : ∀ (cdv : Value) (A : Around) (outer : List Env) (s : Shared) (H : Hp) (E : XK), Room k (A.deeper (envOfC x (defScope st) s.heap.objs.size f cdv)) → A.guards = some [] →
      MSs (cxOf (L2.CX P w) P w K mg base N x (defScope st) f cdv A outer s H E) D [] own' [] E (defBody st) m) : DefG P w K mg base D (k + 1) x n (defM N.length m) := by
  obtain ⟨oc, od, kV, doc, pm, an, cdv, ct, osl, efd, lk, hcd⟩ := F.ex
  have len : ∀ vs H Q E, spM K D n (defM N.length m) vs H Q E → vs.length = ps.length := fun vs H Q E h => by
    obtain ⟨S, as, p, hl, _, r, _⟩ := h
    rw [hn, ← hl, r.length]
  refine ⟨f, fd, ps, hm, F.kp, hb, hn, len, fun B fl t H gs us vs Q E hr hG e0 bt rv h => ?_⟩
  subst efd
  exact LamX.run_ofS lk hcd S hr e0 bt rv (len _ _ _ _ h) fun hr' => ⟨_, body cdv B fl t H E hr' hG, body_read hN h⟩
end
end Mir

/-! Mir12: lists of one's own are written. -/
namespace Mir
open PySem PySem.Spec PyProof.Rows L2
section
variable {X : Cx} {D : Dcl} {own own' own2 ownB : List Nat} {xk : XK}
/-- what is one's own is written -/
theorem Rel.write {K : PySem.W.Frag} {S0 H0 S H : Hp} {σ : L2.St} {ρ : Env'} {p : Pen} {i : Nat} {a a' : A} {q : Addr} {o : HO} (R : Rel K D S0 H0 S H σ ρ own p) (hi : i ∈ own) (ha : ρ[i]? = some (some a)) (hq : σ[i]? = some (some (.ref q)))
    (h : OwnAt K D S (upd H q o) q a') : Rel K D S0 H0 S (upd H q o) σ (ρ.set i (some a')) own p := by
  obtain ⟨q', g1, g2, g3, g4, g5⟩ := R.ownd i a ha hi
  have eq : q' = q := by
    rw [hq] at g1
    exact (V.ref.inj (Option.some.inj (Option.some.inj g1))).symm
  subst eq
  have no : ∀ b u, S b = some u → b ≠ q' := fun b u e z => by rw [z, g2] at e; cases e
  have n0 : ∀ b u, H0 b = some u → b ≠ q' := fun b u e z => by rw [z, g3] at e; cases e
  have hl : i < ρ.length := (List.getElem?_eq_some_iff.mp ha).1
  have ho : ∃ u, H q' = some u ∧ (∀ ps, u ≠ .tbl ps) ∧ ∀ φ, u ≠ .ext φ := by
    cases a with
    | lst xs =>
      obtain ⟨vs, e, _⟩ := g5
      exact ⟨_, e, fun _ z => (by cases z), fun _ z => (by cases z)⟩
    | dct ks xs =>
      obtain ⟨vs, e, _⟩ := g5
      exact ⟨_, e, fun _ z => (by cases z), fun _ z => (by cases z)⟩
    | _ => exact g5.elim
  obtain ⟨u, hu, nt, ne⟩ := ho
  have oo : (∀ ps, o ≠ .tbl ps) ∧ ∀ φ, o ≠ .ext φ := by
    cases a' with
    | lst xs =>
      obtain ⟨vs, e, _⟩ := h
      rw [upd_same] at e
      cases e
      exact ⟨fun _ z => (by cases z), fun _ z => (by cases z)⟩
    | dct ks xs =>
      obtain ⟨vs, e, _⟩ := h
      rw [upd_same] at e
      cases e
      exact ⟨fun _ z => (by cases z), fun _ z => (by cases z)⟩
    | _ => exact h.elim
  refine ⟨⟨fun b v e => by rw [upd_ne (no b v e)]; exact R.good.sub b v e, R.good.npen, R.good.ntbl, ⟨by rw [upd_ne (Ne.symm g4)]; exact R.good.pen.1, R.good.pen.2⟩, R.good.tabs.write hu nt ne (fun ps z => ?_) fun φ z => ?_⟩,
    ⟨R.ext.sub, fun b v e n t => by rw [upd_ne (n0 b v e)]; exact R.ext.keep b v e n t, fun b e => ?_, R.ext.dom⟩, fun j b hj hn => ?_, fun j b hj hn => ?_, fun j k b c q2 e1 e2 m1 m2 e3 e4 => ?_, by rw [List.length_set]; exact R.len⟩
  · exact oo.1 ps z
  · exact oo.2 φ z
  · by_cases z : b = q'
    · rw [z, upd_same]
      exact fun z => (by cases z)
    · rw [upd_ne z]
      exact R.ext.there b e
  · have n : i ≠ j := fun z => hn (z ▸ hi)
    rw [List.getElem?_set_ne n] at hj
    exact R.slot j b hj hn
  · by_cases n : i = j
    · subst n
      rw [List.getElem?_set_self hl] at hj
      have e := Option.some.inj (Option.some.inj hj)
      subst e
      exact ⟨q', hq, g2, g3, g4, h⟩
    · rw [List.getElem?_set_ne n] at hj
      obtain ⟨q2, f1, f2, f3, f4, f5⟩ := R.ownd j b hj hn
      have nq : q2 ≠ q' := fun z => n (R.dist i j a b q' ha hj hi hn hq (by rw [← z]; exact f1))
      exact ⟨q2, f1, f2, f3, f4, f5.mono (fun _ _ z => z) fun v hv => by rw [upd_ne nq]; exact hv⟩
  · have back : ∀ (j : Nat) (b : A), (ρ.set i (some a'))[j]? = some (some b) → ∃ b', ρ[j]? = some (some b') := fun j b e => by
      by_cases n : i = j
      · subst n
        exact ⟨a, ha⟩
      · rw [List.getElem?_set_ne n] at e
        exact ⟨b, e⟩
    obtain ⟨b', e1⟩ := back j b e1
    obtain ⟨c', e2⟩ := back k c e2
    exact R.dist j k b' c' q2 e1 e2 m1 m2 e3 e4
/-- the own list in slot i -/
def ownL (i : Nat) (k : List A → MS') : MS' := fun ρ => match ρ[i]? with
  | some (some (.lst xs)) => k xs ρ
  | _ => no
def putL (i : Nat) (xs : List A) : MS' := fun ρ => if xs.length ≤ sizeLine then ret (.nx (ρ.set i (some (.lst xs)))) else no
def appM (i : Nat) (m : ME') : MS' := ownL i fun xs ρ => bd (m ρ) fun a => putL i (xs ++ [a]) ρ
theorem own_read {K : PySem.W.Frag} {S0 H0 S H : Hp} {σ : L2.St} {ρ : Env'} {p : Pen} {i : Nat} {xs : List A} (R : Rel K D S0 H0 S H σ ρ own p) (hi : i ∈ own) (ha : ρ[i]? = some (some (.lst xs))) : ∃ q vs, σ[i]? = some (some (.ref q)) ∧ H q = some (.lst vs) ∧ Reps K D S xs vs := by
  obtain ⟨q, h1, _, _, _, vs, h2, h3⟩ := R.ownd i _ ha hi
  exact ⟨q, vs, h1, h2, h3⟩
theorem own_same {K : PySem.W.Frag} {S0 H0 S H : Hp} {σ : L2.St} {ρ : Env'} {p : Pen} {i : Nat} {xs : List A} {q : Addr} (R : Rel K D S0 H0 S H σ ρ own p) (hi : i ∈ own) (ha : ρ[i]? = some (some (.lst xs))) (hq : σ[i]? = some (some (.ref q))) : ∃ vs, H q = some (.lst vs) ∧ Reps K D S xs vs := by
  obtain ⟨q', vs, h1, h2, h3⟩ := own_read R hi ha
  rw [hq] at h1
  have e : q' = q := (V.ref.inj (Option.some.inj (Option.some.inj h1))).symm
  subst e
  exact ⟨vs, h2, h3⟩
theorem put_ok {N : Ends} {S0 H0 S H : Hp} {σ : L2.St} {ρ : Env'} {p : Pen} {i : Nat} {xs ys : List A} {q : Addr} {ws : List V} (R : Rel X.K D S0 H0 S H σ ρ own p) (hi : i ∈ own) (ha : ρ[i]? = some (some (.lst xs))) (hq : σ[i]? = some (some (.ref q))) (r : Reps X.K D S ys ws)
    (h : AftS X.K D xk S0 H0 own ownB (putL i ys ρ p) N) : ys.length ≤ sizeLine ∧ N.nx σ (upd H q (.lst ws)) := by
  unfold putL at h
  split at h
  · rename_i c
    exact ⟨c, h S _ σ (R.write hi ha hq ⟨ws, upd_same, r⟩)⟩
  · exact h.elim
theorem ownL_get {K : PySem.W.Frag} {S0 H0 : Hp} {ρ : Env'} {p : Pen} {i : Nat} {k : List A → MS'} {N : Ends} (h : AftS K D xk S0 H0 own ownB (ownL i k ρ p) N) : ∃ xs, ρ[i]? = some (some (.lst xs)) ∧ AftS K D xk S0 H0 own ownB (k xs ρ p) N := by
  unfold ownL at h
  cases e : ρ[i]? with
  | none => rw [e] at h; exact h.elim
  | some o =>
    rw [e] at h
    cases o with
    | none => exact h.elim
    | some a => cases a <;> first | exact h.elim | exact ⟨_, rfl, h⟩
/-- x.append(e) -/
theorem ms_append {i : Nat} {x : Str} {e : Expr} {m : ME'} {px pa pc pos : Pos} (hX : X.N[i]? = some x) (hv : Vis X.env.scope x) (hi : i ∈ own) (he : ME X D own xk e m) (hd : (x == ("__debug__" : Str)) = false := by decide) (hcd : (x == ("__classdict__" : Str)) = false := by decide)
    (hst : swapsWith (.Call (.Attribute (.Name x px) "append" pa) [e] [] pc) none pos.line X.env = pure false := by rfl)
    (hbase : attributeBase (.Name x px) "append" X.env (eval (.Name x px) X.env) = eval (.Name x px) X.env := by rfl)
    (hfew : ((backTo pc (starEach [e] X.env)).all (fun x => !x.1) && (backToKw pc (keywordEach [] X.env)).all (fun x => x.1.isSome)
      && decide ([e].length + ([] : List Keyword).length + (if ([] : List Keyword).isEmpty then 0 else 1) < 30)) = true := by rfl)
    (hline : (pa.endLine == pc.line) = true := by rfl) (hs : starEach [e] X.env = (false, eval e X.env) :: starEach [] X.env := by rfl) (hplain : (backTo pc (starEach [] X.env)).any (·.1) = false := by rfl) :
    MS X D own own ownB xk (.Expr (.Call (.Attribute (.Name x px) "append" pa) [e] [] pc) pos) (appM i m) :=
  PS.of (ps_expr (pe_bm PySem.F.plainAttrs_list PySem.F.slot_list_append PySem.F.type_list_append mt_append (pe_var hX hv hd hcd) (pa_cons he pa_nil hs) hbase hfew hline hs hplain) hst) fun N σ H q => by
    obtain ⟨S0, H0, S, ρ, p, R, q⟩ := q
    unfold appM at q
    obtain ⟨xs, ha, q⟩ := ownL_get q
    · obtain ⟨l, vs, h1, h2, h3⟩ := own_read R hi ha
      refine ⟨.ref l, h1, .inl ⟨rfl, vs, SqL.of h2⟩, ?_⟩
      refine AftS.bind R q fun a p1 S1 H1 v _ e1 R1 r1 q1 => ?_
      obtain ⟨ws, h4, h5⟩ := own_same R1 hi ha h1
      obtain ⟨z, fin⟩ := put_ok R1 hi ha h1 (h5.append (Reps.cons_iff.mpr ⟨v, [], rfl, r1, Reps.nil_iff.mpr rfl⟩)) q1
      refine ⟨l, ws, v, rfl, rfl, h4, ?_, fin⟩
      rw [List.length_append, List.length_singleton] at z
      rw [← h5.length]
      omega
/-- x.extend(e), e a list -/
def extM (i : Nat) (m : ME') : MS' := ownL i fun xs ρ => bd (m ρ) fun a => match a with
  | .lst ys => putL i (xs ++ ys) ρ
  | _ => no
theorem ms_extend {i : Nat} {x : Str} {e : Expr} {m : ME'} {px pa pc pos : Pos} (hX : X.N[i]? = some x) (hv : Vis X.env.scope x) (hi : i ∈ own) (he : ME X D own xk e m) (hd : (x == ("__debug__" : Str)) = false := by decide) (hcd : (x == ("__classdict__" : Str)) = false := by decide)
    (hst : swapsWith (.Call (.Attribute (.Name x px) "extend" pa) [e] [] pc) none pos.line X.env = pure false := by rfl)
    (hbase : attributeBase (.Name x px) "extend" X.env (eval (.Name x px) X.env) = eval (.Name x px) X.env := by rfl)
    (hfew : ((backTo pc (starEach [e] X.env)).all (fun x => !x.1) && (backToKw pc (keywordEach [] X.env)).all (fun x => x.1.isSome)
      && decide ([e].length + ([] : List Keyword).length + (if ([] : List Keyword).isEmpty then 0 else 1) < 30)) = true := by rfl)
    (hline : (pa.endLine == pc.line) = true := by rfl) (hs : starEach [e] X.env = (false, eval e X.env) :: starEach [] X.env := by rfl) (hplain : (backTo pc (starEach [] X.env)).any (·.1) = false := by rfl) :
    MS X D own own ownB xk (.Expr (.Call (.Attribute (.Name x px) "extend" pa) [e] [] pc) pos) (extM i m) :=
  PS.of (ps_expr (pe_bm PySem.F.plainAttrs_list PySem.F.slot_list_extend PySem.F.type_list_extend mt_extend (pe_var hX hv hd hcd) (pa_cons he pa_nil hs) hbase hfew hline hs hplain) hst) fun N σ H q => by
    obtain ⟨S0, H0, S, ρ, p, R, q⟩ := q
    unfold extM at q
    obtain ⟨xs, ha, q⟩ := ownL_get q
    · obtain ⟨l, vs, h1, h2, h3⟩ := own_read R hi ha
      refine ⟨.ref l, h1, .inl ⟨rfl, vs, SqL.of h2⟩, ?_⟩
      refine AftS.bind R q fun a p1 S1 H1 v _ e1 R1 r1 q1 => ?_
      cases a <;> first | exact q1.elim | skip
      obtain ⟨b, zs, rfl, s, r⟩ := Rep.lst_iff.mp r1
      obtain ⟨ws, h4, h5⟩ := own_same R1 hi ha h1
      obtain ⟨z, fin⟩ := put_ok R1 hi ha h1 (h5.append r) q1
      refine ⟨l, b, ws, zs, rfl, rfl, h4, R1.good.sub _ _ s, ?_, fin⟩
      rw [List.length_append] at z
      rw [← h5.length, ← r.length]
      exact z
/-- x = a list just made: one's own from now on -/
theorem Rel.setOwn {K : PySem.W.Frag} {S0 H0 S H S' H' : Hp} {σ : L2.St} {ρ : Env'} {p p' : Pen} {a : A} {q : Addr} (i : Nat) (R : Rel K D S0 H0 S H σ ρ own p) (R' : Rel K D S0 H0 S' H' σ ρ own p') (h1 : S' q = none) (h2 : H q = none) (h3 : q ≠ D.π) (h : OwnAt K D S' H' q a) :
    Rel K D S0 H0 S' H' (σ.set i (some (.ref q))) (ρ.set i (some a)) (i :: own.filter (· != i)) p' where
  good := R'.good
  ext := R'.ext
  slot := fun j b hj hn => by
    have n : i ≠ j := fun z => hn (by simp [z])
    have nj : j ≠ i := Ne.symm n
    rw [List.getElem?_set_ne n] at hj ⊢
    exact R'.slot j b hj fun z => hn (List.mem_cons_of_mem _ (List.mem_filter.mpr ⟨z, by simpa using nj⟩))
  ownd := fun j b hj hn => by
    by_cases n : i = j
    · subst n
      have hl : i < ρ.length := by
        have := (List.getElem?_eq_some_iff.mp hj).1
        simpa using this
      rw [List.getElem?_set_self hl] at hj
      have e := Option.some.inj (Option.some.inj hj)
      subst e
      refine ⟨q, by rw [List.getElem?_set_self (by rw [← R.len]; exact hl)], h1, ?_, h3, h⟩
      cases z : H0 q with
      | none => rfl
      | some o => exact absurd h2 (R.ext.there q (by rw [z]; exact fun z => (by cases z)))
    · rw [List.getElem?_set_ne n] at hj ⊢
      rcases List.mem_cons.mp hn with z | z
      · exact absurd z.symm n
      · exact R'.ownd j b hj (List.mem_filter.mp z).1
  dist := fun j k b c w e1 e2 m1 m2 e3 e4 => by
    have far : ∀ (j : Nat) (b : A), i ≠ j → (ρ.set i (some a))[j]? = some (some b) → j ∈ i :: own.filter (· != i) → (σ.set i (some (.ref q)))[j]? = some (some (.ref w)) → ρ[j]? = some (some b) ∧ j ∈ own ∧ σ[j]? = some (some (.ref w)) ∧ w ≠ q := fun j b n e m e3 => by
      rw [List.getElem?_set_ne n] at e e3
      rcases List.mem_cons.mp m with z | z
      · exact absurd z.symm n
      · have m := (List.mem_filter.mp z).1
        obtain ⟨w', g1, _, _, _, g5⟩ := R.ownd j b e m
        rw [e3] at g1
        have ew : w' = w := (V.ref.inj (Option.some.inj (Option.some.inj g1))).symm
        subst ew
        obtain ⟨o, g6, _⟩ := g5.there
        exact ⟨e, m, e3, fun z => by rw [z, h2] at g6; cases g6⟩
    have at_ : ∀ (j : Nat) (b : A), i = j → (ρ.set i (some a))[j]? = some (some b) → (σ.set i (some (.ref q)))[j]? = some (some (.ref w)) → w = q := fun j b n e e3 => by
      subst n
      have hl : i < σ.length := by
        have := (List.getElem?_eq_some_iff.mp e3).1
        simpa using this
      rw [List.getElem?_set_self hl] at e3
      exact (V.ref.inj (Option.some.inj (Option.some.inj e3))).symm
    by_cases nj : i = j
    · by_cases nk : i = k
      · rw [← nj, ← nk]
      · exact absurd (at_ j b nj e1 e3) (far k c nk e2 m2 e4).2.2.2
    · by_cases nk : i = k
      · exact absurd (at_ k c nk e2 e4) (far j b nj e1 m1 e3).2.2.2
      · obtain ⟨a1, a2, a3, _⟩ := far j b nj e1 m1 e3
        obtain ⟨b1, b2, b3, _⟩ := far k c nk e2 m2 e4
        exact R'.dist j k b c w a1 b1 a2 b2 a3 b3
  len := by rw [List.length_set, List.length_set]; exact R'.len
/-- a statement's first expression, its list kept as one's own -/
theorem AftS.bindF {K : PySem.W.Frag} {S0 H0 S H : Hp} {σ : L2.St} {ρ : Env'} {p : Pen} {m : ME'} {k : A → M Fl} {N : Ends} {Q : VK} (R : Rel K D S0 H0 S H σ ρ own p) (h : AftS K D xk S0 H0 own' ownB (bd (m ρ) k p) N)
    (hQ : ∀ a p1 S1 H1 q, Rel K D S0 H0 S1 H1 σ ρ own p1 → S1 q = none → H q = none → q ≠ D.π → OwnAt K D S1 H1 q a → AftS K D xk S0 H0 own' ownB (k a p1) N → Q (.ref q) H1) : tF K D own xk m σ H Q := by
  refine ⟨S0, H0, S, ρ, p, R, ?_⟩
  unfold bd at h
  cases e : m ρ p with
  | ok a p1 =>
    rw [e] at h
    exact fun S1 H1 q _ R1 n1 n2 n3 o => hQ a p1 S1 H1 q R1 n1 n2 n3 o h
  | exc c fs p1 =>
    rw [e] at h
    exact h
  | stuck =>
    rw [e] at h
    exact h
theorem ms_setF {i : Nat} {x : Str} {e : Expr} {m : ME'} {pos pos' : Pos} (hN : X.N.Nodup) (hi : X.N[i]? = some x) (hx : Loc X.env.scope x) (he : MF X D own xk e m) (hs : swapsWith e (some (.Name x pos')) pos.line X.env = pure false := by rfl) (hf : X.fn x = true ∨ X.env.scope.names.lookup x = some .local := by first | exact .inl rfl | exact .inr rfl) :
    MS X D own (i :: own.filter (· != i)) ownB xk (.Assign [.Name x pos'] e pos) (setM i m) := PS.of (ps_set hN hi hx he hs hf) fun N σ H q => by
  obtain ⟨S0, H0, S, ρ, p, R, q⟩ := q
  exact AftS.bindF R q fun a p1 S1 H1 l R1 n1 n2 n3 o q1 => q1 S1 H1 _ (R.setOwn i R1 n1 n2 n3 o)
/-- x[j] = e -/
def setIM (i : Nat) (mj m : ME') : MS' := fun ρ => bd (m ρ) fun a => ownL i (fun xs ρ => bd (mj ρ) fun b => match b with
    | .int j => match ixN xs.length j with
      | some k => putL i (xs.set k a) ρ
      | none => no
    | _ => no) ρ
theorem ms_setI {i : Nat} {x : Str} {j e : Expr} {mj m : ME'} {px ps pos : Pos} (hX : X.N[i]? = some x) (hv : Vis X.env.scope x) (hi : i ∈ own) (hj : ME X D own xk j mj) (he : ME X D own xk e m) (hd : (x == ("__debug__" : Str)) = false := by decide) (hcd : (x == ("__classdict__" : Str)) = false := by decide)
    (hs : swapsWithSole [.Subscript (.Name x px) j ps] e pos.line X.env = pure false := by rfl) (hw : swappedStores [.Subscript (.Name x px) j ps] e X.env = pure none := by rfl)
    (h1 : (assignEach [.Subscript (.Name x px) j ps] X.env).map (·.2) = [assign (.Subscript (.Name x px) j ps) X.env] := by rfl)
    (hasg : ∀ v, assign (.Subscript (.Name x px) j ps) X.env v = (do
      let ov ← holding [v] (eval (.Name x px) X.env)
      let iv ← holding [v, ov] (eval j X.env)
      standAt ps
      holding [v, ov, iv] (setItem ov iv v)
      release [v, ov, iv] []) := by intro _; rfl) :
    MS X D own own ownB xk (.Assign [.Subscript (.Name x px) j ps] e pos) (setIM i mj m) :=
  PS.of (ps_asg he (pg_sub (pe_var hX hv hd hcd) hj set_list hasg) hs hw h1) fun N σ H q => by
    obtain ⟨S0, H0, S, ρ, p, R, q⟩ := q
    refine AftS.bind R q fun a p1 S1 H1 v _ e1 R1 r1 q1 => ?_
    obtain ⟨xs, ha, q1⟩ := ownL_get q1
    · obtain ⟨l, vs, g1, g2, g3⟩ := own_read R1 hi ha
      refine ⟨.ref l, g1, ?_⟩
      refine AftS.bind R1 q1 fun b p2 S2 H2 w _ e2 R2 r2 q2 => ?_
      cases b <;> first | exact q2.elim | skip
      rename_i k _
      rw [Rep.int_iff] at r2
      subst r2
      dsimp only at q2
      cases z : ixN xs.length k with
      | none => rw [z] at q2; exact q2.elim
      | some k' =>
        rw [z] at q2
        obtain ⟨ws, h4, h5⟩ := own_same R2 hi ha g1
        obtain ⟨_, fin⟩ := put_ok R2 hi ha g1 (h5.set (Rep.mono e2.sub _ _ r1) k') q2
        exact ⟨l, ws, k, k', rfl, rfl, h4, by rw [← h5.length]; exact z, fin⟩
/-- y = x.pop(), y = x.pop(0) -/
def popM (i y : Nat) : MS' := ownL i fun xs ρ => match xs.getLast? with
  | some a => ret (.nx ((ρ.set i (some (.lst xs.dropLast))).set y (some a)))
  | none => no
end
end Mir

/-! Mir13: own exceptions: made, raised. -/
namespace Mir
open PySem PySem.Spec PyProof.Rows L2
section
variable {X : Cx} {D : Dcl} {own own' own2 ownB : List Nat} {xk : XK}
/-- M.__init__(self, ..), M an own class whose __init__ is ValueError's -/
structure MindC (K : PySem.W.Frag) (C : Addr) : Prop where
  sp : PySem.W.specialIn K (.ref C) "__getattribute__" = some (some (.builtin "type.__getattribute__"))
  rd : PySem.W.readsIn K C (.type "type") = true
  fi : PySem.W.findCls K (.ref C) (.type "type") "__init__" = some (.val (.builtin "ValueError.__init__"))
theorem pe_minit {x : Str} {C : Addr} {e : Expr} {es : List Expr} {ta : TA} {p1 p2 pos : Pos} {pl : Sem Bool} (T0 : MindC X.K C) (hg : Gl X x) (hm : X.mg x = some (.ref C)) (ha : PA X (e :: es) ta) (hdb : (x == ("__debug__" : Str)) = false := by decide)
    (hc : eval (.Call (.Attribute (.Name x p1) "__init__" p2) (e :: es) [] pos) X.env = (do
      let ov ← eval (.Name x p1) X.env
      standAt p2.atName
      let (f, first) ← holding [ov] (getMethod ov "__init__" pl)
      callWith pos f first (backTo pos (starEach (e :: es) X.env)) (backToKw pos (keywordEach [] X.env))) := by rfl)
    (he : starEach (e :: es) X.env = (false, eval e X.env) :: starEach es X.env := by rfl) (hpl : (backTo pos (starEach es X.env)).any (·.1) = false := by rfl) :
    PE X (.Call (.Attribute (.Name x p1) "__init__" p2) (e :: es) [] pos) (tVeI X.K ta) := by
  refine ⟨fun pins s σ H Q I h => PySem.W.methodCall_KW (ld_glob I hg hm ?_ hdb) hc⟩
  refine PySem.W.method_cls I.kIn T0.sp (PySem.W.cls_value I.kIn T0.rd T0.fi rfl ?_)
  show wpAny _ _ (callWith pos (Value.builtin "ValueError.__init__") [] (backTo pos (starEach (e :: es) X.env)) []) _ _ _
  refine PyProof.Rows.callWith_method1 (thn (ha.run pos pins _ σ H _ (I.tok _) h) fun us s1 ⟨vs, H1, I1, r1, a, C', ws, ev, hl, T, ea, q⟩ => ?_) he hpl
  subst ev
  cases r1 with
  | cons ra rr =>
    cases ra
    exact oinit_ok T I1 ea (by rw [← Paired.length rr, sizeLine_eq]; omega) fun s' J => ⟨.non, H1, J, rfl, q⟩
/-- the promise of an exception's __init__: its fields, the last one first -/
def spI (K : PySem.W.Frag) (C : Addr) (fs : List Str) : Sp := fun vs H Q _ => ∃ (a : Addr) (ws : List V), vs = .ref a :: ws ∧ ws.length = fs.length ∧ H a = some (exo a C none) ∧ ∀ d, H d = none → d ≠ a → Q .non (upd (upd H d (exd d (fs.zip ws.reverse))) a (exo a C (some d)))
structure ExcK (P : Program) (w : World) (K : PySem.W.Frag) (mg : Str → Option Value) (base : Heap) (D : Dcl) (k : Nat) (x : Str) (c : Nat) : Prop where
  ex : ∃ (C fI : Addr) (fd : FuncData) (ps : List Str), mg x = some (.ref C) ∧ D.cls c = some C ∧ OexC K C ∧ PySem.W.findIn K (.ref C) "__init__" = some (some (.ref fI)) ∧ PySem.W.typeIn K (.ref fI) = some (.type "function") ∧ L2.Binds K fd ps [] ∧
    FnOk P w K mg base (L2.CX P w) k fI fd ps (spI K C (D.flds c))
theorem upd_swap {H : Hp} {a b : Addr} {o u : HO} (h : a ≠ b) : upd (upd H a o) b u = upd (upd H b u) a o := by
  funext c
  unfold upd
  by_cases h1 : c = a
  · subst h1
    simp [h]
  · by_cases h2 : c = b
    · subst h2
      simp [h1]
    · simp [h1, h2]
/-! raise C(..) -/
def raiseM (c n : Nat) (ms : Env' → M (List A)) : MS' := fun ρ => bd (ms ρ) fun as => if as.length = n ∧ n ≤ 1000 then fun p => .exc c as.reverse p else no
theorem passF {X : Cx} : Passes (L2.CX X.prog X.w) X (fun _ _ _ => False) := fun _ _ _ _ _ _ _ h => by
  obtain ⟨_, _, _, _, _, _, _, _, _, _, _, _, z⟩ := h
  exact z.elim
theorem Reps.mem {K : PySem.W.Frag} {S : Hp} {xs ys : List A} {vs ws : List V} (r : Reps K D S xs vs) (h : Reps K D S ys ws) : Reps K D S (xs ++ ys) (vs ++ ws) := r.append h
theorem ms_raise {k j c n : Nat} {x : Str} {e : Expr} {es : List Expr} {ms : Env' → M (List A)} {p pos rpos : Pos} (F : ExcK X.prog X.w X.K X.mg X.base D k x c) (hc : X.calm = true) (tk : Takes X (fun cls d _ H => xk cls d H)) (hr : Room j X.A) (hk : k + 1 ≤ j) (hn : (D.flds c).length = n) (hg : Gl X x) (ha : MA X D own xk (e :: es) ms)
    (hdb : (x == ("__debug__" : Str)) = false := by decide) (he : starEach (e :: es) X.env = (false, eval e X.env) :: starEach es X.env := by rfl) (hpl : (backTo pos (starEach es X.env)).any (·.1) = false := by rfl) :
    MS X D own own' ownB xk (.Raise (some (.Call (.Name x p) (e :: es) [] pos)) none rpos) (raiseM c n ms) := by
  obtain ⟨C, fI, fd, ps, hm, hD, T, iC, tI, hb, F1⟩ := F.ex
  refine PS.of (ps_raise hc tk (pmk_oex T iC tI F1 (hr.mono hk) hb .nil passF hg hm ha hdb he hpl)) fun N σ H q => ?_
  obtain ⟨S0, H0, S, ρ, p, R, q⟩ := q
  refine AftS.bind R q fun as p1 S1 H1 vs _ e1 R1 r1 q1 => ?_
  split at q1
  · rename_i hz
    refine ⟨by rw [← r1.length]; omega, fun a ha => ?_⟩
    rw [List.append_nil]
    refine ⟨a, vs, rfl, by rw [hn, ← hz.1, r1.length], upd_same, fun d hd nd => ⟨rfl, d, (D.flds c).zip vs.reverse, upd_same, by rw [upd_ne nd, upd_same], ?_, ?_⟩⟩
    · rw [upd_ne nd] at hd
      exact hd
    · rw [upd_ne nd] at hd
      obtain ⟨g2, e2⟩ := R1.good.newOwn (o := .xd ((D.flds c).zip vs.reverse)) hd (fun _ z => by cases z) (fun _ z => by cases z)
      have eH : upd (del (upd (upd (upd H1 a (exo a C none)) d (exd d ((D.flds c).zip vs.reverse))) a (exo a C (some d))) a) d (.xd ((D.flds c).zip vs.reverse)) = upd H1 d (.xd ((D.flds c).zip vs.reverse)) := by
        funext b
        by_cases hb1 : b = d
        · subst hb1
          rw [upd_same, upd_same]
        · rw [upd_ne hb1, upd_ne hb1]
          by_cases hb2 : b = a
          · subst hb2
            rw [del_same, ha]
          · rw [del_ne hb2, upd_ne hb2, upd_ne hb1, upd_ne hb2]
      rw [eH]
      exact q1 S1 _ C d vs.reverse (R1.ext.trans e2.1) g2 (by
        cases z : H0 d with
        | none => rfl
        | some o => exact absurd hd (R1.ext.there d (by rw [z]; exact fun z => (by cases z)))) hD upd_same (by rw [List.length_reverse, hn, ← hz.1, r1.length]) r1.reverse
  · exact q1.elim
end
/-! the __init__ of a class with one, two, three fields -/
theorem init1 {P : Program} {w : World} {K : PySem.W.Frag} {mg : Str → Option Value} {base : Heap} {st : Stmt} {fI C CM : Addr} {fd : FuncData} {qual self xM t : Str} {n1 f1 : Str} {j : Nat} {p1 p2 p3 p4 p5 p6 q1 r1 s1 u1 : Pos} {k : Nat} {pl : Env → Sem Bool}
    (F : L2.Fun K "__init__" qual st fI fd) (S : FnScope [self, n1] [self, n1] (defScope st)) (hb : defBody st = [.Expr (.Call (.Attribute (.Name xM p1) "__init__" p2) [.Name self p3, .Constant (.str t) j p4] [] p5) p6, .Assign [.Attribute (.Name self q1) f1 r1] (.Name n1 s1) u1])
    (hc : ∀ env : Env, eval (.Call (.Attribute (.Name xM p1) "__init__" p2) [.Name self p3, .Constant (.str t) j p4] [] p5) env = (do
      let ov ← eval (.Name xM p1) env
      standAt p2.atName
      let (f, first) ← holding [ov] (getMethod ov "__init__" (pl env))
      callWith p5 f first (backTo p5 (starEach [.Name self p3, .Constant (.str t) j p4] env)) (backToKw p5 (keywordEach [] env)))) (T0 : MindC K CM) (hg : (defScope st).names.lookup xM = some .globalImplicit) (hm : mg xM = some (.ref CM)) (T : OexC K C) (v0 : Vis (defScope st) self) (v1 : Vis (defScope st) n1) (h1 : PySem.W.findIn K (.ref C) f1 = some none)
    (hxM : (xM == ("__debug__" : Str)) = false := by decide) (d0 : (self == ("__debug__" : Str)) = false := by decide) (e0 : (self == ("__classdict__" : Str)) = false := by decide) (d1 : (n1 == ("__debug__" : Str)) = false := by decide) (e1 : (n1 == ("__classdict__" : Str)) = false := by decide) : FnOk P w K mg base (L2.CX P w) (k + 1) fI fd [self, n1] (spI K C [f1]) := by
  refine F.okX S (fun vs H Q E h => ?_) fun cdv A outer s H vs Q E hr h => ?_
  · obtain ⟨a, ws, rfl, hl, _⟩ := h
    simpa using hl
  · obtain ⟨a, ws, rfl, hl, ha, q⟩ := h
    rw [hb]
    refine ⟨_, pss_cons (ps_expr (pe_minit T0 hg hm (pa_cons (pe_var (i := 0) rfl v0 d0 e0) (pa_cons pe_str pa_nil)) hxM (hc _))) (pss_one (ps_ost (pe_var (i := 0) rfl v0 d0 e0) (pe_var (i := 1) rfl v1 d1 e1))), ?_⟩
    match ws, hl with
    | [w1], _ =>
      exact ⟨.ref a, rfl, a, C, _, rfl, by simp, T, ha, ⟨w1, rfl, .ref a, rfl, a, C, rfl, T, h1, .inl ⟨ha, fun d hd nd => by
        have z := q d hd nd
        simp only [upd_swap (Ne.symm nd), upd_upd]
        simp only [upd_swap nd, upd_upd] at z ⊢
        exact z⟩⟩⟩
theorem init2 {P : Program} {w : World} {K : PySem.W.Frag} {mg : Str → Option Value} {base : Heap} {st : Stmt} {fI C CM : Addr} {fd : FuncData} {qual self xM t : Str} {n1 f1 n2 f2 : Str} {j : Nat} {p1 p2 p3 p4 p5 p6 q1 r1 s1 q2 r2 s2 u1 u2 : Pos} {k : Nat} {pl : Env → Sem Bool}
    (F : L2.Fun K "__init__" qual st fI fd) (S : FnScope [self, n1, n2] [self, n1, n2] (defScope st)) (hb : defBody st = [.Expr (.Call (.Attribute (.Name xM p1) "__init__" p2) [.Name self p3, .Constant (.str t) j p4] [] p5) p6, .Assign [.Attribute (.Name self q1) f1 r1] (.Name n1 s1) u1, .Assign [.Attribute (.Name self q2) f2 r2] (.Name n2 s2) u2])
    (hc : ∀ env : Env, eval (.Call (.Attribute (.Name xM p1) "__init__" p2) [.Name self p3, .Constant (.str t) j p4] [] p5) env = (do
      let ov ← eval (.Name xM p1) env
      standAt p2.atName
      let (f, first) ← holding [ov] (getMethod ov "__init__" (pl env))
      callWith p5 f first (backTo p5 (starEach [.Name self p3, .Constant (.str t) j p4] env)) (backToKw p5 (keywordEach [] env)))) (T0 : MindC K CM) (hg : (defScope st).names.lookup xM = some .globalImplicit) (hm : mg xM = some (.ref CM)) (T : OexC K C) (v0 : Vis (defScope st) self) (v1 : Vis (defScope st) n1) (v2 : Vis (defScope st) n2) (h1 : PySem.W.findIn K (.ref C) f1 = some none) (h2 : PySem.W.findIn K (.ref C) f2 = some none)
    (hxM : (xM == ("__debug__" : Str)) = false := by decide) (d0 : (self == ("__debug__" : Str)) = false := by decide) (e0 : (self == ("__classdict__" : Str)) = false := by decide) (d1 : (n1 == ("__debug__" : Str)) = false := by decide) (e1 : (n1 == ("__classdict__" : Str)) = false := by decide) (d2 : (n2 == ("__debug__" : Str)) = false := by decide) (e2 : (n2 == ("__classdict__" : Str)) = false := by decide) : FnOk P w K mg base (L2.CX P w) (k + 1) fI fd [self, n1, n2] (spI K C [f2, f1]) := by
  refine F.okX S (fun vs H Q E h => ?_) fun cdv A outer s H vs Q E hr h => ?_
  · obtain ⟨a, ws, rfl, hl, _⟩ := h
    simpa using hl
  · obtain ⟨a, ws, rfl, hl, ha, q⟩ := h
    rw [hb]
    refine ⟨_, pss_cons (ps_expr (pe_minit T0 hg hm (pa_cons (pe_var (i := 0) rfl v0 d0 e0) (pa_cons pe_str pa_nil)) hxM (hc _))) (pss_cons (ps_ost (pe_var (i := 0) rfl v0 d0 e0) (pe_var (i := 1) rfl v1 d1 e1)) (pss_one (ps_ost (pe_var (i := 0) rfl v0 d0 e0) (pe_var (i := 2) rfl v2 d2 e2)))), ?_⟩
    match ws, hl with
    | [w1, w2], _ =>
      exact ⟨.ref a, rfl, a, C, _, rfl, by simp, T, ha, ⟨w1, rfl, .ref a, rfl, a, C, rfl, T, h1, .inl ⟨ha, fun d hd nd => ⟨w2, rfl, .ref a, rfl, a, C, rfl, T, h2, .inr ⟨d, [(f1, w1)], by simp only [upd_same, upd_ne (Ne.symm nd), upd_ne nd], by simp only [upd_same, upd_ne (Ne.symm nd), upd_ne nd], by simp, by
        have z := q d hd nd
        simp only [upd_swap (Ne.symm nd), upd_upd]
        simp only [upd_swap nd, upd_upd] at z ⊢
        exact z⟩⟩⟩⟩⟩
theorem init3 {P : Program} {w : World} {K : PySem.W.Frag} {mg : Str → Option Value} {base : Heap} {st : Stmt} {fI C CM : Addr} {fd : FuncData} {qual self xM t : Str} {n1 f1 n2 f2 n3 f3 : Str} {j : Nat} {p1 p2 p3 p4 p5 p6 q1 r1 s1 q2 r2 s2 q3 r3 s3 u1 u2 u3 : Pos} {k : Nat} {pl : Env → Sem Bool}
    (F : L2.Fun K "__init__" qual st fI fd) (S : FnScope [self, n1, n2, n3] [self, n1, n2, n3] (defScope st)) (hb : defBody st = [.Expr (.Call (.Attribute (.Name xM p1) "__init__" p2) [.Name self p3, .Constant (.str t) j p4] [] p5) p6, .Assign [.Attribute (.Name self q1) f1 r1] (.Name n1 s1) u1, .Assign [.Attribute (.Name self q2) f2 r2] (.Name n2 s2) u2, .Assign [.Attribute (.Name self q3) f3 r3] (.Name n3 s3) u3])
    (hc : ∀ env : Env, eval (.Call (.Attribute (.Name xM p1) "__init__" p2) [.Name self p3, .Constant (.str t) j p4] [] p5) env = (do
      let ov ← eval (.Name xM p1) env
      standAt p2.atName
      let (f, first) ← holding [ov] (getMethod ov "__init__" (pl env))
      callWith p5 f first (backTo p5 (starEach [.Name self p3, .Constant (.str t) j p4] env)) (backToKw p5 (keywordEach [] env)))) (T0 : MindC K CM) (hg : (defScope st).names.lookup xM = some .globalImplicit) (hm : mg xM = some (.ref CM)) (T : OexC K C) (v0 : Vis (defScope st) self) (v1 : Vis (defScope st) n1) (v2 : Vis (defScope st) n2) (v3 : Vis (defScope st) n3) (h1 : PySem.W.findIn K (.ref C) f1 = some none) (h2 : PySem.W.findIn K (.ref C) f2 = some none) (h3 : PySem.W.findIn K (.ref C) f3 = some none)
    (hxM : (xM == ("__debug__" : Str)) = false := by decide) (d0 : (self == ("__debug__" : Str)) = false := by decide) (e0 : (self == ("__classdict__" : Str)) = false := by decide) (d1 : (n1 == ("__debug__" : Str)) = false := by decide) (e1 : (n1 == ("__classdict__" : Str)) = false := by decide) (d2 : (n2 == ("__debug__" : Str)) = false := by decide) (e2 : (n2 == ("__classdict__" : Str)) = false := by decide) (d3 : (n3 == ("__debug__" : Str)) = false := by decide) (e3 : (n3 == ("__classdict__" : Str)) = false := by decide) : FnOk P w K mg base (L2.CX P w) (k + 1) fI fd [self, n1, n2, n3] (spI K C [f3, f2, f1]) := by
  refine F.okX S (fun vs H Q E h => ?_) fun cdv A outer s H vs Q E hr h => ?_
  · obtain ⟨a, ws, rfl, hl, _⟩ := h
    simpa using hl
  · obtain ⟨a, ws, rfl, hl, ha, q⟩ := h
    rw [hb]
    refine ⟨_, pss_cons (ps_expr (pe_minit T0 hg hm (pa_cons (pe_var (i := 0) rfl v0 d0 e0) (pa_cons pe_str pa_nil)) hxM (hc _))) (pss_cons (ps_ost (pe_var (i := 0) rfl v0 d0 e0) (pe_var (i := 1) rfl v1 d1 e1)) (pss_cons (ps_ost (pe_var (i := 0) rfl v0 d0 e0) (pe_var (i := 2) rfl v2 d2 e2)) (pss_one (ps_ost (pe_var (i := 0) rfl v0 d0 e0) (pe_var (i := 3) rfl v3 d3 e3))))), ?_⟩
    match ws, hl with
    | [w1, w2, w3], _ =>
      exact ⟨.ref a, rfl, a, C, _, rfl, by simp, T, ha, ⟨w1, rfl, .ref a, rfl, a, C, rfl, T, h1, .inl ⟨ha, fun d hd nd => ⟨w2, rfl, .ref a, rfl, a, C, rfl, T, h2, .inr ⟨d, [(f1, w1)], by simp only [upd_same, upd_ne (Ne.symm nd), upd_ne nd], by simp only [upd_same, upd_ne (Ne.symm nd), upd_ne nd], by simp, ⟨w3, rfl, .ref a, rfl, a, C, rfl, T, h3, .inr ⟨d, [(f2, w2), (f1, w1)], by simp only [upd_same, upd_ne (Ne.symm nd), upd_ne nd], by simp only [upd_same, upd_ne (Ne.symm nd), upd_ne nd], by simp, by
        have z := q d hd nd
        simp only [upd_swap (Ne.symm nd), upd_upd]
        simp only [upd_swap nd, upd_upd] at z ⊢
        exact z⟩⟩⟩⟩⟩⟩⟩

end Mir

/-! Mir14: lambdas without parameters: what they are, how they are called. -/
namespace Mir
open PySem PySem.Spec PyProof.Rows L2
mutual
def noClo : A → Bool
  | .tup xs => noClos xs
  | .lst xs => noClos xs
  | .ins _ xs => noClos xs
  | .dct _ xs => noClos xs
  | .clo _ _ => false
  | .fn _ => false
  | _ => true
def noClos : List A → Bool
  | [] => true
  | x :: xs => noClo x && noClos xs
end
/-- told alike, but for the lambdas of a frame -/
structure Same (D D' : Dcl) : Prop where
  π : D'.π = D.π
  κ : D'.κ = D.κ
  T : D'.T = D.T
  cls : D'.cls = D.cls
  flds : D'.flds = D.flds
  fns : D'.fns = D.fns
  lams : D'.lams = D.lams
  xc : D'.xc = D.xc
/-- told alike, but for lambdas and defs as values -/
structure Told (D D' : Dcl) : Prop where
  π : D'.π = D.π
  cls : D'.cls = D.cls
  flds : D'.flds = D.flds
theorem Same.told {D D' : Dcl} (s : Same D D') : Told D D' := ⟨s.π, s.cls, s.flds⟩
section
variable {K : PySem.W.Frag} {D D' : Dcl} {S S' : Hp}
theorem SqT.bare {K : PySem.W.Frag} (h : ∀ a o, S a = some o → (∀ φ, o ≠ .ext φ) → S' a = some o) {a : Addr} {vs : List V} (q : SqT K S a vs) : SqT K S' a vs := by
  rcases q with (q | ⟨o, q⟩) | q
  · exact .inl (.inl (h _ _ q fun _ z => (by cases z)))
  · exact .inl (.inr ⟨o, h _ _ q fun _ z => (by cases z)⟩)
  · exact .inr q
mutual
theorem Rep.bareT (sm : Told D D') (h : ∀ a o, S a = some o → (∀ φ, o ≠ .ext φ) → S' a = some o) : ∀ (a : A) (v : V), noClo a = true → Rep K D S a v → Rep K D' S' a v
  | .non, _, _, q => by simpa only [Rep] using q
  | .bl _, _, _, q => by simpa only [Rep] using q
  | .int _, _, _, q => by simpa only [Rep] using q
  | .str _, _, _, q => by simpa only [Rep] using q
  | .tup xs, _, n, q => by
    simp only [Rep, noClo] at q n ⊢
    obtain ⟨a, vs, e, s, r⟩ := q
    exact ⟨a, vs, e, SqT.bare h s, Reps.bareT sm h xs vs n r⟩
  | .lst xs, _, n, q => by
    simp only [Rep, noClo] at q n ⊢
    obtain ⟨a, vs, e, s, r⟩ := q
    exact ⟨a, vs, e, h _ _ s fun _ z => (by cases z), Reps.bareT sm h xs vs n r⟩
  | .ins c fs, _, n, q => by
    simp only [Rep, noClo] at q n ⊢
    obtain ⟨a, C, dx, vs, e, c, s, l, r⟩ := q
    rw [sm.cls, sm.flds]
    exact ⟨a, C, dx, vs, e, c, h _ _ s fun _ z => (by cases z), l, Reps.bareT sm h fs vs n r⟩
  | .dct ks xs, _, n, q => by
    simp only [Rep, noClo] at q n ⊢
    obtain ⟨a, vs, e, s, l, r⟩ := q
    exact ⟨a, vs, e, h _ _ s fun _ z => (by cases z), l, Reps.bareT sm h xs vs n r⟩
  | .clo _ _, _, n, _ => by simp only [noClo] at n; cases n
  | .fn _, _, n, _ => by simp only [noClo] at n; cases n
  | .pen, _, _, q => by simp only [Rep] at q ⊢; rw [sm.π]; exact q
theorem Reps.bareT (sm : Told D D') (h : ∀ a o, S a = some o → (∀ φ, o ≠ .ext φ) → S' a = some o) : ∀ (xs : List A) (vs : List V), noClos xs = true → Reps K D S xs vs → Reps K D' S' xs vs
  | [], _, _, q => by simpa only [Reps] using q
  | x :: xs, _, n, q => by
    simp only [Reps, noClos, Bool.and_eq_true] at q n ⊢
    obtain ⟨v, r, e, a, b⟩ := q
    exact ⟨v, r, e, Rep.bareT sm h x v n.1 a, Reps.bareT sm h xs r n.2 b⟩
end
end
theorem Rep.bare {K : PySem.W.Frag} {D D' : Dcl} {S S' : Hp} (sm : Same D D') (h : ∀ a o, S a = some o → (∀ φ, o ≠ .ext φ) → S' a = some o) (a : A) (v : V) (n : noClo a = true) (q : Rep K D S a v) : Rep K D' S' a v := Rep.bareT sm.told h a v n q
theorem Reps.bare {K : PySem.W.Frag} {D D' : Dcl} {S S' : Hp} (sm : Same D D') (h : ∀ a o, S a = some o → (∀ φ, o ≠ .ext φ) → S' a = some o) (xs : List A) (vs : List V) (n : noClos xs = true) (q : Reps K D S xs vs) : Reps K D' S' xs vs := Reps.bareT sm.told h xs vs n q
/-! ### what a lambda captured, hidden and told again -/
open Classical in
/-- without the captured cells -/
noncomputable def hide (c : Addr → Prop) (H : Hp) : Hp := fun b => if c b then none else H b
open Classical in
noncomputable def show_ (c : Addr → Prop) (H H' : Hp) : Hp := fun b => if c b then H b else H' b
section
variable {c : Addr → Prop} {H H' : Hp}
theorem hide_in {b : Addr} (h : c b) : hide c H b = none := if_pos h
theorem hide_out {b : Addr} (h : ¬ c b) : hide c H b = H b := if_neg h
theorem hide_some {b : Addr} {o : HO} (h : hide c H b = some o) : ¬ c b ∧ H b = some o := by
  by_cases z : c b
  · rw [hide_in z] at h; cases h
  · rw [hide_out z] at h; exact ⟨z, h⟩
theorem show_in {b : Addr} (h : c b) : show_ c H H' b = H b := if_pos h
theorem show_out {b : Addr} (h : ¬ c b) : show_ c H H' b = H' b := if_neg h
end
/-- the cells c stand in h as H tells -/
def Cells (c : Addr → Prop) (H : Hp) (h : Heap) : Prop := ∀ b, c b → ∃ o v, H b = some (CelO b o) ∧ h.get? b = some o ∧ o.data = .cell v
theorem CelO.ne_own {b : Addr} {o : Obj} {x : Addr} : CelO b o ≠ .own x := fun z => by unfold CelO at z; cases z
theorem CelO.ne_tup {b : Addr} {o : Obj} {x : List V} : CelO b o ≠ .tup x := fun z => by unfold CelO at z; cases z
theorem CelO.ne_frz {b : Addr} {o u : Obj} {x : HO} : CelO b o ≠ .frz u x := fun z => by unfold CelO at z; cases z
theorem CelO.ne_tbl {b : Addr} {o : Obj} {x : Array Value} : CelO b o ≠ .tbl x := fun z => by unfold CelO at z; cases z
theorem CelO.inj {b : Addr} {o u : Obj} {h : Heap} (z : CelO b o = CelO b u) (e : h.get? b = some o) : o = u := by
  unfold CelO at z
  have z := HO.ext.inj z
  have y := congrFun z h
  have : (h.get? b = some u) := by rw [← y]; exact e
  rw [e] at this
  exact Option.some.inj this
theorem CelO.ne_code {b : Addr} {o : Obj} {q : Str} {v : Option Value} {h : Heap} (e : h.get? b = some o) (d : o.data = .cell v) : CelO b o ≠ LamX.CodeO b q := fun z => by
  unfold CelO LamX.CodeO at z
  have z := HO.ext.inj z
  have y := congrFun z h
  have : ∃ (oc : Obj) (vs : Array Value) (t : Tok), h.get? b = some oc ∧ oc.data = .fields vs ∧ vs[1]? = some (.str q t) := by rw [← y]; exact e
  obtain ⟨oc, vs, t, e1, e2, _⟩ := this
  rw [e] at e1
  cases e1
  rw [d] at e2
  cases e2
section
variable {P : Program} {w : World} {K : PySem.W.Frag} {mg : Str → Option Value} {base : Heap} {A : Around} {outer : List Env} {s s' : Shared} {H H' : Hp} {c : Addr → Prop}
theorem Cells.ho {h : Heap} (C : Cells c H h) {b : Addr} (hb : c b) : H b ≠ none := by
  obtain ⟨o, v, e, _⟩ := C b hb
  rw [e]
  exact fun z => (by cases z)
theorem HOk.hide {h : Heap} (C : Cells c H h) (hok : HOk P w H h) : HOk P w (hide c H) h := fun b o e => by
  obtain ⟨nb, e⟩ := hide_some e
  refine (hok b o e).stay (fun _ _ _ z => z) (fun d hd => ?_) fun d xs hd => ?_
  · rw [hide_out fun z => ?_]
    · exact hd
    · obtain ⟨o', v, e', _⟩ := C d z
      rw [e'] at hd
      exact CelO.ne_own (Option.some.inj hd)
  · rw [hide_out fun z => ?_]
    · exact hd
    · obtain ⟨o', v, e', _⟩ := C d z
      rw [e'] at hd
      exact CelO.ne_tup (Option.some.inj hd)
theorem Env0.hide (C : Cells c H s.heap) (e : Env0 P w K mg base A outer s H) : Env0 P w K mg base A outer s (Mir.hide c H) where
  frames := e.frames
  mod := e.mod
  bs := fun b o h => ⟨(e.bs b o h).1, by
    by_cases z : c b
    · exact hide_in z
    · rw [hide_out z]; exact (e.bs b o h).2⟩
  bsz := e.bsz
  funs := e.funs
  frf := fun b hb => by
    by_cases z : c b
    · exact hide_in z
    · rw [hide_out z]; exact e.frf b hb
  hok := HOk.hide C e.hok
  bare := e.bare
theorem HOk.show {h h' : Heap} (C : Cells c H h) (k : ∀ b, c b → ∀ o, h.get? b = some o → h'.get? b = some o) (n : ∀ b, c b → H' b = none) (hok : HOk P w H' h') : HOk P w (show_ c H H') h' := fun b o e => by
  by_cases z : c b
  · rw [show_in z] at e
    obtain ⟨o', v, e1, e2, _⟩ := C b z
    rw [e] at e1
    cases e1
    exact ⟨k b z _ e2, ⟨_, k b z _ e2⟩, fun h1 h2 q st => st _ q⟩
  · rw [show_out z] at e
    refine (hok b o e).stay (fun _ _ _ z => z) (fun d hd => ?_) fun d xs hd => ?_
    · rw [show_out fun y => by rw [n d y] at hd; cases hd]
      exact hd
    · rw [show_out fun y => by rw [n d y] at hd; cases hd]
      exact hd
/-- back from a call that was told nothing of the cells -/
theorem CE.show (C : Cells c H s.heap) (e0 : Env0 P w K mg base A outer s H) {Q : VK} {u : Value} (h : CE outer P w (hide c H) s (fun v H' => (∀ b, c b → H' b = none) → Q v (show_ c H H')) u s') : CE outer P w H s Q u s' := by
  obtain ⟨v, H', os, bare, un, hok, r, q⟩ := h
  have nf : ∀ b, c b → b ∉ frs outer := fun b z hb => C.ho z (e0.frf b hb)
  have kc : ∀ b, c b → ∀ o, s.heap.get? b = some o → s'.heap.get? b = some o := fun b z o e => un.keep b o e (hide_in z) (nf b z) (by simp)
  have nc : ∀ b, c b → H' b = none := fun b z => by
    obtain ⟨o, v, _, e, _⟩ := C b z
    exact un.free b o e (hide_in z) (by simp)
  have nn : ∀ b, H b = none → ¬ c b := fun b e z => C.ho z e
  refine ⟨v, show_ c H H', os, bare, ⟨fun b o e n hf hx => un.keep b o e (by rw [hide_out (nn b n)]; exact n) hf hx, fun b o e n hf hx => un.slot b o e (by rw [hide_out (nn b n)]; exact n) hf hx, fun b o e n hx => ?_, un.there, fun b xs e => ?_, fun b o u e => ?_, fun b ps e => ?_⟩, HOk.show C kc nc hok, r, q nc⟩
  · rw [show_out (nn b n)]
    exact un.free b o e (by rw [hide_out (nn b n)]; exact n) hx
  · by_cases z : c b
    · rw [show_in z]; exact e
    · rw [show_out z]; exact un.tups b xs (by rw [hide_out z]; exact e)
  · by_cases z : c b
    · rw [show_in z]; exact e
    · rw [show_out z]; exact un.frzs b o u (by rw [hide_out z]; exact e)
  · by_cases z : c b
    · obtain ⟨o, v, e1, _⟩ := C b z
      rw [e] at e1
      exact absurd (Option.some.inj e1).symm CelO.ne_tbl
    · rw [show_out z]; exact un.tbls b ps (by rw [hide_out z]; exact e)
theorem CX.show (C : Cells c H s.heap) (e0 : Env0 P w K mg base A outer s H) {E : XK} {u : Value} (h : L2.CX P w outer (hide c H) s (fun cl d H' => (∀ b, c b → H' b = none) → E cl d (show_ c H H')) u s') : L2.CX P w outer H s E u s' := by
  obtain ⟨a, B, H', cls, d, rfl, fl, hok, ub, na, os, ag, hE⟩ := h
  have nf : ∀ b, c b → b ∉ frs outer := fun b z hb => C.ho z (e0.frf b hb)
  have kc : ∀ b, c b → ∀ o, s.heap.get? b = some o → B.get? b = some o := fun b z o e => ub.keep b o e (hide_in z) (nf b z)
  have nc : ∀ b, c b → H' b = none := fun b z => by
    obtain ⟨o, v, _, e, _⟩ := C b z
    exact ub.free b o e (hide_in z)
  have nn : ∀ b, H b = none → ¬ c b := fun b e z => C.ho z e
  refine ⟨a, B, show_ c H H', cls, d, rfl, fl, HOk.show C kc nc hok, ⟨fun b o e n hf => ub.keep b o e (by rw [hide_out (nn b n)]; exact n) hf, ub.slot, fun b o e n => ?_, ub.there, fun b xs e => ?_, fun b o u e => ?_, fun b ps e => ?_⟩, ?_, os, ag, hE nc⟩
  · rw [show_out (nn b n)]
    exact ub.free b o e (by rw [hide_out (nn b n)]; exact n)
  · by_cases z : c b
    · rw [show_in z]; exact e
    · rw [show_out z]; exact ub.tups b xs (by rw [hide_out z]; exact e)
  · by_cases z : c b
    · rw [show_in z]; exact e
    · rw [show_out z]; exact ub.frzs b o u (by rw [hide_out z]; exact e)
  · by_cases z : c b
    · obtain ⟨o, v, e1, _⟩ := C b z
      rw [e] at e1
      exact absurd (Option.some.inj e1).symm CelO.ne_tbl
    · rw [show_out z]; exact ub.tbls b ps (by rw [hide_out z]; exact e)
  · by_cases z : c a
    · obtain ⟨o, v, _, e, _⟩ := C a z
      have y := kc a z o e
      rw [fl.2.1] at y
      cases y
    · rw [show_out z]; exact na
end
end Mir

/-! Mir15: x(), x a lambda that was handed in. -/
namespace Mir
open PySem PySem.Spec PyProof.Rows L2
/-- the place where a lambda's body runs -/
def lamX (P : Program) (w : World) (K : PySem.W.Frag) (mg : Str → Option Value) (base : Heap) (L : Lam) (cl : List (Str × Addr)) (B : Around) (fl : List Env) (t : Shared) (H : Hp) (E : XK) (f c' : Addr) : Cx :=
  { prog := P, w := w, K := K, mg := mg, base := base, A := B.deeper (PySem.W.envX L.q L.scope t.heap.objs.size f (.ref c') cl), N := L.fr, s_0 := t, H_0 := H,
    env := PySem.W.envX L.q L.scope t.heap.objs.size f (.ref c') cl, outer := fl, stack := PySem.W.envX L.q L.scope t.heap.objs.size f (.ref c') cl :: fl, ex := [], fn := fun _ => false, calm := true, pn := [],
    xe := fun e u => wpAny (model P w) (B.deeper (PySem.W.envX L.q L.scope t.heap.objs.size f (.ref c') cl)) (leaving (PySem.W.envX L.q L.scope t.heap.objs.size f (.ref c') cl) e) (fun _ u' => L2.CX P w fl H t E e u') (fun e' u' => L2.CX P w fl H t E e' u') u }
/-- what its text must be -/
structure LamF (L : Lam) : Prop where
  kind : L.scope.kind = .function
  co : L.scope.isCoroutine = false
  gen : L.scope.isGenerator = false
  own : ∀ y ∈ L.scope.names, y.2 ≠ .local ∧ y.2 ≠ .cell
  free : ∀ y, L.scope.names.lookup y = some .free → y ∈ L.fr
  bind : ∀ (cl : List (Str × Addr)) (pm cv ctv : Value), bindArgs (PySem.W.kla_fn "<lambda>" L.q L.params L.body L.scope cl pm cv ctv) ⟨[], []⟩ = pure []
/-- the lambdas by their plain meanings -/
structure LamOk (P : Program) (w : World) (K : PySem.W.Frag) (mg : Str → Option Value) (base : Heap) (D : Dcl) (k : Nat) (sem : Nat → List A → M A) : Prop where
  ok : ∀ n L, D.lams n = some L → LamF L ∧ ∃ m : ME', (∀ caps, sem n caps = m (caps.map some)) ∧ ∀ (cl : List (Str × Addr)) (B : Around) (fl : List Env) (t : Shared) (H : Hp) (E : XK) (f c' : Addr), Room k (B.deeper (PySem.W.envX L.q L.scope t.heap.objs.size f (.ref c') cl)) →
    ME (lamX P w K mg base L cl B fl t H E f c') D [] E L.body m
section
variable {P : Program} {w : World} {K : PySem.W.Frag} {mg : Str → Option Value} {base : Heap} {D : Dcl}
theorem lam_begin {L : Lam} {cl : List (Str × Addr)} {B : Around} {fl : List Env} {t : Shared} {H : Hp} {E : XK} {f c' : Addr} {vs : List V} {h₁ : Heap} {tk : Nat} (F : LamF L) (e0 : Env0 P w K mg base B fl t H) (hd : B.handled = none)
    (inj : ∀ x y c, cl.lookup x = some c → cl.lookup y = some c → x = y) (cells : ∀ y c, cl.lookup y = some c → H c = none ∧ ∃ v, t.heap.IsCell c v) (hl : L.fr.length = vs.length)
    (at_ : ∀ (i : Nat) y v, L.fr[i]? = some y → vs[i]? = some v → ∃ (c : Addr) (u : Value), cl.lookup y = some c ∧ t.heap.IsCell c (some u) ∧ RelV v u)
    (hns : h₁.Ns t.heap.objs.size fun y => ([] : List (Str × Value)).reverse.lookup y) (kp : ∀ b o, t.heap.get? b = some o → h₁.get? b = some o) :
    Inv (lamX P w K mg base L cl B fl t H E f c') [] (vs.map some) H { t with heap := h₁, toks := tk } := by
  have cellK : ∀ {c : Addr} {v : Option Value}, t.heap.IsCell c v → h₁.IsCell c v := fun {c v} ⟨o, ho, hd⟩ => ⟨o, kp _ _ ho, hd⟩
  have noA : ∀ b : Addr, b ∉ (lamX P w K mg base L cl B fl t H E f c').ex := fun b z => absurd (show b ∈ ([] : List Addr) from z) (by simp)
  have fre : ∀ y, L.scope.names.lookup y = some .free → ∃ c, cl.lookup y = some c := fun y hy => by
    have hm := F.free y hy
    obtain ⟨i, hi, e⟩ := List.getElem_of_mem hm
    obtain ⟨c, u, h1, _⟩ := at_ i y (vs[i]'(by omega)) (by rw [List.getElem?_eq_getElem hi, e]) (List.getElem?_eq_getElem (by omega))
    exact ⟨c, h1⟩
  refine ⟨⟨e0.mod, F.kind, rfl, rfl, Nat.le_refl _, inj, fun y hy => ?_, fun y c z _ => ?_, fun _ => hd, Around.frames_deeper e0.frames, .inr ⟨rfl, rfl⟩, fun b z => absurd z (noA b), e0.bs, e0.bsz, fun b _ _ => noA b,
      fun b z => absurd z (noA b), e0.funs, e0.frf⟩,
    rfl, e0.bare, Un.kept kp, ⟨_, hns, fun i y v e1 e2 e3 => ?_⟩, fun y c e => ?_, e0.hok.fresh (Nat.le_refl _), fun y c e => (cells y c e).1, fun q hq => absurd (show q ∈ ([] : List (Addr × Obj)) ++ [] from hq) (by simp), e0.hok.kept kp, by rw [List.length_map]; exact hl.symm⟩
  · have hy : L.scope.names.lookup y = some .cell ∨ L.scope.names.lookup y = some .free := hy
    rcases hy with hy | hy
    · exact absurd rfl (F.own _ (PySem.mem_of_lookup hy)).2
    · exact fre y hy
  · have z : false = true := z
    cases z
  · have e3 : Vis L.scope y := e3
    rcases e3 with k | k | k
    · exact absurd rfl (F.own _ (PySem.mem_of_lookup k)).1
    · exact absurd rfl (F.own _ (PySem.mem_of_lookup k)).2
    · have e2' : vs[i]? = some v := by
        rw [List.getElem?_map] at e2
        cases z : vs[i]? with
        | none => rw [z] at e2; cases e2
        | some v' =>
          rw [z] at e2
          have e2 := Option.some.inj (Option.some.inj e2)
          rw [e2]
      obtain ⟨c, u, h1, h2, h3⟩ := at_ i y v e1 e2'
      exact ⟨u, h3, .inr ⟨.inr k, c, h1, cellK h2⟩⟩
  · obtain ⟨v, z⟩ := (cells y c e).2
    exact ⟨v, cellK z⟩
end
section
variable {X : Cx} {D : Dcl} {own : List Nat} {xk : XK}
def actM (sem : Nat → List A → M A) (i : Nat) : ME' := fun ρ => match ρ[i]? with
  | some (some (.clo n caps)) => if noClos caps = true then sem n caps else no
  | _ => no
theorem Same.refl : Same D D := ⟨rfl, rfl, rfl, rfl, rfl, rfl, rfl, rfl⟩
/-- the cells hidden, what stands still stands still -/
theorem Good.hide {S H : Hp} {p : Pen} {c : Addr → Prop} {h : Heap} (g : Good D S H p) (hxc : D.xc = none) (C : Cells c H h) (CS : ∀ b, c b → S b = H b) : Good D (hide c S) (hide c H) p := by
  have nc : ∀ b o, H b = some o → (∀ u, o ≠ CelO b u) → ¬ c b := fun b o e n z => by
    obtain ⟨u, v, e1, _⟩ := C b z
    rw [e] at e1
    exact n u (Option.some.inj e1)
  have nk : ¬ c D.κ := nc _ _ (g.sub _ _ g.pen.2) fun u z => by unfold CelO at z; cases z
  have np : ¬ c D.π := nc _ _ g.pen.1 fun u z => by unfold CelO at z; cases z
  refine ⟨fun a o e => ?_, by rw [hide_out np]; exact g.npen, fun a ps e => g.ntbl a ps (hide_some e).2, ⟨by rw [hide_out np]; exact g.pen.1, by rw [hide_out nk]; exact g.pen.2⟩, ⟨fun t ht => ?_, fun a φ e => ?_, fun a ps e => g.tabs.tbls a ps (hide_some e).2, fun Sx e => by rw [hxc] at e; cases e⟩⟩
  · obtain ⟨n, e⟩ := hide_some e
    rw [hide_out n]
    exact g.sub a o e
  · obtain ⟨ps, h1, h2, h3⟩ := g.tabs.tabs t ht
    refine ⟨ps, by rw [hide_out (nc _ _ h1 fun u z => CelO.ne_tbl z.symm)]; exact h1, h2, fun pos cv hc => ?_⟩
    obtain ⟨a, e1, e2⟩ := h3 pos cv hc
    refine ⟨a, e1, ?_⟩
    rw [hide_out fun z => ?_]
    · exact e2
    · obtain ⟨u, v, k1, k2, k3⟩ := C a z
      rw [e2] at k1
      exact CelO.ne_code k2 k3 (Option.some.inj k1).symm
  · obtain ⟨n, e⟩ := hide_some e
    rw [hide_out n]
    exact g.tabs.exts a φ e
/-- .. and told again -/
theorem Good.show {S H S' H' : Hp} {p p' : Pen} {c : Addr → Prop} {h : Heap} (g : Good D S H p) (hxc : D.xc = none) (C : Cells c H h) (CS : ∀ b, c b → S b = H b) (g' : Good D S' H' p') (n : ∀ b, c b → H' b = none) : Good D (show_ c S S') (show_ c H H') p' := by
  have nc : ∀ b o, H' b = some o → ¬ c b := fun b o e z => by rw [n b z] at e; cases e
  have np : ¬ c D.π := nc _ _ g'.pen.1
  have nk : ¬ c D.κ := nc _ _ (g'.sub _ _ g'.pen.2)
  refine ⟨fun a o e => ?_, by rw [show_out np]; exact g'.npen, fun a ps e => ?_, ⟨by rw [show_out np]; exact g'.pen.1, by rw [show_out nk]; exact g'.pen.2⟩, ⟨fun t ht => ?_, fun a φ e => ?_, fun a ps e => ?_, fun Sx e => by rw [hxc] at e; cases e⟩⟩
  · by_cases z : c a
    · rw [show_in z] at e ⊢
      exact g.sub a o e
    · rw [show_out z] at e ⊢
      exact g'.sub a o e
  · by_cases z : c a
    · rw [show_in z] at e
      exact g.ntbl a ps e
    · rw [show_out z] at e
      exact g'.ntbl a ps e
  · obtain ⟨ps, h1, h2, h3⟩ := g'.tabs.tabs t ht
    refine ⟨ps, by rw [show_out (nc _ _ h1)]; exact h1, h2, fun pos cv hc => ?_⟩
    obtain ⟨a, e1, e2⟩ := h3 pos cv hc
    exact ⟨a, e1, by rw [show_out (nc _ _ e2)]; exact e2⟩
  · by_cases z : c a
    · rw [show_in z] at e ⊢
      exact g.tabs.exts a φ e
    · rw [show_out z] at e ⊢
      exact g'.tabs.exts a φ e
  · by_cases z : c a
    · rw [show_in z] at e
      exact g.tabs.tbls a ps e
    · rw [show_out z] at e
      exact g'.tabs.tbls a ps e
theorem Ext.show {S H S' H' : Hp} {p p' : Pen} {c : Addr → Prop} {h : Heap} (g : Good D S H p) (C : Cells c H h) (CS : ∀ b, c b → S b = H b) (e : Ext D (hide c S) (hide c H) S' H') : Ext D S H (show_ c S S') (show_ c H H') where
  sub := fun a o z => by
    by_cases y : c a
    · rw [show_in y]; exact z
    · rw [show_out y]; exact e.sub a o (by rw [hide_out y]; exact z)
  keep := fun a o z n t => by
    by_cases y : c a
    · rw [show_in y]; exact z
    · rw [show_out y]; exact e.keep a o (by rw [hide_out y]; exact z) n t
  there := fun a z => by
    by_cases y : c a
    · rw [show_in y]; exact z
    · rw [show_out y]; exact e.there a (by rw [hide_out y]; exact z)
  dom := fun a z => by
    by_cases y : c a
    · rw [show_in y] at z; exact .inl z
    · rw [show_out y] at z
      have := e.dom a z
      rw [hide_out y, hide_out y] at this
      exact this
theorem me_act {sem : Nat → List A → M A} {k i : Nat} {x : Str} {p1 p2 : Pos} (LO : LamOk X.prog X.w X.K X.mg X.base D k sem) (hD : ∀ n, D.cl n = none) (hxc : D.xc = none) (hr : Room (k + 1) X.A) (hx : Passes (L2.CX X.prog X.w) X xk) (hN : X.N[i]? = some x) (hv : Vis X.env.scope x) (ho : i ∉ own)
    (hd : (x == ("__debug__" : Str)) = false := by decide) (hcd : (x == ("__classdict__" : Str)) = false := by decide) : ME X D own xk (.Call (.Name x p1) [] [] p2) (actM sem i) := by
  refine ⟨fun pins s σ H Q I q => ?_⟩
  obtain ⟨S0, H0, S, ρ, p, R, q⟩ := q
  unfold actM at q
  cases ea : ρ[i]? with
  | none => rw [ea] at q; exact q.elim
  | some o =>
    rw [ea] at q
    cases o with
    | none => exact q.elim
    | some a =>
      cases a <;> first | exact q.elim | skip
      rename_i n caps
      dsimp only at q
      split at q
      case isFalse => exact q.elim
      rename_i nb
      obtain ⟨v, h1, h2⟩ := R.slot i _ ea ho
      simp only [Rep] at h2
      obtain ⟨f, c', cl, L, ev, hL, hf, hc', h4⟩ := h2
      subst ev
      rcases h4 with ⟨h4, _⟩ | ⟨vs, ⟨⟨cl1, cl2, cl3⟩, cl4⟩, rc⟩
      · rw [hD n] at h4; cases h4
      obtain ⟨F, m, hm, hbody⟩ := LO.ok n L hL
      refine wpAny_Call_Name_kw (thn ((pe_var (pos := p1) (i := i) hN hv hd hcd).run pins s σ H (fun v H1 => v = .ref f ∧ H1 = H) I ⟨.ref f, h1, rfl, rfl⟩) fun u s1 ⟨v, H1, I1, r1, q1⟩ => ?_)
      obtain ⟨ev, eH⟩ := q1
      subst ev
      rw [eH] at I1
      obtain rfl : u = Value.ref f := r1
      obtain ⟨⟨pm, ctv, of1⟩, _, _⟩ := I1.hok f _ (R.good.sub _ _ hf)
      obtain ⟨⟨oc, us, tt, hoc, hdc, hvc⟩, _, _⟩ := I1.hok c' _ (R.good.sub _ _ hc')
      -- the cells
      have fre : ∀ y ∈ L.fr, ∃ (c : Addr) (o : Obj) (u : Value) (j : Nat) (v : V), L.fr[j]? = some y ∧ vs[j]? = some v ∧ cl.lookup y = some c ∧ S c = some (CelO c o) ∧ o.data = .cell (some u) ∧ RelV v u := fun y hy => by
        obtain ⟨j, hj, e⟩ := List.getElem_of_mem hy
        have k1 : L.fr[j]? = some y := by rw [List.getElem?_eq_getElem hj, e]
        have k2 : vs[j]? = some (vs[j]'(by omega)) := List.getElem?_eq_getElem (by omega)
        obtain ⟨c, o, u, g1, g2, g3, g4⟩ := cl4 j y _ k1 k2
        exact ⟨c, o, u, j, _, k1, k2, g1, g2, g3, g4⟩
      have C : Cells (fun b => ∃ y, cl.lookup y = some b) H s1.heap := fun b ⟨y, hy⟩ => by
        obtain ⟨c, o, u, j, v, _, _, g1, g2, g3, g4⟩ := fre y (cl3 y b hy)
        rw [hy] at g1
        have e := Option.some.inj g1
        subst e
        have g5 := R.good.sub _ _ g2
        obtain ⟨g6, _, _⟩ := I1.hok b _ g5
        exact ⟨o, some u, g5, g6, g3⟩
      have CS : ∀ b, (∃ y, cl.lookup y = some b) → S b = H b := fun b ⟨y, hy⟩ => by
        obtain ⟨c, o, u, j, v, _, _, g1, g2, g3, g4⟩ := fre y (cl3 y b hy)
        rw [hy] at g1
        have e := Option.some.inj g1
        subst e
        rw [g2, R.good.sub _ _ g2]
      refine PySem.W.callWith_F0 ⟨_, _, _, _, of1⟩ ?_
      have e0 := I1.env0
      have e1 := Env0.hide C e0
      have gm := R.good.hide hxc C CS
      have run : codeAny (model X.prog X.w) X.A (.call (.ref f) ⟨[], []⟩) (CR (L2.CX X.prog X.w) X.stack X.prog X.w (hide (fun b => ∃ y, cl.lookup y = some b) H) s1
          (fun v H' => (∀ b, (∃ y, cl.lookup y = some b) → H' b = none) → Q v (show_ (fun b => ∃ y, cl.lookup y = some b) H H')) (fun cls d H' => (∀ b, (∃ y, cl.lookup y = some b) → H' b = none) → xk cls d (show_ (fun b => ∃ y, cl.lookup y = some b) H H'))) s1 := by
        refine PySem.W.kla_callFunE hr.depth of1 rfl F.co F.gen rfl ⟨c', oc, us, tt, rfl, hoc, hdc, hvc⟩ ?_
        rw [F.bind]
        refine wpAny_pure (wpAny_newFunctionEnv (fun y hy => (F.own y hy).2) (fun y hy => absurd hy (by simp)) (fun h₁ hns hsb => ⟨I1.nolimit.fresh _ hsb, ?_⟩) F.kind)
        show codeAny _ _ (.expr L.body (PySem.W.envX L.q L.scope s1.heap.objs.size f (.ref c') cl)) _ _
        have kp : ∀ b o, s1.heap.get? b = some o → h₁.get? b = some o := fun b o e => hsb.extBut b o (Nat.ne_of_lt (Heap.lt_size e)) (Heap.get?_push_of_some _ e)
        have J : Inv (lamX X.prog X.w X.K X.mg X.base L cl X.A X.stack s1 (hide (fun b => ∃ y, cl.lookup y = some b) H) (fun cls d H' => (∀ b, (∃ y, cl.lookup y = some b) → H' b = none) → xk cls d (show_ (fun b => ∃ y, cl.lookup y = some b) H H')) f c') [] (vs.map some) (hide (fun b => ∃ y, cl.lookup y = some b) H) { s1 with heap := h₁, toks := s1.toks + ([] : List (Str × Value)).length } := by
          refine lam_begin F e1 hr.hd cl2 (fun y c hy => ⟨hide_in ⟨y, hy⟩, ?_⟩) cl1 (fun j y v k1 k2 => ?_) hns kp
          · obtain ⟨o, v, _, g2, g3⟩ := C c ⟨y, hy⟩
            exact ⟨v, o, g2, g3⟩
          · obtain ⟨c, o, u, g1, g2, g3, g4⟩ := cl4 j y v k1 k2
            obtain ⟨g6, _, _⟩ := I1.hok c _ (R.good.sub _ _ g2)
            exact ⟨c, u, g1, ⟨o, g6, g3⟩, g4⟩
        refine PySem.W.kla_codeExpr (wpAny_mono ((hbody cl X.A X.stack s1 _ _ f c' (hr.deeper _)).run [] _ _ _ (fun v H' => (∀ b, (∃ y, cl.lookup y = some b) → H' b = none) → Q v (show_ (fun b => ∃ y, cl.lookup y = some b) H H')) J ?_) (fun v s' hq => ?_) fun e s' hq => hq)
        · refine ⟨hide (fun b => ∃ y, cl.lookup y = some b) S, hide (fun b => ∃ y, cl.lookup y = some b) H, hide (fun b => ∃ y, cl.lookup y = some b) S, caps.map some, p, ⟨gm, .refl, fun j a hj _ => ?_, fun j a hj hn => absurd hn (by simp), fun j j' a b q' _ _ hn => absurd hn (by simp), ?_⟩, ?_⟩
          · have rc' : Reps X.K D (hide (fun b => ∃ y, cl.lookup y = some b) S) caps vs := Reps.bare Same.refl (fun b o e ne => by
              rw [hide_out fun z => ?_]
              · exact e
              · obtain ⟨o', v, g1, _⟩ := C b z
                rw [← CS b z, e] at g1
                exact ne _ (Option.some.inj g1)) caps vs nb rc
            rw [List.getElem?_map] at hj
            cases z : caps[j]? with
            | none => rw [z] at hj; cases hj
            | some a' =>
              rw [z] at hj
              have hj := Option.some.inj (Option.some.inj hj)
              subst hj
              obtain ⟨v, g1, g2⟩ := rc'.get z
              exact ⟨v, by rw [List.getElem?_map, g1]; rfl, g2⟩
          · rw [List.length_map, List.length_map]
            exact rc.length
          · rw [← hm]
            cases er : sem n caps p with
            | ok a p' =>
              rw [er] at q
              intro S' H' v ex R' rv nn
              have ex2 := Ext.show (p := p) (p' := p) R.good C CS ex
              have g2 := Good.show R.good hxc C CS R'.good nn
              refine q _ _ v ex2 (R.step ex2 g2) (Rep.mono (fun b o e => ?_) _ _ rv)
              by_cases z : ∃ y, cl.lookup y = some b
              · have := R'.good.sub b o e
                rw [nn b z] at this
                cases this
              · rw [show_out z]; exact e
            | exc cc fs p' =>
              rw [er] at q
              intro S' H' C' d ws ex g hd0 hcl hd' hlen rw' nn
              have ex2 := Ext.show (p := p) (p' := p) R.good C CS ex
              have g2 := Good.show R.good hxc C CS g nn
              refine q _ _ C' d ws (R.ext.trans ex2) g2 (by
                rw [hide_out fun z => by rw [nn d z] at hd'; cases hd'] at hd0
                cases z : H0 d with
                | none => rfl
                | some o => exact absurd hd0 (R.ext.there d (by rw [z]; exact fun z => (by cases z)))) hcl ?_ hlen (Reps.mono (fun b o e => ?_) _ _ rw')
              · rw [show_out fun z => by rw [nn d z] at hd'; cases hd']
                exact hd'
              · by_cases z : ∃ y, cl.lookup y = some b
                · have := g.sub b o e
                  rw [nn b z] at this
                  cases this
                · rw [show_out z]; exact e
            | stuck => rw [er] at q; exact q.elim
        · obtain ⟨w', H', J', rv, q'⟩ := hq
          exact ⟨w', H', J'.os, J'.bare, J'.base, J'.hok, rv, q'⟩
      refine wpAny_call (codeAny_mono run fun r s' hq => ?_)
      cases r with
      | error e => exact hx pins σ H s1 e s' I1 (CX.show C e0 hq)
      | ok fl =>
        cases fl with
        | ret u => exact I1.after (CE.show C e0 hq)
        | next => exact False.elim hq
        | brk => exact False.elim hq
        | cont => exact False.elim hq
end
end Mir

/-! Mir16: lambdas made, and handed on. -/
namespace Mir
open PySem PySem.Spec PyProof.Rows L2
section
variable {X : Cx} {D : Dcl} {own own' ownB : List Nat} {xk : XK}
/-- what has become of H where a lambda was made at f, its code at c -/
structure Made (D : Dcl) (H H2 : Hp) (f c : Addr) (L : Lam) (cl : List (Str × Addr)) : Prop where
  ext : LamX.ExtN H H2
  tabs : LamX.Tabs D.T H2
  gone : ∀ b, H2 b = Option.none → H b = Option.none
  new : ∀ b o, H2 b = some o → H b = some o ∨ (H b = none ∧ ∃ φ, o = .ext φ) ∨ ∃ ps ps', H b = some (.tbl ps) ∧ o = .tbl ps'
  fat : H2 f = some (FnL f L cl c)
  cat : H2 c = some (LamX.CodeO c L.q)
theorem fnL_ok {P : Program} {w : World} {H : Hp} {h : Heap} {f c : Addr} {L : Lam} {cl : List (Str × Addr)} {pm ctv : Value} (e : h.get? f = some (PySem.W.kla_obj "<lambda>" L.q L.params L.body L.scope cl pm c ctv)) : ObjOk P w H h f (FnL f L cl c) :=
  ⟨⟨pm, ctv, e⟩, ⟨_, e⟩, fun h1 h2 ⟨a, b, z⟩ st => ⟨a, b, st _ z⟩⟩
theorem lam_new {c P : Addr} {L : Lam} {pos : Pos} {pins : List (Addr × Obj)} {σ : L2.St} {H : Hp} {s : Shared} {E Q : Value → Shared → Prop} (I : Inv X pins σ H s) (TB : LamX.TabB X.base X.mg c P) (hcode : X.env.code = .ref c) (hq : L.q = X.env.qual ++ "<lambda>")
    (hm : (P, L.q) ∈ D.T) (hu : ∀ p ∈ D.T, p.1 = P → p.2 = L.q) (hT : LamX.Tabs D.T H) (hdef : defaultsOf L.params X.env = ([], [])) (hfree : ∀ y ∈ L.scope.names, y.2 = .free → ∃ c, X.env.cells.lookup y.1 = some c)
    (fin : ∀ (f c' : Addr) (H2 : Hp) (u : Shared), Inv X pins σ H2 u → Made D H H2 f c' L (cloFrom X.env.cells L.scope.names []) → H f = none → Q (.ref f) u) :
    wpAny (model X.prog X.w) X.A (eval (.Lambda L.params L.body L.scope pos) X.env) Q E s := by
  obtain ⟨ps, hP, ht, ha⟩ := hT _ hm
  have bP : s.heap.BuiltinsAt X.mg P := TB.bm.keeps I.bk
  have hP2 : s.heap.get? P = some { cls := .none, data := .fields ps } := I.hok P _ hP
  refine PySem.W.kla_eval hdef ?_
  rw [← hq]
  cases hc : codeAmong pos ps.toList with
  | some cv =>
    obtain ⟨c', ecv, hco⟩ := ha pos cv hc
    subst ecv
    refine PySem.W.kla_makeFunctionHit (mg := X.mg) (c := c) (P := P) (ps := ps) (closure_ok hfree) I.ok.glob (I.mod.glob.keeps I.bk) hcode (TB.code.keeps I.bk) hP2 ht hc bP fun ctv h2 tk hx hsz => ?_
    have nf : H h2.objs.size = none := I.hok.fresh hsz
    have J := I.laid (a := h2.objs.size) (o := FnL h2.objs.size L (cloFrom X.env.cells L.scope.names []) c') (t' := tk) (h' := h2.push (PySem.W.kla_obj "<lambda>" L.q L.params L.body L.scope (cloFrom X.env.cells L.scope.names []) ((X.mg "__name__").getD .none) c' ctv)) (fun b o e => Heap.get?_push_of_some _ (hx b o e)) hsz (fnL_ok (Heap.get?_push_size _ rfl))
    refine fin _ c' _ _ J ⟨fun b o e _ => by rw [upd_ne (ne_of_none e nf)]; exact e, hT.ext fun b o e => by rw [upd_ne (ne_of_none e nf)]; exact e, fun b e => ?_, fun b o e => ?_, upd_same, by rw [upd_ne (ne_of_none hco nf)]; exact hco⟩ nf
    · by_cases z : b = h2.objs.size
      · rw [z, upd_same] at e; cases e
      · rw [upd_ne z] at e; exact e
    · by_cases z : b = h2.objs.size
      · subst z
        rw [upd_same] at e
        exact .inr (.inl ⟨nf, _, (Option.some.inj e).symm⟩)
      · rw [upd_ne z] at e; exact .inl e
  | none =>
    refine PySem.W.kla_makeFunction (mg := X.mg) (c := c) (P := P) (ps := ps) (closure_ok hfree) I.ok.glob (I.mod.glob.keeps I.bk) hcode (TB.code.keeps I.bk) hP2 ht hc TB.gP bP fun c' ctv h2 tk hx hge hlt hrec htb => ?_
    obtain ⟨c2, oc, vs, t, e2, hoc, hd, hv⟩ := hrec
    cases e2
    have nC : H c' = none := I.hok.fresh hge
    have J1 := LamX.inv_table (t' := tk) (more := #[rawInt pos.line, rawInt pos.col, .ref c']) (q := L.q) (h' := h2) I hP (fun b o n e => hx b o n e) htb hge ⟨oc, vs, t, hoc, hd, hv⟩
    have ec : upd (upd H P (.tbl (ps ++ #[rawInt pos.line, rawInt pos.col, .ref c']))) c' (LamX.CodeO c' L.q) c' = some (LamX.CodeO c' L.q) := upd_same
    have nP : P ≠ c' := ne_of_none hP nC
    have eP : upd (upd H P (.tbl (ps ++ #[rawInt pos.line, rawInt pos.col, .ref c']))) c' (LamX.CodeO c' L.q) P = some (.tbl (ps ++ #[rawInt pos.line, rawInt pos.col, .ref c'])) := by rw [upd_ne nP, upd_same]
    have oth : ∀ b, b ≠ P → b ≠ c' → upd (upd H P (.tbl (ps ++ #[rawInt pos.line, rawInt pos.col, .ref c']))) c' (LamX.CodeO c' L.q) b = H b := fun b h1 h2 => by rw [upd_ne h2, upd_ne h1]
    have nf := J1.hok.fresh (Nat.le_refl _)
    have J := J1.laid (a := h2.objs.size) (o := FnL h2.objs.size L (cloFrom X.env.cells L.scope.names []) c') (t' := tk) (h' := h2.push (PySem.W.kla_obj "<lambda>" L.q L.params L.body L.scope (cloFrom X.env.cells L.scope.names []) ((X.mg "__name__").getD .none) c' ctv)) (fun b o e => Heap.get?_push_of_some _ e) (Nat.le_refl _) (fnL_ok (Heap.get?_push_size _ rfl))
    have nfH : H h2.objs.size = none := I.hok.fresh (Nat.le_trans hge (Nat.le_of_lt hlt))
    have st : ∀ b o, H b = some o → (∀ q, o ≠ .tbl q) → upd (upd H P (.tbl (ps ++ #[rawInt pos.line, rawInt pos.col, .ref c']))) c' (LamX.CodeO c' L.q) b = some o := fun b o e n => by
      rw [oth b (fun z => by rw [z, hP] at e; exact n ps (Option.some.inj e).symm) (ne_of_none e nC)]
      exact e
    have T1 : LamX.Tabs D.T (upd (upd H P (.tbl (ps ++ #[rawInt pos.line, rawInt pos.col, .ref c']))) c' (LamX.CodeO c' L.q)) := fun p hp => by
      by_cases hb : p.1 = P
      · rw [hu p hp hb, hb]
        have eL : (ps ++ #[rawInt pos.line, rawInt pos.col, .ref c']).toList = ps.toList ++ [rawInt pos.line, rawInt pos.col, .ref c'] := by simp
        refine ⟨_, eP, by rw [eL]; exact PySem.TriplesOk_snoc _ _ _ _ ht, fun p' cv hcv => ?_⟩
        rw [eL] at hcv
        rcases LamX.among_app _ ht hcv with z | z
        · obtain ⟨c0, e1, e2⟩ := ha p' cv z
          exact ⟨c0, e1, st _ _ e2 LamX.codeO_ne⟩
        · exact ⟨c', z, ec⟩
      · obtain ⟨qs, a1, a2, a3⟩ := hT p hp
        refine ⟨qs, by rw [oth _ hb (ne_of_none a1 nC)]; exact a1, a2, fun p' cv hcv => ?_⟩
        obtain ⟨c0, e1, e2⟩ := a3 p' cv hcv
        exact ⟨c0, e1, st _ _ e2 LamX.codeO_ne⟩
    refine fin _ c' _ _ J ⟨fun b o e n => ?_, T1.ext fun b o e => by rw [upd_ne (ne_of_none e nf)]; exact e, fun b e => ?_, fun b o e => ?_, upd_same, by rw [upd_ne (ne_of_none ec nf)]; exact ec⟩ nfH
    · have e1 := st b o e n
      rw [upd_ne (ne_of_none e1 nf)]
      exact e1
    · by_cases z : b = h2.objs.size
      · rw [z, upd_same] at e; cases e
      · rw [upd_ne z] at e
        by_cases y : b = c'
        · rw [y, ec] at e; cases e
        · by_cases x : b = P
          · rw [x, eP] at e; cases e
          · rw [oth b x y] at e; exact e
    · by_cases z : b = h2.objs.size
      · subst z
        rw [upd_same] at e
        exact .inr (.inl ⟨nfH, _, (Option.some.inj e).symm⟩)
      · rw [upd_ne z] at e
        by_cases y : b = c'
        · subst y
          rw [ec] at e
          exact .inr (.inl ⟨nC, _, (Option.some.inj e).symm⟩)
        · by_cases x : b = P
          · subst x
            rw [eP] at e
            exact .inr (.inr ⟨ps, _, hP, (Option.some.inj e).symm⟩)
          · rw [oth b x y] at e; exact .inl e
theorem me_lam {n : Nat} {c P : Addr} {L : Lam} {pos : Pos} (TB : LamX.TabB X.base X.mg c P) (hcode : X.env.code = .ref c) (hq : L.q = X.env.qual ++ "<lambda>") (hm : (P, L.q) ∈ D.T) (hu : ∀ p ∈ D.T, p.1 = P → p.2 = L.q)
    (hdef : defaultsOf L.params X.env = ([], [])) (LS : LamX.LamS X.env.scope L.scope) (hL : D.lams n = some L) (hcl : D.cl n = some (cloFrom X.env.cells L.scope.names [])) : ME X D own xk (.Lambda L.params L.body L.scope pos) (cM (.clo n [])) := by
  refine ⟨fun pins s σ H Q I q => ?_⟩
  obtain ⟨S0, H0, S, ρ, p, R, q⟩ := q
  refine lam_new I TB hcode hq hm hu R.good.tabs.tabs hdef (LamX.LamS.has LS I.ok) fun f c' H2 u J M nf => ⟨.ref f, H2, J, rfl, ?_⟩
  have g := R.good
  have g2 : Good D (fun b => if H b = none then H2 b else S b) H2 p := by
    have nn : ∀ b o, H b = some o → (∀ ps, o ≠ .tbl ps) → H2 b = some o := M.ext
    have hk := g.sub _ _ g.pen.2
    refine ⟨fun b o e => ?_, ?_, fun b ps e => ?_, ⟨nn _ _ g.pen.1 fun _ z => (by cases z), ?_⟩, ⟨M.tabs, fun b φ e => ?_, fun b ps e => ?_, fun Sx e b o z => ?_⟩⟩
    · by_cases z : H b = none
      · simp only [z, if_true] at e; exact e
      · simp only [z, if_false] at e
        exact nn b o (g.sub b o e) fun ps y => g.ntbl b ps (by rw [e, y])
    · have z : ¬ H D.π = none := by rw [g.pen.1]; simp
      simp only [z, if_false]
      exact g.npen
    · by_cases z : H b = none
      · simp only [z, if_true] at e
        rcases M.new b _ e with y | ⟨_, φ, y⟩ | ⟨a, b', y, _⟩
        · rw [z] at y; cases y
        · cases y
        · rw [z] at y; cases y
      · simp only [z, if_false] at e
        exact g.ntbl b ps e
    · have z : ¬ H D.κ = none := by rw [hk]; simp
      simp only [z, if_false]
      exact g.pen.2
    · by_cases z : H b = none
      · simp only [z, if_true]; exact e
      · simp only [z, if_false]
        rcases M.new b _ e with y | ⟨y, _⟩ | ⟨a, b', y, k⟩
        · exact g.tabs.exts b φ y
        · exact absurd y z
        · cases k
    · rcases M.new b _ e with y | ⟨_, φ, y⟩ | ⟨a, b', y, _⟩
      · exact g.tabs.tbls b ps y
      · cases y
      · exact g.tabs.tbls b a y
    · have h1 := g.tabs.xc Sx e b o z
      have h2 : ¬ H b = none := by rw [g.sub b o h1]; simp
      simp only [h2, if_false]
      exact h1
  have ex : Ext D S H (fun b => if H b = none then H2 b else S b) H2 := ⟨fun b o e => by
      have z : ¬ H b = none := by rw [g.sub b o e]; simp
      simp only [z, if_false]
      exact e, fun b o e _ t => M.ext b o e t, fun b e z => e (M.gone b z), fun b e => by
      by_cases z : H b = none
      · exact .inr z
      · simp only [z, if_false] at e
        exact .inl e⟩
  refine q _ H2 (.ref f) ex (R.step ex g2) ?_
  simp only [Rep]
  refine ⟨f, c', _, L, rfl, hL, by simp only [nf, if_true]; exact M.fat, ?_, .inl ⟨hcl, by trivial⟩⟩
  by_cases z : H c' = none
  · simp only [z, if_true]; exact M.cat
  · simp only [z, if_false]
    rcases M.new c' _ M.cat with y | ⟨y, _⟩ | ⟨a, b', y, k⟩
    · exact g.tabs.exts c' _ y
    · exact absurd y z
    · unfold LamX.CodeO at k; cases k
end
end Mir

/-! Mir17: a def that is handed lambdas of the frame that calls it. -/
namespace Mir
open PySem PySem.Spec PyProof.Rows L2
/-- the same, with no lambdas of a frame -/
abbrev Dcl.out (D : Dcl) : Dcl := { D with cl := fun _ => none }
theorem Dcl.outS (D : Dcl) : Same D D.out := ⟨rfl, rfl, rfl, rfl, rfl, rfl, rfl, rfl⟩
theorem Same.symm {D D' : Dcl} (s : Same D D') : Same D' D := ⟨s.π.symm, s.κ.symm, s.T.symm, s.cls.symm, s.flds.symm, s.fns.symm, s.lams.symm, s.xc.symm⟩
mutual
/-- lambdas of the frame get what they captured -/
def fillA (cap : Nat → Option (List A)) : A → Option A
  | .clo n [] => (cap n).map (.clo n)
  | .clo _ _ => none
  | .tup xs => (fills cap xs).map .tup
  | .lst xs => (fills cap xs).map .lst
  | .ins c xs => if noClos xs then some (.ins c xs) else none
  | .dct ks xs => if noClos xs then some (.dct ks xs) else none
  | a => some a
def fills (cap : Nat → Option (List A)) : List A → Option (List A)
  | [] => some []
  | x :: xs => match fillA cap x, fills cap xs with
    | some y, some ys => some (y :: ys)
    | _, _ => none
end
section
variable {K : PySem.W.Frag} {D D' : Dcl} {S S' H H' : Hp} {p : Pen}
theorem Good.same (s : Same D D') (g : Good D S H p) : Good D' S H p :=
  ⟨g.sub, by rw [s.π]; exact g.npen, g.ntbl, by unfold PenAt; rw [s.π, s.κ]; exact g.pen, ⟨by rw [s.T]; exact g.tabs.tabs, g.tabs.exts, fun c ps e => by rw [s.T]; exact g.tabs.tbls c ps e, fun Sx e => g.tabs.xc Sx (by rw [← s.xc]; exact e)⟩⟩
theorem Ext.same (s : Same D D') (e : Ext D S H S' H') : Ext D' S H S' H' := ⟨e.sub, fun a o h n t => e.keep a o h (by rw [← s.π]; exact n) t, e.there, e.dom⟩
variable {cap : Nat → Option (List A)}
mutual
theorem fill_rep (sm : Same D D') (h : ∀ a o, S a = some o → S' a = some o) (hc : ∀ n cl L caps, D.cl n = some cl → D.lams n = some L → cap n = some caps → ∃ vs, CapsAt S' L.fr cl vs ∧ Reps K D' S' caps vs) (hl : ∀ n L caps, D.lams n = some L → cap n = some caps → caps.length = L.fr.length) :
    ∀ (a b : A) (v : V), Rep K D S a v → fillA cap a = some b → Rep K D' S' b v
  | .non, b, v, q, e => by simp only [fillA, Option.some.injEq] at e; subst e; simpa only [Rep] using q
  | .bl _, b, v, q, e => by simp only [fillA, Option.some.injEq] at e; subst e; simpa only [Rep] using q
  | .int _, b, v, q, e => by simp only [fillA, Option.some.injEq] at e; subst e; simpa only [Rep] using q
  | .str _, b, v, q, e => by simp only [fillA, Option.some.injEq] at e; subst e; simpa only [Rep] using q
  | .tup xs, b, v, q, e => by
    simp only [fillA, Option.map_eq_some_iff] at e
    obtain ⟨ys, e, rfl⟩ := e
    simp only [Rep] at q ⊢
    obtain ⟨a, vs, ev, s, r⟩ := q
    exact ⟨a, vs, ev, SqT.mono h s, fills_rep sm h hc hl xs ys vs r e⟩
  | .lst xs, b, v, q, e => by
    simp only [fillA, Option.map_eq_some_iff] at e
    obtain ⟨ys, e, rfl⟩ := e
    simp only [Rep] at q ⊢
    obtain ⟨a, vs, ev, s, r⟩ := q
    exact ⟨a, vs, ev, h _ _ s, fills_rep sm h hc hl xs ys vs r e⟩
  | .ins c xs, b, v, q, e => by
    simp only [fillA] at e
    split at e
    · rename_i n
      cases e
      exact Rep.bare sm (fun a o z _ => h a o z) (.ins c xs) v (by simpa only [noClo] using n) q
    · cases e
  | .dct ks xs, b, v, q, e => by
    simp only [fillA] at e
    split at e
    · rename_i n
      cases e
      exact Rep.bare sm (fun a o z _ => h a o z) (.dct ks xs) v (by simpa only [noClo] using n) q
    · cases e
  | .clo n [], b, v, q, e => by
    simp only [fillA, Option.map_eq_some_iff] at e
    obtain ⟨caps, e, rfl⟩ := e
    simp only [Rep] at q ⊢
    obtain ⟨f, c, cl, L, ev, h1, h2, h3, h4⟩ := q
    refine ⟨f, c, cl, L, ev, by rw [sm.lams]; exact h1, h _ _ h2, h _ _ h3, .inr ?_⟩
    rcases h4 with ⟨h4, _⟩ | ⟨vs, h5, h6⟩
    · exact hc n cl L caps h4 h1 e
    · -- nothing captured
      simp only [Reps] at h6
      subst h6
      have hz := hl n L caps h1 e
      rw [h5.1.1] at hz
      have e0 : caps = [] := List.eq_nil_of_length_eq_zero hz
      subst e0
      refine ⟨[], ⟨h5.1, fun i y v a b => ?_⟩, by simp only [Reps]⟩
      simp at b
  | .clo n (x :: xs), b, v, q, e => by simp only [fillA] at e; cases e
  | .fn n, b, v, q, e => by
    simp only [fillA, Option.some.injEq] at e
    subst e
    simp only [Rep] at q ⊢
    rw [sm.fns]; exact q
  | .pen, b, v, q, e => by
    simp only [fillA, Option.some.injEq] at e
    subst e
    simp only [Rep] at q ⊢
    rw [sm.π]; exact q
theorem fills_rep (sm : Same D D') (h : ∀ a o, S a = some o → S' a = some o) (hc : ∀ n cl L caps, D.cl n = some cl → D.lams n = some L → cap n = some caps → ∃ vs, CapsAt S' L.fr cl vs ∧ Reps K D' S' caps vs) (hl : ∀ n L caps, D.lams n = some L → cap n = some caps → caps.length = L.fr.length) :
    ∀ (xs ys : List A) (vs : List V), Reps K D S xs vs → fills cap xs = some ys → Reps K D' S' ys vs
  | [], ys, vs, q, e => by simp only [fills, Option.some.injEq] at e; subst e; simpa only [Reps] using q
  | x :: xs, ys, vs, q, e => by
    simp only [fills] at e
    cases e1 : fillA cap x with
    | none => rw [e1] at e; cases e
    | some y =>
      cases e2 : fills cap xs with
      | none => rw [e1, e2] at e; cases e
      | some ys' =>
        rw [e1, e2] at e
        cases e
        simp only [Reps] at q ⊢
        obtain ⟨v, r, ev, a, b⟩ := q
        exact ⟨v, r, ev, fill_rep sm h hc hl x y v a e1, fills_rep sm h hc hl xs ys' r b e2⟩
end
/-- slots to what they hold, no lambdas in it -/
def capAt (ρ : Env') : List Nat → Option (List A)
  | [] => some []
  | j :: js => match ρ[j]?, capAt ρ js with
    | some (some a), some as => if noClo a then some (a :: as) else none
    | _, _ => none
def capOf (slots : Nat → Option (List Nat)) (ρ : Env') : Nat → Option (List A) := fun n => (slots n).bind (capAt ρ)
def callLM (n : Nat) (m : List A → M A) (slots : Nat → Option (List Nat)) (ms : Env' → M (List A)) : ME' := fun ρ => bd (ms ρ) fun as => match fills (capOf slots ρ) as with
  | some bs => if bs.length = n then bd (nox (m bs)) fun a => if noClo a then ret a else no else no
  | none => no
theorem capAt_get : ∀ {ρ : Env'} {js : List Nat} {as : List A}, capAt ρ js = some as → as.length = js.length ∧ ∀ (i j : Nat), js[i]? = some j → ∃ a, as[i]? = some a ∧ ρ[j]? = some (some a) ∧ noClo a = true
  | ρ, [], as, h => by
    simp only [capAt, Option.some.injEq] at h
    subst h
    exact ⟨rfl, fun i j e => by simp at e⟩
  | ρ, j :: js, as, h => by
    simp only [capAt] at h
    split at h
    · rename_i a as' e1 e2
      split at h
      · rename_i c
        cases h
        obtain ⟨h1, h2⟩ := capAt_get e2
        refine ⟨by rw [List.length_cons, List.length_cons, h1], fun i j' e => ?_⟩
        cases i with
        | zero =>
          simp at e
          subst e
          exact ⟨a, rfl, e1, c⟩
        | succ i =>
          rw [List.getElem?_cons_succ] at e ⊢
          exact h2 i j' e
      · cases h
    · cases h
/-- the text of the frame's lambdas, and where what they capture stands -/
structure SlotF (X : Cx) (D : Dcl) (own : List Nat) (slots : Nat → Option (List Nat)) : Prop where
  ok : ∀ n js, slots n = some js → ∃ L, D.lams n = some L ∧ D.cl n = some (cloFrom X.env.cells L.scope.names []) ∧ L.fr.length = js.length ∧ (∀ y, (y, NameKind.free) ∈ L.scope.names → y ∈ L.fr) ∧
    ∀ (i : Nat) y, L.fr[i]? = some y → (y, NameKind.free) ∈ L.scope.names ∧ ∃ j, js[i]? = some j ∧ X.N[j]? = some y ∧ j ∉ own ∧ X.env.scope.names.lookup y = some .cell
end
end Mir

/-! Mir18: the call that hands the frame's lambdas on. -/
namespace Mir
open PySem PySem.Spec PyProof.Rows L2
open Classical in
/-- the frame's cells told -/
noncomputable def tell (c : Addr → Prop) (h : Heap) (H : Hp) : Hp := fun b => if c b then (h.get? b).map (CelO b) else H b
section
variable {X : Cx} {D : Dcl} {own own' ownB : List Nat} {xk : XK}
theorem me_callL {k j n : Nat} {x : Str} {m : List A → M A} {slots : Nat → Option (List Nat)} {e : Expr} {es : List Expr} {ms : Env' → M (List A)} {p pos : Pos} (F : DefG X.prog X.w X.K X.mg X.base D.out k x n m) (hG : X.A.guards = some []) (hxc : D.xc = none) (hr : Room j X.A) (hk : k ≤ j) (hfn : ∀ y, X.fn y = true) (SF : SlotF X D own slots) (hg : Gl X x) (ha : MA X D own xk (e :: es) ms)
    (hdb : (x == ("__debug__" : Str)) = false := by decide) (he : starEach (e :: es) X.env = (false, eval e X.env) :: starEach es X.env := by rfl) (hpl : (backTo pos (starEach es X.env)).any (·.1) = false := by rfl) : ME X D own xk (.Call (.Name x p) (e :: es) [] pos) (callLM n m slots ms) := by
  obtain ⟨f, fd, ps, hm, hkp, hb, hl, F⟩ := F.ex
  refine ⟨fun pins s σ H Q I q => wpAny_Call_Name_kw (ld_glob I hg hm ?_ hdb)⟩
  obtain ⟨S0, H0, S, ρ, p, R, q⟩ := q
  refine PySem.W.callWith_K (h₀ := X.base) I.ok.mod.kin hkp (thn (ha.run pos pins s σ H (fun vs H1 => ∃ S1 p1 as, Rel X.K D S0 H0 S1 H1 σ ρ own p1 ∧ Reps X.K D S1 as vs ∧ Aft X.K D (Rep X.K D) xk S0 H0 S1 H1 σ ρ own ((match fills (capOf slots ρ) as with
    | some bs => if bs.length = n then bd (nox (m bs)) fun a => if noClo a then ret a else no else no
    | none => no) p1) Q) I ?_) fun us s1 ⟨vs, H1, I1, r, S1, p1, as, R1, r1, q1⟩ => ⟨I1.kIn, ?_⟩) he hpl
  · exact tG.bind R q fun as p1 S1 H1 vs _ e1 R1 r1 q1 => ⟨S1, p1, as, R1, r1, q1⟩
  · show wpAny (model X.prog X.w) X.A (call (.ref f) us) (EP X pins σ Q) X.xe s1
    cases ef : fills (capOf slots ρ) as with
    | none => rw [ef] at q1; exact q1.elim
    | some bs =>
      rw [ef] at q1
      dsimp only at q1
      split at q1
      case isFalse => exact q1.elim
      rename_i hn
      -- the frame's cells
      have cl_lt : ∀ b, (∃ y, X.env.cells.lookup y = some b) → X.s_0.heap.objs.size ≤ b := fun b ⟨y, hy⟩ => I1.ok.cab y b (hfn y) hy
      have cl_H : ∀ b, (∃ y, X.env.cells.lookup y = some b) → H1 b = none := fun b ⟨y, hy⟩ => I1.freeC y b hy
      have cl_S : ∀ b, (∃ y, X.env.cells.lookup y = some b) → S1 b = none := fun b z => by
        cases y : S1 b with
        | none => rfl
        | some o => have := R1.good.sub b o y; rw [cl_H b z] at this; cases this
      have cl_o : ∀ b, (∃ y, X.env.cells.lookup y = some b) → ∃ o v, s1.heap.get? b = some o ∧ o.data = .cell v := fun b ⟨y, hy⟩ => by
        obtain ⟨v, o, h1, h2⟩ := I1.cell y b hy
        exact ⟨o, v, h1, h2⟩
      have cl_b : ∀ b, (∃ y, X.env.cells.lookup y = some b) → b ∉ frs X.stack := fun b z hb => by
        rcases List.mem_cons.mp (I1.stkSub b hb) with w | w
        · obtain ⟨y, hy⟩ := z
          exact I1.cne y b hy w
        · obtain ⟨_, o, ho, _⟩ := I1.ok.funs.mem w
          exact absurd (Nat.lt_of_lt_of_le (Heap.lt_size ho) (cl_lt b z)) (Nat.lt_irrefl _)
      have tin : ∀ {G : Hp} {b : Addr} {o : Obj}, (∃ y, X.env.cells.lookup y = some b) → s1.heap.get? b = some o → tell (fun b => ∃ y, X.env.cells.lookup y = some b) s1.heap G b = some (CelO b o) := fun {G b o} z e => by
        unfold tell
        rw [if_pos z, e]
        rfl
      have tout : ∀ {G : Hp} {b : Addr}, ¬ (∃ y, X.env.cells.lookup y = some b) → tell (fun b => ∃ y, X.env.cells.lookup y = some b) s1.heap G b = G b := fun {G b} z => if_neg z
      have nH : ∀ {b : Addr} {o : HO}, H1 b = some o → ¬ ∃ y, X.env.cells.lookup y = some b := fun {b o} e z => by rw [cl_H b z] at e; cases e
      have tH : ∀ {b : Addr} {o : HO}, H1 b = some o → tell (fun b => ∃ y, X.env.cells.lookup y = some b) s1.heap H1 b = some o := fun {b o} e => by rw [tout (nH e)]; exact e
      have tS : ∀ {b : Addr} {o : HO}, S1 b = some o → tell (fun b => ∃ y, X.env.cells.lookup y = some b) s1.heap S1 b = some o := fun {b o} e => by rw [tout (nH (R1.good.sub _ _ e))]; exact e
      have g := R1.good
      have nπ := nH g.pen.1
      have nκ := nH (g.sub _ _ g.pen.2)
      have gx : Good D.out (tell (fun b => ∃ y, X.env.cells.lookup y = some b) s1.heap S1) (tell (fun b => ∃ y, X.env.cells.lookup y = some b) s1.heap H1) p1 := by
        refine Good.same D.outS ⟨fun b o e => ?_, by rw [tout nπ]; exact g.npen, fun b ps e => ?_, ⟨by rw [tout nπ]; exact g.pen.1, by rw [tout nκ]; exact g.pen.2⟩, ⟨g.tabs.tabs.ext fun b o e => tH e, fun b φ e => ?_, fun b ps e => ?_, fun Sx e => by rw [hxc] at e; cases e⟩⟩
        · by_cases z : ∃ y, X.env.cells.lookup y = some b
          · obtain ⟨oc, v, h1, _⟩ := cl_o b z
            rw [tin z h1] at e ⊢
            exact e
          · rw [tout z] at e ⊢
            exact g.sub b o e
        · by_cases z : ∃ y, X.env.cells.lookup y = some b
          · obtain ⟨oc, v, h1, _⟩ := cl_o b z
            rw [tin z h1] at e
            exact CelO.ne_tbl (Option.some.inj e)
          · rw [tout z] at e
            exact g.ntbl b ps e
        · by_cases z : ∃ y, X.env.cells.lookup y = some b
          · obtain ⟨oc, v, h1, _⟩ := cl_o b z
            rw [tin z h1] at e ⊢
            exact e
          · rw [tout z] at e ⊢
            exact g.tabs.exts b φ e
        · by_cases z : ∃ y, X.env.cells.lookup y = some b
          · obtain ⟨oc, v, h1, _⟩ := cl_o b z
            rw [tin z h1] at e
            exact absurd (Option.some.inj e) CelO.ne_tbl
          · rw [tout z] at e
            exact g.tabs.tbls b ps e
      have e0 := I1.env0
      have ex0 : Env0 X.prog X.w X.K X.mg X.base X.A X.stack s1 (tell (fun b => ∃ y, X.env.cells.lookup y = some b) s1.heap H1) := by
        refine ⟨e0.frames, e0.mod, fun b o h => ⟨(e0.bs b o h).1, ?_⟩, e0.bsz, e0.funs, fun b h => ?_, fun b o e => ?_, e0.bare⟩
        · rw [tout fun z => ?_]
          · exact (e0.bs b o h).2
          · have h1 := Heap.lt_size h
            exact absurd (Nat.lt_of_lt_of_le (Nat.lt_of_lt_of_le h1 I1.ok.bsz) (cl_lt b z)) (Nat.lt_irrefl _)
        · rw [tout fun z => cl_b b z h]
          exact e0.frf b h
        · by_cases z : ∃ y, X.env.cells.lookup y = some b
          · obtain ⟨oc, v, h1, _⟩ := cl_o b z
            rw [tin z h1] at e
            cases e
            exact ⟨h1, ⟨_, h1⟩, fun h1 h2 q st => st _ q⟩
          · rw [tout z] at e
            exact (I1.hok b o e).stay (fun _ _ _ z => z) (fun d hd => tH hd) fun d xs hd => tH hd
      have rx : Reps X.K D.out (tell (fun b => ∃ y, X.env.cells.lookup y = some b) s1.heap S1) bs vs := by
        refine fills_rep D.outS (fun a o h => tS h) (fun n' cl L caps h1 h2 h3 => ?_) (fun n' L caps h2 h3 => ?_) as bs vs r1 ef
        · obtain ⟨js, h4, h5⟩ := Option.bind_eq_some_iff.mp h3
          obtain ⟨L', k1, k2, k3, k4, k5⟩ := SF.ok n' js h4
          rw [h2] at k1
          cases k1
          rw [h1] at k2
          cases k2
          obtain ⟨c1, c2⟩ := capAt_get h5
          have cm : ∀ {y c}, (cloFrom X.env.cells L.scope.names []).lookup y = some c → (y, NameKind.free) ∈ L.scope.names ∧ c = (X.env.cells.lookup y).getD 0 := fun {y c} e => by
            rcases cloFrom_mem (PySem.mem_of_lookup e) with hm | h
            · cases hm
            · exact h
          have hcell : ∀ y ∈ L.fr, ∃ c, X.env.cells.lookup y = some c := fun y hy => by
            obtain ⟨i, hi, e⟩ := List.getElem_of_mem hy
            obtain ⟨_, j, _, _, _, hc⟩ := k5 i y (by rw [List.getElem?_eq_getElem hi, e])
            exact I1.ok.has y (.inl hc)
          have cm2 : ∀ {y c}, (cloFrom X.env.cells L.scope.names []).lookup y = some c → y ∈ L.fr ∧ X.env.cells.lookup y = some c := fun {y c} e => by
            obtain ⟨h1, h2⟩ := cm e
            obtain ⟨c0, h3⟩ := hcell y (k4 y h1)
            rw [h3] at h2
            exact ⟨k4 y h1, by rw [h3, h2]; rfl⟩
          -- what the slots hold
          have vals : ∀ i, i < caps.length → ∃ v, ∀ y, L.fr[i]? = some y → ∃ a, caps[i]? = some a ∧ Rep X.K D.out (tell (fun b => ∃ y, X.env.cells.lookup y = some b) s1.heap S1) a v ∧ ∃ (c : Addr) (o : Obj) (u : Value), (cloFrom X.env.cells L.scope.names []).lookup y = some c ∧ s1.heap.get? c = some o ∧ o.data = .cell (some u) ∧ RelV v u := fun i hi => by
            have hi2 : i < L.fr.length := by omega
            obtain ⟨y, hy⟩ : ∃ y, L.fr[i]? = some y := ⟨_, List.getElem?_eq_getElem hi2⟩
            obtain ⟨hfree, j, h6, h7, h8, h9⟩ := k5 i y hy
            obtain ⟨a, g1, g2, g3⟩ := c2 i j h6
            obtain ⟨v, g4, g5⟩ := R1.slot j a g2 h8
            refine ⟨v, fun y' hy' => ?_⟩
            rw [hy] at hy'
            cases hy'
            obtain ⟨mm, hns, hlook⟩ := I1.loc
            obtain ⟨u, ru, q⟩ := hlook j y v h7 g4 (.inr (.inl h9))
            obtain ⟨c0, hc0⟩ := mem_lookup (cloFrom_has (cells := X.env.cells) (acc := []) hfree)
            have hc1 := (cm2 hc0).2
            rcases q with ⟨kk, _⟩ | ⟨_, c3, e3, ⟨o, ho, hd⟩⟩
            · have kk : X.env.scope.names.lookup y = some .local := kk
              rw [h9] at kk
              cases kk
            · rw [hc1] at e3
              cases e3
              exact ⟨a, g1, Rep.bare D.outS (fun b o e _ => tS e) a v g3 g5, c0, o, u, hc0, ho, hd, ru⟩
          have hvs : ∃ vs : List V, vs.length = caps.length ∧ ∀ (i : Nat) (v : V), vs[i]? = some v → ∀ y, L.fr[i]? = some y → ∃ a, caps[i]? = some a ∧ Rep X.K D.out (tell (fun b => ∃ y, X.env.cells.lookup y = some b) s1.heap S1) a v ∧ ∃ (c : Addr) (o : Obj) (u : Value), (cloFrom X.env.cells L.scope.names []).lookup y = some c ∧ s1.heap.get? c = some o ∧ o.data = .cell (some u) ∧ RelV v u := by
            refine ⟨List.ofFn fun i : Fin caps.length => (vals i.1 i.2).choose, by simp, fun i v hv => ?_⟩
            have hi : i < caps.length := by
              have := (List.getElem?_eq_some_iff.mp hv).1
              simpa using this
            rw [List.getElem?_ofFn] at hv
            simp only [hi, dif_pos, Option.some.injEq] at hv
            subst hv
            exact (vals i hi).choose_spec
          obtain ⟨ws, w1, w2⟩ := hvs
          refine ⟨ws, ⟨⟨by omega, fun x y c h1 h2 => I1.ok.inj x y c (cm2 h1).2 (cm2 h2).2, fun y c h => (cm2 h).1⟩, fun i y v hy hv => ?_⟩, ?_⟩
          · obtain ⟨a, g1, g2, c, o, u, g3, g4, g5, g6⟩ := w2 i v hv y hy
            exact ⟨c, o, u, g3, tin ⟨y, (cm2 g3).2⟩ g4, g5, g6⟩
          · have : ∀ (as : List A) (vs : List V), as.length = vs.length → (∀ (i : Nat) (a : A) (v : V), as[i]? = some a → vs[i]? = some v → Rep X.K D.out (tell (fun b => ∃ y, X.env.cells.lookup y = some b) s1.heap S1) a v) → Reps X.K D.out (tell (fun b => ∃ y, X.env.cells.lookup y = some b) s1.heap S1) as vs := by
              intro as
              induction as with
              | nil =>
                intro vs h _
                rw [Reps.nil_iff]
                exact List.eq_nil_of_length_eq_zero h.symm
              | cons a as ih =>
                intro vs h h2
                cases vs with
                | nil => cases h
                | cons v vs => exact Reps.cons_iff.mpr ⟨v, vs, rfl, h2 0 a v rfl rfl, ih vs (by simpa using h) fun i a' v' e1 e2 => h2 (i + 1) a' v' (by simpa using e1) (by simpa using e2)⟩
            refine this caps ws w1.symm fun i a v e1 e2 => ?_
            have hi : i < L.fr.length := by
              have := (List.getElem?_eq_some_iff.mp e1).1
              omega
            obtain ⟨a', g1, g2, _⟩ := w2 i v e2 _ (List.getElem?_eq_getElem hi)
            rw [e1] at g1
            cases g1
            exact g2
        · obtain ⟨js, h4, h5⟩ := Option.bind_eq_some_iff.mp h3
          obtain ⟨L', k1, k2, k3, k4, k5⟩ := SF.ok n' js h4
          rw [h2] at k1
          cases k1
          rw [(capAt_get h5).1, k3]
      have hl2 : us.length = ps.length := by rw [← r.length, ← r1.length]; rw [hl, ← hn]; exact (by
        have : ∀ (as bs : List A), fills (capOf slots ρ) as = some bs → as.length = bs.length := by
          intro as
          induction as with
          | nil => intro bs h; simp only [fills, Option.some.injEq] at h; subst h; rfl
          | cons a as ih =>
            intro bs h
            simp only [fills] at h
            split at h
            · rename_i y ys e1 e2
              cases h
              rw [List.length_cons, List.length_cons, ih ys e2]
            · cases h
        exact this as bs ef)
      have bt := hb s1 us I1.kIn (by rw [List.append_nil]; exact hl2)
      rw [List.append_nil] at bt
      have run := F.go X.A X.stack s1 (tell (fun b => ∃ y, X.env.cells.lookup y = some b) s1.heap H1) ⟨us, []⟩ us vs (fun v H' => (∀ b, (∃ y, X.env.cells.lookup y = some b) → H' b = tell (fun b => ∃ y, X.env.cells.lookup y = some b) s1.heap H1 b) ∧ Q v (hide (fun b => ∃ y, X.env.cells.lookup y = some b) H')) (fun _ _ _ => False) (hr.mono hk) hG ex0 bt r (by
        refine ⟨_, bs, p1, hn, gx, rx, ?_⟩
        unfold bd at q1
        cases er : m bs p1 with
        | stuck =>
          have : nox (m bs) p1 = .stuck := by unfold nox; rw [er]
          rw [this] at q1
          exact q1.elim
        | exc c fs p' =>
          have : nox (m bs) p1 = .stuck := by unfold nox; rw [er]
          rw [this] at q1
          exact q1.elim
        | ok a p' =>
          have : nox (m bs) p1 = .ok a p' := by unfold nox; rw [er]
          rw [this] at q1
          intro S' H' v ex g' rv
          have q2 : Aft X.K D (Rep X.K D) xk S0 H0 S1 H1 σ ρ own ((if noClo a then ret a else no) p') Q := q1
          split at q2
          case isFalse => exact q2.elim
          rename_i nc
          have keepC : ∀ b, (∃ y, X.env.cells.lookup y = some b) → H' b = tell (fun b => ∃ y, X.env.cells.lookup y = some b) s1.heap H1 b := fun b z => by
            obtain ⟨oc, v, h1, _⟩ := cl_o b z
            rw [tin z h1]
            exact ex.keep b _ (tin z h1) (fun y => by
              have y : b = D.π := y
              rw [y] at z; exact nπ z) fun ps => CelO.ne_tbl
          refine ⟨keepC, ?_⟩
          have CC : Cells (fun b => ∃ y, X.env.cells.lookup y = some b) H' s1.heap := fun b z => by
            obtain ⟨oc, v, h1, h2⟩ := cl_o b z
            exact ⟨oc, v, by rw [keepC b z, tin z h1], h1, h2⟩
          have CS : ∀ b, (∃ y, X.env.cells.lookup y = some b) → S' b = H' b := fun b z => by
            obtain ⟨oc, v, h1, h2⟩ := cl_o b z
            rw [keepC b z, tin z h1]
            exact ex.sub b _ (tin z h1)
          have gh : Good D (hide (fun b => ∃ y, X.env.cells.lookup y = some b) S') (hide (fun b => ∃ y, X.env.cells.lookup y = some b) H') p' := (g'.hide hxc CC CS).same D.outS.symm
          have eh : Ext D S1 H1 (hide (fun b => ∃ y, X.env.cells.lookup y = some b) S') (hide (fun b => ∃ y, X.env.cells.lookup y = some b) H') := by
            refine ⟨fun b o e => ?_, fun b o e n t => ?_, fun b e => ?_, fun b e => ?_⟩
            · rw [hide_out (nH (g.sub _ _ e))]
              exact ex.sub b o (tS e)
            · rw [hide_out (nH e)]
              exact ex.keep b o (tH e) n t
            · cases z : H1 b with
              | none => exact absurd z e
              | some o =>
                rw [hide_out (nH z)]
                exact ex.there b (by rw [tH z]; exact fun z => (by cases z))
            · have e : hide (fun b => ∃ y, X.env.cells.lookup y = some b) S' b ≠ none := e
              by_cases z : ∃ y, X.env.cells.lookup y = some b
              · exact absurd (hide_in (c := fun b => ∃ y, X.env.cells.lookup y = some b) z) e
              · rw [hide_out (c := fun b => ∃ y, X.env.cells.lookup y = some b) z] at e
                have := ex.dom b e
                rw [tout z, tout z] at this
                exact this
          refine q2 _ _ v eh (R1.step eh gh) (Rep.bare D.outS.symm (fun b o e ne => ?_) a v nc rv)
          rw [hide_out fun z => ?_]
          · exact e
          · obtain ⟨oc, v', h1, _⟩ := CC b z
            rw [← CS b z, e] at h1
            exact ne _ (Option.some.inj h1))
      refine wpAny_call (codeAny_mono run fun o t ho => ?_)
      cases o with
      | error er => exact (passF (X := X) pins σ _ _ er t (I1 : Inv X pins σ H1 s1) (by
          obtain ⟨_, _, _, _, _, _, _, _, _, _, _, _, z⟩ := ho
          exact z.elim))
      | ok fl =>
        cases fl with
        | ret u =>
          refine I1.after ?_
          obtain ⟨v, H', os, bare, un, hok, rv, hkeep, q3⟩ := ho
          have CC : Cells (fun b => ∃ y, X.env.cells.lookup y = some b) H' t.heap := fun b z => by
            obtain ⟨oc, v, h1, h2⟩ := cl_o b z
            have h3 := hkeep b z
            rw [tin z h1] at h3
            obtain ⟨h4, _, _⟩ := hok b _ h3
            exact ⟨oc, v, h3, h4, h2⟩
          have nn : ∀ b, H1 b = none → ¬ (∃ y, X.env.cells.lookup y = some b) → tell (fun b => ∃ y, X.env.cells.lookup y = some b) s1.heap H1 b = none := fun b e z => by rw [tout z]; exact e
          refine ⟨v, _, os, bare, ⟨fun b o e n hf hx => ?_, fun b o e n hf hx => ?_, fun b o e n hx => ?_, un.there, fun b xs e => ?_, fun b o u e => ?_, fun b ps e => ?_⟩, HOk.hide CC hok, rv, q3⟩
          · by_cases z : ∃ y, X.env.cells.lookup y = some b
            · obtain ⟨oc, v, h1, h2, _⟩ := CC b z
              have h3 := hkeep b z
              obtain ⟨oc', v', h4, _⟩ := cl_o b z
              rw [h4] at e
              cases e
              rw [tin z h4, h1] at h3
              have := CelO.inj (Option.some.inj h3).symm h4
              rw [this]
              exact h2
            · exact un.keep b o e (nn b n z) hf hx
          · exact un.slot b o e (nn b n fun z => cl_b b z hf) hf hx
          · by_cases z : ∃ y, X.env.cells.lookup y = some b
            · exact hide_in (c := fun b => ∃ y, X.env.cells.lookup y = some b) z
            · rw [hide_out (c := fun b => ∃ y, X.env.cells.lookup y = some b) z]
              exact un.free b o e (nn b n z) hx
          · rw [hide_out (c := fun b => ∃ y, X.env.cells.lookup y = some b) (nH e)]
            exact un.tups b xs (tH e)
          · rw [hide_out (c := fun b => ∃ y, X.env.cells.lookup y = some b) (nH e)]
            exact un.frzs b o u (tH e)
          · rw [hide_out (c := fun b => ∃ y, X.env.cells.lookup y = some b) (nH e)]
            exact un.tbls b ps (tH e)
        | _ => exact ho.elim
end
end Mir

/-! Mir19: defs that make lambdas; try. -/
namespace Mir
open PySem PySem.Spec PyProof.Rows L2
/-- within a def that makes the lambdas told by here -/
abbrev Dcl.at_ (D : Dcl) (here : Nat → Bool) (cells : List (Str × Addr)) : Dcl := { D with cl := fun n => if here n then (D.lams n).map fun L => cloFrom cells L.scope.names [] else none }
theorem Dcl.atS (D : Dcl) (here : Nat → Bool) (cells : List (Str × Addr)) : Same D (D.at_ here cells) := ⟨rfl, rfl, rfl, rfl, rfl, rfl, rfl, rfl⟩
def defLM (N : Nat) (m : MS') : List A → M A := fun as => if noClos as then bd (nox (defM N m as)) fun a => if noClo a then ret a else no else no
section
variable {X : Cx} {D : Dcl} {own own' own2 ownB : List Nat} {xk : XK}
theorem mk_defL {P : Program} {w : World} {K : PySem.W.Frag} {mg : Str → Option Value} {base : Heap} {x : Str} {st : Stmt} {f : Addr} {fd : FuncData} {N ps : List Str} {k n : Nat} {m : MS'} {here : Nat → Bool} (F : L2.Fun K x x st f fd) (hm : mg x = some (.ref f)) (S : FnScope N ps (defScope st)) (hb : L2.Binds K fd ps []) (hn : ps.length = n) (hN : n ≤ N.length)
    (body : ∀ (cdv : Value) (A : Around) (outer : List Env) (s : Shared) (H : Hp) (E : XK), fd.code = cdv → PySem.W.codeIn K cdv x = true → Room k (A.deeper (envOfC x (defScope st) s.heap.objs.size f cdv)) → A.guards = some [] →
      MSs (cxOf (L2.CX P w) P w K mg base N x (defScope st) f cdv A outer s H E) (D.at_ here (cellsFrom (s.heap.objs.size + 1) (defScope st).names [])) [] own' [] E (defBody st) m) : DefG P w K mg base D (k + 1) x n (defLM N.length m) := by
  obtain ⟨oc, od, kV, doc, pm, an, cdv, ct, osl, efd, lk, hcd⟩ := F.ex
  have len : ∀ vs H Q E, spM K D n (defLM N.length m) vs H Q E → vs.length = ps.length := fun vs H Q E h => by
    obtain ⟨S, as, p, hl, _, r, _⟩ := h
    rw [hn, ← hl, r.length]
  refine ⟨f, fd, ps, hm, F.kp, hb, hn, len, fun B fl t H gs us vs Q E hr hG e0 bt rv h => ?_⟩
  subst efd
  refine LamX.run_ofS lk hcd S hr e0 bt rv (len _ _ _ _ h) fun hr' => ⟨_, body cdv B fl t H E rfl hcd hr' hG, body_read hN ?_⟩
  obtain ⟨S', as, p, hl, g, r, h⟩ := h
  have sm := D.atS here (cellsFrom (t.heap.objs.size + 1) (defScope st).names [])
  unfold defLM at h
  by_cases nc : noClos as = true
  · rw [if_pos nc] at h
    refine ⟨S', as, p, hl, g.same sm, Reps.bare sm (fun _ _ e _ => e) as vs nc r, ?_⟩
    unfold bd at h
    cases e : defM N.length m as p with
    | ok a p' =>
      have e2 : nox (defM N.length m as) p = .ok a p' := by unfold nox; rw [e]
      rw [e2] at h
      dsimp only [Res.bind] at h
      intro S2 H2 v ex g2 rv
      by_cases na : noClo a = true
      · rw [if_pos na] at h
        exact h S2 H2 v (ex.same sm.symm) (g2.same sm.symm) (Rep.bare sm.symm (fun _ _ e _ => e) a v na rv)
      · rw [if_neg na] at h
        exact h.elim
    | exc c fs p' =>
      have e2 : nox (defM N.length m as) p = .stuck := by unfold nox; rw [e]
      rw [e2] at h
      exact h.elim
    | stuck =>
      have e2 : nox (defM N.length m as) p = .stuck := by unfold nox; rw [e]
      rw [e2] at h
      exact h.elim
  · rw [if_neg nc] at h
    exact h.elim
end
end Mir

/-! Mir20: try, except as. -/
namespace Mir
open PySem PySem.Spec PyProof.Rows L2
section
variable {X : Cx} {D : Dcl} {own own' own1 own2 ownB : List Nat} {xk : XK}
/-- the number that stands for the caught exception -/
abbrev EX : Nat := 99
/-- what is told within an except suite: the exception at a, what stood still ahead of it -/
abbrev Dcl.ex (D : Dcl) (a : Addr) (Sx : Hp) : Dcl := { D with xc := some Sx, fns := fun n => if n = EX then some a else D.fns n }
/-- what the written part says of an own exception class -/
structure XcF (K : PySem.W.Frag) (C : Addr) : Prop where
  xf : XfC K C
  ci : (PySem.W.clsIn K C).isSome = true
  ha : PySem.W.findIn K (.ref C) "__class__" = some (some (.builtin "object.__class__"))
  hn : PySem.W.specialIn K (.builtin "object.__class__") "__get__" = some (some (.builtin "getset_descriptor.__get__"))
  ht : PySem.W.takesIn K (.builtin "object.__class__") = some true
  hm : PySem.W.mroIn K C (.type "object") = some true
/-- isinstance(e, c) of the caught exception -/
def rIsX (K : PySem.W.Frag) (C a : Addr) (dd : Addr) : List V → Hp → VK → Prop := fun xs H Q => ∃ (c : V) (cv : Value) (b : Bool) (fs : List (Str × V)), xs = [.ref a, c] ∧ (∀ u, RelV c u → u = cv) ∧ H dd = some (.xd fs) ∧ PySem.W.kitOne K (.ref C) cv = some b ∧ Q (.bl b) H
theorem call_isX {a C dd : Addr} {oe : Obj} {pn : List (Addr × Obj)} (F : XcF X.K C) (hz : Zc (.ref C) (some dd) oe) (hf : ∃ vs, oe.data = .fields vs) : CallR (X.suite a ((a, oe) :: pn)) (.builtin "isinstance") (rIsX X.K C a dd) := by
  intro pins s σ H xs us Q I r h
  obtain ⟨c, cv, b, fs, rfl, hcv, hd, e, q⟩ := h
  cases r with
  | cons rx rr =>
    cases rr with
    | cons rt rr =>
      cases rr
      cases rx
      have ec := hcv _ rt
      subst ec
      obtain ⟨hget, _⟩ := I.pin (a, oe) (List.mem_append.mpr (.inl List.mem_cons_self))
      obtain ⟨vs, hv⟩ := hf
      obtain ⟨mA, hns, hr⟩ : ObjOk X.prog X.w H s.heap dd (.xd fs) := I.hok dd _ hd
      obtain ⟨od, ho, hl⟩ := lookIn_ns hns
      have J : PySem.W.InstAt s.heap a oe C (some od) := ⟨hget, hz.1, by unfold PySem.W.notCls; rw [hv] <;> rfl, by rw [hz.2]; exact ho⟩
      exact PySem.W.kia_one (PySem.W.kitx_exc F.ci F.xf.ga F.xf.gg F.xf.exC F.ha F.hn F.ht F.hm) I.kIn J e (fun z => nomatch z) fun tk => ⟨.bl b, H, I.kept (t' := tk) fun _ _ z => z, rfl, q⟩
/-- within the suite -/
structure Suite (X : Cx) (D : Dcl) (a C dd : Addr) (oe : Obj) (c : Nat) (fs : List A) (ws : List V) (Sx : Hp) : Prop where
  f : XcF X.K C
  z : Zc (.ref C) (some dd) oe
  d : ∃ vs, oe.data = .fields vs
  at_ : Sx dd = some (.xd ((D.flds c).zip ws))
  len : (D.flds c).length = ws.length
  rep : Reps X.K (D.ex a Sx) Sx fs ws
theorem xc_at {S0 H0 S H : Hp} {σ : L2.St} {ρ : Env'} {p : Pen} {a C dd : Addr} {oe : Obj} {c : Nat} {fs : List A} {ws : List V} {Sx : Hp} (W : Suite X D a C dd oe c fs ws Sx) (R : Rel X.K (D.ex a Sx) S0 H0 S H σ ρ own p) : H dd = some (.xd ((D.flds c).zip ws)) ∧ Reps X.K (D.ex a Sx) S fs ws :=
  ⟨R.good.sub _ _ (R.good.tabs.xc Sx rfl _ _ W.at_), Reps.mono (R.good.tabs.xc Sx rfl) _ _ W.rep⟩
def isxM (i : Nat) (b : Bool) : ME' := fun ρ => bd (vM i ρ) fun a => match a with
  | .fn n => if n = EX then ret (.bl b) else no
  | _ => no
theorem me_isx {a C C' dd : Addr} {oe : Obj} {c i : Nat} {fs : List A} {ws : List V} {Sx : Hp} {pn : List (Addr × Obj)} {x n : Str} {b : Bool} {p1 p2 p3 pos : Pos} (W : Suite X D a C dd oe c fs ws Sx) (hk : PySem.W.kitOne X.K (.ref C) (.ref C') = some b)
    (hg : Gl (X.suite a ((a, oe) :: pn)) "isinstance") (hm : X.mg "isinstance" = none) (hN : X.N[i]? = some x) (hv : Vis X.env.scope x) (ho : i ∉ own) (hgn : Gl (X.suite a ((a, oe) :: pn)) n) (hmn : X.mg n = some (.ref C'))
    (hd : (x == ("__debug__" : Str)) = false := by decide) (hcd : (x == ("__classdict__" : Str)) = false := by decide) (hdn : (n == ("__debug__" : Str)) = false := by decide) :
    ME (X.suite a ((a, oe) :: pn)) (D.ex a Sx) own xk (.Call (.Name "isinstance" p1) [.Name x p2, .Name n p3] [] pos) (isxM i b) := by
  refine PE.of (pe_callB (call_isX W.f W.z W.d) hg hm boot_isinstance (pa_cons (me_var (D := D.ex a Sx) (own := own) (xk := xk) hN hv ho hd hcd) (pa_cons (pe_glob (v := .ref C') hgn hmn rfl hdn) pa_nil)) (by decide) (by decide)) fun σ H Q q => ?_
  obtain ⟨S0, H0, S, ρ, p, R, q⟩ := q
  refine tG.bind R q fun y p1 S1 H1 v _ e1 R1 r1 q1 => ?_
  cases y <;> first | exact q1.elim | skip
  dsimp only at q1
  split at q1
  case isFalse => exact q1.elim
  rename_i en
  subst en
  simp only [Rep] at r1
  obtain ⟨f, rfl, hf⟩ := r1
  have hf : some a = some f := hf
  cases hf
  exact ⟨.ref C', .ref C', b, _, rfl, fun u r => r, (xc_at W R1).1, hk, Aft.ok q1 R1 (Rep.bl_iff.mpr rfl)⟩
def xfM (i : Nat) (names : List Str) (fs : List A) (f : Str) : ME' := fun ρ => bd (vM i ρ) fun a => match a with
  | .fn n => if n = EX then (match (names.zip fs).lookup f with
    | some b => ret b
    | none => no) else no
  | _ => no
theorem zip_look {K : PySem.W.Frag} {S : Hp} {f : Str} : ∀ {ns : List Str} {fs : List A} {ws : List V} {b : A}, Reps K D S fs ws → (ns.zip fs).lookup f = some b → ∃ v, (ns.zip ws).lookup f = some v ∧ Rep K D S b v
  | [], fs, ws, b, r, h => by simp at h
  | n :: ns, [], ws, b, r, h => by simp at h
  | n :: ns, x :: fs, ws, b, r, h => by
    obtain ⟨v, r', rfl, h1, h2⟩ := Reps.cons_iff.mp r
    rw [List.zip_cons_cons, List.lookup_cons] at h ⊢
    cases e : f == n with
    | true =>
      rw [e] at h
      cases h
      exact ⟨v, rfl, h1⟩
    | false =>
      rw [e] at h
      exact zip_look h2 h
theorem me_xf {a C dd : Addr} {oe : Obj} {c i : Nat} {fs : List A} {ws : List V} {Sx : Hp} {pn : List (Addr × Obj)} {x f : Str} {p2 pos : Pos} {names : List Str} (W : Suite X D a C dd oe c fs ws Sx) (hns : D.flds c = names) (hno : PySem.W.findIn X.K (.ref C) f = some none) (hN : X.N[i]? = some x) (hv : Vis X.env.scope x) (ho : i ∉ own)
    (hd : (x == ("__debug__" : Str)) = false := by decide) (hcd : (x == ("__classdict__" : Str)) = false := by decide)
    (hb : attributeBase (.Name x p2) f X.env (eval (.Name x p2) X.env) = eval (.Name x p2) X.env := by rfl) : ME (X.suite a ((a, oe) :: pn)) (D.ex a Sx) own xk (.Attribute (.Name x p2) f pos) (xfM i names fs f) := by
  refine PE.of (pe_xf W.f.xf hno W.z W.d (me_var (D := D.ex a Sx) (own := own) (xk := xk) hN hv ho hd hcd) hb) fun σ H Q q => ?_
  obtain ⟨S0, H0, S, ρ, p, R, q⟩ := q
  refine tG.bind R q fun y p1 S1 H1 v _ e1 R1 r1 q1 => ?_
  cases y <;> first | exact q1.elim | skip
  dsimp only at q1
  split at q1
  case isFalse => exact q1.elim
  rename_i en
  subst en
  simp only [Rep] at r1
  obtain ⟨f', rfl, hf⟩ := r1
  have hf : some a = some f' := hf
  cases hf
  cases el : (names.zip fs).lookup f with
  | none => rw [el] at q1; exact q1.elim
  | some b =>
    rw [el] at q1
    obtain ⟨h1, h2⟩ := xc_at W R1
    rw [hns] at h1
    obtain ⟨v, h3, h4⟩ := zip_look h2 el
    exact ⟨rfl, rfl, dd, _, v, rfl, h1, h3, Aft.ok q1 R1 h4⟩
/-- try: body / except x as n: suite, where the suite returns -/
def tryM (i N : Nat) (m : MS') (su : Nat → List A → MS') : MS' := fun ρ p => match m ρ p with
  | .exc c fs p' => if noClos fs = true ∧ c < 20 then bd (nox (su c fs ((List.replicate N none).set i (some (.fn EX))))) (fun f => match f with
    | .rt a => if noClo a then ret (.rt a) else no
    | _ => no) p' else .stuck
  | r => r
theorem ms_tryAs {i : Nat} {n x : Str} {CM : Addr} {body suite : List Stmt} {b₀ : Stmt} {np pos pos' : Pos} {m : MS'} {su : Nat → List A → MS'} (hs : X.stack = X.env :: X.outer) (hf : X.env.frame = some X.env.locals) (hN : X.N.Nodup) (hi : X.N[i]? = some n) (hln : X.env.kindOf n = some .local) (hc : Names X x (.ref CM)) (hxc : D.xc = none)
    (tk : Takes X (fun cls d _ H => xk cls d H))
    (hall : ∀ c C, D.cls c = some C → c < 20 → PySem.W.exmOne X.K (.ref C) (.ref CM) = some true ∧ XcF X.K C)
    (hb : ∀ (W : XK) (pn : List (Addr × Obj)) (xe : Value → Shared → Prop), Takes (X.tr pn xe) (fun cls d _ H => W cls d H) → MSs (X.tr pn xe) D own own' ownB W body m)
    (hsu : ∀ (a C dd : Addr) (oe : Obj) (pn : List (Addr × Obj)) (c : Nat) (fs : List A) (ws : List V) (Sx : Hp), D.cls c = some C → c < 20 → Suite X D a C dd oe c fs ws Sx → MSs (X.suite a ((a, oe) :: pn)) (D.ex a Sx) [] own2 [] xk0 (b₀ :: suite) (su c fs)) :
    MS X D own own' ownB xk (.Try body [.ExceptHandler (some (.Name x np)) (some n) (b₀ :: suite) pos'] [] [] pos) (tryM i X.N.length m su) := by
  refine PS.of (ps_try_as (tb := fun W => tS X.K D own own' ownB (fun cls d H => ∀ σ : L2.St, σ.length = X.N.length → W cls d σ H) m)
    (ts := fun a cls d N σ H => ∃ c C dd fs ws Sx, cls = .ref C ∧ d = some dd ∧ D.cls c = some C ∧ c < 20 ∧ XcF X.K C ∧ Sx dd = some (.xd ((D.flds c).zip ws)) ∧ (D.flds c).length = ws.length ∧ Reps X.K (D.ex a Sx) Sx fs ws ∧ tS X.K (D.ex a Sx) [] own2 [] xk0 (su c fs) N σ H)
    hs hf hN hi hln hc tk (fun W pn xe t _ => hb _ pn xe ?_) fun a oe cls d pn hz hd => ?_) fun N σ H q => ?_
  · rintro u s' ⟨a, B, sI, pins, σ, H, cls, d, e, I, nb, up, sky, na, os, ag, w⟩
    exact t u s' ⟨a, B, sI, pins, σ, H, cls, d, e, I, nb, up, sky, na, os, ag, w σ I.len⟩
  · refine ⟨fun pins s σ H N I q => ?_⟩
    obtain ⟨c, C, dd, fs, ws, Sx, rfl, rfl, h1, h2, h3, h4, h5, h6, q⟩ := q
    exact (hsu a C dd oe pn c fs ws Sx h1 h2 ⟨h3, hz, hd, h4, h5, h6⟩).run pins s σ H N I q
  · obtain ⟨S0, H0, S, ρ, p, R, q⟩ := q
    refine ⟨S0, H0, S, ρ, p, R, ?_⟩
    unfold tryM at q
    cases em : m ρ p with
    | ok f p' =>
      rw [em] at q
      dsimp only at q
      cases f <;> exact q
    | stuck => rw [em] at q; exact q.elim
    | exc c fs p' =>
      rw [em] at q
      dsimp only at q
      by_cases nb : noClos fs = true ∧ c < 20
      case neg => rw [if_neg nb] at q; exact q.elim
      rw [if_pos nb] at q
      obtain ⟨nb, hlt⟩ := nb
      intro S' H' C d vs ex g hd0 hcl hd' hlen rw' σ' hσ
      obtain ⟨hx1, hx2⟩ := hall c C hcl hlt
      refine ⟨true, hx1, fun _ a ha => ?_, fun z => (by cases z)⟩
      have subS : ∀ b o, S' b = some o → upd S' d (.xd ((D.flds c).zip vs)) b = some o := fun b o e => by
        by_cases z : b = d
        · subst z
          rw [upd_same, ← hd']
          exact g.sub b o e
        · rw [upd_ne z]; exact e
      have subH : ∀ b o, upd S' d (.xd ((D.flds c).zip vs)) b = some o → H' b = some o := fun b o e => by
        by_cases z : b = d
        · subst z
          rw [upd_same] at e
          rw [hd']; exact e
        · rw [upd_ne z] at e; exact g.sub b o e
      have nπ : D.π ≠ d := fun z => by
        have h1 := g.pen.1
        rw [z, hd'] at h1; cases h1
      have td : Told D (D.ex a (upd S' d (.xd ((D.flds c).zip vs)))) := ⟨rfl, rfl, rfl⟩
      have tb : Told (D.ex a (upd S' d (.xd ((D.flds c).zip vs)))) D := ⟨rfl, rfl, rfl⟩
      have hil : i < X.N.length := (List.getElem?_eq_some_iff.mp hi).1
      refine ⟨c, C, d, fs, vs, upd S' d (.xd ((D.flds c).zip vs)), rfl, rfl, hcl, hlt, hx2, upd_same, hlen, Reps.bareT td (fun b o e _ => subS b o e) fs vs nb rw', S0, H0, upd S' d (.xd ((D.flds c).zip vs)), (List.replicate X.N.length none).set i (some (.fn EX)), p', ?_, ?_⟩
      · refine ⟨⟨subH, by rw [upd_ne nπ]; exact g.npen, fun b ps e => ?_, ⟨g.pen.1, subS _ _ g.pen.2⟩, ⟨g.tabs.tabs, fun b φ e => subS _ _ (g.tabs.exts b φ e), g.tabs.tbls, fun Sx e b o z => by cases e; exact z⟩⟩, ⟨fun b o e => subS b o (ex.sub b o e), ex.keep, ex.there, fun b e => ?_⟩, fun j b hj _ => ?_, fun j b hj hn => absurd hn (by simp), fun j j' b b' q' _ _ hn => absurd hn (by simp), ?_⟩
        · by_cases z : b = d
          · subst z
            rw [upd_same] at e; cases e
          · rw [upd_ne z] at e; exact g.ntbl b ps e
        · by_cases z : b = d
          · subst z; exact .inr hd0
          · rw [upd_ne z] at e; exact ex.dom b e
        · by_cases z : i = j
          · subst z
            rw [List.getElem?_set_self (by simpa using hil)] at hj
            have hj := Option.some.inj (Option.some.inj hj)
            subst hj
            refine ⟨.ref a, by rw [List.getElem?_set_self (by rw [hσ]; exact hil)], ?_⟩
            simp only [Rep]
            exact ⟨a, rfl, rfl⟩
          · rw [List.getElem?_set_ne z, List.getElem?_replicate] at hj
            split at hj <;> cases hj
        · rw [List.length_set, List.length_set, List.length_replicate, hσ]
      · unfold bd at q
        cases er : su c fs ((List.replicate X.N.length none).set i (some (.fn EX))) p' with
        | exc c2 fs2 p2 =>
          have e2 : nox (su c fs ((List.replicate X.N.length none).set i (some (.fn EX)))) p' = .stuck := by unfold nox; rw [er]
          rw [e2] at q
          exact q.elim
        | stuck =>
          have e2 : nox (su c fs ((List.replicate X.N.length none).set i (some (.fn EX)))) p' = .stuck := by unfold nox; rw [er]
          rw [e2] at q
          exact q.elim
        | ok f p2 =>
          have e2 : nox (su c fs ((List.replicate X.N.length none).set i (some (.fn EX)))) p' = .ok f p2 := by unfold nox; rw [er]
          rw [e2] at q
          cases f <;> first | exact q.elim | skip
          rename_i b
          dsimp only [Res.bind] at q
          by_cases na : noClo b = true
          case neg => rw [if_neg na] at q; exact q.elim
          rw [if_pos na] at q
          intro S2 H2 v ex2 g2 rv
          exact q S2 H2 v ⟨ex2.sub, ex2.keep, ex2.there, ex2.dom⟩ ⟨g2.sub, g2.npen, g2.ntbl, g2.pen, ⟨g2.tabs.tabs, g2.tabs.exts, g2.tabs.tbls, fun Sx e => by rw [hxc] at e; cases e⟩⟩ (Rep.bareT tb (fun _ _ e _ => e) b v na rv)
end
end Mir

/-! Mir21: the end of a law. -/
namespace Mir
open PySem PySem.Spec PyProof.Rows L2
open Classical in
/-- what is told where the law begins: the script, the tables -/
noncomputable def hp0 (K : PySem.W.Frag) (a : Addr) (o : Obj) (ns : List Int) (ts : List Addr) : Hp := fun b =>
  if b ∈ ts then some (.tbl #[]) else if b = a ∧ K.lookup a = none then some (.frz o (.lst (ns.map V.int))) else none
section
variable {P : Program} {w : World} {K : PySem.W.Frag} {mg mb : Str → Option Value} {CX : CXT} {k : Nat} {fa a : Addr} {cs : List (Addr × Addr)} {fd : FuncData} {x : Str} {sp : Sp} {t : Shared} {vs : List Value} {ns : List Int}
theorem law_go (KX : K.In t.heap) (hns : t.heap.Ns mainGlobals mg) (hb : t.heap.Ns builtinsNs mb) (hbb : ∀ x : Str, x ≠ "__name__" → mb x = bootBuiltins x) (hlim : t.heap.NoLimit) (hg : t.gens = #[])
    (hT : ∀ p ∈ cs, t.heap.get? p.2 = some { cls := .none, data := .fields #[] }) (nT : ∀ p ∈ cs, K.lookup p.2 = none) (C : ∀ p ∈ cs, PySem.W.CodeHd t.heap p.1 p.2)
    (hbm : ∃ (bm : Addr) (ob : Obj), mg "__builtins__" = some (.ref bm) ∧ bm ≠ builtinsNs ∧ t.heap.get? bm = some ob ∧ ob.cls = .type "module" ∧ ob.dict = some builtinsNs ∧ ob.data = .plain)
    (ha : t.heap.get? a = some { cls := .type "list", data := .seq vs.toArray }) (hi : IntsAre vs ns) (hl : ns.length ≤ sizeLine) (hr : Room k callerA)
    (F : ∀ base : Heap, K.In base → base.Ns mainGlobals mg → (∀ p ∈ cs, LamX.TabB base mg p.1 p.2) → FnG P w K mg base CX k fa fd [x] sp) (hbind : ∀ (s : Shared) (u : Value), BindsTo s fd ⟨[u], []⟩ [(x, u)])
    (hsp : ∀ o : Obj, SqL K (hp0 K a o ns (cs.map (·.2))) a (ns.map V.int) → sp [.ref a] (hp0 K a o ns (cs.map (·.2))) (fun v _ => v = .bl true) fun _ _ _ => False)
    (hCX : ∀ H e t', CX [] H t (fun _ _ _ => False) e t' → False) :
    codeAny (model P w) callerA (.call (.ref fa) ⟨[.ref a], []⟩) (fun r t' => r = .ok (.ret (.bool true)) ∧ OldK t.heap t'.heap ∧ t'.os = t.os ∧ AllBare t'.gens) t := by
  have rv := vals_ints hi
  have tab : ∀ {b : Addr}, b ∈ cs.map (·.2) → t.heap.get? b = some { cls := .none, data := .fields #[] } := fun {b} h => by
    obtain ⟨p, hp, rfl⟩ := List.mem_map.mp h
    exact hT p hp
  have aT : a ∉ cs.map (·.2) := fun z => by
    have q := tab z
    rw [ha] at q
    cases q
  -- the heap told
  have h_a : ∀ {b : Addr} {u : HO}, hp0 K a { cls := .type "list", data := .seq vs.toArray } ns (cs.map (·.2)) b = some u → (b ∈ cs.map (·.2) ∧ u = .tbl #[]) ∨ (b = a ∧ K.lookup a = none ∧ u = .frz { cls := .type "list", data := .seq vs.toArray } (.lst (ns.map V.int))) := fun {b u} e => by
    unfold hp0 at e
    split at e
    · rename_i z
      exact .inl ⟨z, (Option.some.inj e).symm⟩
    · split at e
      · rename_i z
        exact .inr ⟨z.1, z.2, (Option.some.inj e).symm⟩
      · cases e
  have tin : ∀ {b : Addr}, b ∈ cs.map (·.2) → hp0 K a { cls := .type "list", data := .seq vs.toArray } ns (cs.map (·.2)) b = some (.tbl #[]) := fun {b} z => if_pos z
  have sq : SqL K (hp0 K a { cls := .type "list", data := .seq vs.toArray } ns (cs.map (·.2))) a (ns.map V.int) := by
    cases e : K.lookup a with
    | none => exact .inl (.inr ⟨_, (if_neg aT).trans (if_pos ⟨rfl, e⟩)⟩)
    | some o =>
      have e2 := KX a o e
      rw [ha] at e2
      cases e2
      exact .inr ⟨_, vs.toArray, _, e, rfl, rfl, rfl, by rw [List.size_toArray, hi.length]; exact hl, by simpa using rv⟩
  have hok : HOk P w (hp0 K a { cls := .type "list", data := .seq vs.toArray } ns (cs.map (·.2))) t.heap := fun b u e => by
    rcases h_a e with ⟨z, rfl⟩ | ⟨rfl, _, rfl⟩
    · exact tab z
    · exact ⟨ha, by rw [List.length_map]; exact hl, vs, _, rv, ha⟩
  -- what is not told is ground
  have fre : ∀ {b : Addr} {o : Obj}, t.heap.get? b = some o → (∀ vs n, o.data ≠ .seq vs n) → o.data ≠ .fields #[] → hp0 K a { cls := .type "list", data := .seq vs.toArray } ns (cs.map (·.2)) b = none := fun {b o} e n1 n2 => by
    cases q : hp0 K a { cls := .type "list", data := .seq vs.toArray } ns (cs.map (·.2)) b with
    | none => rfl
    | some u =>
      rcases h_a q with ⟨z, _⟩ | ⟨z, _, _⟩
      · have y := tab z
        rw [e] at y
        cases y
        exact absurd rfl n2
      · rw [z, ha] at e
        cases e
        exact absurd rfl (n1 _ _)
  have nsD : ∀ {b : Addr} {m : Str → Option Value}, t.heap.Ns b m → (hidT t.heap (hp0 K a { cls := .type "list", data := .seq vs.toArray } ns (cs.map (·.2)))).Ns b m := fun {b m} ⟨o, es, ep, e, d, r⟩ =>
    ⟨o, es, ep, hidT_get e (fre e (fun vs n z => by rw [d] at z; cases z) fun z => by rw [d] at z; cases z), d, r⟩
  have kin : K.In (hidT t.heap (hp0 K a { cls := .type "list", data := .seq vs.toArray } ns (cs.map (·.2)))) := fun b o e => hidT_get (KX b o e) (by
    cases q : hp0 K a { cls := .type "list", data := .seq vs.toArray } ns (cs.map (·.2)) b with
    | none => rfl
    | some u =>
      rcases h_a q with ⟨z, _⟩ | ⟨z, y, _⟩
      · obtain ⟨p, hp, ep⟩ := List.mem_map.mp z
        rw [← ep, nT p hp] at e
        cases e
      · rw [z, y] at e
        cases e)
  have M : L2.Mod K mg (hidT t.heap (hp0 K a { cls := .type "list", data := .seq vs.toArray } ns (cs.map (·.2)))) := ⟨kin, nsD hns, ⟨mb, nsD hb, hbb⟩, by
    obtain ⟨mc, h1, h2⟩ := hlim
    exact ⟨mc, nsD h1, h2⟩⟩
  have TB : ∀ p ∈ cs, LamX.TabB (hidT t.heap (hp0 K a { cls := .type "list", data := .seq vs.toArray } ns (cs.map (·.2)))) mg p.1 p.2 := fun p hp => by
    refine ⟨?_, ?_, fun z => ?_⟩
    · obtain ⟨o, us, f1, f2, f3, f4, f5, f6, f7, e1, r1, r2, r3, r⟩ := C p hp
      exact ⟨o, us, f1, f2, f3, f4, f5, f6, f7, hidT_get e1 (fre e1 (fun vs n z => by rw [r2] at z; cases z) fun z => by
        rw [r2] at z
        cases z
        simp at r3), r1, r2, r3, r⟩
    · obtain ⟨bm, ob, b1, b2, b3, b4, b5, b6⟩ := hbm
      refine ⟨bm, ob, b1, b2, fun q => ?_, fun q => ?_, hidT_get b3 (fre b3 (fun vs n z => by rw [b6] at z; cases z) fun z => by rw [b6] at z; cases z), b4, b5, b6⟩
      · obtain ⟨o, es, ep, e, hd, _⟩ := hns
        rw [q, e] at b3
        cases b3
        rw [hd] at b6
        cases b6
      · rw [q, hT p hp] at b3
        cases b3
        cases b6
    · obtain ⟨o, es, ep, e, hd, _⟩ := hns
      rw [z, hT p hp] at e
      cases e
      cases hd
  have e0 : Env0 P w K mg (hidT t.heap (hp0 K a { cls := .type "list", data := .seq vs.toArray } ns (cs.map (·.2)))) callerA [] t (hp0 K a { cls := .type "list", data := .seq vs.toArray } ns (cs.map (·.2))) :=
    ⟨rfl, M, fun b o e => of_hidT e, Nat.le_of_eq (hidT_size _ _), trivial, fun b h => absurd (show b ∈ ([] : List Addr) from h) (by simp), hok, .of_eq hg⟩
  refine codeAny_mono ((F _ kin (nsD hns) TB).go callerA [] t _ ⟨[.ref a], []⟩ [.ref a] [.ref a] _ _ hr rfl e0 (hbind t (.ref a)) (.cons rfl .nil) (hsp _ sq)) fun r t' h => ?_
  cases r with
  | error e => exact (hCX _ e t' h).elim
  | ok fl =>
    cases fl with
    | ret u =>
      obtain ⟨v, H', os, bare, un, hok', r, q⟩ := h
      have q : v = .bl true := q
      subst q
      cases r
      have keep : ∀ b o, b ∉ cs.map (·.2) → t.heap.get? b = some o → t'.heap.get? b = some o := fun b o nb e => by
        cases q : hp0 K a { cls := .type "list", data := .seq vs.toArray } ns (cs.map (·.2)) b with
        | none => exact un.keep b o e q (fun z => absurd (show b ∈ ([] : List Addr) from z) (by simp)) (by simp)
        | some u =>
          rcases h_a q with ⟨z, _⟩ | ⟨rfl, _, rfl⟩
          · exact absurd z nb
          · obtain ⟨e1, _⟩ := hok' _ _ (un.frzs _ _ _ q)
            rw [ha] at e
            cases e
            exact e1
      have grown : ∀ p ∈ cs, ∃ more : Array Value, t'.heap.get? p.2 = some { cls := .none, data := .fields more } := fun p hp => by
        obtain ⟨more, z⟩ := un.tbls p.2 #[] (tin (List.mem_map.mpr ⟨p, hp, rfl⟩))
        exact ⟨_, hok' _ _ z⟩
      refine ⟨rfl, ⟨fun b o e => ?_, fun b o e => ?_⟩, os, bare⟩
      · by_cases z : b ∈ cs.map (·.2)
        · obtain ⟨p, hp, rfl⟩ := List.mem_map.mp z
          obtain ⟨more, hm⟩ := grown p hp
          have e2 := tab z
          rw [e] at e2
          cases e2
          exact .inr (.inl ⟨((C p hp).tab (hT p hp)).isCodeTable, rfl, #[], more, rfl, by rw [Array.empty_append]; exact hm⟩)
        · exact .inl (keep b o z e)
      · by_cases z : b ∈ cs.map (·.2)
        · obtain ⟨p, hp, rfl⟩ := List.mem_map.mp z
          obtain ⟨more, hm⟩ := grown p hp
          exact ⟨_, hm⟩
        · exact ⟨o, keep b o z e⟩
    | _ => exact h.elim
end
/-- what is known of the law's promise at the heap h where it begins -/
def LawG (l : PySem.W.OpenLaw) (w : World) (K : PySem.W.Frag) (CX : CXT) (k n : Nat) (x : Str) (mg : Str → Option Value) (fa : Addr) (h : Heap) : Prop :=
  ∃ (fd : FuncData) (cs : List (Addr × Addr)) (sp : Sp), (∀ p ∈ cs, h.get? p.2 = some { cls := .none, data := .fields #[] }) ∧ (∀ p ∈ cs, K.lookup p.2 = none) ∧ (∀ p ∈ cs, PySem.W.CodeHd h p.1 p.2) ∧ (∀ (s : Shared) (u : Value), BindsTo s fd ⟨[u], []⟩ [(x, u)]) ∧
    (∀ (a : Addr) (o : Obj) (ns : List Int), ns.length ≤ n → (∀ z ∈ ns, Builtin.Int.intBits z ≤ 1048576) → SqL K (hp0 K a o ns (cs.map (·.2))) a (ns.map V.int) → sp [.ref a] (hp0 K a o ns (cs.map (·.2))) (fun v _ => v = .bl true) fun _ _ _ => False) ∧
    ∀ base : Heap, K.In base → base.Ns mainGlobals mg → (∀ p ∈ cs, LamX.TabB base mg p.1 p.2) → FnG l.prog w K mg base CX k fa fd [x] sp
/-- the tables of the program's defs, still empty -/
def TabsF (q : Program) (mg : Str → Option Value) (h : Heap) : Prop := ∀ d ∈ recsOf q, ∃ a o fd c P, mg d.name = some (.ref a) ∧ h.get? a = some o ∧ o.data = .func fd ∧ fd.code = .ref c ∧ h.IsCode c P #[] ∧ h.TableAt c P #[]
theorem walk_ofG {l : PySem.W.OpenLaw} {n k : Nat} {q : Program} {loose : List Str} {XP : (Str → Option Value) → Heap → Prop} {YP : World → Heap → Prop} {d : DefRec} {K : Params → PySem.W.Frag} {CX : World → CXT} {x : Str}
    (hn : l.most = some n) (hn2 : n ≤ sizeLine) (hdf : d.params.defaults = []) (hr : Room k callerA) (hY : ∀ (w : World) (h : Heap), YP w h → (K w.params).In h)
    (F : ∀ (w : World) (mg : Str → Option Value) (fa : Addr) (h : Heap), YP w h → (K w.params).In h → h.Ns mainGlobals mg → mg d.name = some (.ref fa) → TabsF q mg h → LawG l w (K w.params) (CX w) k n x mg fa h)
    (hCX : ∀ (w : World) (H : Hp) (s : Shared) (e : Value) (u : Shared), CX w [] H s (fun _ _ _ => False) e u → False) :
    PySem.W.WalkO q loose XP YP l.row.toRowW d [] (fun f vs => PySem.call f vs) := by
  refine Att.attach_callB hn hdf fun w s₀ t mg mb fa o pm cd doc a vs ns G Y ho hd hcd hmg hobj hints hlen hbits hg => ?_
  obtain ⟨fd, cs, sp, hT, nT, C, hb, hsp, hF⟩ := F w mg fa _ Y (hY w _ Y) G.T.g hmg G.T.tab
  exact law_go (hY w _ Y) G.T.g G.T.b G.T.builtins G.T.nolimit hg hT nT C G.T.bmain hobj hints (Nat.le_trans hlen hn2) hr hF hb (fun o hS => hsp a o ns hlen hbits hS) fun H e t' => hCX w H t e t'
theorem tab_at {q : Program} {K : PySem.W.Frag} {mg : Str → Option Value} {h : Heap} {x : Str} {f c P : Addr} {oc e : Value} {od dd : Option Addr} {fd : FuncData} {osl sl : Array (Option Value)} {vs : Array Value} (T : TabsF q mg h) (hx : (recsOf q).any (fun d => d.name == x) = true) (KX : K.In h) (hm : mg x = some (.ref f)) (lk : K.lookup f = some ⟨oc, od, .func fd, osl⟩)
    (hcd : fd.code = .ref c) (kc : K.lookup c = some ⟨e, dd, .fields vs, sl⟩) (hv : vs[11]? = some (.ref P)) : h.get? P = some { cls := .none, data := .fields #[] } ∧ PySem.W.CodeHd h c P := by
  obtain ⟨d, hd, hn⟩ := List.any_eq_true.mp hx
  obtain ⟨a, o, fd', c', P', h1, h2, h3, h4, ⟨o5, us, file, tf, flags, tg, inF, text, tt, op, i1, i2, i3, i4, i5, i6, i7, i8, i9, i10, i11⟩, ⟨⟨o6, us', j1, j2, j3, j4⟩, j5⟩⟩ := T d hd
  rw [beq_iff_eq.mp hn, hm] at h1
  cases h1
  have g1 := KX _ _ lk
  rw [g1] at h2
  cases h2
  cases h3
  rw [hcd] at h4
  cases h4
  have g2 := KX _ _ kc
  rw [g2] at i1 j1
  cases i1
  cases j1
  cases i2
  cases j3
  rw [hv] at j4
  cases j4
  exact ⟨j5, _, vs, file, tf, flags, tg, inF, text, tt, g2, j2, rfl, hv, i3, i4, i5, i6, i7, i11⟩
end Mir

/-! Mir22: the pen: made, read, written. -/
namespace Mir
open PySem PySem.Spec PyProof.Rows L2
def penFold (ns : List Int) : Int := ns.foldl (fun f c => (f * 47 + c) % 1000000007) 0
def penKvs (κ : Addr) (at_ digits count fold : Int) : List (Key × V) := [(.inr "cells", .ref κ), (.inr "at", .int at_), (.inr "digits", .int digits), (.inr "count", .int count), (.inr "fold", .int fold)]
def spPen (K : PySem.W.Frag) : Sp := fun vs H Q _ => ∃ (a : Addr) (ns : List Int), vs = [.ref a] ∧ SqL K H a (ns.map V.int) ∧ ∀ π κ, H π = none → H κ = none → κ ≠ π → Q (.ref π) (upd (upd H κ (.lst (ns.map V.int))) π (.dK (penKvs κ 0 0 0 (penFold ns))))
theorem penFold_bd (l : List Int) : ∀ f : Int, 0 ≤ f ∧ f < 1000000007 → 0 ≤ l.foldl (fun f c => (f * 47 + c) % 1000000007) f ∧ l.foldl (fun f c => (f * 47 + c) % 1000000007) f < 1000000007 := by
  induction l with
  | nil => exact fun f h => h
  | cons c l ih => exact fun f h => ih _ ⟨Int.emod_nonneg _ (by decide), Int.emod_lt_of_pos _ (by decide)⟩
/-- the reading of the pen's making -/
def rInt1 : List V → Hp → VK → Prop := fun xs H Q => (∃ i, xs = [.int i] ∧ Q (.int i) H) ∨ ∃ k, xs = [.bl k] ∧ Q (.int (if k then 1 else 0)) H
def rLst1 (K : PySem.W.Frag) : List V → Hp → VK → Prop := fun xs H Q => ∃ p ys, xs = [.ref p] ∧ (SqL K H p ys ∨ SqT K H p ys) ∧ ∀ l, H l = none → Q (.ref l) (upd H l (.lst ys))
def tPen (K : PySem.W.Frag) : TS := tSeq (tAsg (tC (.int 0)) (gName 1)) (tSeq (tFor (iSeq K (tVar 0)) (gName 2) (tAsg (tOp (rI (fun _ j => 0 < j) fun i j => .int (i % j)) (tCB rInt1 (tCons (tOp (rI0 fun i j => .int (i + j)) (tOp (rI CMul fun i j => .int (i * j)) (tVar 1) (tC (.int 47))) (tVar 2)) tNil)) (tC (.int 1000000007))) (gName 1)))
  (tRet (tDisp [(tC (.str "cells"), tCB (rLst1 K) (tCons (tVar 0) tNil)), (tC (.str "at"), tC (.int 0)), (tC (.str "digits"), tC (.int 0)), (tC (.str "count"), tC (.int 0)), (tC (.str "fold"), tVar 1)])))
theorem pen_read {K : PySem.W.Frag} {vs : List V} {H : Hp} {Q : VK} {E : XK} {N : Ends} {Nm : List Str} (hN : Nm.length = 3) (hr : N.rt = Q) (h : spPen K vs H Q E) : tPen K N (L2.start Nm vs) H := by
  obtain ⟨a, ns, rfl, hs, q⟩ := h
  have e0 : L2.start Nm [.ref a] = [some (.ref a), none, none] := by
    unfold L2.start
    rw [hN]
    rfl
  rw [e0]
  refine ⟨.ref a, rfl, a, rfl, .inl ⟨⟨_, hs⟩, ?_⟩⟩
  refine for_it (walk_list (K := K) (a := a) (xs := ns.map V.int)) (fun i σ H' => H' = H ∧ ∃ c, σ = [some (.ref a), some (.int (penFold (ns.take i))), c]) ⟨rfl, none, rfl⟩ (fun i σ H' _ z => by rw [z.1]; exact hs) ?_ ?_
  · rintro i x σ H1 H2 hi ⟨rfl, c, rfl⟩ ⟨rfl, hx⟩
    rw [List.getElem?_map] at hx
    cases z : ns[i]? with
    | none => rw [z] at hx; cases hx
    | some n =>
      rw [z] at hx
      cases hx
      have bd := penFold_bd (ns.take i) 0 (by decide)
      refine ⟨.int (penFold (ns.take i)), rfl, _, 47, rfl, rfl, .inl ⟨by unfold penFold; omega, by unfold penFold; omega⟩, .int n, rfl, _, n, rfl, rfl, .inl ⟨_, rfl, _, 1000000007, rfl, rfl, (by show (0 : Int) < 1000000007; decide), rfl, some (.int n), ?_⟩⟩
      have hi' : i < ns.length := (List.getElem?_eq_some_iff.mp z).1
      have e : ns.take (i + 1) = ns.take i ++ [n] := by
        rw [List.take_add_one, z]
        rfl
      rw [e]
      unfold penFold
      rw [List.foldl_append]
      rfl
  · rintro σ H' ⟨rfl, c, rfl⟩
    rw [List.length_map, List.take_length]
    intro π hπ
    refine ⟨.ref a, rfl, a, ns.map V.int, rfl, .inl (SqL.mono (fun b o e => ?_) hs), fun κ hκ => ?_⟩
    · rw [upd_ne (ne_of_none e hπ)]; exact e
    · have nκ : κ ≠ π := fun z => by rw [z, upd_same] at hκ; cases hκ
      rw [upd_ne nκ] at hκ
      refine ⟨.int (penFold ns), rfl, by rw [upd_ne (Ne.symm nκ), upd_same], [(.inr "cells", .ref κ), (.inr "at", .int 0), (.inr "digits", .int 0), (.inr "count", .int 0), (.inr "fold", .int (penFold ns))], rfl, (by show 5 ≤ 15; decide), ?_⟩
      have e : upd (upd (upd H' π (.dK [])) κ (.lst (ns.map V.int))) π (.dK (mergeK [] [(.inr "cells", .ref κ), (.inr "at", .int 0), (.inr "digits", .int 0), (.inr "count", .int 0), (.inr "fold", .int (penFold ns))])) = upd (upd H' κ (.lst (ns.map V.int))) π (.dK (penKvs κ 0 0 0 (penFold ns))) := by
        rw [upd_swap (Ne.symm nκ), upd_upd]
        rfl
      rw [e, hr]
      exact q π κ hπ hκ nκ
/-! ### its numbers read and written -/
inductive PF where
  | at_ | digits | count | fold
def PF.name : PF → Str
  | .at_ => "at" | .digits => "digits" | .count => "count" | .fold => "fold"
def Pen.get (p : Pen) : PF → Int
  | .at_ => p.at_ | .digits => p.digits | .count => p.count | .fold => p.fold
def Pen.put (p : Pen) (f : PF) (n : Int) : Pen := match f with
  | .at_ => { p with at_ := n } | .digits => { p with digits := n } | .count => { p with count := n } | .fold => { p with fold := n }
section
variable {X : Cx} {D : Dcl} {own own' ownB : List Nat} {xk : XK}
theorem Rel.pen {K : PySem.W.Frag} {S0 H0 S H : Hp} {σ : L2.St} {ρ : Env'} {p p' : Pen} (R : Rel K D S0 H0 S H σ ρ own p) (hc : p'.cells = p.cells) :
    Rel K D S0 H0 S (upd H D.π (.dK [(.inr "cells", .ref D.κ), (.inr "at", .int p'.at_), (.inr "digits", .int p'.digits), (.inr "count", .int p'.count), (.inr "fold", .int p'.fold)])) σ ρ own p' := by
  have g := R.good
  have no : ∀ b u, S b = some u → b ≠ D.π := fun b u e z => by rw [z, g.npen] at e; cases e
  refine ⟨⟨fun b u e => by rw [upd_ne (no b u e)]; exact g.sub b u e, g.npen, g.ntbl, ⟨upd_same, by rw [hc]; exact g.pen.2⟩, g.tabs.write g.pen.1 (fun _ z => (by cases z)) (fun _ z => (by cases z)) (fun _ z => (by cases z)) (fun _ z => (by cases z))⟩,
    ⟨R.ext.sub, fun b u e n t => by rw [upd_ne n]; exact R.ext.keep b u e n t, fun b e => ?_, R.ext.dom⟩, R.slot, fun j b hj hn => ?_, R.dist, R.len⟩
  · by_cases z : b = D.π
    · rw [z, upd_same]; exact fun z => (by cases z)
    · rw [upd_ne z]; exact R.ext.there b e
  · obtain ⟨q, h1, h2, h3, h4, h5⟩ := R.ownd j b hj hn
    exact ⟨q, h1, h2, h3, h4, h5.mono (fun _ _ z => z) fun u hu => by rw [upd_ne h4]; exact hu⟩
def onPen (m : ME') (k : M A) : ME' := fun ρ => bd (m ρ) fun a => match a with
  | .pen => k
  | _ => no
theorem pen_val (κ : Addr) (p : Pen) (f : PF) : valV (penKvs κ p.at_ p.digits p.count p.fold) (.inr f.name) = some (.int (p.get f)) := by
  cases f <;> rfl
theorem me_penG {o : Expr} {m : ME'} {f : PF} {s : Str} {j : Nat} {p2 pos : Pos} (hu : X.A.units + 1 < cLine) (hf : f.name = s) (ho : ME X D own xk o m) : ME X D own xk (.Subscript o (.Constant (.str s) j p2) pos) (onPen m fun p => .ok (.int (p.get f)) p) :=
  PE.of (pe_dget hu ho pe_str fun _ _ => rfl) fun σ H Q q => by
    obtain ⟨S0, H0, S, ρ, p, R, q⟩ := q
    refine tG.bind R q fun a p1 S1 H1 x _ e1 R1 r1 q1 => ?_
    cases a <;> first | exact q1.elim | skip
    simp only [Rep] at r1
    subst r1
    refine ⟨D.π, .int (p1.get f), rfl, ?_, Aft.ok q1 R1 (Rep.int_iff.mpr rfl)⟩
    rw [← pen_val D.κ p1 f, hf]
    exact DGet.k (k := .inr s) R1.good.pen.1
theorem me_penC {o : Expr} {m : ME'} {j : Nat} {p2 pos : Pos} (hu : X.A.units + 1 < cLine) (ho : ME X D own xk o m) : ME X D own xk (.Subscript o (.Constant (.str "cells") j p2) pos) (onPen m fun p => .ok (.lst (p.cells.map A.int)) p) :=
  PE.of (pe_dget hu ho pe_str fun _ _ => rfl) fun σ H Q q => by
    obtain ⟨S0, H0, S, ρ, p, R, q⟩ := q
    refine tG.bind R q fun a p1 S1 H1 x _ e1 R1 r1 q1 => ?_
    cases a <;> first | exact q1.elim | skip
    simp only [Rep] at r1
    subst r1
    refine ⟨D.π, .ref D.κ, rfl, DGet.k (k := .inr "cells") R1.good.pen.1, Aft.ok q1 R1 (Rep.lst_iff.mpr ⟨D.κ, _, rfl, R1.good.pen.2, ?_⟩)⟩
    have : ∀ ns : List Int, Reps X.K D S1 (ns.map A.int) (ns.map V.int) := fun ns => by
      induction ns with
      | nil => exact Reps.nil_iff.mpr rfl
      | cons n ns ih => exact Reps.cons_iff.mpr ⟨_, _, rfl, Rep.int_iff.mpr rfl, ih⟩
    exact this _
def penS (mo : ME') (f : PF) (m : ME') : MS' := fun ρ => bd (m ρ) fun a => bd (mo ρ) fun o => match o, a with
  | .pen, .int n => fun p => .ok (.nx ρ) (p.put f n)
  | _, _ => no
theorem pen_put (κ : Addr) (p : Pen) (f : PF) (n : Int) : putK (penKvs κ p.at_ p.digits p.count p.fold) (.inr f.name) (.int n) = penKvs κ (p.put f n).at_ (p.put f n).digits (p.put f n).count (p.put f n).fold := by
  cases f <;> rfl
theorem ms_penS {o e : Expr} {mo m : ME'} {f : PF} {s : Str} {j : Nat} {p2 p3 pos : Pos} (hu : X.A.units + 1 < cLine) (hf : f.name = s) (ho : ME X D own xk o mo) (he : ME X D own xk e m) (hs : swapsWith e (some (.Subscript o (.Constant (.str s) j p2) p3)) pos.line X.env = pure false := by rfl) :
    MS X D own own ownB xk (.Assign [.Subscript o (.Constant (.str s) j p2) p3] e pos) (penS mo f m) :=
  PS.of (ps_dput hu ho pe_str he hs) fun N σ H q => by
    obtain ⟨S0, H0, S, ρ, p, R, q⟩ := q
    refine AftS.bind R q fun a p1 S1 H1 v _ e1 R1 r1 q1 => ?_
    refine AftS.bind R1 q1 fun b p2 S2 H2 x _ e2 R2 r2 q2 => ?_
    cases b <;> cases a <;> first | exact q2.elim | skip
    simp only [Rep] at r2
    subst r2
    rw [Rep.int_iff] at r1
    subst r1
    rename_i n _
    refine ⟨D.π, _, rfl, DPut.k (k := .inr s) (v := .int n) R2.good.pen.1 (by show 5 < sizeLine; rw [sizeLine_eq]; decide), ?_⟩
    have e := pen_put D.κ p2 f n
    rw [hf] at e
    unfold penKvs at e
    rw [e]
    exact q2 S2 _ σ (R2.pen (by cases f <;> rfl))
end
end Mir

/-! Mir23: the law itself. -/
namespace Mir
open PySem PySem.Spec PyProof.Rows L2
def pen0 (ns : List Int) : Pen := ⟨ns, 0, 0, 0, penFold ns⟩
def lawM (N ip : Nat) (m : MS') (ns : List Int) : Prop := ∃ p', m ((List.replicate N none).set ip (some .pen)) (pen0 ns) = .ok (.rt (.bl true)) p'
/-- the heap where a law begins -/
structure Start (T : List (Addr × Str)) (H : Hp) : Prop where
  noext : ∀ c φ, H c ≠ some (.ext φ)
  tabs : ∀ t ∈ T, H t.1 = some (.tbl #[])
  tbls : ∀ c ps, H c = some (.tbl ps) → ∃ q, (c, q) ∈ T
def spLaw (K : PySem.W.Frag) (T : List (Addr × Str)) (N ip : Nat) (m : MS') : Sp := fun vs H Q _ => ∃ (a : Addr) (ns : List Int), vs = [.ref a] ∧ SqL K H a (ns.map V.int) ∧ Start T H ∧ lawM N ip m ns ∧ ∀ H', Q (.bl true) H'
section
variable {P : Program} {w : World} {K : PySem.W.Frag} {mg : Str → Option Value} {base : Heap}
structure PenDef (P : Program) (w : World) (K : PySem.W.Frag) (mg : Str → Option Value) (base : Heap) (k : Nat) : Prop where
  ex : ∃ (f : Addr) (fd : FuncData) (ps : List Str), mg "_law_pen" = some (.ref f) ∧ PySem.W.keepIn K (.ref f) = true ∧ L2.Binds K fd ps [] ∧ FnOk P w K mg base (L2.CX P w) k f fd ps (spPen K)
theorem mk_law {st s0 : Stmt} {rest : List Stmt} {f : Addr} {fd : FuncData} {N ps : List Str} {k ip : Nat} {own' : List Nat} {m : MS'} {T : List (Addr × Str)} {Dc : Addr → Addr → List (Str × Addr) → Dcl} (F : L2.Fun K "law" "law" st f fd) (S : FnScope N ps (defScope st)) (hps : ps.length = 1) (hb : defBody st = s0 :: rest) (h0 : 0 < N.length) (hip : ip < N.length)
    (hD : ∀ π κ c, (Dc π κ c).π = π ∧ (Dc π κ c).κ = κ ∧ (Dc π κ c).T = T ∧ (Dc π κ c).xc = none)
    (first : ∀ (cdv : Value) (A : Around) (outer : List Env) (s : Shared) (H : Hp) (E : XK), Room k (A.deeper (envOfC "law" (defScope st) s.heap.objs.size f cdv)) →
      PS (cxOf (L2.CX P w) P w K mg base N "law" (defScope st) f cdv A outer s H E) s0 (tAsg (tCall (spPen K) [] (fun _ _ _ => False) (tCons (tVar 0) tNil)) (gName ip)))
    (body : ∀ (cdv : Value) (A : Around) (outer : List Env) (s : Shared) (H : Hp) (E : XK) (π κ : Addr), fd.code = cdv → PySem.W.codeIn K cdv "law" = true → Room k (A.deeper (envOfC "law" (defScope st) s.heap.objs.size f cdv)) → A.guards = some [] →
      MSs (cxOf (L2.CX P w) P w K mg base N "law" (defScope st) f cdv A outer s H E) (Dc π κ (cellsFrom (s.heap.objs.size + 1) (defScope st).names [])) [] own' [] E rest m) :
    FnG P w K mg base (L2.CX P w) (k + 1) f fd ps (spLaw K T N.length ip m) := by
  obtain ⟨oc, od, kV, doc, pm, an, cdv, ct, osl, efd, lk, hcd⟩ := F.ex
  have len : ∀ vs H Q E, spLaw K T N.length ip m vs H Q E → vs.length = ps.length := fun vs H Q E h => by
    obtain ⟨a, ns, rfl, _⟩ := h
    rw [hps]
    rfl
  refine ⟨len, fun B fl t H gs us vs Q E hr hG e0 bt rv h => ?_⟩
  subst efd
  refine LamX.run_ofS lk hcd S hr e0 bt rv (len _ _ _ _ h) fun hr' => ?_
  obtain ⟨a, ns, rfl, hs, St, hl, hq⟩ := h
  refine ⟨tSeq (tAsg (tCall (spPen K) [] (fun _ _ _ => False) (tCons (tVar 0) tNil)) (gName ip)) (fun N σ H' => ∃ π κ, tS K (Dc π κ (cellsFrom (t.heap.objs.size + 1) (defScope st).names [])) [] own' [] E m N σ H'), ?_, ?_⟩
  · show PSs _ (defBody st) _
    rw [hb]
    refine pss_cons (first cdv B fl t H E hr') ⟨fun pins s σ H1 N1 I q => ?_⟩
    obtain ⟨π, κ, q⟩ := q
    exact (body cdv B fl t H E π κ rfl hcd hr' hG).run pins s σ H1 N1 I q
  · have e0 : (L2.start N [.ref a])[0]? = some (some (.ref a)) := by
      unfold L2.start
      rfl
    refine ⟨.ref a, e0, a, ns, rfl, hs, fun π κ hπ hκ nκ => ⟨π, κ, ?_⟩⟩
    obtain ⟨d1, d2, d3, d4⟩ := hD π κ (cellsFrom (t.heap.objs.size + 1) (defScope st).names [])
    obtain ⟨p', hl⟩ := hl
    have oth : ∀ {b : Addr}, b ≠ κ → b ≠ π → upd (upd H κ (.lst (ns.map V.int))) π (.dK (penKvs κ 0 0 0 (penFold ns))) b = H b := fun {b} h1 h2 => by rw [upd_ne h2, upd_ne h1]
    have oκ : upd (upd H κ (.lst (ns.map V.int))) π (.dK (penKvs κ 0 0 0 (penFold ns))) κ = some (.lst (ns.map V.int)) := by rw [upd_ne nκ, upd_same]
    have sone : ∀ {b : Addr} {o : HO}, (if b = κ then some (HO.lst (ns.map V.int)) else none) = some o → b = κ ∧ o = .lst (ns.map V.int) := fun {b o} e => by
      by_cases z : b = κ
      · rw [if_pos z] at e
        exact ⟨z, (Option.some.inj e).symm⟩
      · rw [if_neg z] at e; cases e
    have g : Good (Dc π κ (cellsFrom (t.heap.objs.size + 1) (defScope st).names [])) (fun b => if b = κ then some (.lst (ns.map V.int)) else none) (upd (upd H κ (.lst (ns.map V.int))) π (.dK (penKvs κ 0 0 0 (penFold ns)))) (pen0 ns) := by
      refine ⟨fun b o e => ?_, by rw [d1]; exact if_neg (Ne.symm nκ), fun b q e => ?_, ?_, ⟨fun q hq => ?_, fun c φ e => ?_, fun c q e => ?_, fun Sx e => by rw [d4] at e; cases e⟩⟩
      · obtain ⟨rfl, rfl⟩ := sone e
        exact oκ
      · obtain ⟨_, z⟩ := sone e
        cases z
      · unfold PenAt
        rw [d1, d2]
        exact ⟨upd_same, if_pos rfl⟩
      · rw [d3] at hq
        have h1 := St.tabs q hq
        exact LamX.TabS.nil (by rw [oth (ne_of_none h1 hκ) (ne_of_none h1 hπ)]; exact h1)
      · by_cases z : c = π
        · rw [z, upd_same] at e; cases e
        · by_cases y : c = κ
          · rw [y, oκ] at e; cases e
          · rw [oth y z] at e
            exact absurd e (St.noext c φ)
      · rw [d3]
        by_cases z : c = π
        · rw [z, upd_same] at e; cases e
        · by_cases y : c = κ
          · rw [y, oκ] at e; cases e
          · rw [oth y z] at e
            exact St.tbls c q e
    refine ⟨fun b => if b = κ then some (.lst (ns.map V.int)) else none, upd (upd H κ (.lst (ns.map V.int))) π (.dK (penKvs κ 0 0 0 (penFold ns))), fun b => if b = κ then some (.lst (ns.map V.int)) else none, (List.replicate N.length none).set ip (some .pen), pen0 ns, ⟨g, .refl, fun j b hj _ => ?_, fun j b hj hn => absurd hn (by simp), fun j j' b b' q' _ _ hn => absurd hn (by simp), ?_⟩, ?_⟩
    · by_cases z : ip = j
      · subst z
        rw [List.getElem?_set_self (by simpa using hip)] at hj
        have hj := Option.some.inj (Option.some.inj hj)
        subst hj
        refine ⟨.ref π, by rw [List.getElem?_set_self (by unfold L2.start; simp; omega)], ?_⟩
        simp only [Rep]
        rw [d1]
      · rw [List.getElem?_set_ne z, List.getElem?_replicate] at hj
        split at hj <;> cases hj
    · unfold L2.start
      simp
      omega
    · rw [hl]
      intro S2 H2 v ex g2 r2
      rw [Rep.bl_iff.mp r2]
      exact hq H2
end
end Mir

/-! Mir24: sorted. -/
namespace Mir
open PySem PySem.Spec PyProof.Rows L2
section
variable {prog : Program} {w : World} {A : Around} {E : Value → Shared → Prop} {s : Shared} {β : Type} {R : Value → β → Prop} {enc : β → PyData} {bs : List β}
theorem sorted_any {it : Addr} {T : String} {o : Obj} {vs : List Value} {n : Nat} {Q : Value → Shared → Prop} (hT : T = "list" ∨ T = "tuple") (ho : s.heap.get? it = some o) (hc : o.cls = .type T) (hd : o.data = .seq vs.toArray n)
    (e : PySem.W.EachIs R vs bs) (er : PySem.W.EachIs (fun v b => ∃ as, Reads s.heap v (enc b) as) vs bs) (hal : PySem.W.AllAlike (bs.map enc)) (hk : PySem.W.Sortable (bs.map enc)) (hL : bs.length ≤ sizeLine)
    (hu : ∀ b, b ∈ bs → A.units + 2 + (enc b).depth < cLine)
    (h : ∀ (out : List Value) (g h' : Heap) (n' : Nat), out.length = bs.length → PySem.W.EachIs R out (bs.mergeSort (PySem.W.dataLe false enc)) → (∀ b o, s.heap.get? b = some o → g.get? b = some o) → (∀ b o, g.get? b = some o → h'.get? b = some o) → h'.get? g.objs.size = some (seqObj "list" out.toArray n') → Q (.ref g.objs.size) { s with heap := h' }) :
    wpAny (model prog w) A (call (.builtin "sorted") [.ref it]) Q E s := by
  have hlen : vs.length ≤ sizeLine := by rw [e.length]; exact hL
  refine call_function_entry_kw kind_sorted plain_sorted entry_sorted (args_sorted1 _) ?_
  unfold Builtin.«sorted»
  refine wpAny_bind (m := checkCount "sorted" 1 1 _) (wpAny_pure ?_)
  refine wpAny_bind (wpAny_collect_seq it hT ho hc hd (fun g kg => ?_) (by rw [List.size_toArray]; exact hlen))
  refine wpAny_bind (wpAny_newList ?_ (by simpa using hlen))
  have hat : (g.push (seqObj "list" vs.toArray 0)).get? g.objs.size = some (seqObj "list" vs.toArray 0) := Heap.get?_push_size _ rfl
  have kp : ∀ b o, s.heap.get? b = some o → (g.push (seqObj "list" vs.toArray 0)).get? b = some o := fun b o z => Heap.get?_push_of_some _ (kg b o z)
  refine wpAny_bind (wpAny_holding (wpAny_call_entry_kw slot_list_sort ⟨_, hat, rfl⟩ entry_list_sort ?body (args_list_sort _)))
  case body =>
    have hlt : ∀ b o, s.heap.get? b = some o → b < g.objs.size := fun b o z => Heap.lt_size (kg b o z)
    have er' : PySem.W.EachIs (fun v b => ∃ as, Reads (PySem.W.sortingHeap (g.push (seqObj "list" vs.toArray 0)) g.objs.size vs) v (enc b) as) vs bs := er.mono fun _ _ ⟨as, r⟩ => ⟨as, PyProof.Rows.Reads.keeps (fun b o z => PySem.W.sortingHeap_old (Nat.ne_of_lt (hlt b o z)) (kp b o z)) r⟩
    have S : PySem.W.SortsAt prog w A.in1.in1 { s with heap := PySem.W.sortingHeap (g.push (seqObj "list" vs.toArray 0)) g.objs.size vs } (PySem.W.dataKind (PySem.W.sortingHeap (g.push (seqObj "list" vs.toArray 0)) g.objs.size vs) (bs.map enc)) vs :=
      PySem.W.SortsAt.data (s := { s with heap := PySem.W.sortingHeap (g.push (seqObj "list" vs.toArray 0)) g.objs.size vs }) (PySem.W.each_map (R := fun v d => ∃ as, Reads (PySem.W.sortingHeap (g.push (seqObj "list" vs.toArray 0)) g.objs.size vs) v d as) enc er') hal hk (PySem.W.bound_map hu)
    show wpAny (model prog w) A.in1.in1 (Builtin.«list.sort» ⟨[.ref g.objs.size], []⟩) _ _ { s with heap := g.push (seqObj "list" vs.toArray 0) }
    refine PySem.W.list_sort_vals (s := { s with heap := g.push (seqObj "list" vs.toArray 0) }) hat S hlen ⟨_, rfl, wpAny_pure ⟨_, rfl, ?_⟩⟩
    obtain ⟨n', hn⟩ := sortedHeap_at (vs := vs) (out := (PySem.W.sortVals (PySem.W.dataKind (PySem.W.sortingHeap (g.push (seqObj "list" vs.toArray 0)) g.objs.size vs) (bs.map enc)) false vs vs).toArray) hat
    refine h _ g _ n' ?_ (PySem.W.sortVals_data false e er' hal) kg (fun b o z => ?_) hn
    · rw [PySem.W.sortVals_length false rfl]; exact e.length
    · rw [sortedHeap_old (Nat.ne_of_lt (Heap.lt_size z)) (Nat.lt_of_lt_of_le (Heap.lt_size z) (by rw [size_push']; exact Nat.le_succ _))]
      exact Heap.get?_push_of_some _ z
end
/-! the rule -/
def rSortX (X : Cx) : List V → Hp → VK → Prop := fun vs H Q => ∃ (a : Addr) (xs : List V) (β : Type) (bs : List β) (enc : β → PyData) (Rv : V → β → Prop), vs = [.ref a] ∧ (SqL X.K H a xs ∨ SqT X.K H a xs) ∧ Paired Rv xs bs ∧ DpAll X.K H xs (bs.map enc) ∧ PySem.W.AllAlike (bs.map enc) ∧ PySem.W.Sortable (bs.map enc) ∧
  bs.length ≤ sizeLine ∧ (∀ b, b ∈ bs → (enc b).depth ≤ 60) ∧ ∀ (l : Addr) (ws : List V), H l = none → Paired Rv ws (bs.mergeSort (PySem.W.dataLe false enc)) → Q (.ref l) (upd H l (.lst ws))
theorem each_of {β : Type} {Rv : V → β → Prop} : ∀ {xs : List V} {us : List Value} {bs : List β}, Vals xs us → Paired Rv xs bs → PySem.W.EachIs (fun u b => ∃ v, RelV v u ∧ Rv v b) us bs
  | _, _, _, .nil, .nil => .nil
  | _, _, _, .cons r t, .cons p q => .cons ⟨_, r, p⟩ (each_of t q)
theorem of_each {β : Type} {Rv : V → β → Prop} : ∀ {us : List Value} {bs : List β}, PySem.W.EachIs (fun u b => ∃ v, RelV v u ∧ Rv v b) us bs → ∃ ws, Vals ws us ∧ Paired Rv ws bs
  | _, _, .nil => ⟨[], .nil, .nil⟩
  | _, _, .cons ⟨v, r, p⟩ t => by
    obtain ⟨ws, h1, h2⟩ := of_each t
    exact ⟨v :: ws, .cons r h1, .cons p h2⟩
theorem each_dp {X : Cx} {pins : List (Addr × Obj)} {σ : L2.St} {H : Hp} {s : Shared} {β : Type} (enc : β → PyData) (I : Inv X pins σ H s) : ∀ {bs : List β} {xs : List V} {us : List Value}, Vals xs us → DpAll X.K H xs (bs.map enc) → PySem.W.EachIs (fun v b => ∃ as, Reads s.heap v (enc b) as) us bs
  | [], _, _, .nil, _ => .nil
  | b :: bs, _, _, .cons r t, d => by
    cases d with
    | cons d1 d2 => exact .cons (Dp.reads I (enc b) _ _ d1 r) (each_dp enc I t d2)
  | [], _, _, .cons r t, d => by cases d
  | b :: bs, _, _, .nil, d => by cases d
theorem cr_sort {X : Cx} (hu : X.A.units + 64 < cLine) : CallR X (.builtin "sorted") (rSortX X) := by
  intro pins s σ H vs us Q I r h
  obtain ⟨a, xs, β, bs, enc, Rv, rfl, hs, hp, hd, hal, hk, hL, hdp, q⟩ := h
  rw [Vals.ref1 r]
  have key : ∀ {T : String} {o : Obj} {its : List Value} {n : Nat}, Vals xs its → (T = "list" ∨ T = "tuple") → s.heap.get? a = some o → o.cls = .type T → o.data = .seq its.toArray n → wpAny (model X.prog X.w) X.A (call (.builtin "sorted") [.ref a]) (EP X pins σ Q) X.xe s := fun {T o its n} rv hT ho hc hdt => by
    refine sorted_any hT ho hc hdt (each_of rv hp) (each_dp enc I rv hd) hal hk hL (fun b hb => by have := hdp b hb; omega) fun out g h' n' h1 h2 k1 k2 h3 => ?_
    obtain ⟨ws, w1, w2⟩ := of_each h2
    have I1 : Inv X pins σ H { s with heap := g } := I.kept k1
    have hlen : ws.length ≤ sizeLine := by rw [w1.length, h1]; exact hL
    exact ⟨.ref g.objs.size, _, I1.laid (a := g.objs.size) (o := .lst ws) (t' := s.toks) k2 (Nat.le_refl _) ⟨hlen, out, n', w1, h3⟩, rfl, q _ ws (I1.hok.fresh (Nat.le_refl _)) w2⟩
  rcases hs with hs | hs
  · obtain ⟨its, rv, ⟨o, n, ho, hc, _, hdt⟩, hz⟩ := I.list hs
    exact key rv (.inl rfl) ho hc hdt
  · obtain ⟨its, rv, ⟨o, ho, hc, n, hdt⟩, hz⟩ := I.tuple hs
    exact key rv (.inr rfl) ho hc hdt
/-! ### its plain meaning -/
def encA (a : A) : PyData := (toPy a).getD .none
def alikeB (ds : List PyData) : Bool := ds.all fun d => ds.all fun e => PySem.W.alike d e
def sortB (ds : List PyData) : Bool := (ds.all fun d => match d with | .tuple (_ :: _) => true | _ => false) || ds.all fun d => match d with | .none => false | .tuple _ => false | _ => true
def sortL (xs : List A) : M A := match toPys xs with
  | some ds => if alikeB ds = true ∧ sortB ds = true ∧ xs.length ≤ sizeLine ∧ (∀ d ∈ ds, d.depth ≤ 60) then ret (.lst (xs.mergeSort (PySem.W.dataLe false encA))) else no
  | none => no
def sortA : List A → M A
  | [.lst xs] => sortL xs
  | [.tup xs] => sortL xs
  | _ => no
theorem encA_map : ∀ {xs : List A} {ds : List PyData}, toPys xs = some ds → xs.map encA = ds
  | [], ds, h => by simp only [toPys, Option.some.injEq] at h; subst h; rfl
  | x :: xs, ds, h => by
    simp only [toPys] at h
    cases hx : toPy x with
    | none => simp [hx] at h
    | some d =>
      cases hxs : toPys xs with
      | none => simp [hx, hxs] at h
      | some es =>
        simp only [hx, hxs, Option.some.injEq] at h
        subst h
        rw [List.map_cons, encA_map hxs]
        unfold encA
        rw [hx]
        rfl
section
variable {X : Cx} {D : Dcl} {own : List Nat} {xk : XK}
theorem reps_paired {K : PySem.W.Frag} {S : Hp} : ∀ {xs : List A} {vs : List V}, Reps K D S xs vs → Paired (fun v a => Rep K D S a v) vs xs
  | [], vs, h => by rw [Reps.nil_iff] at h; subst h; exact .nil
  | x :: xs, vs, h => by
    obtain ⟨v, r, rfl, h1, h2⟩ := Reps.cons_iff.mp h
    exact .cons h1 (reps_paired h2)
theorem paired_reps {K : PySem.W.Frag} {S : Hp} : ∀ {xs : List A} {vs : List V}, Paired (fun v a => Rep K D S a v) vs xs → Reps K D S xs vs
  | [], vs, h => by cases h; exact Reps.nil_iff.mpr rfl
  | x :: xs, vs, h => by
    cases h with
    | cons h1 h2 => exact Reps.cons_iff.mpr ⟨_, _, rfl, h1, paired_reps h2⟩
theorem sortL_ok {S0 H0 S H : Hp} {σ : L2.St} {ρ : Env'} {p : Pen} {xs : List A} {vs : List V} {Q : VK} {a : Addr} (R : Rel X.K D S0 H0 S H σ ρ own p) (r : Reps X.K D S xs vs) (hs : SqL X.K H a vs ∨ SqT X.K H a vs) (h : Aft X.K D (Rep X.K D) xk S0 H0 S H σ ρ own (sortL xs p) Q) : rSortX X [.ref a] H Q := by
  unfold sortL at h
  cases e : toPys xs with
  | none => rw [e] at h; exact h.elim
  | some ds =>
    rw [e] at h
    dsimp only at h
    split at h
    · rename_i c
      obtain ⟨c1, c2, c3, c4⟩ := c
      have em := encA_map e
      refine ⟨a, vs, A, xs, encA, _, rfl, hs, reps_paired r, ?_, ?_, ?_, c3, fun b hb => c4 _ (by rw [← em]; exact List.mem_map.mpr ⟨b, hb, rfl⟩), fun l ws hl hw => Aft.newL R (paired_reps hw) h hl⟩
      · rw [em]
        exact Reps.dp R.good.sub xs vs ds e r
      · rw [em]
        intro d hd d' hd'
        exact List.all_eq_true.mp (List.all_eq_true.mp c1 d hd) d' hd'
      · rw [em]
        rcases Bool.or_eq_true_iff.mp c2 with z | z
        · refine .inl fun d hd => ?_
          have := List.all_eq_true.mp z d hd
          split at this
          · exact ⟨_, _, rfl⟩
          · cases this
        · refine .inr fun d hd => ?_
          have := List.all_eq_true.mp z d hd
          split at this
          · cases this
          · cases this
          · rename_i n1 n2
            exact ⟨n1, n2⟩
    · exact h.elim
theorem fnm_sorted : FnM X D own xk (rSortX X) sortA := by
  intro S0 H0 S H σ ρ p as vs Q R r h
  unfold sortA at h
  split at h
  · obtain ⟨v, ev, r1⟩ := Reps.one r
    subst ev
    obtain ⟨a, ws, rfl, s, r⟩ := Rep.lst_iff.mp r1
    exact sortL_ok R r (.inl (SqL.of (R.good.sub _ _ s))) h
  · obtain ⟨v, ev, r1⟩ := Reps.one r
    subst ev
    obtain ⟨a, ws, rfl, s, r⟩ := Rep.tup_iff.mp r1
    exact sortL_ok R r (.inr (SqT.up R.good s)) h
  · exact h.elim
end
end Mir

/-! Mir25: what the printed derivations lean on. -/
namespace Mir
open PySem PySem.Spec PyProof.Rows L2
theorem hu65 {k : Nat} {A : Around} (h : Room k A) : A.units + 65 < cLine := by have := h.un; omega
theorem hu64 {k : Nat} {A : Around} (h : Room k A) : A.units + 64 < cLine := by have := h.un; omega
theorem hu1 {k : Nat} {A : Around} (h : Room k A) : A.units + 1 < cLine := by have := h.un; omega
section
variable {P : Program} {w : World} {K : PySem.W.Frag} {mg : Str → Option Value} {base : Heap}
theorem tk_cx {N : List Str} {q : Str} {sc : Scope} {f : Addr} {cdv : Value} {A : Around} {outer : List Env} {s : Shared} {H : Hp} {E : XK} : Takes (cxOf (L2.CX P w) P w K mg base N q sc f cdv A outer s H E) (fun cls d _ H => E cls d H) := takes_of rfl rfl rfl rfl
theorem px {N : List Str} {q : Str} {sc : Scope} {f : Addr} {cdv : Value} {A : Around} {outer : List Env} {s : Shared} {H : Hp} {E : XK} : Passes (L2.CX P w) (cxOf (L2.CX P w) P w K mg base N q sc f cdv A outer s H E) E := passes_call tk_cx fun _ _ _ _ h => h
theorem pown {N : List Str} {q : Str} {sc : Scope} {f : Addr} {cdv : Value} {A : Around} {outer : List Env} {s : Shared} {H : Hp} {E : XK} : PassesOwn (model P w) (cxOf (L2.CX P w) P w K mg base N q sc f cdv A outer s H E).A (cxOf (L2.CX P w) P w K mg base N q sc f cdv A outer s H E).env (cxOf (L2.CX P w) P w K mg base N q sc f cdv A outer s H E).xe := passes_of rfl
theorem px_lam {L : Lam} {cl : List (Str × Addr)} {B : Around} {fl : List Env} {t : Shared} {H : Hp} {E : XK} {f c : Addr} : Passes (L2.CX P w) (lamX P w K mg base L cl B fl t H E f c) E := passes_call (takes_of rfl rfl rfl rfl) fun _ _ _ _ h => h
/-- a def as the module holds it -/
def FnF (K : PySem.W.Frag) (mg : Str → Option Value) (x : Str) (st : Stmt) (ps : List Str) : Prop := ∃ f fd, mg x = some (.ref f) ∧ L2.Fun K x x st f fd ∧ L2.Binds K fd ps []
theorem Def.of {D : Dcl} {x : Str} {st : Stmt} {N ps : List Str} {k n : Nat} {own' : List Nat} {m : MS'} (Z : FnF K mg x st ps) (S : FnScope N ps (defScope st)) (hn : ps.length = n) (hN : n ≤ N.length)
    (body : ∀ (f : Addr) (cdv : Value) (A : Around) (outer : List Env) (s : Shared) (H : Hp) (E : XK), Room k (A.deeper (envOfC x (defScope st) s.heap.objs.size f cdv)) →
      MSs (cxOf (L2.CX P w) P w K mg base N x (defScope st) f cdv A outer s H E) D [] own' [] E (defBody st) m) : Def P w K mg base D (k + 1) x n (defM N.length m) := by
  obtain ⟨f, fd, h1, h2, h3⟩ := Z
  exact mk_def h2 h1 S h3 hn hN (body f)
theorem DefG.of {D : Dcl} {x : Str} {st : Stmt} {N ps : List Str} {k n : Nat} {own' : List Nat} {m : MS'} (Z : FnF K mg x st ps) (S : FnScope N ps (defScope st)) (hn : ps.length = n) (hN : n ≤ N.length)
    (body : ∀ (f : Addr) (cdv : Value) (A : Around) (outer : List Env) (s : Shared) (H : Hp) (E : XK), Room k (A.deeper (envOfC x (defScope st) s.heap.objs.size f cdv)) → A.guards = some [] →
      MSs (cxOf (L2.CX P w) P w K mg base N x (defScope st) f cdv A outer s H E) D [] own' [] E (defBody st) m) : DefG P w K mg base D (k + 1) x n (defM N.length m) := by
  obtain ⟨f, fd, h1, h2, h3⟩ := Z
  exact mk_defG h2 h1 S h3 hn hN (body f)
/-- nothing promised -/
theorem Def.nil {D : Dcl} {x : Str} {st : Stmt} {ps : List Str} {k n : Nat} (Z : FnF K mg x st ps) (hn : ps.length = n) : Def P w K mg base D k x n (fun _ => no) := by
  obtain ⟨f, fd, h1, h2, h3⟩ := Z
  refine ⟨f, fd, ps, h1, h2.kp, h3, hn, fun vs H Q E h => ?_, fun A outer s H args us vs Q E _ _ _ _ h => ?_⟩
  · obtain ⟨_, _, _, _, _, _, z⟩ := h
    exact z.elim
  · obtain ⟨_, _, _, _, _, _, z⟩ := h
    exact z.elim
theorem Def.mono {D : Dcl} {j k n : Nat} {x : Str} {m : List A → M A} (F : Def P w K mg base D j x n m) (h : j ≤ k) : Def P w K mg base D k x n m := by
  obtain ⟨f, fd, ps, h1, h2, h3, h4, h5⟩ := F.ex
  exact ⟨f, fd, ps, h1, h2, h3, h4, h5.mono h⟩
end
section
variable {X : Cx} {D : Dcl} {own own' own2 ownB : List Nat} {xk : XK}
/-- a number of the module -/
theorem me_gint {x : Str} {i : Int} {pos : Pos} (hg : Gl X x) (hm : ∃ t, X.mg x = some (.int i t)) (hd : (x == ("__debug__" : Str)) = false := by decide) : ME X D own xk (.Name x pos) (cM (.int i)) := by
  obtain ⟨t, hm⟩ := hm
  exact PE.of (pe_glob (v := .int i) hg hm ⟨t, rfl⟩ hd) fun σ H Q h => tM.ret h fun _ => Rep.int_iff.mpr rfl
/-- the slots kept, by their members -/
theorem mss_to (is : List Nat) (h : ∀ j, j ∈ drops own is ↔ j ∈ own2) : MSs X D own own2 ownB xk [] nxM := PSs.of (mss_end (own := own) (ownB := ownB) (xk := xk) (D := D) (X := X) is) fun N σ H q => by
  obtain ⟨S0, H0, S, ρ, p, R, q⟩ := q
  refine ⟨S0, H0, S, ρ, p, R, fun S2 H2 σ2 R2 => q S2 H2 σ2 ⟨R2.good, R2.ext, fun i a h1 h2 => R2.slot i a h1 fun z => h2 ((h i).mp z), fun i a h1 h2 => R2.ownd i a h1 ((h i).mpr h2), fun i j a b q h1 h2 h3 h4 => R2.dist i j a b q h1 h2 ((h i).mpr h3) ((h j).mpr h4), R2.len⟩⟩
/-- a, b = x, y, both local -/
def parM (i j : Nat) (ms : Env' → M (List A)) : MS' := fun ρ => bd (ms ρ) fun as => match as with
  | [a, b] => ret (.nx ((ρ.set i (some a)).set j (some b)))
  | _ => no
theorem ms_par {i j : Nat} {x y : Str} {a b : Expr} {ms : Env' → M (List A)} {px py pt pos : Pos} {kt k2 pt2} (hc : X.calm = true) (hN : X.N.Nodup) (hi : X.N[i]? = some x) (hj : X.N[j]? = some y) (hij : i ≠ j)
    (hx : X.env.scope.names.lookup x = some .local) (hy : X.env.scope.names.lookup y = some .local) (ha : MA X D own xk [a, b] ms)
    (hw : swappedStores [.Tuple [.Name x px, .Name y py] kt pt] (.Tuple [a, b] k2 pt2) X.env = pure (some [x, y]) := by rfl)
    (hs : swapsWithSole [.Tuple [.Name x px, .Name y py] kt pt] (.Tuple [a, b] k2 pt2) pos.line X.env = pure false := by rfl) :
    MS X D own ((own.filter (· != i)).filter (· != j)) ownB xk (.Assign [.Tuple [.Name x px, .Name y py] kt pt] (.Tuple [a, b] k2 pt2) pos) (parM i j ms) :=
  PS.of (ps_par hc hN hi hj hij hx hy ha hw hs) fun N σ H q => by
    obtain ⟨S0, H0, S, ρ, p, R, q⟩ := q
    refine AftS.bind R q fun as p1 S1 H1 vs _ e1 R1 r1 q1 => ?_
    match as, r1, q1 with
    | [a, b], r1, q1 =>
      obtain ⟨v, w, rfl, h1, h2⟩ := Reps.two r1
      exact ⟨v, w, rfl, q1 S1 H1 _ ((R1.set i h1).set j h2)⟩
    | [], _, q1 => exact q1.elim
    | [_], _, q1 => exact q1.elim
    | _ :: _ :: _ :: _, _, q1 => exact q1.elim
end
/-! ### lambdas within a statement -/
def lamsE : Nat → Expr → List (Arguments × Expr × Scope)
  | 0, _ => []
  | n + 1, e => match e with
    | .Lambda p b s _ => [(p, b, s)]
    | .Call f as _ _ => lamsE n f ++ as.flatMap (lamsE n)
    | .Tuple es _ _ => es.flatMap (lamsE n)
    | .List es _ => es.flatMap (lamsE n)
    | .UnaryOp _ a _ => lamsE n a
    | .BinOp a _ b _ => lamsE n a ++ lamsE n b
    | .Compare a _ bs _ => lamsE n a ++ bs.flatMap (lamsE n)
    | .BoolOp _ es _ => es.flatMap (lamsE n)
    | .IfExp a b c _ => lamsE n a ++ lamsE n b ++ lamsE n c
    | .Subscript a b _ => lamsE n a ++ lamsE n b
    | _ => []
def lamsS : Nat → Stmt → List (Arguments × Expr × Scope)
  | 0, _ => []
  | n + 1, s => match s with
    | .Assign _ v _ => lamsE n v
    | .Expr v _ => lamsE n v
    | .Return (some v) _ => lamsE n v
    | .If t a b _ => lamsE n t ++ a.flatMap (lamsS n) ++ b.flatMap (lamsS n)
    | .For _ _ a _ _ => a.flatMap (lamsS n)
    | .While t a _ _ => lamsE n t ++ a.flatMap (lamsS n)
    | _ => []
/-- the n-th lambda of a def, as q, what it captures told by fr -/
def lamAt (st : Stmt) (q : Str) (n : Nat) (fr : List Str) : Option Lam := (((defBody st).flatMap (lamsS 40))[n]?).map fun t => ⟨q, t.1, t.2.1, t.2.2, fr⟩
def refO : Option Value → Option Addr
  | some (.ref a) => some a
  | _ => none
end Mir

/-! Mir26: what the module holds, told for the printed derivations. -/
namespace Mir
open PySem PySem.Spec PyProof.Rows L2
section
variable {P : Program} {w : World} {K : PySem.W.Frag} {mg : Str → Option Value} {base h : Heap}
theorem FnF.mk {x : Str} {st : Stmt} {ps : List Str} {f : Addr} {oc kV doc pm cdv ct : Value} {od an : Option Addr} {osl : Array (Option Value)} (KX : K.In h) (G : h.Ns mainGlobals mg) (a : PySem.W.nsIn K mainGlobals x = some (some (.ref f)))
    (l : K.lookup f = some ⟨oc, od, .func (PySem.W.fnOf x x (defArgs st) (defBody st) (defScope st) .none kV doc pm an cdv ct), osl⟩) (c : PySem.W.codeIn K cdv x = true) (k : PySem.W.keepIn K (.ref f) = true)
    (hb : ∀ (kV doc pm : Value) (an : Option Addr) (cdv ct : Value) (us : List Value), us.length = ps.length → bindArgs (PySem.W.fnOf x x (defArgs st) (defBody st) (defScope st) .none kV doc pm an cdv ct) ⟨us, []⟩ = pure (ps.zip us)) : FnF K mg x st ps :=
  ⟨f, _, PySem.W.mg_of KX G a, fun_mk l c k, (fun_mk (st := st) l c k).binds hb⟩
def clsBody (s : Stmt) : List Stmt := match s with
  | .ClassDef _ _ _ b _ _ _ _ _ _ _ => b
  | _ => []
/-- an exception class of the module -/
structure ErrF (K : PySem.W.Frag) (mg : Str → Option Value) (x : Str) (st : Stmt) (ps : List Str) (C : Addr) : Prop where
  m : mg x = some (.ref C)
  o : OexC K C
  ex : ∃ (fI : Addr) (fd : FuncData), PySem.W.findIn K (.ref C) "__init__" = some (some (.ref fI)) ∧ PySem.W.typeIn K (.ref fI) = some (.type "function") ∧ L2.Fun K "__init__" (x ++ ".__init__") st fI fd ∧ L2.Binds K fd ps []
  x : XcF K C
theorem ErrF.mk' {x q : Str} {st : Stmt} {ps : List Str} {C fI : Addr} {oc kV doc pm cdv ct : Value} {od an : Option Addr} {osl : Array (Option Value)}
    {nm qn N bs bm sn sub ab col dd k0 k1 k2 k3 k5} (KX : K.In h) (G : h.Ns mainGlobals mg) (hq : x ++ ".__init__" = q) (a : PySem.W.nsIn K mainGlobals x = some (some (.ref C)))
    (o1 : K.lookup C = some (excClassObj nm qn C N bs bm true sn sub ab col dd k0 k1 k2 k3 k5 "ValueError.__new__")) (o2 : PySem.HandSPX.refsVE bm = true)
    (o3 : PySem.W.findIn K (.ref C) "__setattr__" = some (some (.builtin "object.__setattr__"))) (o4 : PySem.W.subIn K (.ref C) (.type "BaseException") = some true) (o5 : PySem.W.typeIn K (.ref C) = some (.type "type")) (o6 : PySem.W.keepIn K (.ref C) = true)
    (i1 : PySem.W.findIn K (.ref C) "__init__" = some (some (.ref fI))) (i2 : PySem.W.typeIn K (.ref fI) = some (.type "function"))
    (l : K.lookup fI = some ⟨oc, od, .func (PySem.W.fnOf "__init__" q (defArgs st) (defBody st) (defScope st) .none kV doc pm an cdv ct), osl⟩) (c : PySem.W.codeIn K cdv q = true) (k : PySem.W.keepIn K (.ref fI) = true)
    (hb : ∀ (kV doc pm : Value) (an : Option Addr) (cdv ct : Value) (us : List Value), us.length = ps.length → bindArgs (PySem.W.fnOf "__init__" q (defArgs st) (defBody st) (defScope st) .none kV doc pm an cdv ct) ⟨us, []⟩ = pure (ps.zip us))
    (x1 : PySem.W.findIn K (.ref C) "__getattribute__" = some (some (.builtin "BaseException.__getattribute__"))) (x2 : PySem.W.findIn K (.ref C) "__getattr__" = some none) (x3 : PySem.W.hasDictIn K C = true)
    (x4 : PySem.W.findIn K (.ref C) "__class__" = some (some (.builtin "object.__class__"))) (x5 : PySem.W.specialIn K (.builtin "object.__class__") "__get__" = some (some (.builtin "getset_descriptor.__get__"))) (x6 : PySem.W.takesIn K (.builtin "object.__class__") = some true) (x7 : PySem.W.mroIn K C (.type "object") = some true) : ErrF K mg x st ps C := by
  subst hq
  refine ⟨PySem.W.mg_of KX G a, ⟨⟨_, _, _, _, _, _, _, _, _, _, _, _, _, _, _, o1, o2⟩, o3, o4, o5, o6⟩, ⟨fI, _, i1, i2, fun_mk l c k, (fun_mk (st := st) l c k).binds hb⟩, ⟨⟨x1, x2, o4, x3⟩, ?_, x4, x5, x6, x7⟩⟩
  unfold PySem.W.clsIn
  rw [o1]
  rfl
theorem kit_sub {C C' : Addr} {b : Bool} (hd : PySem.W.hasDictIn K C' = true) (ht : PySem.W.typeIn K (.ref C') = some (.type "type")) (h1 : PySem.W.subIn K (.ref C) (.ref C') = some b) (hs : PySem.W.subIn K (.ref C) (.ref C) = some true) : PySem.W.kitOne K (.ref C) (.ref C') = some b := by
  unfold PySem.W.kitOne
  by_cases e : C = C'
  · subst e
    rw [if_pos (beq_self_eq_true _), ← hs, h1]
  · rw [if_neg (by simpa using e)]
    obtain ⟨cd, hc, _⟩ := PySem.W.any_some hd
    unfold PySem.W.kitCls
    have e2 : ((PySem.W.clsIn K C').isSome && PySem.W.typeIn K (.ref C') == some (.type "type")) = true := by rw [hc, ht] <;> rfl
    exact (if_pos e2).trans h1
/-- the class MindError -/
structure MindF (K : PySem.W.Frag) (mg : Str → Option Value) (x : Str) (C : Addr) : Prop where
  m : mg x = some (.ref C)
  c : MindC K C
  sb : PySem.W.subIn K (.ref C) (.type "BaseException") = some true
  hd : PySem.W.hasDictIn K C = true
  ty : PySem.W.typeIn K (.ref C) = some (.type "type")
end
def clsOf (nt : List (Nat × Str)) (mg : Str → Option Value) (c : Nat) : Option Addr := (nt.lookup c).bind fun x => refO (mg x)
def fldsOf (ft : List (Nat × List Str)) (c : Nat) : List Str := (ft.lookup c).getD []
/-- how the plain values stand -/
structure DFo (mg : Str → Option Value) (nt : List (Nat × Str)) (ft : List (Nat × List Str)) (lams : Nat → Option Lam) (T : List (Addr × Str)) (D : Dcl) : Prop where
  cls : D.cls = clsOf nt mg
  flds : D.flds = fldsOf ft
  lams : D.lams = lams
  T : D.T = T
  xc : D.xc = none
theorem DFo.same {mg : Str → Option Value} {nt : List (Nat × Str)} {ft : List (Nat × List Str)} {lams : Nat → Option Lam} {T : List (Addr × Str)} {D D' : Dcl} (h : DFo mg nt ft lams T D) (s : Same D D') : DFo mg nt ft lams T D' := ⟨s.cls.trans h.cls, s.flds.trans h.flds, s.lams.trans h.lams, s.T.trans h.T, s.xc.trans h.xc⟩
theorem clsF_none {K : PySem.W.Frag} {D : Dcl} (h : ∀ c C, 20 ≤ c → D.cls c = some C → False) (h1 : PySem.W.specialIn K (.builtin "object.__class__") "__get__" = some (some (.builtin "getset_descriptor.__get__"))) (h2 : PySem.W.takesIn K (.builtin "object.__class__") = some true) : ClsF K D :=
  ⟨fun c C h1 h2 => (h c C h1 h2).elim, fun c C f h1 h2 => (h c C h1 h2).elim, fun c C h1 h2 => (h c C h1 h2).elim, fun c C h1 h2 => (h c C h1 h2).elim, h1, h2, fun c C h1 h2 => (h c C h1 h2).elim, fun c C h1 h2 => (h c C h1 h2).elim, fun c C d C' h1 _ h2 => (h c C h1 h2).elim⟩
/-- the start of a law, tables named -/
theorem start_of {K : PySem.W.Frag} {a : Addr} {o : Obj} {ns : List Int} {cs : List (Addr × Addr)} {T : List (Addr × Str)} (h1 : ∀ t ∈ T, t.1 ∈ cs.map (·.2)) (h2 : ∀ c ∈ cs.map (·.2), ∃ q, (c, q) ∈ T) : Start T (hp0 K a o ns (cs.map (·.2))) := by
  refine ⟨fun c φ e => ?_, fun t ht => if_pos (h1 t ht), fun c ps e => ?_⟩
  · unfold hp0 at e
    split at e
    · cases e
    · split at e <;> cases e
  · unfold hp0 at e
    split at e
    · rename_i z
      exact h2 c z
    · split at e <;> cases e
theorem hu65m {k : Nat} {A : Around} {v : Option Value} (h : Room k A) : (A.mark v).units + 65 < cLine := by have := h.un; show A.units + 65 < cLine; omega
/-! checks by looking -/
theorem bt_len : bootBuiltins "len" = some (.builtin "len") := by decide +kernel
theorem bt_tuple : bootBuiltins "tuple" = some (.type "tuple") := by decide +kernel
theorem bt_list : bootBuiltins "list" = some (.type "list") := by decide +kernel
theorem bt_int : bootBuiltins "int" = some (.type "int") := by decide +kernel
theorem bt_bool : bootBuiltins "bool" = some (.type "bool") := by decide +kernel
theorem bt_str : bootBuiltins "str" = some (.type "str") := by decide +kernel
theorem bt_dict : bootBuiltins "dict" = some (.type "dict") := by decide +kernel
theorem bt_all : bootBuiltins "all" = some (.builtin "all") := by decide +kernel
theorem bt_any : bootBuiltins "any" = some (.builtin "any") := by decide +kernel
theorem bt_sum : bootBuiltins "sum" = some (.builtin "sum") := by decide +kernel
theorem bt_sorted : bootBuiltins "sorted" = some (.builtin "sorted") := by decide +kernel
theorem bt_repr : bootBuiltins "repr" = some (.builtin "repr") := by decide +kernel
theorem bt_isinstance : bootBuiltins "isinstance" = some (.builtin "isinstance") := by decide +kernel
theorem bt_abs : bootBuiltins "abs" = some (.builtin "abs") := by decide +kernel
theorem bt_min : bootBuiltins "min" = some (.builtin "min") := by decide +kernel
theorem bt_max : bootBuiltins "max" = some (.builtin "max") := by decide +kernel
theorem bt_range : bootBuiltins "range" = some (.type "range") := by decide +kernel
theorem bt_enumerate : bootBuiltins "enumerate" = some (.type "enumerate") := by decide +kernel
theorem bt_zip : bootBuiltins "zip" = some (.type "zip") := by decide +kernel
theorem mem_look {β : Type} {n : Nat} {b : β} : ∀ {l : List (Nat × β)}, l.lookup n = some b → (n, b) ∈ l
  | [], h => by simp at h
  | (m, c) :: r, h => by
    rw [List.lookup_cons] at h
    cases e : n == m with
    | true =>
      rw [e] at h
      cases h
      rw [beq_iff_eq.mp e]
      exact List.mem_cons_self
    | false =>
      rw [e] at h
      exact List.mem_cons_of_mem _ (mem_look h)
theorem LamF.fr_by {L : Lam} (h : (L.scope.names.all fun y => !decide (y.2 = .free) || L.fr.contains y.1) = true) : ∀ y, L.scope.names.lookup y = some .free → y ∈ L.fr := fun y hy => by
  have h1 := List.all_eq_true.mp h _ (PySem.mem_of_lookup hy)
  simpa using h1
theorem slot_fr {L : Lam} (h : (L.scope.names.all fun y => !decide (y.2 = .free) || L.fr.contains y.1) = true) : ∀ y, (y, NameKind.free) ∈ L.scope.names → y ∈ L.fr := fun y hy => by
  have h1 := List.all_eq_true.mp h _ hy
  simpa using h1
def slotB (N : List Str) (sc : Scope) (ls : Scope) (fr : List Str) (js cap : List Nat) : Bool := (fr.zip js).all fun p => ls.names.contains (p.1, NameKind.free) && decide (N[p.2]? = some p.1) && cap.contains p.2 && decide (sc.names.lookup p.1 = some .cell)
theorem slot_by {N : List Str} {sc : Scope} {L : Lam} {own js cap : List Nat} (ho : ∀ j ∈ own, j ∉ cap) (hl : L.fr.length ≤ js.length) (h : slotB N sc L.scope L.fr js cap = true) :
    ∀ (i : Nat) y, L.fr[i]? = some y → (y, NameKind.free) ∈ L.scope.names ∧ ∃ j, js[i]? = some j ∧ N[j]? = some y ∧ j ∉ own ∧ sc.names.lookup y = some .cell := fun i y hy => by
  have hi : i < L.fr.length := (List.getElem?_eq_some_iff.mp hy).1
  have hj : js[i]? = some (js[i]'(by omega)) := List.getElem?_eq_getElem (by omega)
  have hm : (y, js[i]'(by omega)) ∈ L.fr.zip js := List.mem_iff_getElem?.mpr ⟨i, by rw [List.getElem?_zip_eq_some]; exact ⟨hy, hj⟩⟩
  have h1 := List.all_eq_true.mp h _ hm
  simp only [Bool.and_eq_true, decide_eq_true_eq, List.contains_iff_mem] at h1
  exact ⟨h1.1.1.1, _, hj, h1.1.1.2, fun z => ho _ z h1.1.2, h1.2⟩
end Mir

/-! Mir27: enumerate, zip, starred items, ranges as lists. -/
namespace Mir
open PySem PySem.Spec PyProof.Rows L2 RZ StX
section
variable {X : Cx} {D : Dcl} {own own' own2 ownB : List Nat} {xk : XK}
/-! ### enumerate(list) -/
def enumL (xs : List A) : List A := xs.mapIdx fun i x => .tup [.int (i : Nat), x]
def enumA : List A → M (List A)
  | [.lst xs] => ret (enumL xs)
  | _ => no
theorem walkM_enum {K : PySem.W.Frag} {S : Hp} {a : Addr} {xs : List A} {vs : List V} (h : S a = some (.lst vs)) (r : Reps K D S xs vs) : WalkM K D (Ite K a) (enumL xs) S := by
  have w := walk_enum (K := K) (a := a) (xs := vs)
  have e : (enumL xs).length = vs.length := by unfold enumL; rw [List.length_mapIdx, r.length]
  unfold WalkM
  rw [e]
  refine w.mono (fun H g => SqL.of (g _ _ h)) fun i H x H' hi' _ y => .inr ?_
  obtain ⟨T, x0, y0, e1, e2, e3, e4, e5⟩ := y
  obtain ⟨b, e6, e7⟩ := r.get' e5
  refine ⟨T, x0, y0, .int (i : Nat), b, e1, e2, e3, ?_, ?_, e7⟩
  · unfold enumL
    rw [List.getElem?_mapIdx, e6]
    rfl
  · rw [Rep.int_iff]
    exact (Option.some.inj e4).symm
theorem mi_enum {e : Expr} {ms : Env' → M (List A)} {p pos tpos : Pos} {elts : List Expr} {kk : Nat} (hg : Gl X "enumerate") (hm : X.mg "enumerate" = none) (ha : MA X D own xk [e] ms) (hs : starEach [e] X.env = [(false, eval e X.env)] := by rfl) :
    MI X D own xk (.Tuple elts kk tpos) (.Call (.Name "enumerate" p) [e] [] pos) (itOn enumA ms) := PI.of (pi_enum hg hm ha hs) fun σ H R0 q => by
  obtain ⟨S0, H0, S, ρ, p, R, q⟩ := q
  refine tG.bind R q fun as p1 S1 H1 vs _ e1 R1 r1 q1 => ?_
  unfold enumA at q1
  split at q1
  · obtain ⟨v, ev, r2⟩ := Reps.one r1
    subst ev
    obtain ⟨a, ws, rfl, s, r⟩ := Rep.lst_iff.mp r2
    exact ⟨a, ws, rfl, SqL.of (R1.good.sub _ _ s), Aft.ok q1 R1 (walkM_enum s r)⟩
  · exact q1.elim
/-! ### zip -/
def zipL (xs ys : List A) : List A := (xs.zip ys).map fun p => .tup [p.1, p.2]
def zipA : List A → M (List A)
  | [.lst xs, .lst ys] => ret (zipL xs ys)
  | [.tup xs, .tup ys] => ret (zipL xs ys)
  | _ => no
theorem walk_zipT {K : PySem.W.Frag} {a b : Addr} {xs ys : List V} {n : Nat} (hn : n = min xs.length ys.length) : Walk (ItzT K a b) n (fun H => SqT K H a xs ∧ SqT K H b ys) (YPair (fun i => xs[i]?) (fun i => ys[i]?)) := by
  subst hn
  refine ⟨fun i _ hi q => ?_, fun _ q => ⟨xs, ys, q.1, q.2, by omega⟩, fun i H v H' _ q y => ?_⟩
  · have h1 : i < xs.length := by omega
    have h2 : i < ys.length := by omega
    exact ⟨xs, ys, xs[i], ys[i], q.1, q.2, by simp [h1], by simp [h2]⟩
  · obtain ⟨T, x, z, h1, h2, h3, h4, h5⟩ := y
    exact ⟨T, x, z, h1, h2, h3, h4 xs q.1, h5 ys q.2⟩
theorem walkM_pair {K : PySem.W.Frag} {S : Hp} {J : It} {G : Hp → Prop} {xs ys : List A} {vs ws : List V} (w : Walk J (min vs.length ws.length) G (YPair (fun i => vs[i]?) (fun i => ws[i]?))) (hG : ∀ H, (∀ a o, S a = some o → H a = some o) → G H) (r : Reps K D S xs vs) (r2 : Reps K D S ys ws) :
    WalkM K D J (zipL xs ys) S := by
  have e : (zipL xs ys).length = min vs.length ws.length := by unfold zipL; rw [List.length_map, List.length_zip, r.length, r2.length]
  unfold WalkM
  rw [e]
  refine w.mono hG fun i H x H' hi' _ y => .inr ?_
  obtain ⟨T, x0, y0, e1, e2, e3, e4, e5⟩ := y
  obtain ⟨a, e6, e7⟩ := r.get' e4
  obtain ⟨b, e8, e9⟩ := r2.get' e5
  refine ⟨T, x0, y0, a, b, e1, e2, e3, ?_, e7, e9⟩
  unfold zipL
  rw [List.getElem?_map, (List.getElem?_zip_eq_some (z := (a, b))).mpr ⟨e6, e8⟩]
  rfl
theorem mi_zip {e e2 : Expr} {ms : Env' → M (List A)} {p pos tpos : Pos} {elts : List Expr} {kk : Nat} (hg : Gl X "zip") (hm : X.mg "zip" = none) (ha : MA X D own xk [e, e2] ms)
    (hs : starEach [e, e2] X.env = (false, eval e X.env) :: starEach [e2] X.env := by rfl) (hpl : (backTo pos (starEach [e2] X.env)).any (·.1) = false := by rfl) :
    MI X D own xk (.Tuple elts kk tpos) (.Call (.Name "zip" p) [e, e2] [] pos) (itOn zipA ms) := PI.of (pi_zipA hg hm ha hs hpl) fun σ H R0 q => by
  obtain ⟨S0, H0, S, ρ, p, R, q⟩ := q
  refine tG.bind R q fun as p1 S1 H1 vs _ e1 R1 r1 q1 => ?_
  unfold zipA at q1
  split at q1
  · obtain ⟨v, w, rfl, r2, r3⟩ := Reps.two r1
    obtain ⟨a, vs, rfl, s, r⟩ := Rep.lst_iff.mp r2
    obtain ⟨b, ws, rfl, s', r'⟩ := Rep.lst_iff.mp r3
    exact ⟨a, b, vs, ws, rfl, .inl ⟨SqL.of (R1.good.sub _ _ s), SqL.of (R1.good.sub _ _ s'), Aft.ok q1 R1 (walkM_pair (walk_zip rfl) (fun H h => ⟨SqL.of (h _ _ s), SqL.of (h _ _ s')⟩) r r')⟩⟩
  · obtain ⟨v, w, rfl, r2, r3⟩ := Reps.two r1
    obtain ⟨a, vs, rfl, s, r⟩ := Rep.tup_iff.mp r2
    obtain ⟨b, ws, rfl, s', r'⟩ := Rep.tup_iff.mp r3
    exact ⟨a, b, vs, ws, rfl, .inr ⟨SqT.up R1.good s, SqT.up R1.good s', Aft.ok q1 R1 (walkM_pair (walk_zipT rfl) (fun H h => ⟨SqT.mono h s, SqT.mono h s'⟩) r r')⟩⟩
  · exact q1.elim
/-! ### starred items -/
def starM (m : ME') (ms : Env' → M (List A)) : Env' → M (List A) := fun ρ => bd (bd (m ρ) seqA) fun xs => bd (ms ρ) fun as => ret (xs ++ as)
theorem ma_star {e : Expr} {es : List Expr} {m : ME'} {ms : Env' → M (List A)} {p : Pos} (ha : ME X D own xk e m) (hr : MA X D own xk es ms) (hs : starEach (.Starred e p :: es) X.env = (true, eval e X.env) :: starEach es X.env := by rfl) :
    MA X D own xk (.Starred e p :: es) (starM m ms) := PA.of (pa_star ha hr hs) fun σ H Q q => by
  obtain ⟨S0, H0, S, ρ, p, R, q⟩ := q
  have q : Aft X.K D (Reps X.K D) xk S0 H0 S H σ ρ own (bd (m ρ) (fun a => bd (seqA a) fun xs => bd (ms ρ) fun as => ret (xs ++ as)) p) Q := by
    have e : starM m ms ρ p = bd (m ρ) (fun a => bd (seqA a) fun xs => bd (ms ρ) fun as => ret (xs ++ as)) p := by
      unfold starM
      unfold bd
      cases m ρ p <;> rfl
    rw [← e]
    exact q
  refine tG.bind R q fun a p1 S1 H1 x _ e1 R1 r1 q1 => ?_
  cases a <;> first | exact q1.elim | skip
  · obtain ⟨a, vs, rfl, s, r⟩ := Rep.tup_iff.mp r1
    refine ⟨a, vs, rfl, .inl (SqT.up R1.good s), ?_⟩
    refine tG.bind R1 q1 fun as p2 S2 H2 ws _ e2 R2 r2 q2 => ?_
    exact Aft.ok q2 R2 ((Reps.mono e2.sub _ _ r).append r2)
  · obtain ⟨a, vs, rfl, s, r⟩ := Rep.lst_iff.mp r1
    refine ⟨a, vs, rfl, .inr (SqL.of (R1.good.sub _ _ s)), ?_⟩
    refine tG.bind R1 q1 fun as p2 S2 H2 ws _ e2 R2 r2 q2 => ?_
    exact Aft.ok q2 R2 ((Reps.mono e2.sub _ _ r).append r2)
/-! ### tuple(range(..)), list(range(..)) -/
def rgOk (a b : Int) : Bool := decide (-(2 ^ 62) ≤ a ∧ a < 2 ^ 62 ∧ -(2 ^ 62) ≤ b ∧ b < 2 ^ 62 ∧ (b - a).toNat ≤ 2 ^ 24)
/-- an expression that makes a range -/
def MR (X : Cx) (D : Dcl) (own : List Nat) (xk : XK) (e : Expr) (m : Env' → M (Int × Int)) : Prop := PRg X e fun σ H Q => tG X.K D (fun _ (a b : Int × Int) => b = a) own xk m σ H fun b H1 => Q b.1 b.2 H1
def rg1 : List A → M (Int × Int)
  | [.int n] => ret (0, n)
  | _ => no
def rg2 : List A → M (Int × Int)
  | [.int a, .int b] => ret (a, b)
  | _ => no
def rg1M (m : ME') : Env' → M (Int × Int) := fun ρ => bd (m ρ) fun a => rg1 [a]
def rg2M (m n : ME') : Env' → M (Int × Int) := fun ρ => bd (m ρ) fun a => bd (n ρ) fun b => rg2 [a, b]
theorem mr_1 {a : Expr} {m : ME'} {p pos : Pos} (hg : Gl X "range") (hm : X.mg "range" = none) (ha : ME X D own xk a m) (na : starEach [a] X.env = (false, eval a X.env) :: starEach [] X.env := by rfl) : MR X D own xk (.Call (.Name "range" p) [a] [] pos) (rg1M m) := fun pins s σ H Q I q => prg_1 hg hm ha na pins s σ H Q I (by
  obtain ⟨S0, H0, S, ρ, p, R, q⟩ := q
  refine tG.bind R q fun a p1 S1 H1 x _ e1 R1 r1 q1 => ?_
  cases a <;> first | exact q1.elim | skip
  rw [Rep.int_iff] at r1
  subst r1
  exact ⟨_, rfl, Aft.ok (Rp := fun _ (a b : Int × Int) => b = a) q1 R1 rfl⟩)
theorem mr_2 {a b : Expr} {m n : ME'} {p pos : Pos} (hg : Gl X "range") (hm : X.mg "range" = none) (ha : ME X D own xk a m) (hb : ME X D own xk b n) (na : starEach [a, b] X.env = (false, eval a X.env) :: starEach [b] X.env := by rfl)
    (nb : starEach [b] X.env = (false, eval b X.env) :: starEach [] X.env := by rfl) (hp : (backTo pos (starEach [b] X.env)).any (·.1) = false := by rfl) : MR X D own xk (.Call (.Name "range" p) [a, b] [] pos) (rg2M m n) := fun pins s σ H Q I q => prg_2 hg hm ha hb na nb hp pins s σ H Q I (by
  obtain ⟨S0, H0, S, ρ, p, R, q⟩ := q
  refine tG.bind R q fun a p1 S1 H1 x _ e1 R1 r1 q1 => ?_
  refine tG.bind R1 q1 fun b p2 S2 H2 y _ e2 R2 r2 q2 => ?_
  cases a <;> first | exact q2.elim | skip
  cases b <;> first | exact q2.elim | skip
  rw [Rep.int_iff] at r1 r2
  subst r1 r2
  exact ⟨_, _, rfl, rfl, Aft.ok (Rp := fun _ (a b : Int × Int) => b = a) q2 R2 rfl⟩)
def tupRg (m : Env' → M (Int × Int)) : ME' := fun ρ => bd (m ρ) fun r => if rgOk r.1 r.2 then ret (.tup (rangeL r.1 r.2)) else no
def lstRg (m : Env' → M (Int × Int)) : ME' := fun ρ => bd (m ρ) fun r => if rgOk r.1 r.2 then ret (.lst (rangeL r.1 r.2)) else no
theorem reps_rg {K : PySem.W.Frag} {S : Hp} (a b : Int) : Reps K D S (rangeL a b) (rgV a b) := by
  unfold rangeL rgV
  generalize (b - a).toNat = n
  generalize List.range n = l
  induction l with
  | nil => exact Reps.nil_iff.mpr rfl
  | cons i l ih => exact Reps.cons_iff.mpr ⟨_, _, rfl, Rep.int_iff.mpr rfl, ih⟩
theorem rgOk_of {a b : Int} (h : rgOk a b = true) : RgOk a b := by
  unfold rgOk at h
  rw [decide_eq_true_eq] at h
  exact h
theorem me_tupRg {e : Expr} {m : Env' → M (Int × Int)} {p pos : Pos} (hc : X.calm = true) (hg : Gl X "tuple") (hm : X.mg "tuple" = none) (he : MR X D own xk e m) (na : starEach [e] X.env = (false, eval e X.env) :: starEach [] X.env := by rfl) :
    ME X D own xk (.Call (.Name "tuple" p) [e] [] pos) (tupRg m) := PE.of (pe_tupRg hc hg hm he na) fun σ H Q q => by
  obtain ⟨S0, H0, S, ρ, p, R, q⟩ := q
  refine tG.bind R q fun a p1 S1 H1 x _ e1 R1 r1 q1 => ?_
  subst r1
  split at q1
  · rename_i c
    exact ⟨rgOk_of c, fun l hl => Aft.newT R1 (reps_rg _ _) q1 hl⟩
  · exact q1.elim
theorem me_lstRg {e : Expr} {m : Env' → M (Int × Int)} {p pos : Pos} (hc : X.calm = true) (hg : Gl X "list") (hm : X.mg "list" = none) (he : MR X D own xk e m) (na : starEach [e] X.env = (false, eval e X.env) :: starEach [] X.env := by rfl) :
    ME X D own xk (.Call (.Name "list" p) [e] [] pos) (lstRg m) := PE.of (pe_listRg hc hg hm he na) fun σ H Q q => by
  obtain ⟨S0, H0, S, ρ, p, R, q⟩ := q
  refine tG.bind R q fun a p1 S1 H1 x _ e1 R1 r1 q1 => ?_
  subst r1
  split at q1
  · rename_i c
    exact ⟨rgOk_of c, fun l hl => Aft.newL R1 (reps_rg _ _) q1 hl⟩
  · exact q1.elim
theorem mf_lstRg {e : Expr} {m : Env' → M (Int × Int)} {p pos : Pos} (hc : X.calm = true) (hg : Gl X "list") (hm : X.mg "list" = none) (he : MR X D own xk e m) (na : starEach [e] X.env = (false, eval e X.env) :: starEach [] X.env := by rfl) :
    MF X D own xk (.Call (.Name "list" p) [e] [] pos) (lstRg m) := PE.of (pe_listRg hc hg hm he na) fun σ H Q q => by
  obtain ⟨S0, H0, S, ρ, p, R, q⟩ := q
  refine AftF.bind R q fun a p1 S1 H1 x _ e1 R1 r1 q1 => ?_
  subst r1
  split at q1
  · rename_i c
    exact ⟨rgOk_of c, fun l hl => AftF.newL R1 (reps_rg _ _) q1 hl⟩
  · exact q1.elim
end
end Mir

/-! Mir28: several targets at once, some of them lists just made. -/
namespace Mir
open PySem PySem.Spec PyProof.Rows L2
section
variable {X : Cx} {D : Dcl} {own own' own2 ownB : List Nat} {xk : XK}
/-- values in a row; where the flag stands: an object just made, that is held by nothing yet -/
def RepF (K : PySem.W.Frag) (D : Dcl) (S' H' : Hp) : Hp → List Bool → List A → List V → Prop
  | _, [], as, vs => as = [] ∧ vs = []
  | H, false :: fl, as, vs => ∃ a as' v vs', as = a :: as' ∧ vs = v :: vs' ∧ Rep K D S' a v ∧ RepF K D S' H' H fl as' vs'
  | H, true :: fl, as, vs => ∃ a as' q vs' H1, as = a :: as' ∧ vs = .ref q :: vs' ∧ S' q = none ∧ H q = none ∧ q ≠ D.π ∧ OwnAt K D S' H' q a ∧ H1 q ≠ none ∧ (∀ c, H1 c = none → H c = none) ∧ RepF K D S' H' H1 fl as' vs'
theorem RepF.base {K : PySem.W.Frag} {S' H' : Hp} : ∀ {fl : List Bool} {H H1 : Hp} {as : List A} {vs : List V}, RepF K D S' H' H1 fl as vs → (∀ c, H1 c = none → H c = none) → RepF K D S' H' H fl as vs
  | [], _, _, _, _, h, _ => h
  | false :: fl, _, _, _, _, ⟨a, as', v, vs', e1, e2, r, h⟩, g => ⟨a, as', v, vs', e1, e2, r, h.base g⟩
  | true :: fl, _, _, _, _, ⟨a, as', q, vs', H2, e1, e2, n1, n2, n3, o, n4, g2, h⟩, g => ⟨a, as', q, vs', H2, e1, e2, n1, g _ n2, n3, o, n4, fun c z => g _ (g2 c z), h⟩
def AftFs (K : PySem.W.Frag) (D : Dcl) (xk : XK) (S0 H0 S H : Hp) (σ : L2.St) (ρ : Env') (own : List Nat) (fl : List Bool) (r : Res (List A)) (Q : List V → Hp → Prop) : Prop := match r with
  | .ok as p => ∀ S' H' vs, Ext D S H S' H' → Rel K D S0 H0 S' H' σ ρ own p → RepF K D S' H' H fl as vs → Q vs H'
  | .exc c fs p => ∀ S' H' C d vs, Ext D S0 H0 S' H' → Good D S' H' p → H0 d = none → D.cls c = some C → H' d = some (.xd ((D.flds c).zip vs)) → (D.flds c).length = vs.length → Reps K D S' fs vs → xk (.ref C) (some d) H'
  | .stuck => False
def tFs (K : PySem.W.Frag) (D : Dcl) (own : List Nat) (xk : XK) (fl : List Bool) (m : Env' → M (List A)) : TA := fun σ H Q => ∃ S0 H0 S ρ p, Rel K D S0 H0 S H σ ρ own p ∧ AftFs K D xk S0 H0 S H σ ρ own fl (m ρ p) Q
abbrev MAF (X : Cx) (D : Dcl) (own : List Nat) (xk : XK) (es : List Expr) (fl : List Bool) (m : Env' → M (List A)) : Prop := PA X es (tFs X.K D own xk fl m)
theorem maf_nil : MAF X D own xk [] [] nilM := PA.of pa_nil fun σ H Q q => by
  obtain ⟨S0, H0, S, ρ, p, R, q⟩ := q
  exact q S H [] .refl R ⟨rfl, rfl⟩
theorem Ext.none {S H S1 H1 : Hp} (e : Ext D S H S1 H1) (c : Addr) (h : H1 c = Option.none) : H c = Option.none := by
  cases z : H c with
  | none => rfl
  | some o => exact absurd h (e.there c (by rw [z]; exact fun z => nomatch z))
theorem maf_plain {e : Expr} {es : List Expr} {m : ME'} {fl : List Bool} {ms : Env' → M (List A)} (ha : ME X D own xk e m) (hr : MAF X D own xk es fl ms) (hs : starEach (e :: es) X.env = (false, eval e X.env) :: starEach es X.env := by rfl) :
    MAF X D own xk (e :: es) (false :: fl) (consM m ms) := PA.of (pa_cons ha hr hs) fun σ H Q q => by
  obtain ⟨S0, H0, S, ρ, p, R, q⟩ := q
  refine ⟨S0, H0, S, ρ, p, R, ?_⟩
  unfold consM bd at q
  cases e1 : m ρ p with
  | ok a p1 =>
    rw [e1] at q
    intro S1 H1 v x1 R1 r1
    refine ⟨S0, H0, S1, ρ, p1, R1, ?_⟩
    simp only [Res.bind] at q
    cases e2 : ms ρ p1 with
    | ok as p2 =>
      rw [e2] at q
      intro S2 H2 vs x2 R2 r2
      exact q S2 H2 (v :: vs) (x1.trans x2) R2 ⟨a, as, v, vs, rfl, rfl, Rep.mono x2.sub _ _ r1, r2.base x1.none⟩
    | exc c fs p2 => rw [e2] at q; exact q
    | stuck => rw [e2] at q; exact q
  | exc c fs p1 => rw [e1] at q; exact q
  | stuck => rw [e1] at q; exact q
theorem maf_fresh {e : Expr} {es : List Expr} {m : ME'} {fl : List Bool} {ms : Env' → M (List A)} (ha : MF X D own xk e m) (hr : MAF X D own xk es fl ms) (hs : starEach (e :: es) X.env = (false, eval e X.env) :: starEach es X.env := by rfl) :
    MAF X D own xk (e :: es) (true :: fl) (consM m ms) := PA.of (pa_cons ha hr hs) fun σ H Q q => by
  obtain ⟨S0, H0, S, ρ, p, R, q⟩ := q
  refine ⟨S0, H0, S, ρ, p, R, ?_⟩
  unfold consM bd at q
  cases e1 : m ρ p with
  | ok a p1 =>
    rw [e1] at q
    intro S1 H1 q0 x1 R1 n1 n2 n3 o
    refine ⟨S0, H0, S1, ρ, p1, R1, ?_⟩
    simp only [Res.bind] at q
    cases e2 : ms ρ p1 with
    | ok as p2 =>
      rw [e2] at q
      intro S2 H2 vs x2 R2 r2
      obtain ⟨u, u1, u2⟩ := o.there
      have hu : H1 q0 ≠ none := by rw [u1]; exact fun z => nomatch z
      refine q S2 H2 (.ref q0 :: vs) (x1.trans x2) R2 ⟨a, as, q0, vs, H1, rfl, rfl, ?_, n2, n3, o.mono x2.sub fun w hw => ?_, hu, x1.none, r2⟩
      · cases z : S2 q0 with
        | none => rfl
        | some w =>
          rcases x2.dom q0 (by rw [z]; exact fun z => nomatch z) with y | y
          · exact absurd n1 y
          · exact absurd y hu
      · rw [u1] at hw
        cases hw
        exact x2.keep q0 _ u1 n3 u2
    | exc c fs p2 => rw [e2] at q; exact q
    | stuck => rw [e2] at q; exact q
  | exc c fs p1 => rw [e1] at q; exact q
  | stuck => rw [e1] at q; exact q
/-- a list just made comes to stand in a slot -/
theorem Rel.setNew {K : PySem.W.Frag} {S0 H0 S' H' : Hp} {σ : L2.St} {ρ : Env'} {p' : Pen} {a : A} {q : Addr} (i : Nat) (R' : Rel K D S0 H0 S' H' σ ρ own p') (h1 : S' q = none) (h2 : H0 q = none) (h3 : q ≠ D.π) (h : OwnAt K D S' H' q a)
    (hf : ∀ (j : Nat) (b : A) (w : Addr), i ≠ j → ρ[j]? = some (some b) → j ∈ own → σ[j]? = some (some (.ref w)) → w ≠ q) :
    Rel K D S0 H0 S' H' (σ.set i (some (.ref q))) (ρ.set i (some a)) (i :: own.filter (· != i)) p' where
  good := R'.good
  ext := R'.ext
  slot := fun j b hj hn => by
    have n : i ≠ j := fun z => hn (by simp [z])
    have nj : j ≠ i := Ne.symm n
    rw [List.getElem?_set_ne n] at hj ⊢
    exact R'.slot j b hj fun z => hn (List.mem_cons_of_mem _ (List.mem_filter.mpr ⟨z, by simpa using nj⟩))
  ownd := fun j b hj hn => by
    by_cases n : i = j
    · subst n
      have hl : i < ρ.length := by
        have := (List.getElem?_eq_some_iff.mp hj).1
        simpa using this
      rw [List.getElem?_set_self hl] at hj
      have e := Option.some.inj (Option.some.inj hj)
      subst e
      exact ⟨q, by rw [List.getElem?_set_self (by rw [← R'.len]; exact hl)], h1, h2, h3, h⟩
    · rw [List.getElem?_set_ne n] at hj ⊢
      rcases List.mem_cons.mp hn with z | z
      · exact absurd z.symm n
      · exact R'.ownd j b hj (List.mem_filter.mp z).1
  dist := fun j k b c w e1 e2 m1 m2 e3 e4 => by
    have far : ∀ (j : Nat) (b : A), i ≠ j → (ρ.set i (some a))[j]? = some (some b) → j ∈ i :: own.filter (· != i) → (σ.set i (some (.ref q)))[j]? = some (some (.ref w)) → ρ[j]? = some (some b) ∧ j ∈ own ∧ σ[j]? = some (some (.ref w)) ∧ w ≠ q := fun j b n e m e3 => by
      rw [List.getElem?_set_ne n] at e e3
      rcases List.mem_cons.mp m with z | z
      · exact absurd z.symm n
      · have m := (List.mem_filter.mp z).1
        exact ⟨e, m, e3, hf j b w n e m e3⟩
    have at_ : ∀ (j : Nat) (b : A), i = j → (ρ.set i (some a))[j]? = some (some b) → (σ.set i (some (.ref q)))[j]? = some (some (.ref w)) → w = q := fun j b n e e3 => by
      subst n
      have hl : i < σ.length := by
        have := (List.getElem?_eq_some_iff.mp e3).1
        simpa using this
      rw [List.getElem?_set_self hl] at e3
      exact (V.ref.inj (Option.some.inj (Option.some.inj e3))).symm
    by_cases nj : i = j
    · by_cases nk : i = k
      · rw [← nj, ← nk]
      · exact absurd (at_ j b nj e1 e3) (far k c nk e2 m2 e4).2.2.2
    · by_cases nk : i = k
      · exact absurd (at_ k c nk e2 e4) (far j b nj e1 m1 e3).2.2.2
      · obtain ⟨a1, a2, a3, _⟩ := far j b nj e1 m1 e3
        obtain ⟨b1, b2, b3, _⟩ := far k c nk e2 m2 e4
        exact R'.dist j k b c w a1 b1 a2 b2 a3 b3
  len := by rw [List.length_set, List.length_set]; exact R'.len
/-- the slots that are one's own after a store -/
def ownSet (f : Bool) (i : Nat) (own : List Nat) : List Nat := match f with
  | true => i :: own.filter (· != i)
  | false => own.filter (· != i)
def ownSets : List (Nat × Bool) → List Nat → List Nat
  | [], own => own
  | (i, f) :: r, own => ownSets r (ownSet f i own)
def setAll {α : Type} : List Nat → List α → List (Option α) → List (Option α)
  | i :: is, v :: vs, σ => setAll is vs (σ.set i (some v))
  | _, _, σ => σ
/-- all own addresses of a state lie in H -/
def OwnIn (H : Hp) (σ : L2.St) (ρ : Env') (own : List Nat) : Prop := ∀ (j : Nat) (b : A) (w : Addr), ρ[j]? = some (some b) → j ∈ own → σ[j]? = some (some (.ref w)) → H w ≠ none
theorem Rel.ownIn {K : PySem.W.Frag} {S0 H0 S H : Hp} {σ : L2.St} {ρ : Env'} {p : Pen} (R : Rel K D S0 H0 S H σ ρ own p) : OwnIn H σ ρ own := fun j b w h1 h2 h3 => by
  obtain ⟨q, e, _, _, _, o⟩ := R.ownd j b h1 h2
  rw [h3] at e
  cases e
  obtain ⟨u, u1, _⟩ := o.there
  rw [u1]
  exact fun z => nomatch z
theorem setAll_ok {K : PySem.W.Frag} {S0 H0 S' H' : Hp} {p' : Pen} : ∀ {ifs : List (Nat × Bool)} {own : List Nat} {H : Hp} {σ : L2.St} {ρ : Env'} {as : List A} {vs : List V}, Rel K D S0 H0 S' H' σ ρ own p' → OwnIn H σ ρ own → (∀ c, H c = none → H0 c = none) → RepF K D S' H' H (ifs.map (·.2)) as vs →
    Rel K D S0 H0 S' H' (setAll (ifs.map (·.1)) vs σ) (setAll (ifs.map (·.1)) as ρ) (ownSets ifs own) p'
  | [], own, H, σ, ρ, as, vs, R, _, _, r => R
  | (i, false) :: ifs, own, H, σ, ρ, as, vs, R, oi, hb, ⟨a, as', v, vs', e1, e2, r, rs⟩ => by
    subst e1 e2
    refine setAll_ok (ifs := ifs) (own := ownSet false i own) (H := H) (R.set i r) (fun j b w h1 h2 h3 => ?_) hb rs
    have m := List.mem_filter.mp h2
    have n : i ≠ j := fun z => by have := m.2; simp [z] at this
    rw [List.getElem?_set_ne n] at h1 h3
    exact oi j b w h1 m.1 h3
  | (i, true) :: ifs, own, H, σ, ρ, as, vs, R, oi, hb, ⟨a, as', q, vs', H1, e1, e2, n1, n2, n3, o, n4, g, rs⟩ => by
    subst e1 e2
    refine setAll_ok (ifs := ifs) (own := ownSet true i own) (H := H1) (R.setNew i n1 (hb _ n2) n3 o fun j b w hn h1 h2 h3 z => oi j b w h1 h2 h3 (by rw [z]; exact n2)) (fun j b w h1 h2 h3 => ?_) (fun c z => hb c (g c z)) rs
    by_cases n : i = j
    · subst n
      have hl : i < σ.length := by
        have := (List.getElem?_eq_some_iff.mp h3).1
        simpa using this
      rw [List.getElem?_set_self hl] at h3
      rw [← V.ref.inj (Option.some.inj (Option.some.inj h3))]
      exact n4
    · rw [List.getElem?_set_ne n] at h1 h3
      rcases List.mem_cons.mp h2 with z | z
      · exact absurd z.symm n
      · exact fun y => oi j b w h1 (List.mem_filter.mp z).1 h3 (g w y)
theorem AftS.bindFs {K : PySem.W.Frag} {S0 H0 S H : Hp} {σ : L2.St} {ρ : Env'} {p : Pen} {fl : List Bool} {m : Env' → M (List A)} {k : List A → M Fl} {N : Ends} {Q : List V → Hp → Prop} (R : Rel K D S0 H0 S H σ ρ own p) (h : AftS K D xk S0 H0 own' ownB (bd (m ρ) k p) N)
    (hQ : ∀ as p1 S1 H1 vs, Rel K D S0 H0 S1 H1 σ ρ own p1 → RepF K D S1 H1 H fl as vs → AftS K D xk S0 H0 own' ownB (k as p1) N → Q vs H1) : tFs K D own xk fl m σ H Q := by
  refine ⟨S0, H0, S, ρ, p, R, ?_⟩
  unfold bd at h
  cases e : m ρ p with
  | ok as p1 =>
    rw [e] at h
    exact fun S1 H1 vs _ R1 r => hQ as p1 S1 H1 vs R1 r h
  | exc c fs p1 => rw [e] at h; exact h
  | stuck => rw [e] at h; exact h
theorem RepF.len {K : PySem.W.Frag} {S' H' : Hp} : ∀ {fl : List Bool} {H : Hp} {as : List A} {vs : List V}, RepF K D S' H' H fl as vs → as.length = fl.length ∧ vs.length = fl.length
  | [], _, _, _, h => by rw [h.1, h.2]; exact ⟨rfl, rfl⟩
  | false :: fl, _, _, _, ⟨a, as', v, vs', e1, e2, _, h⟩ => by
    obtain ⟨l1, l2⟩ := h.len
    rw [e1, e2, List.length_cons, List.length_cons, List.length_cons, l1, l2]
    exact ⟨rfl, rfl⟩
  | true :: fl, _, _, _, ⟨a, as', q, vs', H2, e1, e2, _, _, _, _, _, _, h⟩ => by
    obtain ⟨l1, l2⟩ := h.len
    rw [e1, e2, List.length_cons, List.length_cons, List.length_cons, l1, l2]
    exact ⟨rfl, rfl⟩
/-- a, b, c = x, y, z, all local -/
def par3M (i j l : Nat) (ms : Env' → M (List A)) : MS' := fun ρ => bd (ms ρ) fun as => match as with
  | [a, b, c] => ret (.nx (((ρ.set i (some a)).set j (some b)).set l (some c)))
  | _ => no
theorem ms_parF {i j : Nat} {f g : Bool} {x y : Str} {a b : Expr} {ms : Env' → M (List A)} {px py pt pos : Pos} {kt k2 pt2} (hc : X.calm = true) (hN : X.N.Nodup) (hi : X.N[i]? = some x) (hj : X.N[j]? = some y) (hij : i ≠ j)
    (hx : X.env.scope.names.lookup x = some .local) (hy : X.env.scope.names.lookup y = some .local) (ha : MAF X D own xk [a, b] [f, g] ms)
    (hw : swappedStores [.Tuple [.Name x px, .Name y py] kt pt] (.Tuple [a, b] k2 pt2) X.env = pure (some [x, y]) := by rfl)
    (hs : swapsWithSole [.Tuple [.Name x px, .Name y py] kt pt] (.Tuple [a, b] k2 pt2) pos.line X.env = pure false := by rfl) :
    MS X D own (ownSets [(i, f), (j, g)] own) ownB xk (.Assign [.Tuple [.Name x px, .Name y py] kt pt] (.Tuple [a, b] k2 pt2) pos) (parM i j ms) :=
  PS.of (ps_par hc hN hi hj hij hx hy ha hw hs) fun N σ H q => by
    obtain ⟨S0, H0, S, ρ, p, R, q⟩ := q
    refine AftS.bindFs R q fun as p1 S1 H1 vs R1 r1 q1 => ?_
    have R2 := setAll_ok (ifs := [(i, f), (j, g)]) R1 R.ownIn (fun c z => R.ext.none c z) r1
    obtain ⟨l1, l2⟩ := r1.len
    match as, vs, l1, l2, q1, R2 with
    | [a, b], [v, w], _, _, q1, R2 => exact ⟨v, w, rfl, q1 S1 H1 _ R2⟩
theorem ms_parF3 {i j l : Nat} {f g u : Bool} {x y z : Str} {a b c : Expr} {ms : Env' → M (List A)} {px py pz pt pos : Pos} {kt k2 pt2} (hc : X.calm = true) (hN : X.N.Nodup) (hi : X.N[i]? = some x) (hj : X.N[j]? = some y) (hl : X.N[l]? = some z) (hij : i ≠ j) (hil : i ≠ l) (hjl : j ≠ l)
    (hx : X.env.scope.names.lookup x = some .local) (hy : X.env.scope.names.lookup y = some .local) (hz : X.env.scope.names.lookup z = some .local) (ha : MAF X D own xk [a, b, c] [f, g, u] ms)
    (hw : swappedStores [.Tuple [.Name x px, .Name y py, .Name z pz] kt pt] (.Tuple [a, b, c] k2 pt2) X.env = pure (some [x, y, z]) := by rfl)
    (hs : swapsWithSole [.Tuple [.Name x px, .Name y py, .Name z pz] kt pt] (.Tuple [a, b, c] k2 pt2) pos.line X.env = pure false := by rfl) :
    MS X D own (ownSets [(i, f), (j, g), (l, u)] own) ownB xk (.Assign [.Tuple [.Name x px, .Name y py, .Name z pz] kt pt] (.Tuple [a, b, c] k2 pt2) pos) (par3M i j l ms) :=
  PS.of (ps_par3 hc hN hi hj hl hij hil hjl hx hy hz ha hw hs) fun N σ H q => by
    obtain ⟨S0, H0, S, ρ, p, R, q⟩ := q
    refine AftS.bindFs R q fun as p1 S1 H1 vs R1 r1 q1 => ?_
    have R2 := setAll_ok (ifs := [(i, f), (j, g), (l, u)]) R1 R.ownIn (fun c z => R.ext.none c z) r1
    obtain ⟨l1, l2⟩ := r1.len
    match as, vs, l1, l2, q1, R2 with
    | [a, b, c], [v, w, x], _, _, q1, R2 => exact ⟨v, w, x, rfl, q1 S1 H1 _ R2⟩
end
end Mir

/-! Mir29: instances: attributes, making one. -/
namespace Mir
open PySem PySem.Spec PyProof.Rows L2
section
variable {X : Cx} {D : Dcl} {own own' own2 ownB : List Nat} {xk : XK}
/-! ### e.f -/
def attA (fl : Nat → List Str) (f : Str) : A → M A
  | .ins c fs => if 20 ≤ c then (match ((fl c).zip fs).lookup f with
    | some b => ret b
    | none => no) else no
  | _ => no
def attM (fl : Nat → List Str) (f : Str) (m : ME') : ME' := fun ρ => bd (m ρ) (attA fl f)
theorem zip_mem {α : Type} {f : Str} {b : α} : ∀ {ns : List Str} {fs : List α}, (ns.zip fs).lookup f = some b → f ∈ ns
  | [], fs, h => by simp at h
  | n :: ns, [], h => by simp at h
  | n :: ns, x :: fs, h => by
    rw [List.zip_cons_cons, List.lookup_cons] at h
    cases e : f == n with
    | true => rw [eq_of_beq e]; exact List.mem_cons_self
    | false =>
      rw [e] at h
      exact List.mem_cons_of_mem _ (zip_mem h)
theorem me_att {e : Expr} {f : Str} {m : ME'} {fl : Nat → List Str} {pos : Pos} (F : ClsF X.K D) (hf : D.flds = fl) (he : ME X D own xk e m) (hb : attributeBase e f X.env (eval e X.env) = eval e X.env := by rfl) : ME X D own xk (.Attribute e f pos) (attM fl f m) :=
  PE.of (pe_fld he hb) fun σ H Q q => by
    obtain ⟨S0, H0, S, ρ, p, R, q⟩ := q
    refine tG.bind R q fun a p1 S1 H1 x _ e1 R1 r1 q1 => ?_
    cases a <;> first | exact q1.elim | skip
    rename_i c fs _
    by_cases h20 : 20 ≤ c
    rotate_left
    · rw [show attA fl f (.ins c fs) = no from if_neg h20] at q1
      exact q1.elim
    rw [show attA fl f (.ins c fs) = (match ((fl c).zip fs).lookup f with
      | some b => ret b
      | none => no) from if_pos h20] at q1
    cases el : ((fl c).zip fs).lookup f with
    | none => rw [el] at q1; exact q1.elim
    | some b =>
      rw [el] at q1
      simp only [Rep] at r1
      obtain ⟨a, C, dx, vs, rfl, hc, s, l, r⟩ := r1
      rw [← hf] at el
      obtain ⟨v, h3, h4⟩ := zip_look r el
      exact ⟨a, C, dx, _, v, rfl, R1.good.sub _ _ s, F.cls c C h20 hc, F.nat c C f h20 hc (zip_mem el), h3, Aft.ok q1 R1 h4⟩
/-! ### what changes but for one object -/
structure ExtB (D : Dcl) (x : Addr) (S H S' H' : Hp) : Prop where
  sub : ∀ a o, S a = some o → S' a = some o
  keep : ∀ a o, a ≠ x → H a = some o → a ≠ D.π → (∀ ps, o ≠ .tbl ps) → H' a = some o
  there : ∀ a, H a ≠ none → H' a ≠ none
  dom : ∀ a, S' a ≠ none → S a ≠ none ∨ H a = none
theorem Ext.b {x : Addr} {S H S' H' : Hp} (e : Ext D S H S' H') : ExtB D x S H S' H' := ⟨e.sub, fun a o _ => e.keep a o, e.there, e.dom⟩
theorem ExtB.refl {x : Addr} {S H : Hp} : ExtB D x S H S H := Ext.refl.b
theorem ExtB.trans {x : Addr} {S H S1 H1 S2 H2 : Hp} (a : ExtB D x S H S1 H1) (b : ExtB D x S1 H1 S2 H2) : ExtB D x S H S2 H2 where
  sub := fun c o h => b.sub c o (a.sub c o h)
  keep := fun c o nx h n t => b.keep c o nx (a.keep c o nx h n t) n t
  there := fun c h => b.there c (a.there c h)
  dom := fun c h => by
    rcases b.dom c h with h | h
    · exact a.dom c h
    · refine .inr ?_
      cases q : H c with
      | none => rfl
      | some o => exact absurd h (a.there c (by rw [q]; exact fun z => nomatch z))
/-- the promise of an __init__: it is handed a new instance, and sets its fields -/
def spI' (K : PySem.W.Frag) (D : Dcl) (c n : Nat) (m : List A → M (List A)) : Sp := fun vs H Q E => ∃ S as p x C dx ws, vs = .ref x :: ws ∧ as.length = n ∧ D.cls c = some C ∧ H x = some (.ins C dx []) ∧ S x = none ∧ Good D S H p ∧ Reps K D S as ws ∧ match m as p with
  | .ok fs p' => ∀ S' H' us, ExtB D x S H S' H' → Good D S' H' p' → H' x = some (.ins C dx ((D.flds c).zip us)) → S' x = none → (D.flds c).length = us.length → Reps K D S' fs us → Q .non H'
  | .exc c fs p' => ∀ S' H' C d ws, ExtB D x S H S' H' → Good D S' H' p' → H d = none → D.cls c = some C → H' d = some (.xd ((D.flds c).zip ws)) → (D.flds c).length = ws.length → Reps K D S' fs ws → E (.ref C) (some d) H'
  | .stuck => False
/-- a class of the text as it is called -/
structure DefI (P : Program) (w : World) (K : PySem.W.Frag) (mg : Str → Option Value) (base : Heap) (D : Dcl) (k : Nat) (x : Str) (c n : Nat) (m : List A → M (List A)) : Prop where
  ex : ∃ (C f : Addr) (fd : FuncData) (ps : List Str), mg x = some (.ref C) ∧ D.cls c = some C ∧ Mk K C f ∧ L2.Binds K fd ps [] ∧ ps.length = n + 1 ∧ FnOk P w K mg base (L2.CX P w) k f fd ps (spI' K D c n m)
def newM (c n : Nat) (m : List A → M (List A)) (ms : Env' → M (List A)) : ME' := fun ρ => bd (ms ρ) fun as => if as.length = n then bd (m as) (fun fs => ret (.ins c fs)) else no
theorem new_read {K : PySem.W.Frag} {c n : Nat} {m : List A → M (List A)} {S0 H0 S H : Hp} {σ : L2.St} {ρ : Env'} {p : Pen} {as : List A} {vs : List V} {Q : VK} {C : Addr} (hl : as.length = n) (hc : D.cls c = some C) (R : Rel K D S0 H0 S H σ ρ own p) (r : Reps K D S as vs)
    (q : Aft K D (Rep K D) xk S0 H0 S H σ ρ own (bd (m as) (fun fs => ret (.ins c fs)) p) Q) (x dx : Addr) (hx : H x = none) (hdx : H dx = none) (nx : dx ≠ x) :
    spI' K D c n m (.ref x :: vs) (upd (upd H dx (.own x)) x (.ins C dx [])) (fun v H2 => v = .non ∧ Q (.ref x) H2) xk := by
  obtain ⟨g1, e1, s1, n1⟩ := R.good.newOwn (o := .own x) hdx (fun _ z => by cases z) (fun _ z => by cases z)
  have hx' : upd H dx (.own x) x = none := by rw [upd_ne (Ne.symm nx)]; exact hx
  obtain ⟨g2, e2, s2, n2⟩ := g1.newOwn (o := .ins C dx []) hx' (fun _ z => by cases z) (fun _ z => by cases z)
  have e12 := e1.trans e2
  have back : ∀ {S' H' : Hp}, ExtB D x S (upd (upd H dx (.own x)) x (.ins C dx [])) S' H' → Ext D S H S' H' := fun {S' H'} e => ⟨e.sub, fun a o h h1 h2 => by
      have na : a ≠ x := fun z => by rw [z, hx] at h; cases h
      exact e.keep a o na (e12.keep a o h h1 h2) h1 h2, fun a h => e.there a (e12.there a h), fun a h => by
      rcases e.dom a h with z | z
      · exact .inl z
      · exact .inr (e12.none a z)⟩
  refine ⟨S, as, p, x, C, dx, vs, rfl, hl, hc, upd_same, s2, g2, r, ?_⟩
  unfold bd at q
  cases e : m as p with
  | ok fs p1 =>
    rw [e] at q
    intro S' H' us x1 g3 h3 h4 h5 r3
    refine ⟨rfl, ?_⟩
    have xp : x ≠ D.π := n2
    have x2 := back x1
    have ne : ∀ a o, S' a = some o → a ≠ x := fun a o h z => by rw [z, h4] at h; cases h
    have gr : ∀ a o, S' a = some o → upd S' x (.ins C dx ((D.flds c).zip us)) a = some o := fun a o h => by rw [upd_ne (ne a o h)]; exact h
    have g4 : Good D (upd S' x (.ins C dx ((D.flds c).zip us))) H' p1 := by
      refine ⟨fun a o h => ?_, by rw [upd_ne (Ne.symm xp)]; exact g3.npen, fun a ps h => ?_, ⟨g3.pen.1, gr _ _ g3.pen.2⟩, g3.tabs.grow gr⟩
      · by_cases z : a = x
        · rw [z, upd_same] at h
          cases h
          rw [z]
          exact h3
        · rw [upd_ne z] at h
          exact g3.sub a o h
      · by_cases z : a = x
        · rw [z, upd_same] at h
          cases h
        · rw [upd_ne z] at h
          exact g3.ntbl a ps h
    have x3 : Ext D S H (upd S' x (.ins C dx ((D.flds c).zip us))) H' := ⟨fun a o h => gr _ _ (x2.sub a o h), x2.keep, x2.there, fun a h => by
      by_cases z : a = x
      · exact .inr (by rw [z]; exact hx)
      · rw [upd_ne z] at h
        exact x2.dom a h⟩
    refine q _ H' (.ref x) x3 (R.step x3 g4) ?_
    simp only [Rep]
    exact ⟨x, C, dx, us, rfl, hc, upd_same, h5, Reps.mono gr _ _ r3⟩
  | exc c' fs p1 =>
    rw [e] at q
    intro S' H' C' d ws x1 g3 h3
    have hd : H d = none := e12.none d h3
    exact q S' H' C' d ws (R.ext.trans (back x1)) g3 (R.ext.none d hd)
  | stuck => rw [e] at q; exact q
theorem me_new {k j c n : Nat} {x : Str} {m : List A → M (List A)} {e : Expr} {es : List Expr} {ms : Env' → M (List A)} {p pos : Pos} (F : DefI X.prog X.w X.K X.mg X.base D k x c n m) (hr : Room j X.A) (hk : k + 1 ≤ j) (hx : Passes (L2.CX X.prog X.w) X xk) (hg : Gl X x) (ha : MA X D own xk (e :: es) ms)
    (hdb : (x == ("__debug__" : Str)) = false := by decide) (he : starEach (e :: es) X.env = (false, eval e X.env) :: starEach es X.env := by rfl) (hpl : (backTo pos (starEach es X.env)).any (·.1) = false := by rfl) : ME X D own xk (.Call (.Name x p) (e :: es) [] pos) (newM c n m ms) := by
  obtain ⟨C, f, fd, ps, hm, hc, M, hb, hl, F⟩ := F.ex
  refine PE.of (pe_make M F (hr.mono hk) hg hm hb .nil hx ha hdb he hpl) fun σ H Q q => ?_
  obtain ⟨S0, H0, S, ρ, p, R, q⟩ := q
  refine tG.bind R q fun as p1 S1 H1 vs _ e1 R1 r1 q1 => ?_
  split at q1
  · rename_i cl
    intro y dx h1 h2 h3
    rw [List.append_nil]
    exact new_read cl hc R1 r1 q1 y dx h1 h2 h3
  · exact q1.elim
/-! ### the body of an __init__ -/
/-- what is told within an __init__: the new instance -/
abbrev Dcl.me (D : Dcl) (a : Addr) : Dcl := { D with fns := fun n => if n = EX then some a else D.fns n }
theorem told_me {a : Addr} : Told D (D.me a) := ⟨rfl, rfl, rfl⟩
theorem told_em {a : Addr} : Told (D.me a) D := ⟨rfl, rfl, rfl⟩
theorem Good.me {a : Addr} {S H : Hp} {p : Pen} (g : Good D S H p) : Good (D.me a) S H p := ⟨g.sub, g.npen, g.ntbl, g.pen, ⟨g.tabs.tabs, g.tabs.exts, g.tabs.tbls, g.tabs.xc⟩⟩
theorem Good.em {a : Addr} {S H : Hp} {p : Pen} (g : Good (D.me a) S H p) : Good D S H p := ⟨g.sub, g.npen, g.ntbl, g.pen, ⟨g.tabs.tabs, g.tabs.exts, g.tabs.tbls, g.tabs.xc⟩⟩
theorem ExtB.em {a x : Addr} {S H S' H' : Hp} (g : ExtB (D.me a) x S H S' H') : ExtB D x S H S' H' := ⟨g.sub, g.keep, g.there, g.dom⟩
def tI' (K : PySem.W.Frag) (D : Dcl) (xk : XK) (c : Nat) (x : Addr) (k : Nat) (m : Env' → M (List A)) : TS := fun N σ H => ∃ S0 H0 S ρ p C dx fs us, ExtB D x S0 H0 S H ∧ Rel K D S H S H σ ρ [] p ∧ D.cls c = some C ∧ H x = some (.ins C dx (((D.flds c).take k).zip us)) ∧ us.length = k ∧ S x = none ∧ Reps K D S fs us ∧ match m ρ p with
  | .ok gs p' => ∀ S' H' σ' ws, ExtB D x S0 H0 S' H' → Good D S' H' p' → H' x = some (.ins C dx ((D.flds c).zip (us ++ ws))) → S' x = none → (D.flds c).length = (us ++ ws).length → Reps K D S' (fs ++ gs) (us ++ ws) → N.nx σ' H'
  | .exc c' fs' p' => ∀ S' H' C d vs, ExtB D x S0 H0 S' H' → Good D S' H' p' → H0 d = none → D.cls c' = some C → H' d = some (.xd ((D.flds c').zip vs)) → (D.flds c').length = vs.length → Reps K D S' fs' vs → xk (.ref C) (some d) H'
  | .stuck => False
def endI : Env' → M (List A) := fun _ => ret []
theorem mib_nil {c k : Nat} {x : Addr} (hk : (D.flds c).length = k) : PSs X [] (tI' X.K D xk c x k endI) := PSs.of pss_nil fun N σ H q => by
  obtain ⟨S0, H0, S, ρ, p, C, dx, fs, us, x1, R, hc, hx, hl, sx, r, q⟩ := q
  refine q S H σ [] x1 R.good ?_ sx (by rw [List.append_nil, hl, hk]) (by rw [List.append_nil, List.append_nil]; exact r)
  rw [List.append_nil, hx, ← hk, List.take_length]
def selfOk (ρ : Env') : Bool := match ρ[0]? with
  | some (some (A.fn i)) => i == EX
  | _ => false
theorem selfOk_of {ρ : Env'} (h : selfOk ρ = true) : ρ[0]? = some (some (A.fn EX)) := by
  unfold selfOk at h
  split at h
  · rename_i i e
    rw [e, eq_of_beq h]
  · cases h
def setI (m : ME') (n : Env' → M (List A)) : Env' → M (List A) := fun ρ => if selfOk ρ then bd (m ρ) fun a => bd (n ρ) fun gs => ret (a :: gs) else no
theorem putF_new {f : Str} {y : V} : ∀ {ns : List Str} {us : List V}, f ∉ ns → ns.length = us.length → putF f y (ns.zip us) = (ns ++ [f]).zip (us ++ [y])
  | [], [], _, _ => rfl
  | n :: ns, u :: us, h, l => by
    have h1 : ¬ n = f := fun z => h (by rw [z]; exact List.mem_cons_self)
    have h2 := putF_new (y := y) (us := us) (fun z => h (List.mem_cons_of_mem n z)) (by simpa using l)
    show putF f y ((n, u) :: ns.zip us) = (n, u) :: (ns ++ [f]).zip (us ++ [y])
    rw [← h2]
    exact if_neg h1
  | [], _ :: _, _, l => by simp at l
  | _ :: _, [], _, l => by simp at l
theorem mib_set {c k : Nat} {x : Addr} {self f : Str} {e : Expr} {m : ME'} {n : Env' → M (List A)} {rest : List Stmt} {p1 p2 pos : Pos} (F : ClsF X.K D) (hfn : D.fns EX = some x) (h20 : 20 ≤ c) {fl : List Str} (hfl : D.flds c = fl) (hf : fl[k]? = some f) (hnew : f ∉ fl.take k) (hk : k < 1000)
    (hN : X.N[0]? = some self) (hv : Vis X.env.scope self) (he : ME X D [] xk e m) (hr : PSs X rest (tI' X.K D xk c x (k + 1) n))
    (hd : (self == ("__debug__" : Str)) = false := by decide) (hcd : (self == ("__classdict__" : Str)) = false := by decide)
    (hs : swapsWith e (some (.Attribute (.Name self p1) f p2)) pos.line X.env = pure false := by rfl) :
    PSs X (.Assign [.Attribute (.Name self p1) f p2] e pos :: rest) (tI' X.K D xk c x k (setI m n)) := PSs.of (pss_cons (ps_fld (pe_var hN hv hd hcd) he hs) hr) fun N σ H q => by
  obtain ⟨S0, H0, S, ρ, p, C, dx, fs, us, x1, R, hc, hx, hl, sx, r, q⟩ := q
  by_cases so : selfOk ρ = true
  rotate_left
  · rw [show setI m n ρ = no from if_neg so] at q
    exact q.elim
  have hi := selfOk_of so
  rw [show setI m n ρ = bd (m ρ) fun a => bd (n ρ) fun gs => ret (a :: gs) from if_pos so] at q
  obtain ⟨v0, hv0, rv0⟩ := R.slot 0 _ hi (by simp)
  simp only [Rep] at rv0
  obtain ⟨x', rfl, hx'⟩ := rv0
  rw [hfn] at hx'
  cases hx'
  refine ⟨S, H, S, ρ, p, R, ?_⟩
  unfold bd at q
  cases em : m ρ p with
  | ok a p1 =>
    rw [em] at q
    intro S1 H1 y e1 R1 ry
    have xp : x ≠ D.π := fun z => by
      have := R.good.pen.1
      rw [← z, hx] at this
      cases this
    have hx1 : H1 x = some (.ins C dx (((D.flds c).take k).zip us)) := e1.keep x _ hx xp fun _ z => by cases z
    have sx1 : S1 x = none := by
      cases z : S1 x with
      | none => rfl
      | some o =>
        rcases e1.dom x (by rw [z]; exact fun z => nomatch z) with y | y
        · exact absurd sx y
        · rw [hx] at y; cases y
    have lk : k < fl.length := (List.getElem?_eq_some_iff.mp hf).1
    have ltk : ((D.flds c).take k).length = us.length := by rw [hfl, List.length_take, hl]; omega
    refine ⟨.ref x, hv0, x, C, dx, _, rfl, hx1, F.cls c C h20 hc, F.nat c C f h20 hc (by rw [hfl]; exact List.mem_of_getElem? hf), by rw [List.length_zip, hl]; omega, ?_⟩
    rw [putF_new (by rw [hfl]; exact hnew) ltk]
    have etk : (D.flds c).take k ++ [f] = (D.flds c).take (k + 1) := by
      rw [hfl, List.take_succ, hf]
      rfl
    rw [etk]
    have nS : ∀ b o, S1 b = some o → b ≠ x := fun b o h z => by rw [z, sx1] at h; cases h
    have g2 : Good D S1 (upd H1 x (.ins C dx (((D.flds c).take (k + 1)).zip (us ++ [y])))) p1 := by
      refine ⟨fun b o h => by rw [upd_ne (nS b o h)]; exact R1.good.sub b o h, R1.good.npen, R1.good.ntbl, ⟨by rw [upd_ne (Ne.symm xp)]; exact R1.good.pen.1, R1.good.pen.2⟩, ?_⟩
      exact R1.good.tabs.write hx1 (fun _ z => by cases z) (fun _ z => by cases z) (fun _ z => by cases z) (fun _ z => by cases z)
    have x2 : ExtB D x S1 H1 S1 (upd H1 x (.ins C dx (((D.flds c).take (k + 1)).zip (us ++ [y])))) := ⟨fun _ _ h => h, fun b o nb h _ _ => by rw [upd_ne nb]; exact h, fun b h => by
      by_cases z : b = x
      · rw [z, upd_same]; exact fun z => nomatch z
      · rw [upd_ne z]; exact h, fun b h => .inl h⟩
    have x3 : ExtB D x S0 H0 S1 (upd H1 x (.ins C dx (((D.flds c).take (k + 1)).zip (us ++ [y])))) := (x1.trans e1.b).trans x2
    refine ⟨S0, H0, S1, ρ, p1, C, dx, fs ++ [a], us ++ [y], x3, ⟨g2, .refl, R1.slot, fun i a h1 h2 => absurd h2 (by simp), fun i j a b q h1 h2 h3 => absurd h3 (by simp), R1.len⟩, hc, upd_same, by rw [List.length_append, hl]; rfl, sx1, (Reps.mono e1.sub _ _ r).append (Reps.cons_iff.mpr ⟨y, [], rfl, ry, Reps.nil_iff.mpr rfl⟩), ?_⟩
    simp only [Res.bind] at q
    cases en : n ρ p1 with
    | ok gs p2 =>
      rw [en] at q
      intro S' H' σ' ws h1 h2 h3 h4 h5 h6
      have ea : us ++ [y] ++ ws = us ++ (y :: ws) := by rw [List.append_assoc]; rfl
      have eb : fs ++ [a] ++ gs = fs ++ (a :: gs) := by rw [List.append_assoc]; rfl
      rw [ea] at h3 h5 h6
      rw [eb] at h6
      exact q S' H' σ' (y :: ws) h1 h2 h3 h4 h5 h6
    | exc c' fs' p2 => rw [en] at q; exact q
    | stuck => rw [en] at q; exact q
  | exc c' fs' p1 =>
    rw [em] at q
    intro S' H' C' d vs e1 g1 hd
    exact q S' H' C' d vs (x1.trans e1.b) g1 (by
      cases z : H0 d with
      | none => rfl
      | some o => exact absurd hd (x1.there d (by rw [z]; exact fun z => (by cases z))))
  | stuck => rw [em] at q; exact q
def preI (m : MS') (n : Env' → M (List A)) : Env' → M (List A) := fun ρ => bd (m ρ) fun f => match f with
  | .nx ρ' => n ρ'
  | _ => no
theorem mib_pre {c k : Nat} {x : Addr} {st : Stmt} {m : MS'} {n : Env' → M (List A)} {rest : List Stmt} (h1 : MS X D [] [] ownB xk st m) (hr : PSs X rest (tI' X.K D xk c x k n)) : PSs X (st :: rest) (tI' X.K D xk c x k (preI m n)) := PSs.of (pss_cons h1 hr) fun N σ H q => by
  obtain ⟨S0, H0, S, ρ, p, C, dx, fs, us, x1, R, hc, hx, hl, sx, r, q⟩ := q
  refine ⟨S, H, S, ρ, p, R, ?_⟩
  unfold preI bd at q
  cases em : m ρ p with
  | ok f p1 =>
    rw [em] at q
    cases f with
    | nx ρ1 =>
      intro S1 H1 σ1 R1
      have e1 := R1.ext
      have xp : x ≠ D.π := fun z => by
        have := R.good.pen.1
        rw [← z, hx] at this
        cases this
      have hx1 : H1 x = some (.ins C dx (((D.flds c).take k).zip us)) := e1.keep x _ hx xp fun _ z => by cases z
      have sx1 : S1 x = none := by
        cases z : S1 x with
        | none => rfl
        | some o =>
          rcases e1.dom x (by rw [z]; exact fun z => nomatch z) with y | y
          · exact absurd sx y
          · rw [hx] at y; cases y
      exact ⟨S0, H0, S1, ρ1, p1, C, dx, fs, us, x1.trans e1.b, ⟨R1.good, .refl, R1.slot, fun i a h1 h2 => absurd h2 (by simp), fun i j a b q h1 h2 h3 => absurd h3 (by simp), R1.len⟩, hc, hx1, hl, sx1, Reps.mono e1.sub _ _ r, q⟩
    | rt a => exact q.elim
    | bk ρ1 => exact q.elim
    | ct ρ1 => exact q.elim
  | exc c' fs' p1 =>
    rw [em] at q
    intro S' H' C' d vs e1 g1 hd
    exact q S' H' C' d vs (x1.trans e1.b) g1 (by
      cases z : H0 d with
      | none => rfl
      | some o => exact absurd hd (x1.there d (by rw [z]; exact fun z => (by cases z))))
  | stuck => rw [em] at q; exact q
/-- an __init__ by its body -/
def initM (N : Nat) (m : Env' → M (List A)) : List A → M (List A) := fun as p => if noClos as then (match m (start' N (.fn EX :: as)) p with
  | .ok fs p' => if noClos fs then .ok fs p' else .stuck
  | .exc c fs p' => if noClos fs then .exc c fs p' else .stuck
  | .stuck => .stuck) else .stuck
theorem init_read {K : PySem.W.Frag} {N : List Str} {c n : Nat} {m : Env' → M (List A)} {vs : List V} {H : Hp} {Q : VK} {E : XK} (h : spI' K D c n (initM N.length m) vs H Q E) : ∃ x ws, vs = .ref x :: ws ∧ tI' K (D.me x) E c x 0 m { nx := fun _ H' => Q .non H', rt := Q } (L2.start N vs) H := by
  obtain ⟨S, as, p, x, C, dx, ws, rfl, hl, hc, hx, sx, g, r, h⟩ := h
  refine ⟨x, ws, rfl, ?_⟩
  by_cases ca : noClos as = true
  rotate_left
  · rw [show initM N.length m as p = .stuck from if_neg ca] at h
    exact h.elim
  rw [show initM N.length m as p = _ from if_pos ca] at h
  have r' : Reps K (D.me x) S (.fn EX :: as) (.ref x :: ws) := Reps.cons_iff.mpr ⟨_, _, rfl, by simp only [Rep]; exact ⟨x, rfl, if_pos True.intro⟩, Reps.bareT told_me (fun a o h _ => h) as ws ca r⟩
  refine ⟨S, H, S, start' N.length (.fn EX :: as), p, C, dx, [], [], .refl, ⟨g.me, .refl, fun i a h1 _ => start_get r' h1, fun i a h1 h2 => absurd h2 (by simp), fun i j a b q h1 h2 h3 => absurd h3 (by simp), ?_⟩, hc, by rw [hx]; rfl, rfl, sx, Reps.nil_iff.mpr rfl, ?_⟩
  · unfold start' L2.start
    rw [List.length_append, List.length_append, List.length_map, List.length_map, List.length_replicate, List.length_replicate, r'.length]
  cases em : m (start' N.length (.fn EX :: as)) p with
  | ok gs p1 =>
    rw [em] at h
    dsimp only at h ⊢
    by_cases cg : noClos gs = true
    · rw [if_pos cg] at h
      intro S' H' σ' us x1 g1 h3 h4 h5 r5
      exact h S' H' us x1.em g1.em h3 h4 h5 (Reps.bareT told_em (fun a o h _ => h) gs us cg r5)
    · rw [if_neg cg] at h
      exact h.elim
  | exc c' fs p1 =>
    rw [em] at h
    dsimp only at h ⊢
    by_cases cg : noClos fs = true
    · rw [if_pos cg] at h
      intro S' H' C' d us x1 g1 h3 h4 h5 h6 r5
      exact h S' H' C' d us x1.em g1.em h3 h4 h5 h6 (Reps.bareT told_em (fun a o h _ => h) fs us cg r5)
    · rw [if_neg cg] at h
      exact h.elim
  | stuck => rw [em] at h; exact h.elim
theorem mk_init {P : Program} {w : World} {K : PySem.W.Frag} {mg : Str → Option Value} {base : Heap} {x qual : Str} {st : Stmt} {C f : Addr} {fd : FuncData} {N ps : List Str} {k c n : Nat} {m : Env' → M (List A)} (F : L2.Fun K "__init__" qual st f fd) (hm : mg x = some (.ref C)) (hc : D.cls c = some C) (M : Mk K C f) (S : FnScope N ps (defScope st)) (hb : L2.Binds K fd ps []) (hn : ps.length = n + 1)
    (body : ∀ (a : Addr) (cdv : Value) (A : Around) (outer : List Env) (s : Shared) (H : Hp) (E : XK), Room k (A.deeper (envOfC qual (defScope st) s.heap.objs.size f cdv)) →
      PSs (cxOf (L2.CX P w) P w K mg base N qual (defScope st) f cdv A outer s H E) (defBody st) (tI' K (D.me a) E c a 0 m)) : DefI P w K mg base D (k + 1) x c n (initM N.length m) := by
  refine ⟨C, f, fd, ps, hm, hc, M, hb, hn, F.okX S (fun vs H Q E h => ?_) fun cdv A outer s H vs Q E hr h => ?_⟩
  · obtain ⟨S, as, p, x, C, dx, ws, rfl, hl, _, _, _, _, r, _⟩ := h
    rw [hn, List.length_cons, ← hl, r.length]
  · obtain ⟨y, ws, rfl, h⟩ := init_read h
    exact ⟨_, body y cdv A outer s H E hr, h⟩
end
end Mir

/-! Mir30: extend by a tuple, pop, isinstance with two classes, what is known of own classes. -/
namespace PySem.HandMir
open PySem.SeqAt AutoSeq1
theorem idx_int' : True := trivial
theorem ext_tuple (l : Addr) (items : Array Value) (n : Nat) (b : Addr) (od : Option Addr) (sl : Array (Option Value)) (items2 : Array Value) (n2 : Nat) (hs0 : ¬(!items.isEmpty && Builtin.List.listTooLong (items.size + items2.size)) = true) (hs1 : items.size ≤ sizeLine) (hs2 : items.size + items2.size ≤ sizeLine + 1) :
    Meets (Builtin.«list.extend» ⟨[.ref l, .ref b], []⟩) (fun _ R s => s.heap.get? l = some { cls := .type "list", dict := none, data := .seq items n, slots := #[] } ∧ s.heap.get? b = some { cls := .type "tuple", dict := od, data := .seq items2 n2, slots := sl } ∧ R (.ok (.ret Value.none)) { s with heap := s.heap.update l (Obj.mapSeq fun x => x ++ items2), toks := s.toks }) :=
  .of_wp fun prog w A R s h => by
    obtain ⟨hp, g, d, tk, os⟩ := s; obtain ⟨hl, hb, h⟩ := h; have f1 := idx_int; have f2 := sub_tuple_tuple; have f3 := sub_list_list; have f4 := sub_tuple_list; have f5 := sub_list_tuple
    have hz' : (items ++ items2).size ≤ sizeLine + 1 := by rw [Array.size_append]; exact hs2
    wp_walk using (wpAny_updateSeq hl rfl (hz := hs1) (_hz' := hz')), wpAny_loadPart' hl, wpAny_loadPart' hb
    exact ⟨_, rfl, h⟩
end PySem.HandMir
namespace Mir
open PySem PySem.Spec PyProof.Rows L2
section
variable {X : Cx} {D : Dcl} {own own' own2 ownB : List Nat} {xk : XK}
/-! ### x.extend(e), e a list or a tuple -/
def rExtT (K : PySem.W.Frag) : V → List V → Hp → VK → Prop := fun x vs H Q => ∃ l b xs zs, x = .ref l ∧ vs = [.ref b] ∧ H l = some (.lst xs) ∧ SqT K H b zs ∧ xs.length + zs.length ≤ sizeLine ∧ Q .non (upd H l (.lst (xs ++ zs)))
theorem mt_extT : MtM X "list.extend" (rExtT X.K) := by
  intro pins s σ H x vs v us Q I rx rv h
  obtain ⟨l, b, xs, zs, rfl, rfl, hH, hB, hz, q⟩ := h
  cases rx
  obtain ⟨u, rfl, ru⟩ := rv.one
  cases ru
  obtain ⟨z, its, n, r, hl, e⟩ := I.lstM hH
  obtain ⟨its2, r2, ⟨o2, e2, c2, n2, d2⟩, _⟩ := I.tuple hB
  obtain ⟨oc, od, dt, sl⟩ := o2
  simp only at c2 d2
  subst c2 d2
  have hl2 := r2.length
  have hsz : its.toArray.size + its2.toArray.size ≤ sizeLine := by rw [List.size_toArray, List.size_toArray]; omega
  have hlong : ¬ (!its.toArray.isEmpty && Builtin.List.listTooLong (its.toArray.size + its2.toArray.size)) = true := by
    rw [notLongL hsz, Bool.and_false]
    exact Bool.false_ne_true
  refine call_meets F.slot_list_extend ⟨_, e, rfl⟩ F.entry_list_extend (F.args_list_extend_2 _ _)
    (PySem.HandMir.ext_tuple l its.toArray n b od sl its2.toArray n2 hlong (by rw [List.size_toArray]; omega) (by omega)) ⟨e, e2, ?_⟩
  refine ⟨.non, _, I.lset (its' := its ++ its2) hH e (by simp) (r.append r2) ?_, rfl, q⟩
  rw [List.length_append]
  omega
theorem mt_ext2 : MtM X "list.extend" (fun x vs H Q => rExtend x vs H Q ∨ rExtT X.K x vs H Q) := by
  intro pins s σ H x vs v us Q I rx rv h
  rcases h with h | h
  · exact mt_extend pins s σ H x vs v us Q I rx rv h
  · exact mt_extT pins s σ H x vs v us Q I rx rv h
def ext2M (i : Nat) (m : ME') : MS' := ownL i fun xs ρ => bd (m ρ) fun a => match a with
  | .lst ys => putL i (xs ++ ys) ρ
  | .tup ys => putL i (xs ++ ys) ρ
  | _ => no
theorem ms_extend2 {i : Nat} {x : Str} {e : Expr} {m : ME'} {px pa pc pos : Pos} (hX : X.N[i]? = some x) (hv : Vis X.env.scope x) (hi : i ∈ own) (he : ME X D own xk e m) (hd : (x == ("__debug__" : Str)) = false := by decide) (hcd : (x == ("__classdict__" : Str)) = false := by decide)
    (hst : swapsWith (.Call (.Attribute (.Name x px) "extend" pa) [e] [] pc) none pos.line X.env = pure false := by rfl)
    (hbase : attributeBase (.Name x px) "extend" X.env (eval (.Name x px) X.env) = eval (.Name x px) X.env := by rfl)
    (hfew : ((backTo pc (starEach [e] X.env)).all (fun x => !x.1) && (backToKw pc (keywordEach [] X.env)).all (fun x => x.1.isSome)
      && decide ([e].length + ([] : List Keyword).length + (if ([] : List Keyword).isEmpty then 0 else 1) < 30)) = true := by rfl)
    (hline : (pa.endLine == pc.line) = true := by rfl) (hs : starEach [e] X.env = (false, eval e X.env) :: starEach [] X.env := by rfl) (hplain : (backTo pc (starEach [] X.env)).any (·.1) = false := by rfl) :
    MS X D own own ownB xk (.Expr (.Call (.Attribute (.Name x px) "extend" pa) [e] [] pc) pos) (ext2M i m) :=
  PS.of (ps_expr (pe_bm PySem.F.plainAttrs_list PySem.F.slot_list_extend PySem.F.type_list_extend mt_ext2 (pe_var hX hv hd hcd) (pa_cons he pa_nil hs) hbase hfew hline hs hplain) hst) fun N σ H q => by
    obtain ⟨S0, H0, S, ρ, p, R, q⟩ := q
    unfold ext2M at q
    obtain ⟨xs, ha, q⟩ := ownL_get q
    · obtain ⟨l, vs, h1, h2, h3⟩ := own_read R hi ha
      refine ⟨.ref l, h1, .inl ⟨rfl, vs, SqL.of h2⟩, ?_⟩
      refine AftS.bind R q fun a p1 S1 H1 v _ e1 R1 r1 q1 => ?_
      obtain ⟨ws, h4, h5⟩ := own_same R1 hi ha h1
      cases a <;> first | exact q1.elim | skip
      · obtain ⟨b, zs, rfl, s, r⟩ := Rep.tup_iff.mp r1
        obtain ⟨z, fin⟩ := put_ok R1 hi ha h1 (h5.append r) q1
        refine .inr ⟨l, b, ws, zs, rfl, rfl, h4, SqT.up R1.good s, ?_, fin⟩
        rw [List.length_append] at z
        rw [← h5.length, ← r.length]
        exact z
      · obtain ⟨b, zs, rfl, s, r⟩ := Rep.lst_iff.mp r1
        obtain ⟨z, fin⟩ := put_ok R1 hi ha h1 (h5.append r) q1
        refine .inl ⟨l, b, ws, zs, rfl, rfl, h4, R1.good.sub _ _ s, ?_, fin⟩
        rw [List.length_append] at z
        rw [← h5.length, ← r.length]
        exact z
/-! ### target = x.pop() -/
theorem Reps.dropLast {K : PySem.W.Frag} {S : Hp} : ∀ {xs : List A} {vs : List V}, Reps K D S xs vs → Reps K D S xs.dropLast vs.dropLast
  | [], vs, h => by rw [Reps.nil_iff] at h; subst h; exact Reps.nil_iff.mpr rfl
  | [x], vs, h => by
    obtain ⟨v, r, rfl, _, h2⟩ := Reps.cons_iff.mp h
    rw [Reps.nil_iff] at h2
    subst h2
    exact Reps.nil_iff.mpr rfl
  | x :: y :: xs, vs, h => by
    obtain ⟨v, r, rfl, h1, h2⟩ := Reps.cons_iff.mp h
    obtain ⟨w, r', rfl, _, _⟩ := Reps.cons_iff.mp h2
    exact Reps.cons_iff.mpr ⟨v, _, rfl, h1, Reps.dropLast h2⟩
def popT (i : Nat) (t : Tg) : MS' := ownL i fun xs ρ => match xs.getLast? with
  | some a => match t a (ρ.set i (some (.lst xs.dropLast))) with
    | some ρ' => ret (.nx ρ')
    | none => no
  | none => no
theorem ms_pop {i : Nat} {is : List Nat} {x : Str} {tg : Expr} {t : Tg} {px pa pc pos : Pos} (hX : X.N[i]? = some x) (hv : Vis X.env.scope x) (hi : i ∈ own) (hg : MG X D own own' is tg t) (hd : (x == ("__debug__" : Str)) = false := by decide) (hcd : (x == ("__classdict__" : Str)) = false := by decide)
    (hs : swapsWithSole [tg] (.Call (.Attribute (.Name x px) "pop" pa) [] [] pc) pos.line X.env = pure false := by rfl) (hw : swappedStores [tg] (.Call (.Attribute (.Name x px) "pop" pa) [] [] pc) X.env = pure none := by rfl)
    (h1 : (assignEach [tg] X.env).map (·.2) = [assign tg X.env] := by rfl)
    (hbase : attributeBase (.Name x px) "pop" X.env (eval (.Name x px) X.env) = eval (.Name x px) X.env := by rfl) (hline : (pa.endLine == pc.line) = true := by rfl) :
    MS X D own own' ownB xk (.Assign [tg] (.Call (.Attribute (.Name x px) "pop" pa) [] [] pc) pos) (popT i t) :=
  PS.of (ps_asg (pe_bm0 PySem.F.plainAttrs_list PySem.F.slot_list_pop PySem.F.type_list_pop mt_pop (pe_var hX hv hd hcd) hbase hline) hg hs hw h1) fun N σ H q => by
    obtain ⟨S0, H0, S, ρ, p, R, q⟩ := q
    unfold popT at q
    obtain ⟨xs, ha, q⟩ := ownL_get q
    obtain ⟨l, vs, h1, h2, h3⟩ := own_read R hi ha
    cases el : xs.getLast? with
    | none => rw [el] at q; exact q.elim
    | some a =>
      rw [el] at q
      dsimp only at q
      rw [List.getLast?_eq_getElem?] at el
      obtain ⟨v, hv, rv⟩ := h3.get el
      cases z : t a (ρ.set i (some (.lst xs.dropLast))) with
      | none => rw [z] at q; exact q.elim
      | some ρ' =>
        rw [z] at q
        refine ⟨.ref l, h1, .inl ⟨rfl, vs, SqL.of h2⟩, l, vs, v, rfl, rfl, h2, by rw [← h3.length]; exact hv, ?_⟩
        exact ⟨S0, H0, S, _, p, a, R.write (a' := .lst xs.dropLast) hi ha h1 ⟨vs.dropLast, upd_same, Reps.dropLast h3⟩, rv, ρ', z, fun σ' R' _ => q S _ σ' R'⟩
/-! ### isinstance(x, (c, d)) -/
def isi2 (c d : Ty) (m : ME') : ME' := fun ρ => bd (bd (m ρ) bigA) (isiA [c, d])
theorem me_isi2 {x t1 t2 : Expr} {c d : Ty} {m : ME'} {k : Nat} {pn pos pt : Pos} (F : ClsF X.K D) (hg : Gl X "isinstance") (hm : X.mg "isinstance" = none) (hx : ME X D own xk x m) (hc : CArg X D t1 c) (hd : CArg X D t2 d)
    (h1 : starEach [x, .Tuple [t1, t2] k pt] X.env = (false, eval x X.env) :: starEach [.Tuple [t1, t2] k pt] X.env := by rfl) (h2 : starEach [.Tuple [t1, t2] k pt] X.env = (false, eval (.Tuple [t1, t2] k pt) X.env) :: starEach [] X.env := by rfl) (hpl : (backTo pos (starEach [.Tuple [t1, t2] k pt] X.env)).any (·.1) = false := by rfl)
    (h3 : starEach [t1, t2] X.env = (false, eval t1 X.env) :: starEach [t2] X.env := by rfl) (h4 : starEach [t2] X.env = (false, eval t2 X.env) :: starEach [] X.env := by rfl) :
    ME X D own xk (.Call (.Name "isinstance" pn) [x, .Tuple [t1, t2] k pt] [] pos) (isi2 c d m) := by
  obtain ⟨v1, u1, hp1, hv1, ht1, hok1⟩ := hc.ex
  obtain ⟨v2, u2, hp2, hv2, ht2, hok2⟩ := hd.ex
  refine PE.of (pe_callB call_isiT hg hm boot_isinstance (pa_cons hx (pa_cons (pe_tup (pa_cons hp1 (pa_cons hp2 pa_nil h4) h3)) pa_nil h2) h1) (by decide) (by decide) h1 hpl) fun σ H Q q => ?_
  obtain ⟨S0, H0, S, ρ, p, R, q⟩ := q
  unfold isi2 at q
  rw [bd_assoc] at q
  refine tG.bind R q fun a p1 S1 H1 y _ e1 R1 r1 q1 => ?_
  unfold bd at q1
  cases eb : bigA a p1 with
  | ok b p2 =>
    rw [eb] at q1
    obtain ⟨rfl, rfl, big⟩ := bigA_ok eb
    have q1 : Aft X.K D (Rep X.K D) xk S0 H0 S1 H1 σ ρ own (isiA [c, d] _ _) Q := q1
    unfold isiA at q1
    cases ek : kindOf b with
    | none => rw [ek] at q1; exact q1.elim
    | some k =>
      rw [ek] at q1
      dsimp only at q1
      have hb : ∀ c, k = .o c → 20 ≤ c := fun c e => by
        rw [e] at ek
        obtain ⟨fs, e2⟩ := kind_o ek
        exact big c fs e2
      refine ⟨by show 2 ≤ sizeLine; decide, fun tp htp => ?_⟩
      obtain ⟨R2, x2⟩ := R1.new (o := .tup [v1, v2]) htp (fun _ z => by cases z)
      have r2 := Rep.mono x2.sub _ _ r1
      obtain ⟨w, hw, ty⟩ := kind_ty F R2 r2 ek hb
      have k1 := kit_of_kd F hw ht1 (fun n e => kind_b (by rw [← e]; exact ek)) hb hok1
      have k2 := kit_of_kd F hw ht2 (fun n e => kind_b (by rw [← e]; exact ek)) hb hok2
      refine ⟨y, tp, [v1, v2], w, [u1, u2], isK k c || isK k d, rfl, upd_same, .cons hv1 (.cons hv2 .nil), ty, ?_, ?_⟩
      · refine kitAny_cons k1 (r := isK k c || isK k d) (fun z => ?_) fun z => by rw [z]; rfl
        rw [z, Bool.false_or]
        refine kitAny_cons k2 (fun z => ?_) fun z => z
        rw [z]
        exact kitAny_nil
      · have e : [c, d].any (isK k) = (isK k c || isK k d) := by simp
        rw [e] at q1
        exact q1 _ _ _ x2 R2 (Rep.bl_iff.mpr rfl)
  | exc c fs p2 =>
    exfalso
    unfold bigA at eb
    split at eb
    · split at eb <;> cases eb
    · cases eb
  | stuck => rw [eb] at q1; exact q1.elim
theorem carg_own' {c : Nat} {x : Str} {pos : Pos} (hg : Gl X x) (h : ∃ C, X.mg x = some (.ref C) ∧ D.cls c = some C) (h20 : 20 ≤ c) (hd : (x == ("__debug__" : Str)) = false := by decide) : CArg X D (.Name x pos) (.own c) := by
  obtain ⟨C, hm, hc⟩ := h
  exact carg_own hg hm hc h20 hd
end
/-! ### what is known of an own class -/
structure InsF (K : PySem.W.Frag) (mg : Str → Option Value) (x : Str) (fl : List Str) (st : Stmt) (ps : List Str) (C : Addr) : Prop where
  m : mg x = some (.ref C)
  cl : Cls K C
  na : ∀ f ∈ fl, NoAttr K C f
  ha : PySem.W.findIn K (.ref C) "__class__" = some (some (.builtin "object.__class__"))
  hm : PySem.W.mroIn K C (.type "object") = some true
  ty : PySem.W.typeIn K (.ref C) = some (.type "type")
  ob : ∀ T ∈ bTypes, PySem.W.subIn K (.ref C) (.type T) = some false
  ini : ∃ fI fd, Mk K C fI ∧ L2.Fun K "__init__" (x ++ ".__init__") st fI fd ∧ L2.Binds K fd ps []
theorem kit_bo {K : PySem.W.Frag} {C : Addr} {T : String} (hd : PySem.W.hasDictIn K C = true) (ht : PySem.W.typeIn K (.ref C) = some (.type "type")) (h : T ∈ bKinds) : PySem.W.kitOne K (.type T) (.ref C) = some false := by
  obtain ⟨cd, hc, _⟩ := PySem.W.any_some hd
  have e2 : ((PySem.W.clsIn K C).isSome && PySem.W.typeIn K (.ref C) == some (.type "type")) = true := by rw [hc, ht] <;> rfl
  have e3 : PySem.W.kitOne K (.type T) (.ref C) = PySem.W.subIn K (.type T) (.ref C) := if_pos e2
  rw [e3]
  simp only [bKinds, List.mem_cons, List.not_mem_nil, or_false] at h
  rcases h with rfl | rfl | rfl | rfl | rfl | rfl | rfl <;> rfl
theorem kit_ob {K : PySem.W.Frag} {C : Addr} {T : String} (h : T ∈ bTypes) (hs : PySem.W.subIn K (.ref C) (.type T) = some false) : PySem.W.kitOne K (.ref C) (.type T) = some false := by
  have e : PySem.W.kitOne K (.ref C) (.type T) = if PySem.W.kitMeta T = true then PySem.W.subIn K (.ref C) (.type T) else none := rfl
  rw [e]
  simp only [bTypes, List.mem_cons, List.not_mem_nil, or_false] at h
  rcases h with rfl | rfl | rfl | rfl | rfl | rfl <;> exact hs
end Mir
namespace Mir
open PySem PySem.Spec PyProof.Rows L2
theorem clsF_of {K : PySem.W.Frag} {D : Dcl} {mg : Str → Option Value} {nt : List (Nat × Str)} {ft : List (Nat × List Str)} (hc : D.cls = clsOf nt mg) (hf : D.flds = fldsOf ft) (h : ∀ c C, 20 ≤ c → clsOf nt mg c = some C → ∃ x fl st ps, InsF K mg x fl st ps C ∧ fldsOf ft c = fl)
    (h1 : PySem.W.specialIn K (.builtin "object.__class__") "__get__" = some (some (.builtin "getset_descriptor.__get__"))) (h2 : PySem.W.takesIn K (.builtin "object.__class__") = some true)
    (oo : ∀ c C d C', 20 ≤ c → 20 ≤ d → clsOf nt mg c = some C → clsOf nt mg d = some C' → PySem.W.kitOne K (.ref C) (.ref C') = some (c == d)) : ClsF K D := by
  have key : ∀ c C, 20 ≤ c → D.cls c = some C → ∃ x fl st ps, InsF K mg x fl st ps C ∧ D.flds c = fl := fun c C h20 e => by
    rw [hc] at e
    rw [hf]
    exact h c C h20 e
  refine ⟨fun c C h20 e => ?_, fun c C f h20 e hm => ?_, fun c C h20 e => ?_, fun c C h20 e => ?_, h1, h2, fun c C h20 e T hT => ?_, fun c C h20 e T hT => ?_, fun c C d C' a b e1 e2 => ?_⟩
  · obtain ⟨x, fl, st, ps, I, _⟩ := key c C h20 e
    exact I.cl
  · obtain ⟨x, fl, st, ps, I, ef⟩ := key c C h20 e
    exact I.na f (by rw [← ef]; exact hm)
  · obtain ⟨x, fl, st, ps, I, _⟩ := key c C h20 e
    exact I.ha
  · obtain ⟨x, fl, st, ps, I, _⟩ := key c C h20 e
    exact I.hm
  · obtain ⟨x, fl, st, ps, I, _⟩ := key c C h20 e
    exact kit_bo I.cl.hd I.ty hT
  · obtain ⟨x, fl, st, ps, I, _⟩ := key c C h20 e
    exact kit_ob hT (I.ob T hT)
  · rw [hc] at e1 e2
    exact oo c C d C' a b e1 e2
theorem InsF.mk' {K : PySem.W.Frag} {h : Heap} {mg : Str → Option Value} {x q : Str} {fl : List Str} {st : Stmt} {ps : List Str} {C fI : Addr} {oc kV doc pm cdv ct : Value} {od an : Option Addr} {osl : Array (Option Value)} (KX : K.In h) (G : h.Ns mainGlobals mg) (hq : x ++ ".__init__" = q)
    (a : PySem.W.nsIn K mainGlobals x = some (some (.ref C))) (c1 : PySem.W.plainGet K C Str.empty = true) (c2 : PySem.W.hasDictIn K C = true) (c3 : PySem.W.plainOver K C = true) (c4 : PySem.W.findIn K (.ref C) "__setattr__" = some (some (.builtin "object.__setattr__")))
    (na : ∀ f ∈ fl, NoAttr K C f) (ha : PySem.W.findIn K (.ref C) "__class__" = some (some (.builtin "object.__class__"))) (hm : PySem.W.mroIn K C (.type "object") = some true) (ty : PySem.W.typeIn K (.ref C) = some (.type "type")) (ob : ∀ T ∈ bTypes, PySem.W.subIn K (.ref C) (.type T) = some false)
    (m1 : PySem.W.makesIn K C = true) (m2 : PySem.W.findIn K (.ref C) "__init__" = some (some (.ref fI))) (m3 : PySem.W.isFn K (.ref fI) = true) (m4 : PySem.W.keepIn K (.ref C) = true)
    (l : K.lookup fI = some ⟨oc, od, .func (PySem.W.fnOf "__init__" q (defArgs st) (defBody st) (defScope st) .none kV doc pm an cdv ct), osl⟩) (c : PySem.W.codeIn K cdv q = true) (k : PySem.W.keepIn K (.ref fI) = true)
    (hb : ∀ (kV doc pm : Value) (an : Option Addr) (cdv ct : Value) (us : List Value), us.length = ps.length → bindArgs (PySem.W.fnOf "__init__" q (defArgs st) (defBody st) (defScope st) .none kV doc pm an cdv ct) ⟨us, []⟩ = pure (ps.zip us)) : InsF K mg x fl st ps C := by
  subst hq
  exact ⟨PySem.W.mg_of KX G a, ⟨c1, c2, c3, c4⟩, na, ha, hm, ty, ob, fI, _, ⟨m1, m2, m3, m4⟩, fun_mk l c k, (fun_mk (st := st) l c k).binds hb⟩
end Mir

/-! Mir31: several targets at once, by a tuple that is laid. -/
namespace Mir
open PySem PySem.Spec PyProof.Rows L2
section
variable {X : Cx} {D : Dcl} {own own' own2 ownB : List Nat} {xk : XK}
theorem Rel.junk {K : PySem.W.Frag} {S0 H0 S H : Hp} {σ : L2.St} {ρ : Env'} {p : Pen} {q : Addr} {xs : List V} (R : Rel K D S0 H0 S H σ ρ own p) (hq : H q = none) : Rel K D S0 H0 S (upd H q (.tup xs)) σ ρ own p := by
  obtain ⟨g, e, _, _⟩ := R.good.newOwn (o := .tup xs) hq (fun _ z => by cases z) (fun _ z => by cases z)
  exact R.step e g
theorem ms_asgF {i j : Nat} {f g : Bool} {x y : Str} {a b : Expr} {ms : Env' → M (List A)} {px py pt pos : Pos} {kt k2 : Nat} {pt2 : Pos} (hc : X.calm = true) (hN : X.N.Nodup) (hi : X.N[i]? = some x) (hj : X.N[j]? = some y)
    (hx : Loc X.env.scope x) (hy : Loc X.env.scope y) (hfx : X.fn x = true ∨ X.env.scope.names.lookup x = some .local) (hfy : X.fn y = true ∨ X.env.scope.names.lookup y = some .local) (ha : MAF X D own xk [a, b] [f, g] ms)
    (hs : swapsWithSole [.Tuple [.Name x px, .Name y py] kt pt] (.Tuple [a, b] k2 pt2) pos.line X.env = pure false := by rfl) (hw : swappedStores [.Tuple [.Name x px, .Name y py] kt pt] (.Tuple [a, b] k2 pt2) X.env = pure none := by rfl)
    (h1 : (assignEach [.Tuple [.Name x px, .Name y py] kt pt] X.env).map (·.2) = [assign (.Tuple [.Name x px, .Name y py] kt pt) X.env] := by rfl)
    (g1 : (assignEach [.Name x px, .Name y py] X.env).map (·.2) = assign (.Name x px) X.env :: (assignEach [.Name y py] X.env).map (·.2) := by rfl)
    (g2 : (assignEach [.Name y py] X.env).map (·.2) = assign (.Name y py) X.env :: (assignEach [] X.env).map (·.2) := by rfl)
    (hn : (assignEach [.Name x px, .Name y py] X.env).length = 2 := by rfl) (hst : (assignEach [.Name x px, .Name y py] X.env).findIdx? (·.1) = none := by rfl) :
    MS X D own (ownSets [(i, f), (j, g)] own) ownB xk (.Assign [.Tuple [.Name x px, .Name y py] kt pt] (.Tuple [a, b] k2 pt2) pos) (parM i j ms) :=
  PS.of (ps_asg (pe_tup ha) (pg_tup hc (pgs_cons (pg_name hN hi hx hfx) (pgs_cons (pg_name hN hj hy hfy) pgs_nil g2) g1) hn hst) hs hw h1) fun N σ H q => by
    obtain ⟨S0, H0, S, ρ, p, R, q⟩ := q
    refine AftS.bindFs R q fun as p1 S1 H1 vs R1 r1 q1 => ?_
    have R2 := setAll_ok (ifs := [(i, f), (j, g)]) R1 R.ownIn (fun c z => R.ext.none c z) r1
    obtain ⟨l1, l2⟩ := r1.len
    match as, vs, l1, l2, q1, R2 with
    | [a, b], [v, w], _, _, q1, R2 =>
      refine ⟨by show 2 ≤ sizeLine; decide, fun t ht => ?_⟩
      exact ⟨t, [v, w], rfl, SqT.of upd_same, rfl, v, [w], rfl, w, [], rfl, rfl, q1 S1 _ _ (R2.junk ht)⟩
theorem ms_setLc2 {is : List Nat} {elt tg iter : Expr} {ifs : List Expr} {scope : Scope} {ow : List (Str × Nat)} {pos : Pos} {it : Env' → M (List A)} {t : Tg} {c : Env' → M Bool} {e : ME'} {i : Nat} {y : Str} {py spos : Pos}
    (hi : ∀ j ∈ is, j ∈ ow.map (·.2)) (hc : X.calm = true) (hN : X.N.Nodup) (hit : MI X D own xk tg iter it) (ok : BlkOk X.N X.env.scope scope ow)
    (hg : ∀ (s : Shared) (H : Hp) (C : Addr) (cl : List (Str × Addr)) (fp : List Addr), MG (X.blk s H scope (compEnvC scope cl C X.env) fp) D own own is tg t)
    (ht : ∀ (s : Shared) (H : Hp) (C : Addr) (cl : List (Str × Addr)) (fp : List Addr), MTs (X.blk s H scope (compEnvC scope cl C X.env) fp) D own xk0 ifs c)
    (he : ∀ (s : Shared) (H : Hp) (C : Addr) (cl : List (Str × Addr)) (fp : List Addr), ME (X.blk s H scope (compEnvC scope cl C X.env) fp) D own xk0 elt e)
    (hs : ∀ x, foldedSetIterable iter X.env x = pure x) (hy : X.N[i]? = some y) (hyl : X.env.scope.names.lookup y = some .local) (hsw : swapsWith (.ListComp elt [⟨tg, iter, ifs, 0⟩] scope pos) (some (.Name y py)) spos.line X.env = pure true) :
    MS X D own (own.filter (· != i)) ownB xk (.Assign [.Name y py] (.ListComp elt [⟨tg, iter, ifs, 0⟩] scope pos) spos) (setM i (lcM it t c e (ow.map (·.2)))) := ms_setLc hi hc hN hit ok hg ht he hs hy hyl hsw
end
end Mir
namespace Mir
open PySem PySem.Spec PyProof.Rows L2
theorem fun_same {K : PySem.W.Frag} {x q x' q' : Str} {st st' : Stmt} {f : Addr} {fd fd' : FuncData} (h : L2.Fun K x q st f fd) (h' : L2.Fun K x' q' st' f fd') : fd = fd' := by
  obtain ⟨oc, od, kV, doc, pm, an, cdv, ct, osl, rfl, lk, _⟩ := h.ex
  obtain ⟨oc', od', kV', doc', pm', an', cdv', ct', osl', rfl, lk', _⟩ := h'.ex
  rw [lk] at lk'
  have e := Option.some.inj lk'
  injection e with _ _ e2 _
  injection e2
end Mir

/-! Mir32: sorted, by steps that can be counted out. -/
namespace Mir
open PySem PySem.Spec PyProof.Rows L2
section
variable {α : Type} (le : α → α → Bool)
def mrg : Nat → List α → List α → List α
  | 0, _, _ => []
  | _ + 1, [], ys => ys
  | _ + 1, x :: xs, [] => x :: xs
  | n + 1, x :: xs, y :: ys => if le x y then x :: mrg n xs (y :: ys) else y :: mrg n (x :: xs) ys
theorem mrg_eq : ∀ (n : Nat) (xs ys : List α), xs.length + ys.length ≤ n → mrg le n xs ys = List.merge xs ys le
  | 0, xs, ys, h => by
    have h1 : xs = [] := List.eq_nil_of_length_eq_zero (by omega)
    have h2 : ys = [] := List.eq_nil_of_length_eq_zero (by omega)
    subst h1 h2
    simp [mrg]
  | n + 1, [], ys, h => by simp [mrg]
  | n + 1, x :: xs, [], h => by simp [mrg]
  | n + 1, x :: xs, y :: ys, h => by
    simp only [List.length_cons] at h
    unfold mrg
    rw [mrg_eq n xs (y :: ys) (by simp only [List.length_cons]; omega), mrg_eq n (x :: xs) ys (by simp only [List.length_cons]; omega)]
    rw [List.cons_merge_cons]
def mSt : Nat → List α → List α
  | 0, xs => xs
  | n + 1, xs => match xs with
    | [] => []
    | [a] => [a]
    | a :: b :: r => mrg le (r.length + 2) (mSt n ((a :: b :: r).take ((r.length + 3) / 2))) (mSt n ((a :: b :: r).drop ((r.length + 3) / 2)))
theorem mSt_eq : ∀ (n : Nat) (xs : List α), xs.length ≤ n → mSt le n xs = xs.mergeSort le
  | 0, xs, h => by
    have h1 : xs = [] := List.eq_nil_of_length_eq_zero (by omega)
    subst h1
    simp [mSt]
  | n + 1, [], h => by simp [mSt]
  | n + 1, [a], h => by simp [mSt]
  | n + 1, a :: b :: r, h => by
    simp only [List.length_cons] at h
    have e1 := mSt_eq n ((a :: b :: r).take ((r.length + 3) / 2)) (by rw [List.length_take, List.length_cons, List.length_cons]; omega)
    have e2 := mSt_eq n ((a :: b :: r).drop ((r.length + 3) / 2)) (by rw [List.length_drop, List.length_cons, List.length_cons]; omega)
    show mrg le (r.length + 2) (mSt le n ((a :: b :: r).take ((r.length + 3) / 2))) (mSt le n ((a :: b :: r).drop ((r.length + 3) / 2))) = _
    rw [e1, e2, mrg_eq]
    · rw [List.mergeSort]
      simp only [List.MergeSort.Internal.splitInTwo, List.splitAt_eq, List.length_cons]
    · rw [List.length_mergeSort, List.length_mergeSort, ← List.length_append, List.take_append_drop]
      simp
end
/-- a whole number, or a tuple of such, so deep -/
def homog : Nat → PyData → Bool
  | 0, .int _ => true
  | k + 1, .tuple xs => homogs k xs
  | _, _ => false
where homogs (k : Nat) : List PyData → Bool
  | [] => true
  | x :: xs => homog k x && homogs k xs
theorem homog_alike : ∀ (k : Nat) (d e : PyData), homog k d = true → homog k e = true → PySem.W.alike d e = true := by
  intro k
  induction k with
  | zero =>
    intro d e hd he
    cases d <;> first | (cases hd; done) | skip
    cases e <;> first | (cases he; done) | skip
    rfl
  | succ k ih =>
    have key : ∀ xs ys : List PyData, homog.homogs k xs = true → homog.homogs k ys = true → PySem.W.alikeAll xs ys = true := by
      intro xs
      induction xs with
      | nil => intro ys _ _; cases ys <;> rfl
      | cons x xs ihx =>
        intro ys hx hy
        cases ys with
        | nil => rfl
        | cons y ys =>
          simp only [homog.homogs, Bool.and_eq_true] at hx hy
          simp only [PySem.W.alikeAll, Bool.and_eq_true]
          exact ⟨ih x y hx.1 hy.1, ihx ys hx.2 hy.2⟩
    intro d e hd he
    cases d <;> first | (cases hd; done) | skip
    cases e <;> first | (cases he; done) | skip
    exact key _ _ hd he
def homB (ds : List PyData) : Bool := ds.all (homog 0) || ds.all (homog 1) || ds.all (homog 2) || ds.all (homog 3)
theorem homB_alike {ds : List PyData} (h : homB ds = true) : alikeB ds = true := by
  have key : ∀ k, ds.all (homog k) = true → alikeB ds = true := fun k h => by
    unfold alikeB
    rw [List.all_eq_true] at h ⊢
    intro d hd
    rw [List.all_eq_true]
    intro e he
    exact homog_alike k d e (h d hd) (h e he)
  unfold homB at h
  simp only [Bool.or_eq_true] at h
  rcases h with ((h | h) | h) | h
  · exact key 0 h
  · exact key 1 h
  · exact key 2 h
  · exact key 3 h
def sortK (xs : List A) : M A := match toPys xs with
  | some ds => if (homB ds || alikeB ds) = true ∧ sortB ds = true ∧ xs.length ≤ sizeLine ∧ (∀ d ∈ ds, d.depth ≤ 60) then ret (.lst (mSt (PySem.W.dataLe false encA) xs.length xs)) else no
  | none => no
theorem sortK_eq (xs : List A) : sortK xs = sortL xs := by
  have e : ∀ ds, (homB ds || alikeB ds) = alikeB ds := fun ds => by
    cases h : homB ds with
    | true => rw [homB_alike h]; rfl
    | false => rfl
  unfold sortK sortL
  rw [mSt_eq _ _ _ (Nat.le_refl _)]
  cases toPys xs with
  | none => rfl
  | some ds => simp only [e]
def sortKA : List A → M A
  | [.lst xs] => sortK xs
  | [.tup xs] => sortK xs
  | _ => no
theorem sortKA_eq : sortKA = sortA := by
  funext as
  rcases as with _ | ⟨a, _ | ⟨b, r⟩⟩
  · rfl
  · cases a <;> first | exact sortK_eq _ | rfl
  · cases a <;> rfl
section
variable {X : Cx} {D : Dcl} {own : List Nat} {xk : XK}
theorem fnm_sortedK : FnM X D own xk (rSortX X) sortKA := by
  rw [sortKA_eq]
  exact fnm_sorted
end
end Mir

/-! Mir33: items of a list of one's own. -/
namespace Mir
open PySem PySem.Spec PyProof.Rows L2
section
variable {X : Cx} {D : Dcl} {own own' own2 ownB : List Nat} {xk : XK}
/-- x[j], x one's own -/
def ixO (i : Nat) (mj : ME') : ME' := fun ρ => match ρ[i]? with
  | some (some (.lst xs)) => bd (mj ρ) fun b => ixA (.lst xs) b
  | _ => no
theorem me_ixO {i : Nat} {x : Str} {b : Expr} {mb : ME'} {px pos : Pos} (hX : X.N[i]? = some x) (hv : Vis X.env.scope x) (hi : i ∈ own) (hb : ME X D own xk b mb) (hs : PlainIx b) (hd : (x == ("__debug__" : Str)) = false := by decide) (hcd : (x == ("__classdict__" : Str)) = false := by decide) :
    ME X D own xk (.Subscript (.Name x px) b pos) (ixO i mb) :=
  PE.of (pe_ix ix_seq (pe_var hX hv hd hcd) hb hs) fun σ H Q q => by
    obtain ⟨S0, H0, S, ρ, p, R, q⟩ := q
    unfold ixO at q
    cases e : ρ[i]? with
    | none => rw [e] at q; exact q.elim
    | some o =>
      rw [e] at q
      cases o with
      | none => exact q.elim
      | some a =>
        cases a <;> first | exact q.elim | skip
        rename_i xs
        obtain ⟨l, vs, h1, h2, h3⟩ := own_read R hi e
        refine ⟨.ref l, h1, ?_⟩
        refine tG.bind R q fun c p1 S1 H1 v _ e1 R1 r1 q1 => ?_
        cases c <;> first | exact q1.elim | skip
        rename_i j _
        rw [Rep.int_iff] at r1
        subst r1
        obtain ⟨ws, h4, h5⟩ := own_same R1 hi e h1
        simp only [ixA] at q1
        cases ea : L2.atI xs j with
        | none => rw [ea] at q1; exact q1.elim
        | some c =>
          rw [ea] at q1
          obtain ⟨w, h6, h7⟩ := Reps.atI h5 ea
          exact .inl ⟨l, ws, j, w, rfl, rfl, SqL.of h4, h6, Aft.ok q1 R1 h7⟩
end
end Mir

/-! Mir34: sorted, where some of the tuples are empty. -/
namespace PySem.SeqAt
section
variable {A : Around} {s : Shared}
theorem hm_call_tuple_lt {prog : Program} {w : World} {E : Value → Shared → Prop} {Q : Value → Shared → Prop} {l b : Addr} {items items2 : Array Value} {e r : Nat → Bool} (hl : s.heap.IsTuple l items) (hb : s.heap.IsTuple b items2)
    (he : ∀ j (h1 : j < items.size) (h2 : j < items2.size), EqAt A.in1 s items[j] items2[j] (e j)) (hr : ∀ j (h1 : j < items.size) (h2 : j < items2.size), e j = false → RcLt A.in1 s items[j] items2[j] (r j))
    (h : Q (.bool (firstLt e r (decide (items.size < items2.size)) (List.range (min items.size items2.size)))) s) : wpAny (model prog w) A (call (.builtin "tuple.__lt__") [.ref l, .ref b]) Q E s := by
  obtain ⟨⟨cls, dd, data, sl⟩, ho, hc, n, hd⟩ := id hl
  obtain ⟨⟨cls2, dd2, data2, sl2⟩, ho2, hc2, n2, hd2⟩ := id hb
  simp only at hc hd hc2 hd2
  subst hc hd hc2 hd2
  exact call_meets F.slot_tuple_lt ⟨_, ho, rfl⟩ F.entry_tuple_lt (F.args_tuple_lt_2 _ _) (tuple_ltAt l b items items2 n n2 dd dd2 sl sl2 e r) ⟨ho, ho2, he, hr, h⟩
end
end PySem.SeqAt
namespace PySem.W
open PySem PySem.SeqAt PyProof.Rows PySem.Calls
section
variable {prog : Program} {w : World} {A : Around} {s : Shared} {E : Value → Shared → Prop}
theorem hm_oneLt_tup {xs ys : List PyData} {a b : Value} {as bs : List Addr} {Q : Bool → Shared → Prop} (ra : Reads s.heap a (.tuple xs) as) (rb : Reads s.heap b (.tuple ys) bs) (h : alike (.tuple xs) (.tuple ys) = true)
    (hu : A.units + min (PyData.tuple xs).depth (PyData.tuple ys).depth < cLine) (hq : Q (dataLt (.tuple xs) (.tuple ys)) s) : wpAny (model prog w) A (oneLt' true a b) Q E s := by
  have hal : alikeAll xs ys = true := by simpa [alike] using h
  cases ra with
  | @tuple l o vs n _ as₁ h1 h2 h3 h4 =>
    cases rb with
    | @tuple l' o' vs' n' _ bs₁ k1 k2 k3 k4 =>
      have n1 : vs.size = xs.length := by simpa using ReadsAll.length _ _ _ h4
      have n2 : vs'.size = ys.length := by simpa using ReadsAll.length _ _ _ k4
      rw [dataLt_tuple, ← firstLt_toks xs ys hal, ← n1, ← n2] at hq
      rw [oneLt'_eq]
      simp only [if_true]
      refine wpAny_bind (wpAny_cRoomFor (room_here hu) ?_)
      refine wpAny_bind (wpAny_callSpecialIfBound?_slot (T := "tuple") ⟨_, h1, h2⟩ F.slot_tuple_lt (hm_call_tuple_lt (e := pairEq xs ys) (r := fun j => dataLt (xs.getD j .none) (ys.getD j .none)) ⟨_, h1, h2, _, h3⟩ ⟨_, k1, k2, _, k3⟩ (fun j j1 j2 => ?_) (fun j j1 j2 hj => ?_) ?_))
      · have := eqAt_alikeAll xs ys A.in1 s vs.toList vs'.toList _ _ h4 k4 hal (room_in hu) j (by simpa using j1) (by simpa using j2)
        simpa using this
      · have := rcLt_alikeAll xs ys A.in1 s vs.toList vs'.toList _ _ h4 k4 hal (room_in hu) j (by simpa using j1) (by simpa using j2) hj
        simpa using this
      · exact wpAny_truthy_bool hq
/-- the first items of tuples, where there are some -/
def KatO (h : Heap) : List Value → List (Option Value) → Prop
  | [], [] => True
  | v :: vs, f :: fs => (∃ a o xs n, v = .ref a ∧ h.get? a = some o ∧ o.cls = .type "tuple" ∧ o.data = .seq xs n ∧ xs[0]? = f) ∧ KatO h vs fs
  | _, _ => False
end
section
variable {M : Model} {A : Around} {E : Value → Shared → Prop} {s : Shared}
theorem katO_firsts : ∀ (vs : List Value) (fs : List (Option Value)) {Q : List (Option Value) → Shared → Prop}, KatO s.heap vs fs → Q fs s → wpAny M A (vs.mapM firstOfTuple') Q E s
  | [], [], _, _, h => by rw [List.mapM_nil]; exact wpAny_pure h
  | [], _ :: _, _, t, _ => t.elim
  | _ :: _, [], _, t, _ => t.elim
  | v :: vs, f :: fs, Q, t, h => by
    obtain ⟨⟨a, o, xs, n, rfl, ho, hc, hd, hf⟩, t⟩ := t
    rw [List.mapM_cons]
    refine wpAny_bind ?_
    rw [kas_first_eq]
    refine wpAny_bind (Looks.here (show Looks M s.heap (typeOf (.ref a)) o.cls from (Looks.ld ho).andThen .now) ?_)
    rw [hc, if_neg (by first | decide | simp)]
    refine wpAny_bind (listItems_at ho hd (wpAny_pure ?_))
    rw [hf]
    exact wpAny_bind (katO_firsts vs fs (Q := fun bs s' => wpAny M A (pure (f :: bs)) Q E s') t (wpAny_pure h))
theorem katO_kind {vs : List Value} {fs : List (Option Value)} {Q : SortKind → Shared → Prop} (t : KatO s.heap vs fs) (hn : none ∈ fs) (hT : ∀ v ∈ vs, Looks M s.heap (typeOf v) (.type "tuple")) (hne : vs ≠ []) (h : (fs.head? = some none → Q oneType' s) ∧ ((∃ f, fs.head? = some (some f)) → Q general' s)) :
    wpAny M A (keyKind' vs.toArray) Q E s := by
  rw [kat_kind_eq, List.mapM_toArray, map_eq_pure_bind]
  refine wpAny_bind (wpAny_bind (katO_firsts vs _ t (wpAny_pure ?_)))
  have hall : ¬ (fs.toArray.all fun x => x.isSome) = true := by
    intro z
    simp only [List.all_toArray, List.all_eq_true] at z
    have := z none hn
    simp at this
  rw [if_neg hall]
  cases fs with
  | nil => simp at hn
  | cons f fr =>
    cases f with
    | some g =>
      have e : (((some g :: fr).toArray[0]?).bind id).isSome = true := by simp
      rw [if_pos e]
      exact wpAny_pure (h.2 ⟨g, rfl⟩)
    | none =>
      have e : ¬ (((none :: fr).toArray[0]? : Option (Option Value)).bind id).isSome = true := by simp
      rw [if_neg e]
      rw [oneTypeOnly'_eq, List.mapM_toArray, map_eq_pure_bind]
      refine wpAny_bind (wpAny_bind (wpAny_bind (kas_mapM (r := Value.type "tuple") _ (fun v hv Q' hq => (hT v hv).here hq) (wpAny_pure ?_))))
      have hall2 : ((List.map (fun _ => Value.type "tuple") vs).toArray.all fun x => x == Value.type "tuple") = true := by
        simp only [List.all_toArray, List.all_map, List.all_eq_true]
        intro _ _
        exact beq_self_eq_true _
      have h0 : (List.map (fun _ => Value.type "tuple") vs).toArray[0]? = some (Value.type "tuple") := by
        cases vs with
        | nil => exact absurd rfl hne
        | cons v r => simp
      rw [h0]
      simp only [hall2, if_true]
      exact wpAny_pure (wpAny_pure (h.1 rfl))
end
section
variable {prog : Program} {w : World} {A : Around} {s : Shared}
theorem each_katO {h : Heap} : ∀ {vs : List Value} {ds : List PyData}, EachIs (fun v d => ∃ as, Reads h v d as) vs ds → (∀ d, d ∈ ds → ∃ xs, d = .tuple xs) → ∃ fs, KatO h vs fs ∧ (.tuple [] ∈ ds → none ∈ fs)
  | _, _, .nil, _ => ⟨[], trivial, fun h => absurd h (by simp)⟩
  | _, _, .cons (b := d) ⟨as, r⟩ t, ht => by
    obtain ⟨fs, h1, h2⟩ := each_katO t fun d hd => ht d (List.mem_cons_of_mem _ hd)
    obtain ⟨xs, rfl⟩ := ht d (List.mem_cons_self ..)
    cases r with
    | @tuple a o vs n _ _ ho hc hd hr =>
      refine ⟨vs[0]? :: fs, ⟨⟨a, o, vs, n, rfl, ho, hc, hd, rfl⟩, h1⟩, fun hm => ?_⟩
      rcases List.mem_cons.mp hm with e | hm
      · cases e
        have hl : vs.toList = [] := by
          cases q : vs.toList with
          | nil => rfl
          | cons f fr => rw [q] at hr; cases hr
        have : vs[0]? = none := by rw [← Array.getElem?_toList, hl]; rfl
        rw [this]
        exact List.mem_cons_self
      · exact List.mem_cons_of_mem _ (h2 hm)
/-- all are tuples, or none is, and none is None -/
def SortableT (ds : List PyData) : Prop := (∀ d, d ∈ ds → ∃ xs, d = .tuple xs) ∨ ∀ d, d ∈ ds → d ≠ .none ∧ ∀ xs, d ≠ .tuple xs
theorem SortsAt.dataT {vs : List Value} {ds : List PyData} (e : EachIs (fun v d => ∃ as, Reads s.heap v d as) vs ds) (hal : AllAlike ds) (hk : SortableT ds) (hu : ∀ d, d ∈ ds → A.units + d.depth < cLine) : SortsAt prog w A s (dataKind s.heap ds) vs := by
  have room : ∀ {d d' : PyData}, d ∈ ds → A.units + min d.depth d'.depth < cLine := fun {d d'} hd => Nat.lt_of_le_of_lt (Nat.add_le_add_left (Nat.min_le_left _ _) _) (hu d hd)
  rcases hk with ht | hn
  · by_cases he : .tuple [] ∈ ds
    · refine ⟨fun v hv => ?_, ?_⟩
      · obtain ⟨d, hd, as, r⟩ := e.left v hv
        exact ⟨_, dataKind_some hal hd r⟩
      · obtain ⟨fs, t1, t2⟩ := each_katO e ht
        have hnone := t2 he
        have hT : ∀ {M : Model}, ∀ v ∈ vs, Looks M s.heap (typeOf v) (.type "tuple") := fun {M} v hv => by
          obtain ⟨d, hd, as, r⟩ := e.left v hv
          obtain ⟨xs, rfl⟩ := ht d hd
          exact looks_reads r
        by_cases hh : fs.head? = some none
        · refine ⟨oneType', fun E x y a b Q ha hb hq => ?_, fun h2 E Q hq => katO_kind t1 hnone hT (fun z => by rw [z] at h2; simp at h2) ⟨fun _ => hq, fun ⟨f, z⟩ => by rw [hh] at z; cases z⟩⟩
          obtain ⟨d, as, hd, ra, rfl⟩ := dataKind_inv ha
          obtain ⟨d', as', hd', rb, rfl⟩ := dataKind_inv hb
          rw [keyLt'_oneType]
          obtain ⟨xs, rfl⟩ := ht d hd
          obtain ⟨ys, rfl⟩ := ht d' hd'
          exact hm_oneLt_tup ra rb (hal _ hd _ hd') (room hd) hq
        · refine ⟨general', fun E x y a b Q ha hb hq => ?_, fun h2 E Q hq => katO_kind t1 hnone hT (fun z => by rw [z] at h2; simp at h2) ⟨fun z => absurd z hh, fun _ => hq⟩⟩
          obtain ⟨d, as, hd, ra, rfl⟩ := dataKind_inv ha
          obtain ⟨d', as', hd', rb, rfl⟩ := dataKind_inv hb
          show wpAny (model prog w) A (oneLt' false x y) Q E s
          obtain ⟨xs, rfl⟩ := ht d hd
          exact oneLt_alike (fun z => by cases z) ra rb (hal _ hd _ hd') (fun z => by cases z) (room hd) hq
    · refine SortsAt.data e hal (.inl fun d hd => ?_) hu
      obtain ⟨xs, rfl⟩ := ht d hd
      cases xs with
      | nil => exact absurd hd he
      | cons x r => exact ⟨x, r, rfl⟩
  · exact SortsAt.data e hal (.inr hn) hu
end
end PySem.W
namespace Mir
open PySem PySem.Spec PyProof.Rows L2
section
variable {prog : Program} {w : World} {A : Around} {E : Value → Shared → Prop} {s : Shared} {β : Type} {R : Value → β → Prop} {enc : β → PyData} {bs : List β}
theorem sorted_anyT {it : Addr} {T : String} {o : Obj} {vs : List Value} {n : Nat} {Q : Value → Shared → Prop} (hT : T = "list" ∨ T = "tuple") (ho : s.heap.get? it = some o) (hc : o.cls = .type T) (hd : o.data = .seq vs.toArray n)
    (e : PySem.W.EachIs R vs bs) (er : PySem.W.EachIs (fun v b => ∃ as, Reads s.heap v (enc b) as) vs bs) (hal : PySem.W.AllAlike (bs.map enc)) (hk : PySem.W.SortableT (bs.map enc)) (hL : bs.length ≤ sizeLine)
    (hu : ∀ b, b ∈ bs → A.units + 2 + (enc b).depth < cLine)
    (h : ∀ (out : List Value) (g h' : Heap) (n' : Nat), out.length = bs.length → PySem.W.EachIs R out (bs.mergeSort (PySem.W.dataLe false enc)) → (∀ b o, s.heap.get? b = some o → g.get? b = some o) → (∀ b o, g.get? b = some o → h'.get? b = some o) → h'.get? g.objs.size = some (seqObj "list" out.toArray n') → Q (.ref g.objs.size) { s with heap := h' }) :
    wpAny (model prog w) A (call (.builtin "sorted") [.ref it]) Q E s := by
  have hlen : vs.length ≤ sizeLine := by rw [e.length]; exact hL
  refine call_function_entry_kw kind_sorted plain_sorted entry_sorted (args_sorted1 _) ?_
  unfold Builtin.«sorted»
  refine wpAny_bind (m := checkCount "sorted" 1 1 _) (wpAny_pure ?_)
  refine wpAny_bind (wpAny_collect_seq it hT ho hc hd (fun g kg => ?_) (by rw [List.size_toArray]; exact hlen))
  refine wpAny_bind (wpAny_newList ?_ (by simpa using hlen))
  have hat : (g.push (seqObj "list" vs.toArray 0)).get? g.objs.size = some (seqObj "list" vs.toArray 0) := Heap.get?_push_size _ rfl
  have kp : ∀ b o, s.heap.get? b = some o → (g.push (seqObj "list" vs.toArray 0)).get? b = some o := fun b o z => Heap.get?_push_of_some _ (kg b o z)
  refine wpAny_bind (wpAny_holding (wpAny_call_entry_kw slot_list_sort ⟨_, hat, rfl⟩ entry_list_sort ?body (args_list_sort _)))
  case body =>
    have hlt : ∀ b o, s.heap.get? b = some o → b < g.objs.size := fun b o z => Heap.lt_size (kg b o z)
    have er' : PySem.W.EachIs (fun v b => ∃ as, Reads (PySem.W.sortingHeap (g.push (seqObj "list" vs.toArray 0)) g.objs.size vs) v (enc b) as) vs bs := er.mono fun _ _ ⟨as, r⟩ => ⟨as, PyProof.Rows.Reads.keeps (fun b o z => PySem.W.sortingHeap_old (Nat.ne_of_lt (hlt b o z)) (kp b o z)) r⟩
    have S : PySem.W.SortsAt prog w A.in1.in1 { s with heap := PySem.W.sortingHeap (g.push (seqObj "list" vs.toArray 0)) g.objs.size vs } (PySem.W.dataKind (PySem.W.sortingHeap (g.push (seqObj "list" vs.toArray 0)) g.objs.size vs) (bs.map enc)) vs :=
      PySem.W.SortsAt.dataT (s := { s with heap := PySem.W.sortingHeap (g.push (seqObj "list" vs.toArray 0)) g.objs.size vs }) (PySem.W.each_map (R := fun v d => ∃ as, Reads (PySem.W.sortingHeap (g.push (seqObj "list" vs.toArray 0)) g.objs.size vs) v d as) enc er') hal hk (PySem.W.bound_map hu)
    show wpAny (model prog w) A.in1.in1 (Builtin.«list.sort» ⟨[.ref g.objs.size], []⟩) _ _ { s with heap := g.push (seqObj "list" vs.toArray 0) }
    refine PySem.W.list_sort_vals (s := { s with heap := g.push (seqObj "list" vs.toArray 0) }) hat S hlen ⟨_, rfl, wpAny_pure ⟨_, rfl, ?_⟩⟩
    obtain ⟨n', hn⟩ := sortedHeap_at (vs := vs) (out := (PySem.W.sortVals (PySem.W.dataKind (PySem.W.sortingHeap (g.push (seqObj "list" vs.toArray 0)) g.objs.size vs) (bs.map enc)) false vs vs).toArray) hat
    refine h _ g _ n' ?_ (PySem.W.sortVals_data false e er' hal) kg (fun b o z => ?_) hn
    · rw [PySem.W.sortVals_length false rfl]; exact e.length
    · rw [sortedHeap_old (Nat.ne_of_lt (Heap.lt_size z)) (Nat.lt_of_lt_of_le (Heap.lt_size z) (by rw [size_push']; exact Nat.le_succ _))]
      exact Heap.get?_push_of_some _ z
end
/-! the rule -/
def rSortXT (X : Cx) : List V → Hp → VK → Prop := fun vs H Q => ∃ (a : Addr) (xs : List V) (β : Type) (bs : List β) (enc : β → PyData) (Rv : V → β → Prop), vs = [.ref a] ∧ (SqL X.K H a xs ∨ SqT X.K H a xs) ∧ Paired Rv xs bs ∧ DpAll X.K H xs (bs.map enc) ∧ PySem.W.AllAlike (bs.map enc) ∧ PySem.W.SortableT (bs.map enc) ∧
  bs.length ≤ sizeLine ∧ (∀ b, b ∈ bs → (enc b).depth ≤ 60) ∧ ∀ (l : Addr) (ws : List V), H l = none → Paired Rv ws (bs.mergeSort (PySem.W.dataLe false enc)) → Q (.ref l) (upd H l (.lst ws))
theorem cr_sortT {X : Cx} (hu : X.A.units + 64 < cLine) : CallR X (.builtin "sorted") (rSortXT X) := by
  intro pins s σ H vs us Q I r h
  obtain ⟨a, xs, β, bs, enc, Rv, rfl, hs, hp, hd, hal, hk, hL, hdp, q⟩ := h
  rw [Vals.ref1 r]
  have key : ∀ {T : String} {o : Obj} {its : List Value} {n : Nat}, Vals xs its → (T = "list" ∨ T = "tuple") → s.heap.get? a = some o → o.cls = .type T → o.data = .seq its.toArray n → wpAny (model X.prog X.w) X.A (call (.builtin "sorted") [.ref a]) (EP X pins σ Q) X.xe s := fun {T o its n} rv hT ho hc hdt => by
    refine sorted_anyT hT ho hc hdt (each_of rv hp) (each_dp enc I rv hd) hal hk hL (fun b hb => by have := hdp b hb; omega) fun out g h' n' h1 h2 k1 k2 h3 => ?_
    obtain ⟨ws, w1, w2⟩ := of_each h2
    have I1 : Inv X pins σ H { s with heap := g } := I.kept k1
    have hlen : ws.length ≤ sizeLine := by rw [w1.length, h1]; exact hL
    exact ⟨.ref g.objs.size, _, I1.laid (a := g.objs.size) (o := .lst ws) (t' := s.toks) k2 (Nat.le_refl _) ⟨hlen, out, n', w1, h3⟩, rfl, q _ ws (I1.hok.fresh (Nat.le_refl _)) w2⟩
  rcases hs with hs | hs
  · obtain ⟨its, rv, ⟨o, n, ho, hc, _, hdt⟩, hz⟩ := I.list hs
    exact key rv (.inl rfl) ho hc hdt
  · obtain ⟨its, rv, ⟨o, ho, hc, n, hdt⟩, hz⟩ := I.tuple hs
    exact key rv (.inr rfl) ho hc hdt
/-! ### its plain meaning -/
def sortBT (ds : List PyData) : Bool := (ds.all fun d => match d with | .tuple _ => true | _ => false) || ds.all fun d => match d with | .none => false | .tuple _ => false | _ => true
def sortLT (xs : List A) : M A := match toPys xs with
  | some ds => if alikeB ds = true ∧ sortBT ds = true ∧ xs.length ≤ sizeLine ∧ (∀ d ∈ ds, d.depth ≤ 60) then ret (.lst (xs.mergeSort (PySem.W.dataLe false encA))) else no
  | none => no
def sortAT : List A → M A
  | [.lst xs] => sortLT xs
  | [.tup xs] => sortLT xs
  | _ => no
section
variable {X : Cx} {D : Dcl} {own : List Nat} {xk : XK}
theorem sortL_okT {S0 H0 S H : Hp} {σ : L2.St} {ρ : Env'} {p : Pen} {xs : List A} {vs : List V} {Q : VK} {a : Addr} (R : Rel X.K D S0 H0 S H σ ρ own p) (r : Reps X.K D S xs vs) (hs : SqL X.K H a vs ∨ SqT X.K H a vs) (h : Aft X.K D (Rep X.K D) xk S0 H0 S H σ ρ own (sortLT xs p) Q) : rSortXT X [.ref a] H Q := by
  unfold sortLT at h
  cases e : toPys xs with
  | none => rw [e] at h; exact h.elim
  | some ds =>
    rw [e] at h
    dsimp only at h
    split at h
    · rename_i c
      obtain ⟨c1, c2, c3, c4⟩ := c
      have em := encA_map e
      refine ⟨a, vs, A, xs, encA, _, rfl, hs, reps_paired r, ?_, ?_, ?_, c3, fun b hb => c4 _ (by rw [← em]; exact List.mem_map.mpr ⟨b, hb, rfl⟩), fun l ws hl hw => Aft.newL R (paired_reps hw) h hl⟩
      · rw [em]
        exact Reps.dp R.good.sub xs vs ds e r
      · rw [em]
        intro d hd d' hd'
        exact List.all_eq_true.mp (List.all_eq_true.mp c1 d hd) d' hd'
      · rw [em]
        rcases Bool.or_eq_true_iff.mp c2 with z | z
        · refine .inl fun d hd => ?_
          have := List.all_eq_true.mp z d hd
          split at this
          · exact ⟨_, rfl⟩
          · cases this
        · refine .inr fun d hd => ?_
          have := List.all_eq_true.mp z d hd
          split at this
          · cases this
          · cases this
          · rename_i n1 n2
            exact ⟨n1, n2⟩
    · exact h.elim
theorem fnm_sortedT : FnM X D own xk (rSortXT X) sortAT := by
  intro S0 H0 S H σ ρ p as vs Q R r h
  unfold sortAT at h
  split at h
  · obtain ⟨v, ev, r1⟩ := Reps.one r
    subst ev
    obtain ⟨a, ws, rfl, s, r⟩ := Rep.lst_iff.mp r1
    exact sortL_okT R r (.inl (SqL.of (R.good.sub _ _ s))) h
  · obtain ⟨v, ev, r1⟩ := Reps.one r
    subst ev
    obtain ⟨a, ws, rfl, s, r⟩ := Rep.tup_iff.mp r1
    exact sortL_okT R r (.inr (SqT.up R.good s)) h
  · exact h.elim
end
end Mir

/-! Mir35: sorted, empty tuples among the items, by steps that can be counted out. -/
namespace Mir
open PySem PySem.Spec PyProof.Rows L2
def sortKT (xs : List A) : M A := match toPys xs with
  | some ds => if (homB ds || alikeB ds) = true ∧ sortBT ds = true ∧ xs.length ≤ sizeLine ∧ (∀ d ∈ ds, d.depth ≤ 60) then ret (.lst (mSt (PySem.W.dataLe false encA) xs.length xs)) else no
  | none => no
theorem sortKT_eq (xs : List A) : sortKT xs = sortLT xs := by
  have e : ∀ ds, (homB ds || alikeB ds) = alikeB ds := fun ds => by
    cases h : homB ds with
    | true => rw [homB_alike h]; rfl
    | false => rfl
  unfold sortKT sortLT
  rw [mSt_eq _ _ _ (Nat.le_refl _)]
  cases toPys xs with
  | none => rfl
  | some ds => simp only [e]
def sortKTA : List A → M A
  | [.lst xs] => sortKT xs
  | [.tup xs] => sortKT xs
  | _ => no
theorem sortKTA_eq : sortKTA = sortAT := by
  funext as
  rcases as with _ | ⟨a, _ | ⟨b, r⟩⟩
  · rfl
  · cases a <;> first | exact sortKT_eq _ | rfl
  · cases a <;> rfl
/-- where the narrower rule tells the outcome, the wider one tells the same -/
theorem sortKT_of {xs : List A} {a : A} (h : sortL xs = ret a) : sortKT xs = ret a := by
  rw [sortKT_eq]
  unfold sortL at h
  unfold sortLT
  cases e : toPys xs with
  | none => rw [e] at h; exact absurd (congrFun h ⟨[], 0, 0, 0, 0⟩) (fun z => by cases z)
  | some ds =>
    rw [e] at h
    dsimp only at h ⊢
    split at h
    · rename_i c
      obtain ⟨c1, c2, c3, c4⟩ := c
      have c5 : sortBT ds = true := by
        unfold sortB at c2
        unfold sortBT
        rcases Bool.or_eq_true_iff.mp c2 with z | z
        · refine Bool.or_eq_true_iff.mpr (.inl (List.all_eq_true.mpr fun d hd => ?_))
          have := List.all_eq_true.mp z d hd
          split at this
          · rfl
          · cases this
        · exact Bool.or_eq_true_iff.mpr (.inr z)
      rw [if_pos ⟨c1, c5, c3, c4⟩]
      exact h
    · exact absurd (congrFun h ⟨[], 0, 0, 0, 0⟩) (fun z => by cases z)
theorem sortKTA_of {a b : A} (h : sortA [a] = ret b) : sortKTA [a] = ret b := by
  cases a <;> first | exact absurd (congrFun h ⟨[], 0, 0, 0, 0⟩) (fun z => by cases z) | skip
  · exact sortKT_of h
  · exact sortKT_of h
section
variable {X : Cx} {D : Dcl} {own : List Nat} {xk : XK}
theorem fnm_sortedKT : FnM X D own xk (rSortXT X) sortKTA := by
  rw [sortKTA_eq]
  exact fnm_sortedT
end
end Mir

/-! Mir36: dicts of one's own with numbers as keys. -/
namespace Mir
open PySem PySem.Spec PyProof.Rows L2
section
variable {X : Cx} {D : Dcl} {own own' own2 ownB : List Nat} {xk : XK}
/-! ### a table of keys and values -/
def replA : List Key → List A → Key → A → List A
  | k' :: ks, x :: xs, k, a => (if k' = k then a else x) :: replA ks xs k a
  | _, xs, _, _ => xs
def hasK (ks : List Key) (k : Key) : Bool := ks.any fun k' => decide (k' = k)
def dputA (ks : List Key) (xs : List A) (k : Key) (a : A) : List Key × List A := if hasK ks k = true then (ks, replA ks xs k a) else (ks ++ [k], xs ++ [a])
theorem replA_ok {K : PySem.W.Frag} {S : Hp} (k : Key) {a : A} {v : V} (ra : Rep K D S a v) : ∀ {ks : List Key} {xs : List A} {vs : List V}, Reps K D S xs vs → ks.length = vs.length → ∃ ws, ((ks.zip vs).map fun kv => if kv.1 = k then (kv.1, v) else kv) = ks.zip ws ∧ ks.length = ws.length ∧ Reps K D S (replA ks xs k a) ws
  | [], xs, vs, r, h => by
    have : vs = [] := List.eq_nil_of_length_eq_zero h.symm
    subst this
    refine ⟨[], rfl, rfl, ?_⟩
    cases xs with
    | nil => exact r
    | cons x xs => exact absurd r.length (by simp)
  | k' :: ks, xs, vs, r, h => by
    cases vs with
    | nil => simp at h
    | cons u vs =>
      cases xs with
      | nil => exact absurd r.length (by simp)
      | cons x xs =>
        obtain ⟨y, t, e, rx, rt⟩ := Reps.cons_iff.mp r
        cases e
        obtain ⟨ws, e1, e2, e3⟩ := replA_ok k ra (ks := ks) rt (by simpa using h)
        by_cases hk : k' = k
        · refine ⟨v :: ws, ?_, by simp [e2], ?_⟩
          · rw [List.zip_cons_cons, List.map_cons, e1, if_pos hk, List.zip_cons_cons]
          · simp only [replA, if_pos hk]
            exact Reps.cons_iff.mpr ⟨_, _, rfl, ra, e3⟩
        · refine ⟨u :: ws, ?_, by simp [e2], ?_⟩
          · rw [List.zip_cons_cons, List.map_cons, e1, if_neg hk, List.zip_cons_cons]
          · simp only [replA, if_neg hk]
            exact Reps.cons_iff.mpr ⟨_, _, rfl, rx, e3⟩
theorem any_zip {k : Key} : ∀ {ks : List Key} {vs : List V}, ks.length = vs.length → ((ks.zip vs).any fun kv => decide (kv.1 = k)) = hasK ks k
  | [], _, _ => by simp [hasK]
  | k' :: ks, [], h => by simp at h
  | k' :: ks, v :: vs, h => by
    have ih := any_zip (k := k) (ks := ks) (vs := vs) (by simpa using h)
    rw [List.zip_cons_cons, List.any_cons, ih]
    rfl
theorem dputA_ok {K : PySem.W.Frag} {S : Hp} {k : Key} {a : A} {v : V} (ra : Rep K D S a v) {ks : List Key} {xs : List A} {vs : List V} (r : Reps K D S xs vs) (h : ks.length = vs.length) : ∃ ws, putK (ks.zip vs) k v = (dputA ks xs k a).1.zip ws ∧ (dputA ks xs k a).1.length = ws.length ∧ Reps K D S (dputA ks xs k a).2 ws := by
  unfold putK dputA
  rw [any_zip h]
  by_cases e : hasK ks k = true
  · rw [if_pos e, if_pos e]
    exact replA_ok k ra r h
  · rw [if_neg e, if_neg e]
    refine ⟨vs ++ [v], ?_, by simp [h], r.append (Reps.cons_iff.mpr ⟨v, [], rfl, ra, Reps.nil_iff.mpr rfl⟩)⟩
    rw [List.zip_append h]
    rfl
/-! ### {} just made -/
def dnewM : ME' := fun _ => ret (.dct [] [])
theorem mf_dnew {pos : Pos} : MF X D own xk (.Dict [] [] pos) dnewM := PE.of pe_dnewK fun σ H Q q => by
  obtain ⟨S0, H0, S, ρ, p, R, q⟩ := q
  intro l hl
  obtain ⟨g, e, n, np⟩ := R.good.newOwn (o := .dK []) hl (fun _ z => by cases z) (fun _ z => by cases z)
  exact q _ _ l e (R.step e g) n hl np ⟨[], upd_same, rfl, Reps.nil_iff.mpr rfl⟩
/-! ### d[k] = e -/
def ownD (i : Nat) (k : List Key → List A → MS') : MS' := fun ρ => match ρ[i]? with
  | some (some (.dct ks xs)) => k ks xs ρ
  | _ => no
def putD (i : Nat) (ks : List Key) (xs : List A) : MS' := fun ρ => ret (.nx (ρ.set i (some (.dct ks xs))))
def dputM (i : Nat) (mk m : ME') : MS' := fun ρ => bd (m ρ) fun a => ownD i (fun _ _ ρ => bd (mk ρ) fun b => match b with
    | .int j => ownD i (fun ks xs ρ => if ks.length < sizeLine then putD i (dputA ks xs (.inl j) a).1 (dputA ks xs (.inl j) a).2 ρ else no) ρ
    | _ => no) ρ
theorem own_readD {K : PySem.W.Frag} {S0 H0 S H : Hp} {σ : L2.St} {ρ : Env'} {p : Pen} {i : Nat} {ks : List Key} {xs : List A} (R : Rel K D S0 H0 S H σ ρ own p) (hi : i ∈ own) (ha : ρ[i]? = some (some (.dct ks xs))) : ∃ q vs, σ[i]? = some (some (.ref q)) ∧ H q = some (.dK (ks.zip vs)) ∧ ks.length = vs.length ∧ Reps K D S xs vs := by
  obtain ⟨q, h1, _, _, _, vs, h2, h3, h4⟩ := R.ownd i _ ha hi
  exact ⟨q, vs, h1, h2, h3, h4⟩
theorem ownD_get {K : PySem.W.Frag} {S0 H0 : Hp} {ρ : Env'} {p : Pen} {i : Nat} {k : List Key → List A → MS'} {N : Ends} (h : AftS K D xk S0 H0 own ownB (ownD i k ρ p) N) : ∃ ks xs, ρ[i]? = some (some (.dct ks xs)) ∧ AftS K D xk S0 H0 own ownB (k ks xs ρ p) N := by
  unfold ownD at h
  cases e : ρ[i]? with
  | none => rw [e] at h; exact h.elim
  | some o =>
    rw [e] at h
    cases o with
    | none => exact h.elim
    | some a => cases a <;> first | exact h.elim | exact ⟨_, _, rfl, h⟩
theorem ms_dput {i : Nat} {x : Str} {j e : Expr} {mj m : ME'} {px ps pos : Pos} (hu : X.A.units + 1 < cLine) (hX : X.N[i]? = some x) (hv : Vis X.env.scope x) (hi : i ∈ own) (hj : ME X D own xk j mj) (he : ME X D own xk e m) (hd : (x == ("__debug__" : Str)) = false := by decide) (hcd : (x == ("__classdict__" : Str)) = false := by decide)
    (hs : swapsWith e (some (.Subscript (.Name x px) j ps)) pos.line X.env = pure false := by rfl) :
    MS X D own own ownB xk (.Assign [.Subscript (.Name x px) j ps] e pos) (dputM i mj m) :=
  PS.of (ps_dput hu (pe_var hX hv hd hcd) hj he hs) fun N σ H q => by
    obtain ⟨S0, H0, S, ρ, p, R, q⟩ := q
    refine AftS.bind R q fun a p1 S1 H1 v _ e1 R1 r1 q1 => ?_
    obtain ⟨ks, xs, ha, q1⟩ := ownD_get q1
    obtain ⟨l, vs, g1, g2, g3, g4⟩ := own_readD R1 hi ha
    refine ⟨.ref l, g1, ?_⟩
    refine AftS.bind R1 q1 fun b p2 S2 H2 w _ e2 R2 r2 q2 => ?_
    cases b <;> first | exact q2.elim | skip
    rename_i k _
    rw [Rep.int_iff] at r2
    subst r2
    obtain ⟨ks, xs, ha, q2⟩ := ownD_get q2
    obtain ⟨l', vs, g1', g2, g3, g4⟩ := own_readD R2 hi ha
    have el : l' = l := by
      rw [g1] at g1'
      exact (V.ref.inj (Option.some.inj (Option.some.inj g1'))).symm
    rw [el] at g2
    split at q2
    · rename_i c
      obtain ⟨ws, w1, w2, w3⟩ := dputA_ok (k := .inl k) (Rep.mono e2.sub _ _ r1) g4 g3
      have hl : (ks.zip vs).length < sizeLine := by rw [List.length_zip, ← g3, Nat.min_self]; exact c
      refine ⟨l, _, rfl, DPut.k (k := .inl k) g2 hl, ?_⟩
      rw [w1]
      exact q2 S2 _ σ (R2.write hi ha g1 ⟨ws, upd_same, w2, w3⟩)
    · exact q2.elim
/-! ### sorted(d), list(d) -/
def intKs : List Key → Option (List Int)
  | [] => some []
  | .inl i :: ks => (intKs ks).map (i :: ·)
  | _ => none
theorem intKs_eq : ∀ {ks : List Key} {js : List Int}, intKs ks = some js → ks = js.map Sum.inl
  | [], js, h => by cases h; rfl
  | .inl i :: ks, js, h => by
    unfold intKs at h
    cases e : intKs ks with
    | none => rw [e] at h; cases h
    | some l =>
      rw [e] at h
      cases h
      rw [List.map_cons, ← intKs_eq e]
  | .inr _ :: ks, js, h => by cases h
def insI (x : Int) : List Int → List Int
  | [] => [x]
  | y :: ys => if x ≤ y then x :: y :: ys else y :: insI x ys
def isort : List Int → List Int
  | [] => []
  | x :: xs => insI x (isort xs)
theorem insI_perm (x : Int) : ∀ ys : List Int, (insI x ys).Perm (x :: ys)
  | [] => .refl _
  | y :: ys => by
    unfold insI
    split
    · exact .refl _
    · exact ((insI_perm x ys).cons y).trans (List.Perm.swap x y ys)
theorem isort_perm : ∀ xs : List Int, (isort xs).Perm xs
  | [] => .refl _
  | x :: xs => (insI_perm x _).trans ((isort_perm xs).cons x)
theorem insI_asc (x : Int) : ∀ {ys : List Int}, ys.Pairwise (· ≤ ·) → (insI x ys).Pairwise (· ≤ ·)
  | [], _ => List.pairwise_singleton _ _
  | y :: ys, h => by
    obtain ⟨h1, h2⟩ := List.pairwise_cons.mp h
    unfold insI
    split
    · rename_i c
      refine List.pairwise_cons.mpr ⟨fun z hz => ?_, h⟩
      rcases List.mem_cons.mp hz with rfl | hz
      · exact c
      · exact Int.le_trans c (h1 z hz)
    · rename_i c
      refine List.pairwise_cons.mpr ⟨fun z hz => ?_, insI_asc x h2⟩
      rcases List.mem_cons.mp ((insI_perm x ys).mem_iff.mp hz) with rfl | hz
      · omega
      · exact h1 z hz
theorem isort_asc : ∀ xs : List Int, (isort xs).Pairwise (· ≤ ·)
  | [] => .nil
  | x :: xs => insI_asc x (isort_asc xs)
theorem asc_perm : ∀ {xs ys : List Int}, xs.Perm ys → xs.Pairwise (· ≤ ·) → ys.Pairwise (· ≤ ·) → xs = ys
  | [], ys, p, _, _ => (List.nil_perm.mp p).symm
  | x :: xs, [], p, _, _ => (List.perm_nil.mp p)
  | x :: xs, y :: ys, p, hx, hy => by
    obtain ⟨x1, x2⟩ := List.pairwise_cons.mp hx
    obtain ⟨y1, y2⟩ := List.pairwise_cons.mp hy
    have e : x = y := by
      rcases List.mem_cons.mp (p.mem_iff.mp List.mem_cons_self) with e | e
      · exact e
      · rcases List.mem_cons.mp (p.mem_iff.mpr List.mem_cons_self) with f | f
        · exact f.symm
        · have := x1 _ f
          have := y1 _ e
          omega
    subst e
    rw [asc_perm (List.perm_cons x |>.mp p) x2 y2]
def sortDA : List A → M A
  | [.dct ks _] => match intKs ks with
    | some js => if js.length < 64 then ret (.lst ((isort js).map A.int)) else no
    | none => no
  | _ => no
def lstDA : List A → M A
  | [.dct ks _] => match intKs ks with
    | some js => ret (.lst (js.map A.int))
    | none => no
  | _ => no
abbrev rSortD (X : Cx) : List V → Hp → VK → Prop := fun xs H Q => ∃ (a : Addr) (kvs : List (Key × V)) (ks : List Int), xs = [.ref a] ∧ Rd H a (.dK kvs) ∧ kvs.map (·.1) = ks.map Sum.inl ∧ ks.length < 64 ∧
    ∀ (ys : List Int) (p : Addr), ys.Perm ks → ys.Pairwise (· ≤ ·) → H p = none → Q (.ref p) (upd H p (.lst (ys.map V.int)))
theorem fst_zip {ks : List Key} {vs : List V} (h : ks.length = vs.length) : (ks.zip vs).map (·.1) = ks := by
  rw [List.map_fst_zip]
  omega
theorem reps_ints {K : PySem.W.Frag} {S : Hp} : ∀ js : List Int, Reps K D S (js.map A.int) (js.map V.int)
  | [] => Reps.nil_iff.mpr rfl
  | j :: js => Reps.cons_iff.mpr ⟨_, _, rfl, Rep.int_iff.mpr rfl, reps_ints js⟩
theorem dct_rep {K : PySem.W.Frag} {S : Hp} {ks : List Key} {xs : List A} {v : V} : Rep K D S (.dct ks xs) v ↔ ∃ a vs, v = .ref a ∧ S a = some (.dK (ks.zip vs)) ∧ ks.length = vs.length ∧ Reps K D S xs vs := by simp only [Rep]
theorem fnm_sortD : FnM X D own xk (rSortD X) sortDA := by
  intro S0 H0 S H σ ρ p as vs Q R r h
  unfold sortDA at h
  split at h
  · rename_i ks xs
    obtain ⟨v, ev, r1⟩ := Reps.one r
    subst ev
    obtain ⟨a, ws, rfl, s, hl, r⟩ := dct_rep.mp r1
    cases hj : intKs ks with
    | none => rw [hj] at h; exact h.elim
    | some js =>
      rw [hj] at h
      dsimp only at h
      by_cases c : js.length < 64
      · rw [if_pos c] at h
        refine ⟨a, _, js, rfl, .inl (R.good.sub _ _ s), by rw [fst_zip hl, intKs_eq hj], c, fun ys q hp hs hq => ?_⟩
        have e : ys = isort js := asc_perm (hp.trans (isort_perm js).symm) hs (isort_asc js)
        rw [e]
        exact Aft.newL R (reps_ints _) h hq
      · rw [if_neg c] at h
        exact h.elim
  · exact h.elim
theorem fnm_lstD : FnM X D own xk rListD lstDA := by
  intro S0 H0 S H σ ρ p as vs Q R r h
  unfold lstDA at h
  split at h
  · rename_i ks xs
    obtain ⟨v, ev, r1⟩ := Reps.one r
    subst ev
    obtain ⟨a, ws, rfl, s, hl, r⟩ := dct_rep.mp r1
    cases hj : intKs ks with
    | none => rw [hj] at h; exact h.elim
    | some js =>
      rw [hj] at h
      dsimp only at h
      refine ⟨a, _, rfl, R.good.sub _ _ s, fun q hq => ?_⟩
      have e : ((ks.zip ws).map fun kv => kV kv.1) = js.map V.int := by
        have e1 : ((ks.zip ws).map fun kv => kV kv.1) = ((ks.zip ws).map (·.1)).map kV := by rw [List.map_map]; rfl
        rw [e1, fst_zip hl, intKs_eq hj, List.map_map]
        rfl
      rw [e]
      exact Aft.newL R (reps_ints _) h hq
  · exact h.elim
end
end Mir

/-! Mir37: a tuple so many times. -/
namespace Mir
open PySem PySem.Spec PyProof.Rows L2
section
variable {X : Cx} {D : Dcl} {own own' own2 ownB : List Nat} {xk : XK}
def mulTA : A → A → M A
  | .int i, .int j => if CMul i j then ret (.int (i * j)) else no
  | .lst xs, .int k => if -(2 ^ 63) ≤ k ∧ k < 2 ^ 63 ∧ xs.length * k.toNat ≤ sizeLine then ret (.lst (List.replicate k.toNat xs).flatten) else no
  | .tup xs, .int k => if xs.isEmpty = false ∧ 2 ≤ k ∧ k ≤ 1000 ∧ xs.length ≤ 1000 then ret (.tup (List.replicate k.toNat xs).flatten) else no
  | _, _ => no
abbrev rMulT (K : PySem.W.Frag) : R2 := fun x y H Q => rMul x y H Q ∨ rRepT K x y H Q
theorem op_mulT : OpR X (binaryOp .Mult) (rMulT X.K) := op_mulX.or op_repT
theorem op2_mulT : Op2 X D own xk (rMulT X.K) mulTA := by
  intro S0 H0 S H σ ρ p a b x y Q R ra rb h
  cases a <;> cases b <;> first | exact h.elim | skip
  · exact .inl (op2_mul S0 H0 S H σ ρ p _ _ x y Q R ra rb h)
  · rw [Rep.int_iff] at rb
    subst rb
    simp only [mulTA] at h
    obtain ⟨a1, vs, rfl, s1, r1⟩ := Rep.tup_iff.mp ra
    split at h
    · rename_i c
      have hl := r1.length
      refine .inr ⟨a1, _, vs, rfl, rfl, SqT.up R.good s1, ?_, c.2.1, c.2.2.1, by rw [← hl]; exact c.2.2.2, fun q hq => Aft.newT R (r1.rep _) h hq⟩
      intro z
      subst z
      have := List.eq_nil_of_length_eq_zero hl
      subst this
      cases c.1
    · exact h.elim
  · exact .inl (op2_mul S0 H0 S H σ ρ p _ _ x y Q R ra rb h)
theorem me_mulT {a b : Expr} {ma mb : ME'} {pos : Pos} (ha : ME X D own xk a ma) (hb : ME X D own xk b mb) : ME X D own xk (.BinOp a .Mult b pos) (op2 mulTA ma mb) := me_op op_mulT op2_mulT ha hb
end
end Mir

/-! Mir38: d[k], d.get(k, x) of dicts with numbers as keys. -/
namespace Mir
open PySem PySem.Spec PyProof.Rows L2
section
variable {X : Cx} {D : Dcl} {own own' own2 ownB : List Nat} {xk : XK}
/-- the value under a key -/
def valA : List Key → List A → Key → Option A
  | k' :: ks, x :: xs, k => if k' = k then some x else valA ks xs k
  | _, _, _ => none
theorem valA_ok {K : PySem.W.Frag} {S : Hp} (k : Key) : ∀ {ks : List Key} {xs : List A} {vs : List V}, Reps K D S xs vs → ks.length = vs.length → (∀ a, valA ks xs k = some a → ∃ v, valV (ks.zip vs) k = some v ∧ Rep K D S a v) ∧ (valA ks xs k = none → valV (ks.zip vs) k = none)
  | [], xs, vs, r, h => by
    refine ⟨fun a z => ?_, fun _ => rfl⟩
    unfold valA at z
    cases z
  | k' :: ks, xs, [], r, h => by simp at h
  | k' :: ks, [], v :: vs, r, h => absurd r.length (by simp)
  | k' :: ks, x :: xs, v :: vs, r, h => by
    obtain ⟨y, t, e, rx, rt⟩ := Reps.cons_iff.mp r
    cases e
    obtain ⟨i1, i2⟩ := valA_ok k (ks := ks) rt (by simpa using h)
    by_cases c : k' = k
    · refine ⟨fun a z => ?_, fun z => ?_⟩
      · simp only [valA, if_pos c, Option.some.injEq] at z
        subst z
        exact ⟨v, by simp [valV, List.zip_cons_cons, c], rx⟩
      · simp only [valA, if_pos c] at z
        cases z
    · have e : valV ((k' :: ks).zip (v :: vs)) k = valV (ks.zip vs) k := by simp [valV, List.zip_cons_cons, c]
      rw [e]
      refine ⟨fun a z => ?_, fun z => ?_⟩
      · simp only [valA, if_neg c] at z
        exact i1 a z
      · simp only [valA, if_neg c] at z
        exact i2 z
theorem getD_rep {K : PySem.W.Frag} {S : Hp} {k : Key} {ks : List Key} {xs : List A} {vs : List V} {z : A} {v : V} (r : Reps K D S xs vs) (h : ks.length = vs.length) (rz : Rep K D S z v) : Rep K D S ((valA ks xs k).getD z) ((valV (ks.zip vs) k).getD v) := by
  obtain ⟨i1, i2⟩ := valA_ok (D := D) k r h
  cases e : valA ks xs k with
  | none => rw [i2 e]; exact rz
  | some a =>
    obtain ⟨w, e1, r1⟩ := i1 a e
    rw [e1]
    exact r1
/-! ### plain -/
def ixDA : A → A → M A
  | .dct ks xs, .int j => match valA ks xs (.inl j) with
    | some a => ret a
    | none => no
  | _, _ => no
theorem me_ixD {a b : Expr} {ma mb : ME'} {pos : Pos} (hu : X.A.units + 1 < cLine) (ha : ME X D own xk a ma) (hb : ME X D own xk b mb) (hs : NoSl b) : ME X D own xk (.Subscript a b pos) (op2 ixDA ma mb) :=
  PE.of (pe_dget hu ha hb hs) fun σ H Q q => by
    obtain ⟨S0, H0, S, ρ, p, R, q⟩ := q
    refine tG.bind R q fun a p1 S1 H1 x _ e1 R1 r1 q1 => ?_
    refine tG.bind R1 q1 fun b p2 S2 H2 y _ e2 R2 r2 q2 => ?_
    have r1 := Rep.mono e2.sub _ _ r1
    cases a with
    | dct ks xs =>
      cases b with
      | int j =>
        obtain ⟨l, vs, rfl, s, hl, r⟩ := dct_rep.mp r1
        rw [Rep.int_iff] at r2
        subst r2
        simp only [ixDA] at q2
        cases e : valA ks xs (.inl j) with
        | none => rw [e] at q2; exact q2.elim
        | some a =>
          rw [e] at q2
          obtain ⟨v, e3, r3⟩ := (valA_ok (.inl j) r hl).1 a e
          exact ⟨l, v, rfl, .inl ⟨_, .inl j, .inl (R2.good.sub _ _ s), rfl, e3.symm⟩, Aft.ok q2 R2 r3⟩
      | _ => exact q2.elim
    | _ => exact q2.elim
def getDA : A → A → A → M A
  | .dct ks xs, .int j, z => ret ((valA ks xs (.inl j)).getD z)
  | _, _, _ => no
def getDM (ma mb mf : ME') : ME' := fun ρ => bd (ma ρ) fun a => match a with
  | .dct ks xs => bd (mb ρ) fun j => bd (mf ρ) fun z => getDA (.dct ks xs) j z
  | _ => no
/-! ### of one's own -/
/-- d[k], d one's own -/
def ixDO (i : Nat) (mj : ME') : ME' := fun ρ => match ρ[i]? with
  | some (some (.dct ks xs)) => bd (mj ρ) fun b => ixDA (.dct ks xs) b
  | _ => no
theorem own_sameD {K : PySem.W.Frag} {S0 H0 S H : Hp} {σ : L2.St} {ρ : Env'} {p : Pen} {i : Nat} {ks : List Key} {xs : List A} {q : Addr} (R : Rel K D S0 H0 S H σ ρ own p) (hi : i ∈ own) (ha : ρ[i]? = some (some (.dct ks xs))) (h1 : σ[i]? = some (some (.ref q))) : ∃ vs, H q = some (.dK (ks.zip vs)) ∧ ks.length = vs.length ∧ Reps K D S xs vs := by
  obtain ⟨l, vs, g1, g2, g3, g4⟩ := own_readD R hi ha
  have el : l = q := by
    rw [g1] at h1
    exact V.ref.inj (Option.some.inj (Option.some.inj h1))
  rw [el] at g2
  exact ⟨vs, g2, g3, g4⟩
theorem me_ixDO {i : Nat} {x : Str} {b : Expr} {mb : ME'} {px pos : Pos} (hu : X.A.units + 1 < cLine) (hX : X.N[i]? = some x) (hv : Vis X.env.scope x) (hi : i ∈ own) (hb : ME X D own xk b mb) (hs : NoSl b) (hd : (x == ("__debug__" : Str)) = false := by decide) (hcd : (x == ("__classdict__" : Str)) = false := by decide) :
    ME X D own xk (.Subscript (.Name x px) b pos) (ixDO i mb) :=
  PE.of (pe_dget hu (pe_var hX hv hd hcd) hb hs) fun σ H Q q => by
    obtain ⟨S0, H0, S, ρ, p, R, q⟩ := q
    unfold ixDO at q
    cases e : ρ[i]? with
    | none => rw [e] at q; exact q.elim
    | some o =>
      rw [e] at q
      cases o with
      | none => exact q.elim
      | some a =>
        cases a <;> first | exact q.elim | skip
        rename_i ks xs
        obtain ⟨l, vs, h1, h2, h3, h4⟩ := own_readD R hi e
        refine ⟨.ref l, h1, ?_⟩
        refine tG.bind R q fun c p1 S1 H1 v _ e1 R1 r1 q1 => ?_
        cases c <;> first | exact q1.elim | skip
        rename_i j _
        rw [Rep.int_iff] at r1
        subst r1
        obtain ⟨ws, h5, h6, h7⟩ := own_sameD R1 hi e h1
        simp only [ixDA] at q1
        cases ea : valA ks xs (.inl j) with
        | none => rw [ea] at q1; exact q1.elim
        | some c =>
          rw [ea] at q1
          obtain ⟨v, e3, r3⟩ := (valA_ok (.inl j) h7 h6).1 c ea
          exact ⟨l, v, rfl, .inl ⟨_, .inl j, .inl h5, rfl, e3.symm⟩, Aft.ok q1 R1 r3⟩
/-- d.get(k, z), d one's own -/
def getDO (i : Nat) (mj mz : ME') : ME' := fun ρ => match ρ[i]? with
  | some (some (.dct ks xs)) => bd (mj ρ) fun b => bd (mz ρ) fun z => getDA (.dct ks xs) b z
  | _ => no
theorem me_getDO {i : Nat} {x : Str} {b f : Expr} {mb mf : ME'} {px apos pos : Pos} (hu : X.A.units + 1 < cLine) (hX : X.N[i]? = some x) (hv : Vis X.env.scope x) (hi : i ∈ own) (hb : ME X D own xk b mb) (hf : ME X D own xk f mf) (m : M2 X (.Name x px) "get" apos b f pos) (hd : (x == ("__debug__" : Str)) = false := by decide) (hcd : (x == ("__classdict__" : Str)) = false := by decide) :
    ME X D own xk (.Call (.Attribute (.Name x px) "get" apos) [b, f] [] pos) (getDO i mb mf) :=
  PE.of (pe_dget2 hu (pe_var hX hv hd hcd) hb hf m) fun σ H Q q => by
    obtain ⟨S0, H0, S, ρ, p, R, q⟩ := q
    unfold getDO at q
    cases e : ρ[i]? with
    | none => rw [e] at q; exact q.elim
    | some o =>
      rw [e] at q
      cases o with
      | none => exact q.elim
      | some a =>
        cases a <;> first | exact q.elim | skip
        rename_i ks xs
        obtain ⟨l, vs, h1, h2, h3, h4⟩ := own_readD R hi e
        refine ⟨.ref l, h1, l, rfl, .inl ⟨_, .inl h2⟩, ?_⟩
        refine tG.bind R q fun c p1 S1 H1 v _ e1 R1 r1 q1 => ?_
        refine tG.bind R1 q1 fun z p2 S2 H2 w _ e2 R2 r2 q2 => ?_
        cases c <;> first | exact q2.elim | skip
        rename_i j _
        rw [Rep.int_iff] at r1
        subst r1
        obtain ⟨ws, h5, h6, h7⟩ := own_sameD R2 hi e h1
        simp only [getDA] at q2
        exact ⟨_, .inl ⟨_, .inl j, .inl h5, rfl, rfl⟩, Aft.ok q2 R2 (getD_rep h7 h6 r2)⟩
theorem me_getD {a b f : Expr} {ma mb mf : ME'} {apos pos : Pos} (hu : X.A.units + 1 < cLine) (ha : ME X D own xk a ma) (hb : ME X D own xk b mb) (hf : ME X D own xk f mf) (m : M2 X a "get" apos b f pos) :
    ME X D own xk (.Call (.Attribute a "get" apos) [b, f] [] pos) (getDM ma mb mf) :=
  PE.of (pe_dget2 hu ha hb hf m) fun σ H Q q => by
    obtain ⟨S0, H0, S, ρ, p, R, q⟩ := q
    unfold getDM at q
    refine tG.bind R q fun a p1 S1 H1 x _ e1 R1 r1 q1 => ?_
    cases a <;> first | exact q1.elim | skip
    rename_i ks xs _
    obtain ⟨l, vs, rfl, s, hl, r⟩ := dct_rep.mp r1
    refine ⟨l, rfl, .inl ⟨_, .inl (R1.good.sub _ _ s)⟩, ?_⟩
    refine tG.bind R1 q1 fun c p2 S2 H2 v _ e2 R2 r2 q2 => ?_
    refine tG.bind R2 q2 fun z p3 S3 H3 w _ e3 R3 r3 q3 => ?_
    cases c <;> first | exact q3.elim | skip
    rename_i j _
    rw [Rep.int_iff] at r2
    subst r2
    simp only [getDA] at q3
    exact ⟨_, .inl ⟨_, .inl j, .inl (R3.good.sub _ _ (e3.sub _ _ (e2.sub _ _ s))), rfl, rfl⟩, Aft.ok q3 R3 (getD_rep (Reps.mono (fun a o h => e3.sub _ _ (e2.sub _ _ h)) _ _ r) hl r3)⟩
end
end Mir

/-! Mir39: enumerate of tuples. -/
namespace Mir
open PySem PySem.Spec PyProof.Rows L2
/-! ### the iterator made -/
theorem enumNewB {v : Value} {o : Obj} {H : Heap → Prop} (bg : Begins v o H) : Meets (Builtin.«enumerate.__new__» ⟨[.type "enumerate", v], []⟩) (fun _ R s => H s.heap ∧ R (.ok (.ret (.ref (s.heap.push o).objs.size))) { s with heap := (s.heap.push o).push { cls := .type "enumerate", data := .fields #[.none, .bool false, .ref s.heap.objs.size, rawInt 0, .none, .none] } }) :=
  Meets.of_wp fun prog w A R s hh => by
    obtain ⟨hp, g, d, tk, os⟩ := s
    obtain ⟨g1, hh⟩ := hh
    have isub := sub_enumerate
    have step : ∀ {A' : Around} {E : Value → Shared → Prop} {Q : Value → Shared → Prop}, Q (.ref hp.objs.size) ⟨hp.push o, g, d, tk, os⟩ → wpAny (model prog w) A' (pyIter v) Q E ⟨hp, g, d, tk, os⟩ := fun z => bg.iter prog w _ _ ⟨hp, g, d, tk, os⟩ _ g1 z
    wp_walk using step
    refine wpAny_stack_any (fun st => wpAny_pure ?_)
    split
    · rename_i cc _ _ _ _ _
      cases (cc == Value.type "enumerate") <;> (wp_walk using step; exact ⟨_, rfl, hh⟩)
    · wp_walk using step
      exact ⟨_, rfl, hh⟩
theorem enumCall {prog : Program} {w : World} {A : Around} {E : Value → Shared → Prop} {s : Shared} {v : Value} {o : Obj} {H : Heap → Prop} {Q : Value → Shared → Prop} (bg : Begins v o H) (g1 : H s.heap)
    (hh : ∀ h', IsEnum h' (s.heap.objs.size + 1) s.heap.objs.size 0 .none → h'.get? s.heap.objs.size = some o → h'.objs.size = s.heap.objs.size + 2 → (∀ b u, s.heap.get? b = some u → h'.get? b = some u) → Q (.ref (s.heap.objs.size + 1)) { s with heap := h' }) :
    wpAny (model prog w) A (call (.type "enumerate") [v]) Q E s := by
  refine callType_new F.called_enumerate (by decide) (F.typeCall_enumerate_1 _) (F.newCall_enumerate_1 _) (fun ob => F.args_object_init_2 ob _) F.entry_enumerate_new (enumNewB bg) ⟨g1, ?_⟩
  have sz : (s.heap.push o).objs.size = s.heap.objs.size + 1 := Heap.size_push ..
  show _ ∧ _
  rw [sz]
  have en : IsEnum ((s.heap.push o).push { cls := .type "enumerate", data := .fields #[.none, .bool false, .ref s.heap.objs.size, rawInt 0, .none, .none] }) (s.heap.objs.size + 1) s.heap.objs.size 0 .none := by
    have z := Heap.get?_push_size (s.heap.push o) (o := { cls := .type "enumerate", data := .fields #[.none, .bool false, .ref s.heap.objs.size, rawInt 0, .none, .none] }) rfl
    rw [sz] at z
    exact z
  exact ⟨⟨_, en, rfl⟩, hh _ en (Heap.get?_push_of_some _ (Heap.get?_push_size _ bg.free)) (by rw [Heap.size_push, sz]) fun b u x => Heap.get?_push_of_some _ (Heap.get?_push_of_some _ x)⟩
/-! ### its turns -/
def IteT (K : PySem.W.Frag) (a : Addr) : It :=
  ⟨fun i H => ∃ (xs : List V) (x : V), SqT K H a xs ∧ xs[i]? = some x, fun i H v H' => ∃ T x, v = .ref T ∧ H T = none ∧ H' = upd H T (.tup [.int (i : Nat), x]) ∧ ∀ xs, SqT K H a xs → xs[i]? = some x, fun i H => ∃ xs : List V, SqT K H a xs ∧ xs.length = i⟩
theorem turn_enumT {P : Program} {w : World} {K : PySem.W.Frag} {elts : List Expr} {kk : Nat} {tpos : Pos} (a e it : Addr) :
    Turn P w K (.Tuple elts kk tpos) (IteT K a) [e, it] e (fun i h => (∃ old, IsEnum h e it ((i : Nat) : Int) old) ∧ h.IsTupleIter it a i ∧ e ≠ it ∧ a ≠ it ∧ a ≠ e) where
  mem := by simp
  obj := fun i h st b hb => by
    obtain ⟨⟨old, en⟩, ⟨o, ho, _, hd⟩, _⟩ := st
    rcases (show b = e ∨ b = it by simpa using hb) with z | z
    · subst z
      exact ⟨_, en, fun v q => nomatch q⟩
    · subst z
      exact ⟨o, ho, fun v q => by rw [hd] at q; cases q⟩
  keep := fun i h h' st k => by
    obtain ⟨⟨old, en⟩, hi, n1, n2, n3⟩ := st
    exact ⟨⟨old, k e (by simp) _ en⟩, hi.at fun o q => k it (by simp) o q, n1, n2, n3⟩
  item := by
    intro X hP hw hK hc i pins s σ H E I hf st hg
    subst hP hw hK
    obtain ⟨⟨old, en⟩, hit, n1, n2, n3⟩ := st
    obtain ⟨xs, x, hq, hx⟩ := hg
    obtain ⟨its, rv, p, _⟩ := I.tuple hq
    obtain ⟨u, hu, ru⟩ := rv.get hx
    have el : e < s.heap.objs.size := Heap.lt_size en
    have il : it < s.heap.objs.size := by obtain ⟨_, q, _⟩ := hit; exact Heap.lt_size q
    have hn : i < its.toArray.size := by
      have := (List.getElem?_eq_some_iff.mp hu).1
      simpa using this
    refine wpAny_pyNext_enum_itemD (Draws.tuple (prog := X.prog) (w := X.w) (A := X.A.in1) (show X.A.in1.handled = none from I.ok.hd hc) it a n2 its.toArray) en ⟨hit, p⟩ hn n1 (by simp [n1, Ne.symm n3]) fun y h' tk hP ho hst' hT hsz hk => ?_
    have ey : y = u := by
      have h1 : its.toArray[i]? = some y := hP
      have h2 : its.toArray[i]? = some u := by simpa using hu
      rw [h1] at h2
      exact Option.some.inj h2
    subst ey
    refine ⟨_, rfl, wpAny_letOwnedTupleGo_enum (s := { s with heap := h', toks := tk + 1 }) ho fun h2 he2 sb => ?_⟩
    have hT2 : h2.get? s.heap.objs.size = some { cls := .type "tuple", data := .seq #[.int i tk, y] } := (sb.2 _ (Nat.ne_of_gt el)).trans hT
    have new : ObjOk X.prog X.w (upd H s.heap.objs.size (.tup [.int (i : Nat), x])) h2 s.heap.objs.size (.tup [.int (i : Nat), x]) := ⟨by show 2 ≤ sizeLine; decide, [.int i tk, y], .cons ⟨_, rfl⟩ (.cons ru .nil), ⟨_, hT2, rfl, _, rfl⟩⟩
    have I1 : Inv X pins σ (upd H s.heap.objs.size (.tup [.int (i : Nat), x])) { s with heap := h2, toks := tk + 1 } := I.turnedNew (ch := [e, it]) (fun b ob hb q => (sb.2 b (fun z => hb (by simp [z]))).trans (hk b ob (fun z => hb (by simp [z])) (fun z => hb (by simp [z])) q)) hf (Nat.le_refl _) new
    refine ⟨.ref s.heap.objs.size, _, I1, rfl, ⟨_, x, rfl, I.hok.fresh (Nat.le_refl _), rfl, fun ys hy => by rw [I.tuple_inj hy hq]; exact hx⟩, ⟨⟨y, ?_⟩, hst'.1.at fun o q => (sb.2 it (Ne.symm n1)).trans q, n1, n2, n3⟩, fun b hb => ?_⟩
    · have e1 : ((i + 1 : Nat) : Int) = (i : Int) + 1 := by omega
      rw [e1]
      exact he2
    · have lb : b < s.heap.objs.size := by
        rcases (show b = e ∨ b = it by simpa using hb) with z | z
        · exact z ▸ el
        · exact z ▸ il
      rw [upd_ne (Nat.ne_of_lt lb)]
      exact (hf b hb).1
  done := by
    intro X hP hw hK hc i pins s σ H E I hf st hg
    subst hP hw hK
    obtain ⟨⟨old, en⟩, hit, n1, n2, n3⟩ := st
    obtain ⟨xs, hq, hx⟩ := hg
    obtain ⟨its, rv, p, _⟩ := I.tuple hq
    obtain ⟨f0, f1, f2, f3, f4, f5⟩ := hf it (by simp)
    have hl := rv.length
    have hn : i = its.toArray.size := by simp; omega
    exact wpAny_pyNext_enum_endD (Draws.tuple (prog := X.prog) (w := X.w) (A := X.A.in1) (show X.A.in1.handled = none from I.ok.hd hc) it a n2 its.toArray) en ⟨hn ▸ hit, p⟩ fun h' eb => ⟨rfl, I.turned (t' := s.toks) (fun b o hb q => eb b o hb q) f0 f1 f3 f4 f5⟩
  self := fun A i s Q E st h => by
    obtain ⟨⟨_, en⟩, _⟩ := st
    exact wpAny_pyIter_enum en h
def iEnumT (K : PySem.W.Frag) (ta : TA) : TI := fun σ H R => ta σ H fun vs H1 => ∃ a xs, vs = [.ref a] ∧ ((SqL K H1 a xs ∧ R (Ite K a) H1) ∨ (SqT K H1 a xs ∧ R (IteT K a) H1))
theorem pi_enumT {X : Cx} {e : Expr} {ta : TA} {p pos tpos : Pos} {elts : List Expr} {kk : Nat} (hg : Gl X "enumerate") (hm : X.mg "enumerate" = none) (ha : PA X [e] ta) (hs : starEach [e] X.env = [(false, eval e X.env)] := by rfl) :
    PI X (.Tuple elts kk tpos) (.Call (.Name "enumerate" p) [e] [] pos) (iEnumT X.K ta) := by
  refine ⟨fun pins s σ H R I h => Call_ (ld_blt I hg hm boot_enumerate (PyProof.Rows.callWith_type1 (thn (ha.run pos pins s σ H _ I h) fun us s1 ⟨vs, H1, I1, r1, q1⟩ => ?_) hs rfl))⟩
  obtain ⟨a, xs, rfl, q1⟩ := q1
  cases r1 with
  | cons r rr =>
    cases rr
    cases r
    have fr : ∀ b ∈ [s1.heap.objs.size + 1, s1.heap.objs.size], FpOk X pins H1 b := fun b hb => by
      have hle : s1.heap.objs.size ≤ b := by
        rcases (show b = s1.heap.objs.size + 1 ∨ b = s1.heap.objs.size by simpa using hb) with z | z
        · rw [z]; exact Nat.le_add_right _ _
        · rw [z]; exact Nat.le_refl _
      exact I1.fpOk hle (I1.hok.fresh hle)
    rcases q1 with ⟨hq, q⟩ | ⟨hq, q⟩
    · obtain ⟨its, rv, p', _⟩ := I1.list hq
      refine call_enumerate_list p'.isList fun h' he hit hsz hk => wpAny_pyIter_enum he ?_
      have I2 : Inv X pins σ H1 { s1 with heap := h' } := I1.kept (t' := s1.toks) hk
      exact ⟨s1.heap.objs.size + 1, [s1.heap.objs.size + 1, s1.heap.objs.size], _, _, H1, rfl, I2, turn_enum a (s1.heap.objs.size + 1) s1.heap.objs.size, ⟨⟨.none, he⟩, hit, Nat.succ_ne_self _⟩, fr, q⟩
    · obtain ⟨its, rv, p', _⟩ := I1.tuple hq
      have la : a < s1.heap.objs.size := by obtain ⟨o, ho, _⟩ := id p'; exact Heap.lt_size ho
      refine enumCall (begins_tuple a its.toArray) p' fun h' he hit hsz hk => wpAny_pyIter_enum he ?_
      have I2 : Inv X pins σ H1 { s1 with heap := h' } := I1.kept (t' := s1.toks) hk
      exact ⟨s1.heap.objs.size + 1, [s1.heap.objs.size + 1, s1.heap.objs.size], _, _, H1, rfl, I2, turn_enumT a (s1.heap.objs.size + 1) s1.heap.objs.size, ⟨⟨.none, he⟩, ⟨_, hit, rfl, rfl⟩, Nat.succ_ne_self _, Nat.ne_of_lt la, Nat.ne_of_lt (Nat.lt_succ_of_lt la)⟩, fr, q⟩
section
variable {X : Cx} {D : Dcl} {own own' own2 ownB : List Nat} {xk : XK}
theorem walk_enumT {K : PySem.W.Frag} {a : Addr} {xs : List V} : Walk (IteT K a) xs.length (fun H => SqT K H a xs) (YPair (fun i => some (.int (i : Nat))) (fun i => xs[i]?)) :=
  ⟨fun i _ hi q => ⟨xs, xs[i], q, by simp [hi]⟩, fun _ q => ⟨xs, q, rfl⟩, fun i H v H' _ q y => by
    obtain ⟨T, x, h1, h2, h3, h4⟩ := y
    exact ⟨T, .int (i : Nat), x, h1, h2, h3, rfl, h4 xs q⟩⟩
def enumTA : List A → M (List A)
  | [.lst xs] => ret (enumL xs)
  | [.tup xs] => ret (enumL xs)
  | _ => no
theorem walkM_enumT {K : PySem.W.Frag} {S : Hp} {a : Addr} {xs : List A} {vs : List V} (h : SqT K S a vs) (r : Reps K D S xs vs) : WalkM K D (IteT K a) (enumL xs) S := by
  have w := walk_enumT (K := K) (a := a) (xs := vs)
  have e : (enumL xs).length = vs.length := by unfold enumL; rw [List.length_mapIdx, r.length]
  unfold WalkM
  rw [e]
  refine w.mono (fun H g => SqT.mono g h) fun i H x H' hi' _ y => .inr ?_
  obtain ⟨T, x0, y0, e1, e2, e3, e4, e5⟩ := y
  obtain ⟨b, e6, e7⟩ := r.get' e5
  refine ⟨T, x0, y0, .int (i : Nat), b, e1, e2, e3, ?_, ?_, e7⟩
  · unfold enumL
    rw [List.getElem?_mapIdx, e6]
    rfl
  · rw [Rep.int_iff]
    exact (Option.some.inj e4).symm
theorem mi_enumT {e : Expr} {ms : Env' → M (List A)} {p pos tpos : Pos} {elts : List Expr} {kk : Nat} (hg : Gl X "enumerate") (hm : X.mg "enumerate" = none) (ha : MA X D own xk [e] ms) (hs : starEach [e] X.env = [(false, eval e X.env)] := by rfl) :
    MI X D own xk (.Tuple elts kk tpos) (.Call (.Name "enumerate" p) [e] [] pos) (itOn enumTA ms) := PI.of (pi_enumT hg hm ha hs) fun σ H R0 q => by
  obtain ⟨S0, H0, S, ρ, p, R, q⟩ := q
  refine tG.bind R q fun as p1 S1 H1 vs _ e1 R1 r1 q1 => ?_
  unfold enumTA at q1
  split at q1
  · obtain ⟨v, ev, r2⟩ := Reps.one r1
    subst ev
    obtain ⟨a, ws, rfl, s, r⟩ := Rep.lst_iff.mp r2
    exact ⟨a, ws, rfl, .inl ⟨SqL.of (R1.good.sub _ _ s), Aft.ok q1 R1 (walkM_enum s r)⟩⟩
  · obtain ⟨v, ev, r2⟩ := Reps.one r1
    subst ev
    obtain ⟨a, ws, rfl, s, r⟩ := Rep.tup_iff.mp r2
    exact ⟨a, ws, rfl, .inr ⟨SqT.mono R1.good.sub s, Aft.ok q1 R1 (walkM_enumT s r)⟩⟩
  · exact q1.elim
end
end Mir

/-! Pl1: plain meanings computed. -/
namespace Mir
open PySem L2
theorem bd_ret {α β : Type} {a : α} {f : α → M β} : bd (ret a) f = f a := rfl
theorem bd_no {α β : Type} {f : α → M β} : bd (no : M α) f = no := rfl
theorem bd_eq {α β : Type} {m : M α} {f : α → M β} {a : α} (h : m = ret a) : bd m f = f a := by rw [h]; rfl
theorem nox_ret {α : Type} {a : α} : nox (ret a) = ret a := rfl
theorem bd_run {α β : Type} {m : M α} {f : α → M β} {p p' : Pen} {a : α} (h : m p = .ok a p') : bd m f p = f a p' := by unfold bd; rw [h]; rfl
theorem bd_exc {α β : Type} {m : M α} {f : α → M β} {p p' : Pen} {c : Nat} {fs : List A} (h : m p = .exc c fs p') : bd m f p = .exc c fs p' := by unfold bd; rw [h]; rfl
theorem nox_run {α : Type} {m : M α} {p p' : Pen} {a : α} (h : m p = .ok a p') : nox m p = .ok a p' := by unfold nox; rw [h]
abbrev iL (ns : List Int) : List A := ns.map A.int
abbrev tupI (ns : List Int) : A := .tup (iL ns)
abbrev lstI (ns : List Int) : A := .lst (iL ns)
theorem toPys_iL : ∀ ns : List Int, toPys (iL ns) = some (ns.map PyData.int)
  | [] => rfl
  | n :: ns => by
    have h := toPys_iL ns
    unfold iL at h ⊢
    simp only [List.map_cons, toPys, toPy, h]
theorem shaped_int (i : Int) : SeqAt.shaped (.int i) = true := rfl
theorem canLayAll_ints : ∀ ns : List Int, PyData.canLayAll0 (ns.map PyData.int) = true
  | [] => rfl
  | n :: ns => by
    simp only [List.map_cons, PyData.canLayAll0, canLayAll_ints ns, Bool.and_true]
    rfl
theorem depthAll_ints : ∀ ns : List Int, PyData.depthAll (ns.map PyData.int) = 0
  | [] => rfl
  | n :: ns => by
    simp only [List.map_cons, PyData.depthAll, depthAll_ints ns]
    rfl
theorem shaped_ints (ns : List Int) : SeqAt.shaped (.list (ns.map PyData.int)) = true := by
  unfold SeqAt.shaped
  simp only [PyData.canLay0, canLayAll_ints, PyData.depth, depthAll_ints, Bool.true_and, decide_eq_true_eq]
  decide
theorem shaped_tints (ns : List Int) : SeqAt.shaped (.tuple (ns.map PyData.int)) = true := by
  unfold SeqAt.shaped
  simp only [PyData.canLay0, canLayAll_ints, PyData.depth, depthAll_ints, Bool.true_and, decide_eq_true_eq]
  decide
theorem any_eqv_ints (x : Int) : ∀ ns : List Int, ((ns.map PyData.int).any fun z => PyData.eqv z (.int x)) = decide (x ∈ ns)
  | [] => rfl
  | n :: ns => by
    rw [List.map_cons, List.any_cons, any_eqv_ints x ns]
    simp only [PyData.eqv, List.mem_cons]
    by_cases h : n = x
    · subst h; simp
    · have : ¬ x = n := fun z => h z.symm
      simp [h, this]
theorem inO_I (x : Int) (ns : List Int) : inO (.int x) (iL ns) = some (decide (x ∈ ns)) := by
  unfold inO
  rw [toPys_iL]
  simp only [toPy, shaped_int, shaped_ints, Bool.and_self, if_true, any_eqv_ints]
theorem inA_tI (x : Int) (ns : List Int) : inA (.int x) (tupI ns) = ret (.bl (decide (x ∈ ns))) := by simp only [inA, tupI, lstI, inO_I]
theorem inA_lI (x : Int) (ns : List Int) : inA (.int x) (lstI ns) = ret (.bl (decide (x ∈ ns))) := by simp only [inA, tupI, lstI, inO_I]
theorem notInA_tI (x : Int) (ns : List Int) : notInA (.int x) (tupI ns) = ret (.bl (!decide (x ∈ ns))) := by simp only [notInA, tupI, lstI, inO_I]
theorem notInA_lI (x : Int) (ns : List Int) : notInA (.int x) (lstI ns) = ret (.bl (!decide (x ∈ ns))) := by simp only [notInA, tupI, lstI, inO_I]
theorem eqvAll_ints : ∀ xs ys : List Int, PyData.eqvAll (xs.map PyData.int) (ys.map PyData.int) = decide (xs = ys)
  | [], [] => rfl
  | [], y :: ys => rfl
  | x :: xs, [] => rfl
  | x :: xs, y :: ys => by
    simp only [List.map_cons, PyData.eqvAll, eqvAll_ints xs ys, PyData.eqv, List.cons.injEq]
    by_cases h : x = y <;> by_cases h2 : xs = ys <;> simp [h, h2]
theorem eqO_tI (xs ys : List Int) : eqO (tupI xs) (tupI ys) = some (decide (xs = ys)) := by
  unfold eqO
  simp only [toPy, toPys_iL, Option.map_some, shaped_tints, Bool.and_self, if_true, PyData.eqv, eqvAll_ints]
theorem eqO_lI (xs ys : List Int) : eqO (lstI xs) (lstI ys) = some (decide (xs = ys)) := by
  unfold eqO
  simp only [toPy, toPys_iL, Option.map_some, shaped_ints, Bool.and_self, if_true, PyData.eqv, eqvAll_ints]
theorem eqO_int (x y : Int) : eqO (.int x) (.int y) = some (decide (x = y)) := by
  unfold eqO
  simp only [toPy, shaped_int, Bool.and_self, if_true, PyData.eqv]
  by_cases h : x = y <;> simp [h]
theorem eqA_tI (xs ys : List Int) : eqA (tupI xs) (tupI ys) = ret (.bl (decide (xs = ys))) := by unfold eqA; rw [eqO_tI]
theorem eqA_lI (xs ys : List Int) : eqA (lstI xs) (lstI ys) = ret (.bl (decide (xs = ys))) := by unfold eqA; rw [eqO_lI]
theorem eqA_int (x y : Int) : eqA (.int x) (.int y) = ret (.bl (decide (x = y))) := by unfold eqA; rw [eqO_int]
theorem neA_tI (xs ys : List Int) : neA (tupI xs) (tupI ys) = ret (.bl (!decide (xs = ys))) := by unfold neA; rw [eqO_tI]
theorem neA_int (x y : Int) : neA (.int x) (.int y) = ret (.bl (!decide (x = y))) := by unfold neA; rw [eqO_int]
/-! ### loops -/
theorem lcL_ret {f : A → M (Option A)} {g : A → Option A} : ∀ {xs : List A}, (∀ x ∈ xs, f x = ret (g x)) → lcL f xs = ret (xs.filterMap g)
  | [], _ => rfl
  | x :: xs, h => by
    unfold lcL
    rw [h x List.mem_cons_self, bd_ret, lcL_ret fun y hy => h y (List.mem_cons_of_mem _ hy), bd_ret, List.filterMap_cons]
    cases g x <;> rfl
theorem lcM_ret {it : Env' → M (List A)} {t : Tg} {c : Env' → M Bool} {e : ME'} {vs : List Nat} {ρ : Env'} {xs : List A} (g : A → Option A) (hit : it ρ = ret xs) (h : ∀ x ∈ xs, lcF t c e (wipeA ρ vs) x = ret (g x)) (hl : xs.length ≤ sizeLine) : lcM it t c e vs ρ = ret (.lst (xs.filterMap g)) := by
  unfold lcM
  rw [hit, bd_ret, lcL_ret h, nox_ret, bd_ret]
  unfold mkLst
  rw [if_pos (Nat.le_trans (List.length_filterMap_le _ _) hl)]
theorem fm_filter (P : Int → Bool) : ∀ ns : List Int, (iL ns).filterMap (fun a => match a with | .int x => if P x then some (.int x) else none | _ => none) = iL (ns.filter P)
  | [] => rfl
  | n :: ns => by
    have ih := fm_filter P ns
    unfold iL at ih ⊢
    rw [List.map_cons, List.filterMap_cons, List.filter_cons]
    dsimp only
    by_cases z : P n = true
    · rw [if_pos z, if_pos z, List.map_cons, ih]
    · rw [if_neg z, if_neg z, ih]
/-- [x for x in ns if P x] -/
theorem lcM_filter {it : Env' → M (List A)} {t : Tg} {c : Env' → M Bool} {e : ME'} {vs : List Nat} {ρ : Env'} {ns : List Int} (P : Int → Bool) (hit : it ρ = ret (iL ns)) (h : ∀ x ∈ ns, lcF t c e (wipeA ρ vs) (.int x) = ret (if P x then some (.int x) else none)) (hl : ns.length ≤ sizeLine) :
    lcM it t c e vs ρ = ret (lstI (ns.filter P)) := by
  rw [lcM_ret (fun a => match a with | .int x => if P x then some (.int x) else none | _ => none) hit (fun x hx => ?_) (by rw [List.length_map]; exact hl)]
  · rw [fm_filter]
  · obtain ⟨n, hn, rfl⟩ := List.mem_map.mp hx
    exact h n hn
/-- [f x for x in ns], truth values -/
theorem lcM_map {it : Env' → M (List A)} {t : Tg} {c : Env' → M Bool} {e : ME'} {vs : List Nat} {ρ : Env'} {xs : List A} (f : A → A) (hit : it ρ = ret xs) (h : ∀ x ∈ xs, lcF t c e (wipeA ρ vs) x = ret (some (f x))) (hl : xs.length ≤ sizeLine) :
    lcM it t c e vs ρ = ret (.lst (xs.map f)) := by
  rw [lcM_ret (fun a => some (f a)) hit h hl, List.filterMap_eq_map']
def rng (n : Int) : List Int := (List.range n.toNat).map fun (i : Nat) => (i : Int)
theorem rangeL_rng (n : Int) : rangeL 0 n = iL (rng n) := by
  unfold rangeL rng iL
  rw [List.map_map, Int.sub_zero]
  apply List.map_congr_left
  intro i _
  simp
theorem mem_rng {n x : Int} : x ∈ rng n ↔ 0 ≤ x ∧ x < n := by
  unfold rng
  simp only [List.mem_map, List.mem_range]
  constructor
  · rintro ⟨i, h, rfl⟩
    omega
  · rintro ⟨h1, h2⟩
    exact ⟨x.toNat, by omega, by omega⟩
theorem rng_length (n : Int) : (rng n).length = n.toNat := by unfold rng; simp
theorem rng_sorted (n : Int) : (rng n).Pairwise (· < ·) := by
  unfold rng
  rw [List.pairwise_map]
  exact List.pairwise_lt_range.imp fun h => by omega
theorem range1_int {n : Int} (h : rngOk n = true) : range1A [.int n] = ret (iL (rng n)) := by
  simp only [range1A, h, if_true, rangeL_rng]
theorem allA_bls (bs : List Bool) : allA [.lst (bs.map A.bl)] = ret (.bl (bs.all id)) := by
  have h : ∀ bs : List Bool, tvAs (bs.map A.bl) = some bs := fun bs => by
    induction bs with
    | nil => rfl
    | cons b bs ih => simp only [List.map_cons, tvAs, ih, tvA, toPy, fitB, if_true, PyData.truthy]
  simp only [allA, h]
end Mir

/-! Pl2: the draw. -/
namespace Mir
open PySem L2
theorem bd_app {α β : Type} {m : M α} {f : α → M β} {p : Pen} : bd m f p = (m p).bind f := rfl
theorem ret_app {α : Type} {a : α} {p : Pen} : ret a p = .ok a p := rfl
theorem bind_ok {α β : Type} {a : α} {p : Pen} {f : α → M β} : (Res.ok a p).bind f = f a p := rfl
/-- the meaning ends well, and what comes keeps to Q -/
def Ok {α : Type} (m : M α) (p : Pen) (Q : α → Pen → Prop) : Prop := ∃ a p', m p = .ok a p' ∧ Q a p'
theorem Ok.ret {α : Type} {a : α} {p : Pen} {Q : α → Pen → Prop} (h : Q a p) : Ok (Mir.ret a) p Q := ⟨a, p, rfl, h⟩
theorem Ok.bd {α β : Type} {m : M α} {f : α → M β} {p : Pen} {Q : β → Pen → Prop} {R : α → Pen → Prop} (h : Ok m p R) (k : ∀ a p', R a p' → Ok (f a) p' Q) : Ok (Mir.bd m f) p Q := by
  obtain ⟨a, p', e, r⟩ := h
  obtain ⟨b, p2, e2, q⟩ := k a p' r
  exact ⟨b, p2, by rw [bd_run e, e2], q⟩
theorem Ok.mono {α : Type} {m : M α} {p : Pen} {Q R : α → Pen → Prop} (h : Ok m p R) (k : ∀ a p', R a p' → Q a p') : Ok m p Q := by
  obtain ⟨a, p', e, r⟩ := h
  exact ⟨a, p', e, k _ _ r⟩
theorem Ok.nox {α : Type} {m : M α} {p : Pen} {Q : α → Pen → Prop} (h : Ok m p Q) : Ok (Mir.nox m) p Q := by
  obtain ⟨a, p', e, r⟩ := h
  exact ⟨a, p', nox_run e, r⟩
theorem Ok.eq {α : Type} {m m' : M α} {p : Pen} {Q : α → Pen → Prop} (e : m = m') (h : Ok m' p Q) : Ok m p Q := e ▸ h
/-- the pen as it may be -/
def PenOk (p : Pen) : Prop := 0 ≤ p.at_
def drawM : List A → M A := defM 5 (seqM (penS (vM 0) .count (op2 addA (onPen (vM 0) fun p => .ok (.int (p.get .count)) p) (cM (.int 1)))) (seqM (iteM (andT (tstM (op2 eqA (onPen (vM 0) fun p => .ok (.int (p.get .digits)) p) (cM (.int 0)))) (tstM (op2 ltA (onPen (vM 0) fun p => .ok (.int (p.get .at_)) p) (onA lenA (consM (onPen (vM 0) fun p => .ok (.lst (p.cells.map A.int)) p) nilM))))) (seqM (setM 2 (op2 ixA (onPen (vM 0) fun p => .ok (.lst (p.cells.map A.int)) p) (onPen (vM 0) fun p => .ok (.int (p.get .at_)) p))) (seqM (penS (vM 0) .at_ (op2 addA (onPen (vM 0) fun p => .ok (.int (p.get .at_)) p) (cM (.int 1)))) (seqM (iteM (tstM (op2 geA (vM 2) (op2 powA (cM (.int 10)) (cM (.int 18))))) (seqM (penS (vM 0) .digits (op2 subA (vM 2) (op2 powA (cM (.int 10)) (cM (.int 18))))) nxM) (seqM (penS (vM 0) .fold (op2 modA (onA intA (consM (op2 addA (op2 mulA (onPen (vM 0) fun p => .ok (.int (p.get .fold)) p) (cM (.int 69069))) (vM 2)) nilM)) (cM (.int 2147483587)))) nxM)) nxM))) nxM) (seqM (iteM (tstM (op2 gtA (onPen (vM 0) fun p => .ok (.int (p.get .digits)) p) (cM (.int 0)))) (seqM (setM 3 (op2 modA (onA intA (consM (onPen (vM 0) fun p => .ok (.int (p.get .digits)) p) nilM)) (vM 1))) (seqM (penS (vM 0) .digits (op2 fdivA (onPen (vM 0) fun p => .ok (.int (p.get .digits)) p) (vM 1))) (retM (vM 3)))) nxM) (seqM (setM 4 (op2 modA (onA intA (consM (op2 addA (op2 addA (op2 mulA (onPen (vM 0) fun p => .ok (.int (p.get .fold)) p) (cM (.int 48271))) (op2 mulA (onPen (vM 0) fun p => .ok (.int (p.get .count)) p) (cM (.int 7919)))) (cM (.int 13))) nilM)) (cM (.int 2147483647)))) (seqM (setM 4 (op2 modA (onA intA (consM (op2 addA (op2 addA (op2 mulA (vM 4) (vM 4)) (op2 mulA (cM (.int 31)) (vM 4))) (onPen (vM 0) fun p => .ok (.int (p.get .count)) p)) nilM)) (cM (.int 2147483629)))) (seqM (penS (vM 0) .fold (op2 modA (onA intA (consM (op2 addA (op2 mulA (vM 4) (cM (.int 16807))) (cM (.int 7))) nilM)) (cM (.int 2147483647)))) (retM (op2 modA (onA intA (consM (op2 fdivA (vM 4) (cM (.int 64))) nilM)) (vM 1)))))))))
theorem cmul_r (i j : Int) (h : -(2 ^ 64) < j ∧ j < 2 ^ 64) : CMul i j := .inr h
theorem cmul_l (i j : Int) (h : -(2 ^ 64) < i ∧ i < 2 ^ 64) : CMul i j := .inl h
theorem ltA_int (x y : Int) : ltA (.int x) (.int y) = ret (.bl (decide (x < y))) := rfl
theorem atI_nat {α : Type} {xs : List α} {i : Int} {a : α} (h0 : 0 ≤ i) (h : xs[i.toNat]? = some a) : atI xs i = some a := by
  obtain ⟨k, hk⟩ := List.getElem?_eq_some_iff.mp h
  unfold atI ixN
  rw [if_pos h0, if_pos (by omega), Option.bind_some, h]
theorem v0 {a : A} {ρ : Env'} : vM 0 (some a :: ρ) = ret a := rfl
theorem draw_tail {p : Pen} {n : Int} {r : List (Option A)} (hp : PenOk p) (hn : 0 < n) (hb : n < 1073741824) {x2 x3 x4 : Option A} :
    Ok (seqM (iteM (tstM (op2 gtA (onPen (vM 0) fun p => .ok (.int (p.get .digits)) p) (cM (.int 0)))) (seqM (setM 3 (op2 modA (onA intA (consM (onPen (vM 0) fun p => .ok (.int (p.get .digits)) p) nilM)) (vM 1))) (seqM (penS (vM 0) .digits (op2 fdivA (onPen (vM 0) fun p => .ok (.int (p.get .digits)) p) (vM 1))) (retM (vM 3)))) nxM) (seqM (setM 4 (op2 modA (onA intA (consM (op2 addA (op2 addA (op2 mulA (onPen (vM 0) fun p => .ok (.int (p.get .fold)) p) (cM (.int 48271))) (op2 mulA (onPen (vM 0) fun p => .ok (.int (p.get .count)) p) (cM (.int 7919)))) (cM (.int 13))) nilM)) (cM (.int 2147483647)))) (seqM (setM 4 (op2 modA (onA intA (consM (op2 addA (op2 addA (op2 mulA (vM 4) (vM 4)) (op2 mulA (cM (.int 31)) (vM 4))) (onPen (vM 0) fun p => .ok (.int (p.get .count)) p)) nilM)) (cM (.int 2147483629)))) (seqM (penS (vM 0) .fold (op2 modA (onA intA (consM (op2 addA (op2 mulA (vM 4) (cM (.int 16807))) (cM (.int 7))) nilM)) (cM (.int 2147483647)))) (retM (op2 modA (onA intA (consM (op2 fdivA (vM 4) (cM (.int 64))) nilM)) (vM 1)))))) [some .pen, some (.int n), x2, x3, x4]) p
      (fun f p' => PenOk p' ∧ ∃ d, f = .rt (.int d) ∧ 0 ≤ d ∧ d < n) := by
  have e1 := Int.emod_nonneg
  by_cases hd : 0 < p.digits
  · refine ⟨.rt (.int (p.digits % n)), { p with digits := p.digits / n }, ?_, hp, _, rfl, Int.emod_nonneg _ (by omega), Int.emod_lt_of_pos _ hn⟩
    have c1 : CDiv p.digits n := ⟨hn, hb⟩
    simp [seqM, iteM, tstM, op2, onPen, vM, cM, bd_app, ret_app, bind_ok, gtA, iiM, toB, hd, setM, retM, penS, onA, consM, nilM, intA, modA, fdivA, Pen.get, Pen.put, hn, c1]
  · generalize hq : (p.fold * 48271 + p.count * 7919 + 13) % 2147483647 = q1
    have hq1 : 0 ≤ q1 ∧ q1 < 2147483647 := by subst hq; exact ⟨Int.emod_nonneg _ (by omega), Int.emod_lt_of_pos _ (by omega)⟩
    generalize hq2 : (q1 * q1 + 31 * q1 + p.count) % 2147483629 = q2
    have hq3 : 0 ≤ q2 ∧ q2 < 2147483629 := by subst hq2; exact ⟨Int.emod_nonneg _ (by omega), Int.emod_lt_of_pos _ (by omega)⟩
    refine ⟨.rt (.int ((q2 / 64) % n)), { p with fold := (q2 * 16807 + 7) % 2147483647 }, ?_, hp, _, rfl, Int.emod_nonneg _ (by omega), Int.emod_lt_of_pos _ hn⟩
    have c1 : CMul p.fold 48271 := cmul_r _ _ (by omega)
    have c2 : CMul p.count 7919 := cmul_r _ _ (by omega)
    have c3 : CMul q1 q1 := cmul_r _ _ (by omega)
    have c4 : CMul 31 q1 := cmul_r _ _ (by omega)
    have c5 : CMul q2 16807 := cmul_r _ _ (by omega)
    have c6 : CDiv q2 64 := ⟨by omega, by omega⟩
    simp [seqM, iteM, tstM, op2, onPen, vM, cM, bd_app, ret_app, bind_ok, gtA, iiM, toB, hd, setM, retM, nxM, penS, onA, consM, nilM, intA, modA, mulA, addA, fdivA, Pen.get, Pen.put, hn, c1, c2, c3, c4, c5, c6, hq, hq2]
theorem seqM_next {m n : MS'} {ρ ρ' : Env'} {p p' : Pen} (h : m ρ p = .ok (.nx ρ') p') : seqM m n ρ p = n ρ' p' := by
  unfold seqM
  rw [bd_run h]
theorem pow18 : (10 : Int) ^ (18 : Int).toNat = 1000000000000000000 := by decide
theorem draw_spec {p : Pen} {n : Int} (hp : PenOk p) (hn : 0 < n) (hb : n < 1073741824) : Ok (drawM [.pen, .int n]) p (fun a p' => PenOk p' ∧ ∃ d, a = .int d ∧ 0 ≤ d ∧ d < n) := by
  have fin : ∀ {m : MS'}, Ok (m [some .pen, some (.int n), none, none, none]) p (fun f p' => PenOk p' ∧ ∃ d, f = .rt (.int d) ∧ 0 ≤ d ∧ d < n) → Ok (defM 5 m [.pen, .int n]) p (fun a p' => PenOk p' ∧ ∃ d, a = .int d ∧ 0 ≤ d ∧ d < n) := fun {m} h => by
    refine Ok.bd (m := m (start' 5 [.pen, .int n])) h fun f p' r => ?_
    obtain ⟨r1, d, rfl, r2⟩ := r
    exact .ret ⟨r1, d, rfl, r2⟩
  unfold drawM
  apply fin
  unfold Ok
  have h1 : penS (vM 0) .count (op2 addA (onPen (vM 0) fun p => .ok (.int (p.get .count)) p) (cM (.int 1))) [some .pen, some (.int n), none, none, none] p = .ok (.nx [some .pen, some (.int n), none, none, none]) { p with count := p.count + 1 } := rfl
  rw [seqM_next h1]
  generalize hpe : ({ p with count := p.count + 1 } : Pen) = pa
  have hpa : PenOk pa := by subst hpe; exact hp
  clear h1 hpe hp
  by_cases c1 : pa.digits = 0 ∧ pa.at_ < pa.cells.length
  · obtain ⟨c1, c2⟩ := c1
    have hp' : 0 ≤ pa.at_ := hpa
    have hx : pa.at_.toNat < pa.cells.length := by omega
    obtain ⟨x, hx⟩ : ∃ x, pa.cells[pa.at_.toNat]? = some x := ⟨_, List.getElem?_eq_getElem hx⟩
    have hat : atI (pa.cells.map A.int) pa.at_ = some (.int x) := atI_nat hp' (by rw [List.getElem?_map, hx]; rfl)
    have hpw : CPow 10 18 := ⟨by omega, by omega, by decide⟩
    have cm : CMul pa.fold 69069 := cmul_r _ _ (by omega)
    by_cases c3 : 1000000000000000000 ≤ x
    · refine Exists.elim (draw_tail (r := []) (p := { pa with at_ := pa.at_ + 1, digits := x - 1000000000000000000 }) (n := n) (x2 := some (.int x)) (x3 := none) (x4 := none) (show 0 ≤ pa.at_ + 1 by omega) hn hb) fun f h => ?_
      obtain ⟨p', h, q⟩ := h
      refine ⟨f, p', ?_, q⟩
      rw [seqM_next (p' := { pa with at_ := pa.at_ + 1, digits := x - 1000000000000000000 }) (ρ' := [some .pen, some (.int n), some (.int x), none, none])]
      · exact h
      · simp [seqM, iteM, andT, tstM, op2, onPen, vM, cM, bd_app, ret_app, bind_ok, eqA_int, ltA_int, geA, iiM, toB, setM, nxM, penS, onA, consM, nilM, powA, subA, addA, Pen.get, Pen.put, c1, c2, c3, lenA, ixA, hat, hpw, pow18]
    · refine Exists.elim (draw_tail (r := []) (p := { pa with at_ := pa.at_ + 1, fold := (pa.fold * 69069 + x) % 2147483587 }) (n := n) (x2 := some (.int x)) (x3 := none) (x4 := none) (show 0 ≤ pa.at_ + 1 by omega) hn hb) fun f h => ?_
      obtain ⟨p', h, q⟩ := h
      refine ⟨f, p', ?_, q⟩
      rw [seqM_next (p' := { pa with at_ := pa.at_ + 1, fold := (pa.fold * 69069 + x) % 2147483587 }) (ρ' := [some .pen, some (.int n), some (.int x), none, none])]
      · exact h
      · simp [seqM, iteM, andT, tstM, op2, onPen, vM, cM, bd_app, ret_app, bind_ok, eqA_int, ltA_int, geA, iiM, toB, setM, nxM, penS, onA, consM, nilM, powA, subA, addA, mulA, modA, intA, Pen.get, Pen.put, c1, c2, c3, lenA, ixA, hat, hpw, pow18, cm]
  · refine Exists.elim (draw_tail (r := []) (p := pa) (n := n) (x2 := none) (x3 := none) (x4 := none) hpa hn hb) fun f h => ?_
    obtain ⟨p', h, q⟩ := h
    refine ⟨f, p', ?_, q⟩
    rw [seqM_next (p' := pa) (ρ' := [some .pen, some (.int n), none, none, none])]
    · exact h
    · by_cases c2 : pa.digits = 0
      · have c3 : ¬ pa.at_ < pa.cells.length := fun z => c1 ⟨c2, z⟩
        simp [iteM, andT, tstM, op2, onPen, vM, cM, bd_app, ret_app, bind_ok, eqA_int, ltA_int, toB, nxM, onA, consM, nilM, Pen.get, c2, c3, lenA]
      · simp [iteM, andT, tstM, op2, onPen, vM, cM, bd_app, ret_app, bind_ok, eqA_int, ltA_int, toB, nxM, onA, consM, nilM, Pen.get, c2, lenA]
end Mir

/-! Pl3: the helpers that laws share. -/
namespace Mir
open PySem L2
def worldsM : List A → M A := defM 3 (seqM (setM 1 (cM (.int 1))) (seqM (forS (itOn range1A (consM (vM 0) nilM)) (tgN 2) (seqM (setM 1 (op2 addA (vM 1) (vM 1))) nxM)) (retM (vM 1))))
def drawnM : List A → M A := defM 4 (retM (onA tupA (consM (lcM (itOn range1A (consM (vM 1) nilM)) (tgN 3) (tstM (op2 eqA (callM 2 drawM (consM (vM 0) (consM (cM (.int 2)) nilM))) (cM (.int 0)))) (vM 3) [2, 3]) nilM)))
def pickM : List A → M A := defM 2 (retM (op2 ixA (vM 1) (callM 2 drawM (consM (vM 0) (consM (onA lenA (consM (vM 1) nilM)) nilM)))))
def unlikeM : List A → M A := defM 4 (seqM (setM 1 (onA sortA (consM (vM 0) nilM))) (retM (lcM (itOn range1A (consM (onA lenA (consM (vM 1) nilM)) nilM)) (tgN 3) (orT (tstM (op2 eqA (vM 3) (cM (.int 0)))) (tstM (op2 neA (op2 ixA (vM 1) (vM 3)) (op2 ixA (vM 1) (op2 subA (vM 3) (cM (.int 1))))))) (op2 ixA (vM 1) (vM 3)) [2, 3])))
def isM : Nat → List A → M A
  | 0 => fun _ => no
  | n + 1 => defM 4 (seqM (iteM (truM (isi1 (.ty "tuple") (vM 1))) (seqM (iteM (orT (notT (truM (isi1 (.ty "tuple") (vM 0)))) (tstM (op2 neA (onA lenA (consM (vM 0) nilM)) (onA lenA (consM (vM 1) nilM))))) (retM (cM (.bl false))) nxM) (retM (op2 eqA (lcM (itOn range1A (consM (onA lenA (consM (vM 1) nilM)) nilM)) (tgN 3) (notT (truM (callM 2 (isM n) (consM (op2 ixA (vM 0) (vM 3)) (consM (op2 ixA (vM 1) (vM 3)) nilM))))) (vM 3) [2, 3]) (onA mkLst nilM)))) nxM) (seqM (iteM (tstM (op2 isA (vM 1) (cM .non))) (retM (op2 isA (vM 0) (cM .non))) nxM) (seqM (iteM (tstM (op2 isA (vM 1) (cM (.bl true)))) (retM (op2 isA (vM 0) (cM (.bl true)))) nxM) (seqM (iteM (tstM (op2 isA (vM 1) (cM (.bl false)))) (retM (op2 isA (vM 0) (cM (.bl false)))) nxM) (seqM (iteM (truM (isi1 (.ty "str") (vM 1))) (retM (andV (isi1 (.ty "str") (vM 0)) (op2 eqA (vM 0) (vM 1)))) nxM) (retM (andV (isi1 (.ty "int") (vM 0)) (andV (notV (isi1 (.ty "bool") (vM 0))) (op2 eqA (vM 0) (vM 1))))))))))
theorem worlds_1 : worldsM [.int 1] = ret (.int 2) := by rfl
theorem worlds_2 : worldsM [.int 2] = ret (.int 4) := by rfl
theorem worlds_3 : worldsM [.int 3] = ret (.int 8) := by rfl
theorem worlds_4 : worldsM [.int 4] = ret (.int 16) := by rfl
theorem pick_spec {p : Pen} {xs : List A} (hp : PenOk p) (h0 : xs ≠ []) (hl : xs.length < 1073741824) : Ok (pickM [.pen, .lst xs]) p (fun a p' => PenOk p' ∧ a ∈ xs) := by
  have hn : 0 < (xs.length : Int) := by have := List.length_pos_iff.mpr h0; omega
  obtain ⟨a, p', e, hp', d, rfl, d0, d1⟩ := draw_spec hp hn (by omega)
  have hi : d.toNat < xs.length := by omega
  refine ⟨xs[d.toNat], p', ?_, hp', List.getElem_mem hi⟩
  have ha : atI xs d = some xs[d.toNat] := atI_nat d0 (List.getElem?_eq_getElem hi)
  simp [defM, start', seqM, iteM, andT, orT, notT, andV, orV, notV, tstM, truM, op2, un1, vM, cM, bd_ret, bd_no, toB, setM, nxM, retM, onA, consM, nilM, isi1, bigA, isiA, kindOf, isK, truthA, isA, sameN, lenA, tupA, lstA, mkTup, mkLst, callM, dropM, itOn, itSeq, seqA, addA, subA, iiM, asgM, tgT, tgCons, tgN, tgNil, pickM]
  simp [bd_app, e, bind_ok, ixA, ha, ret_app]
theorem lcL_sub {f : A → M (Option A)} : ∀ (ns : List Int) (p : Pen), PenOk p → (∀ x ∈ ns, ∀ p, PenOk p → Ok (f (.int x)) p (fun o p' => PenOk p' ∧ (o = none ∨ o = some (.int x)))) →
    Ok (lcL f (iL ns)) p (fun ys p' => PenOk p' ∧ ∃ zs, ys = iL zs ∧ zs.Sublist ns)
  | [], p, hp, _ => .ret ⟨hp, [], rfl, .slnil⟩
  | n :: ns, p, hp, h => by
    have ih := fun p hp => lcL_sub (f := f) ns p hp fun x hx => h x (List.mem_cons_of_mem _ hx)
    refine Ok.bd (h n List.mem_cons_self p hp) fun o p1 r => ?_
    obtain ⟨hp1, r⟩ := r
    refine Ok.bd (ih p1 hp1) fun ys p2 r2 => ?_
    obtain ⟨hp2, zs, rfl, hz⟩ := r2
    refine .ret ⟨hp2, ?_⟩
    rcases r with rfl | rfl
    · exact ⟨zs, rfl, hz.cons _⟩
    · exact ⟨n :: zs, rfl, hz.cons_cons _⟩
theorem drawn_spec {p : Pen} {n : Int} (hp : PenOk p) (hn : 0 ≤ n) (hb : n < 1000) : Ok (drawnM [.pen, .int n]) p (fun a p' => PenOk p' ∧ ∃ zs, a = tupI zs ∧ zs.Sublist (rng n)) := by
  have hr : rngOk n = true := by unfold rngOk; simp; omega
  have key : Ok (lcM (itOn range1A (consM (vM 1) nilM)) (tgN 3) (tstM (op2 eqA (callM 2 drawM (consM (vM 0) (consM (cM (.int 2)) nilM))) (cM (.int 0)))) (vM 3) [2, 3] [some .pen, some (.int n), none, none]) p (fun a p' => PenOk p' ∧ ∃ zs, a = lstI zs ∧ zs.Sublist (rng n)) := by
    unfold lcM
    have e : itOn range1A (consM (vM 1) nilM) [some .pen, some (.int n), none, none] = ret (iL (rng n)) := by
      unfold itOn consM nilM vM
      exact range1_int hr
    rw [e, bd_ret]
    refine Ok.bd (Ok.nox (lcL_sub (rng n) p hp fun x hx p hp => ?_)) fun ys p' r => ?_
    · obtain ⟨a, p', e, hp', d, rfl, d0, d1⟩ := draw_spec hp (n := 2) (by omega) (by omega)
      by_cases c : d = 0
      · refine ⟨some (.int x), p', ?_, hp', .inr rfl⟩
        subst c
        simp [defM, start', seqM, iteM, andT, orT, notT, andV, orV, notV, tstM, truM, op2, un1, vM, cM, bd_ret, bd_no, toB, setM, nxM, retM, onA, consM, nilM, isi1, bigA, isiA, kindOf, isK, truthA, isA, sameN, lenA, tupA, lstA, mkTup, mkLst, callM, dropM, itOn, itSeq, seqA, addA, subA, iiM, asgM, tgT, tgCons, tgN, tgNil, lcF, wipeA]
        rw [bd_app, bd_app, bd_app, e]
        simp [bind_ok, eqA_int, bd_app, ret_app, toB]
      · refine ⟨none, p', ?_, hp', .inl rfl⟩
        simp [defM, start', seqM, iteM, andT, orT, notT, andV, orV, notV, tstM, truM, op2, un1, vM, cM, bd_ret, bd_no, toB, setM, nxM, retM, onA, consM, nilM, isi1, bigA, isiA, kindOf, isK, truthA, isA, sameN, lenA, tupA, lstA, mkTup, mkLst, callM, dropM, itOn, itSeq, seqA, addA, subA, iiM, asgM, tgT, tgCons, tgN, tgNil, lcF, wipeA]
        rw [bd_app, bd_app, bd_app, e]
        simp [bind_ok, eqA_int, bd_app, ret_app, toB, c]
    · obtain ⟨hp', zs, rfl, hz⟩ := r
      have hl : (iL zs).length ≤ sizeLine := by
        have := hz.length_le
        rw [rng_length] at this
        rw [List.length_map, sizeLine_eq]
        omega
      unfold mkLst
      rw [if_pos hl]
      exact .ret ⟨hp', zs, rfl, hz⟩
  obtain ⟨a, p', e, hp', zs, rfl, hz⟩ := key
  refine ⟨tupI zs, p', ?_, hp', zs, rfl, hz⟩
  simp [defM, start', seqM, iteM, andT, orT, notT, andV, orV, notV, tstM, truM, op2, un1, vM, cM, bd_ret, bd_no, toB, setM, nxM, retM, onA, consM, nilM, isi1, bigA, isiA, kindOf, isK, truthA, isA, sameN, lenA, tupA, lstA, mkTup, mkLst, callM, dropM, itOn, itSeq, seqA, addA, subA, iiM, asgM, tgT, tgCons, tgN, tgNil, drawnM]
  simp [bd_app, e, bind_ok, ret_app, tupA]
/-! ### the same of its kind -/
inductive Pln : Nat → A → Prop
  | non (n) : Pln (n + 1) .non
  | bl (n b) : Pln (n + 1) (.bl b)
  | int (n i) : Pln (n + 1) (.int i)
  | tup (n xs) : (∀ x ∈ xs, Pln n x) → xs.length ≤ 1000 → Pln (n + 1) (.tup xs)
theorem lcM_none {it : Env' → M (List A)} {t : Tg} {c : Env' → M Bool} {e : ME'} {vs : List Nat} {ρ : Env'} {ns : List Int} (hit : it ρ = ret (iL ns)) (h : ∀ x ∈ ns, lcF t c e (wipeA ρ vs) (.int x) = ret none) (hl : ns.length ≤ sizeLine) :
    lcM it t c e vs ρ = ret (lstI []) := by
  rw [lcM_filter (fun _ => false) hit (fun x hx => by rw [h x hx]; rfl) hl, List.filter_eq_nil_iff.mpr fun _ _ z => by cases z]
theorem seqM_rt {m n : MS'} {ρ : Env'} {a : A} (h : m ρ = ret (.rt a)) : seqM m n ρ = ret (.rt a) := by
  unfold seqM
  rw [bd_eq h]
theorem seqM_nx {m n : MS'} {ρ ρ' : Env'} (h : m ρ = ret (.nx ρ')) : seqM m n ρ = n ρ' := by
  unfold seqM
  rw [bd_eq h]
theorem ite_t {α : Type} {t : Env' → M Bool} {m n : Env' → M α} {ρ : Env'} (h : t ρ = ret true) : iteM t m n ρ = m ρ := by
  unfold iteM
  rw [bd_eq h]; rfl
theorem ite_f {α : Type} {t : Env' → M Bool} {m n : Env' → M α} {ρ : Env'} (h : t ρ = ret false) : iteM t m n ρ = n ρ := by
  unfold iteM
  rw [bd_eq h]; rfl
theorem ite_nx {t : Env' → M Bool} {m : MS'} {ρ : Env'} (h : t ρ = ret false) : iteM t m nxM ρ = ret (.nx ρ) := ite_f h
theorem defM_rt {N : Nat} {m : MS'} {as : List A} {a : A} (h : m (start' N as) = ret (.rt a)) : defM N m as = ret a := by
  unfold defM
  rw [bd_eq h]
theorem retM_ret {m : ME'} {ρ : Env'} {a : A} (h : m ρ = ret a) : retM m ρ = ret (.rt a) := by
  unfold retM
  rw [bd_eq h]
theorem setM_ret {i : Nat} {m : ME'} {ρ : Env'} {a : A} (h : m ρ = ret a) : setM i m ρ = ret (.nx (ρ.set i (some a))) := by
  unfold setM
  rw [bd_eq h]
theorem op2_ret {g : A → A → M A} {ma mb : ME'} {ρ : Env'} {a b : A} (h1 : ma ρ = ret a) (h2 : mb ρ = ret b) : op2 g ma mb ρ = g a b := by
  unfold op2
  rw [bd_eq h1, bd_eq h2]
theorem mkLst_ret {as : List A} (h : as.length ≤ sizeLine) : mkLst as = ret (.lst as) := if_pos h
theorem mkTup_ret {as : List A} (h : as.length ≤ sizeLine) : mkTup as = ret (.tup as) := if_pos h
theorem onA_ret {g : List A → M A} {ms : Env' → M (List A)} {ρ : Env'} {as : List A} (h : ms ρ = ret as) : onA g ms ρ = g as := by
  unfold onA
  rw [bd_eq h]
theorem is_int {n : Nat} (i : Int) : isM (n + 1) [.int i, .int i] = ret (.bl true) := by
  refine defM_rt ((seqM_nx (ite_nx rfl)).trans ((seqM_nx (ite_nx rfl)).trans ((seqM_nx (ite_nx rfl)).trans ((seqM_nx (ite_nx rfl)).trans ((seqM_nx (ite_nx rfl)).trans (retM_ret ?_))))))
  have e : eqA (.int i) (.int i) = ret (.bl true) := by rw [eqA_int]; simp
  exact e
theorem is_non {n : Nat} : isM (n + 1) [.non, .non] = ret (.bl true) := defM_rt ((seqM_nx (ite_nx rfl)).trans (seqM_rt rfl))
theorem is_true {n : Nat} : isM (n + 1) [.bl true, .bl true] = ret (.bl true) := defM_rt ((seqM_nx (ite_nx rfl)).trans ((seqM_nx (ite_nx rfl)).trans (seqM_rt rfl)))
theorem is_false {n : Nat} : isM (n + 1) [.bl false, .bl false] = ret (.bl true) := defM_rt ((seqM_nx (ite_nx rfl)).trans ((seqM_nx (ite_nx rfl)).trans ((seqM_nx (ite_nx rfl)).trans (seqM_rt rfl))))
theorem rngOk_of {n : Int} (h0 : 0 ≤ n) (h : n < 1000000) : rngOk n = true := by unfold rngOk; simp; omega
theorem rng_small {n : Nat} (h : n ≤ 1000) : (rng n).length ≤ sizeLine := by
  rw [rng_length]
  exact Nat.le_trans (show (n : Int).toNat ≤ 1000 by omega) (Nat.le_trans (show 1000 ≤ 16777216 by decide) (Nat.le_of_eq sizeLine_eq.symm))
theorem itOn_ret {g : List A → M (List A)} {ms : Env' → M (List A)} {ρ : Env'} {as : List A} (h : ms ρ = ret as) : itOn g ms ρ = g as := by
  unfold itOn
  rw [bd_eq h]
theorem len_as {xs : List A} {a b c : Option A} : consM (onA lenA (consM (vM 1) nilM)) nilM [a, some (.tup xs), b, c] = ret [.int xs.length] := rfl
theorem len_it {xs : List A} {a b c : Option A} (hl : xs.length ≤ 1000) : itOn range1A (consM (onA lenA (consM (vM 1) nilM)) nilM) [a, some (.tup xs), b, c] = ret (iL (rng xs.length)) := by
  rw [itOn_ret len_as]
  exact range1_int (rngOk_of (by omega) (by omega))
theorem is_step {F : List A → M A} {xs : List A} {x : Int} {a : A} (ha : atI xs x = some a) (ih' : F [a, a] = ret (.bl true)) : lcF (tgN 3) (notT (truM (callM 2 F (consM (op2 ixA (vM 0) (vM 3)) (consM (op2 ixA (vM 1) (vM 3)) nilM))))) (vM 3) (wipeA [some (.tup xs), some (.tup xs), none, none] [2, 3]) (.int x) = ret none := by
  simp [defM, start', seqM, iteM, andT, orT, notT, andV, orV, notV, tstM, truM, op2, un1, vM, cM, bd_ret, bd_no, toB, setM, nxM, retM, onA, consM, nilM, isi1, bigA, isiA, kindOf, isK, truthA, isA, sameN, lenA, tupA, lstA, mkTup, mkLst, callM, dropM, itOn, itSeq, seqA, addA, subA, iiM, asgM, tgT, tgCons, tgN, tgNil, lcF, wipeA, ixA, ha, ih']
theorem is_tupL {n : Nat} {xs : List A} (hl : xs.length ≤ 1000) (ih : ∀ a, Pln n a → isM n [a, a] = ret (.bl true)) (h : ∀ x ∈ xs, Pln n x) : lcM (itOn range1A (consM (onA lenA (consM (vM 1) nilM)) nilM)) (tgN 3) (notT (truM (callM 2 (isM n) (consM (op2 ixA (vM 0) (vM 3)) (consM (op2 ixA (vM 1) (vM 3)) nilM))))) (vM 3) [2, 3] [some (.tup xs), some (.tup xs), none, none] = ret (lstI []) := by
  refine lcM_none (ns := rng xs.length) (len_it hl) (fun x hx => ?_) (rng_small hl)
  obtain ⟨x0, x1⟩ := mem_rng.mp hx
  have hi : x.toNat < xs.length := by omega
  exact is_step (atI_nat x0 (List.getElem?_eq_getElem hi)) (ih _ (h _ (List.getElem_mem hi)))
theorem lst_nil {ρ : Env'} : onA mkLst nilM ρ = ret (lstI []) := (onA_ret (g := mkLst) (as := []) rfl).trans (mkLst_ret (Nat.zero_le _))
theorem is_tup {n : Nat} {xs : List A} (hl : xs.length ≤ 1000) (ih : ∀ a, Pln n a → isM n [a, a] = ret (.bl true)) (h : ∀ x ∈ xs, Pln n x) : isM (n + 1) [.tup xs, .tup xs] = ret (.bl true) := by
  have e := is_tupL hl ih h
  have e3 := op2_ret (g := eqA) e lst_nil
  rw [eqA_lI [] []] at e3
  have e4 : notT (truM (isi1 (.ty "tuple") (vM 0))) [some (.tup xs), some (.tup xs), none, none] = ret false := rfl
  have e5 : tstM (op2 neA (onA lenA (consM (vM 0) nilM)) (onA lenA (consM (vM 1) nilM))) [some (.tup xs), some (.tup xs), none, none] = ret false := by simp [defM, start', seqM, iteM, andT, orT, notT, andV, orV, notV, tstM, truM, op2, un1, vM, cM, bd_ret, bd_no, toB, setM, nxM, retM, onA, consM, nilM, isi1, bigA, isiA, kindOf, isK, truthA, isA, sameN, lenA, tupA, lstA, mkTup, mkLst, callM, dropM, itOn, itSeq, seqA, addA, subA, iiM, asgM, tgT, tgCons, tgN, tgNil, neA_int]
  have e6 : orT (notT (truM (isi1 (.ty "tuple") (vM 0)))) (tstM (op2 neA (onA lenA (consM (vM 0) nilM)) (onA lenA (consM (vM 1) nilM)))) [some (.tup xs), some (.tup xs), none, none] = ret false := by
    unfold orT
    rw [bd_eq e4]
    exact e5
  exact defM_rt (seqM_rt ((ite_t rfl).trans ((seqM_nx (ite_nx e6)).trans (retM_ret e3))))
end Mir

/-! Pl4: sayings. -/
namespace Mir
open PySem L2
def g_many_worlds : List A → M A := defM 1 (retM (op2 shlA (cM (.int 1)) (vM 0)))
def g_others_by : List A → M A := defM 4 (retM (onA tupA (consM (lcM (itOn range1A (consM (callM 1 g_many_worlds (consM (vM 1) nilM)) nilM)) (tgN 3) (tstM (op2 notInA (vM 3) (vM 0))) (vM 3) [2, 3]) nilM)))
def g_is_whole : List A → M A := defM 1 (retM (andV (isi1 (.ty "int") (vM 0)) (notV (isi1 (.ty "bool") (vM 0)))))
def g_need_letters : List A → M A := defM 1 (seqM (iteM (orT (notT (truM (callM 1 g_is_whole (consM (vM 0) nilM)))) (notT (tstM (chn leA leA (cM (.int 1)) (vM 0) (cM (.int 4)))))) (raiseM 2 2 (consM (cM (.str "letters")) (consM (vM 0) nilM))) nxM) nxM)
def g_is_index : List A → M A := defM 2 (retM (andV (callM 1 g_is_whole (consM (vM 0) nilM)) (chn leA ltA (cM (.int 0)) (vM 0) (vM 1))))
def g_is_lot : List A → M A := defM 5 (seqM (iteM (orT (notT (truM (isi1 (.ty "tuple") (vM 1)))) (notT (truM (onA allA (consM (lcM (itSeq (vM 1)) (tgN 3) yesM (callM 2 g_is_index (consM (vM 3) (consM (vM 0) nilM))) [2, 3]) nilM))))) (retM (cM (.bl false))) nxM) (retM (onA allA (consM (lcM (itOn range1A (consM (op2 subA (onA lenA (consM (vM 1) nilM)) (cM (.int 1))) nilM)) (tgN 4) yesM (op2 ltA (op2 ixA (vM 1) (vM 4)) (op2 ixA (vM 1) (op2 addA (vM 4) (cM (.int 1))))) [2, 4]) nilM))))
def g_need_saying : List A → M A := defM 4 (seqM (setM 3 (iteM (truM (isi1 (.ty "list") (vM 2))) (onA tupA (consM (vM 2) nilM)) (vM 2))) (seqM (iteM (notT (truM (callM 2 g_is_lot (consM (vM 0) (consM (vM 3) nilM))))) (raiseM 3 2 (consM (vM 1) (consM (vM 2) nilM))) nxM) (retM (vM 3))))
def g_need_letters_saying : List A → M A := defM 3 (seqM (dropM (callM 1 g_need_letters (consM (vM 2) nilM))) (retM (callM 3 g_need_saying (consM (callM 1 g_many_worlds (consM (vM 2) nilM)) (consM (vM 0) (consM (vM 1) nilM))))))
def g_other_worlds : List A → M A := defM 2 (retM (callM 2 g_others_by (consM (callM 3 g_need_letters_saying (consM (cM (.str "saying")) (consM (vM 0) (consM (vM 1) nilM)))) (consM (vM 1) nilM))))
def g_need_two_sayings : List A → M A := defM 3 (retM (onA mkTup (consM (callM 3 g_need_letters_saying (consM (cM (.str "one")) (consM (vM 0) (consM (vM 2) nilM)))) (consM (callM 3 g_need_letters_saying (consM (cM (.str "other")) (consM (vM 1) (consM (vM 2) nilM)))) nilM))))
def g_both_so : List A → M A := defM 7 (seqM (asgM (tgT 2 (tgCons (tgN 3) (tgCons (tgN 4) tgNil))) (callM 3 g_need_two_sayings (consM (vM 0) (consM (vM 1) (consM (vM 2) nilM))))) (retM (onA tupA (consM (lcM (itSeq (vM 3)) (tgN 6) (tstM (op2 inA (vM 6) (vM 4))) (vM 6) [5, 6]) nilM))))
def g_some_so : List A → M A := defM 7 (seqM (asgM (tgT 2 (tgCons (tgN 3) (tgCons (tgN 4) tgNil))) (callM 3 g_need_two_sayings (consM (vM 0) (consM (vM 1) (consM (vM 2) nilM))))) (retM (onA tupA (consM (lcM (itOn range1A (consM (callM 1 g_many_worlds (consM (vM 2) nilM)) nilM)) (tgN 6) (orT (tstM (op2 inA (vM 6) (vM 3))) (tstM (op2 inA (vM 6) (vM 4)))) (vM 6) [5, 6]) nilM))))
def g_within_by : List A → M A := defM 4 (retM (onA allA (consM (lcM (itSeq (vM 0)) (tgN 3) yesM (op2 inA (vM 3) (vM 1)) [2, 3]) nilM)))
def g_is_within : List A → M A := defM 5 (seqM (asgM (tgT 2 (tgCons (tgN 3) (tgCons (tgN 4) tgNil))) (callM 3 g_need_two_sayings (consM (vM 0) (consM (vM 1) (consM (vM 2) nilM))))) (retM (callM 2 g_within_by (consM (vM 3) (consM (vM 4) nilM)))))
theorem callM_ret {n : Nat} {m : List A → M A} {ms : Env' → M (List A)} {ρ : Env'} {as : List A} (h : ms ρ = ret as) (hn : as.length = n) : callM n m ms ρ = m as := by
  unfold callM
  rw [bd_eq h]
  exact if_pos hn
theorem consM_ret {m : ME'} {ms : Env' → M (List A)} {ρ : Env'} {a : A} {as : List A} (h : m ρ = ret a) (hs : ms ρ = ret as) : consM m ms ρ = ret (a :: as) := by
  unfold consM
  rw [bd_eq h, bd_eq hs]
theorem chn_ii (x y z : Int) : chn leA ltA (cM (.int x)) (vM 0) (vM 1) [some (.int y), some (.int z)] = ret (.bl (decide (x ≤ y ∧ y < z))) := by
  by_cases h : x ≤ y
  · simp [defM, start', seqM, iteM, andT, orT, notT, andV, orV, notV, tstM, truM, op2, un1, vM, cM, bd_ret, bd_no, toB, setM, nxM, retM, onA, consM, nilM, isi1, bigA, isiA, kindOf, isK, truthA, isA, sameN, lenA, tupA, lstA, mkTup, mkLst, callM, dropM, itOn, itSeq, seqA, addA, subA, iiM, asgM, tgT, tgCons, tgN, tgNil, chn, leA, h, ltA_int]
  · simp [defM, start', seqM, iteM, andT, orT, notT, andV, orV, notV, tstM, truM, op2, un1, vM, cM, bd_ret, bd_no, toB, setM, nxM, retM, onA, consM, nilM, isi1, bigA, isiA, kindOf, isK, truthA, isA, sameN, lenA, tupA, lstA, mkTup, mkLst, callM, dropM, itOn, itSeq, seqA, addA, subA, iiM, asgM, tgT, tgCons, tgN, tgNil, chn, leA, h]
theorem whole_int (x : Int) : g_is_whole [.int x] = ret (.bl true) := rfl
theorem index_int (x n : Int) : g_is_index [.int x, .int n] = ret (.bl (decide (0 ≤ x ∧ x < n))) := by
  refine defM_rt (retM_ret ?_)
  have e : callM 1 g_is_whole (consM (vM 0) nilM) [some (.int x), some (.int n)] = ret (.bl true) := rfl
  show andV _ _ [some (.int x), some (.int n)] = _
  unfold andV
  rw [bd_eq e, bd_eq (show truthA (.bl true) = ret true from rfl)]
  exact chn_ii 0 x n
/-- a saying of n worlds, as a row -/
abbrev Lot (n : Int) (zs : List Int) : Prop := zs.Sublist (rng n)
theorem Lot.inn {n : Int} {zs : List Int} (h : Lot n zs) {z : Int} (hz : z ∈ zs) : 0 ≤ z ∧ z < n := mem_rng.mp (h.subset hz)
theorem Lot.asc {n : Int} {zs : List Int} (h : Lot n zs) : zs.Pairwise (· < ·) := (rng_sorted n).sublist h
theorem Lot.len {n : Int} {zs : List Int} (h : Lot n zs) (hn : n ≤ 1000) : zs.length ≤ 1000 := by
  have := h.length_le
  rw [rng_length] at this
  omega
theorem small_line {n : Nat} (h : n ≤ 1000) : n ≤ sizeLine := Nat.le_trans h (Nat.le_trans (show 1000 ≤ 16777216 by decide) (Nat.le_of_eq sizeLine_eq.symm))
theorem allA_true (xs : List A) : allA [.lst (xs.map fun _ => .bl true)] = ret (.bl true) := by
  have e : (xs.map fun _ => A.bl true) = (xs.map fun _ => true).map A.bl := by rw [List.map_map]; rfl
  rw [e, allA_bls]
  have : ((xs.map fun _ => true).all id) = true := List.all_eq_true.mpr fun b hb => by
    obtain ⟨_, _, rfl⟩ := List.mem_map.mp hb
    rfl
  rw [this]
theorem lot_inn {n : Int} {zs : List Int} (h : Lot n zs) (hn : n ≤ 1000) : onA allA (consM (lcM (itSeq (vM 1)) (tgN 3) yesM (callM 2 g_is_index (consM (vM 3) (consM (vM 0) nilM))) [2, 3]) nilM) [some (.int n), some (tupI zs), none, none, none] = ret (.bl true) := by
  have e : lcM (itSeq (vM 1)) (tgN 3) yesM (callM 2 g_is_index (consM (vM 3) (consM (vM 0) nilM))) [2, 3] [some (.int n), some (tupI zs), none, none, none] = ret (.lst ((iL zs).map fun _ => .bl true)) := by
    refine lcM_map (fun _ => .bl true) rfl (fun x hx => ?_) (by rw [List.length_map]; exact small_line (h.len hn))
    obtain ⟨z, hz, rfl⟩ := List.mem_map.mp hx
    have e := index_int z n
    rw [decide_eq_true (h.inn hz)] at e
    generalize g_is_index = F at e ⊢
    simp [defM, start', seqM, iteM, andT, orT, notT, andV, orV, notV, tstM, truM, op2, un1, vM, cM, bd_ret, bd_no, toB, setM, nxM, retM, onA, consM, nilM, isi1, bigA, isiA, kindOf, isK, truthA, isA, sameN, lenA, tupA, lstA, mkTup, mkLst, callM, dropM, itOn, itSeq, seqA, addA, subA, iiM, asgM, tgT, tgCons, tgN, tgNil, lcF, wipeA, yesM, e]
  exact (onA_ret (consM_ret e rfl)).trans (allA_true _)
theorem lot_asc {n : Int} {zs : List Int} (h : Lot n zs) (hn : n ≤ 1000) : onA allA (consM (lcM (itOn range1A (consM (op2 subA (onA lenA (consM (vM 1) nilM)) (cM (.int 1))) nilM)) (tgN 4) yesM (op2 ltA (op2 ixA (vM 1) (vM 4)) (op2 ixA (vM 1) (op2 addA (vM 4) (cM (.int 1))))) [2, 4]) nilM) [some (.int n), some (tupI zs), none, none, none] = ret (.bl true) := by
  have hl := h.len hn
  have e : lcM (itOn range1A (consM (op2 subA (onA lenA (consM (vM 1) nilM)) (cM (.int 1))) nilM)) (tgN 4) yesM (op2 ltA (op2 ixA (vM 1) (vM 4)) (op2 ixA (vM 1) (op2 addA (vM 4) (cM (.int 1))))) [2, 4] [some (.int n), some (tupI zs), none, none, none] = ret (.lst ((iL (rng ((zs.length : Int) - 1))).map fun _ => .bl true)) := by
    refine lcM_map (fun _ => .bl true) ?_ (fun x hx => ?_) ?_
    · have e1 : consM (op2 subA (onA lenA (consM (vM 1) nilM)) (cM (.int 1))) nilM [some (.int n), some (tupI zs), none, none, none] = ret [.int ((zs.length : Int) - 1)] := by
        have : ((iL zs).length : Int) = zs.length := by rw [List.length_map]
        rw [← this]
        rfl
      rw [itOn_ret e1]
      refine range1_int ?_
      unfold rngOk
      have : -(2 ^ 62) ≤ (zs.length : Int) - 1 ∧ (zs.length : Int) - 1 < 2 ^ 62 := by omega
      exact decide_eq_true this
    · obtain ⟨z, hz, rfl⟩ := List.mem_map.mp hx
      obtain ⟨z0, z1⟩ := mem_rng.mp hz
      have i1 : z.toNat < zs.length := by omega
      have i2 : z.toNat + 1 < zs.length := by omega
      have a1 : atI (iL zs) z = some (.int zs[z.toNat]) := atI_nat z0 (by rw [List.getElem?_map, List.getElem?_eq_getElem i1]; rfl)
      have a2 : atI (iL zs) (z + 1) = some (.int zs[z.toNat + 1]) := atI_nat (by omega) (by rw [show (z + 1).toNat = z.toNat + 1 by omega, List.getElem?_map, List.getElem?_eq_getElem i2]; rfl)
      have lt : zs[z.toNat] < zs[z.toNat + 1] := (List.pairwise_iff_getElem.mp h.asc) _ _ i1 i2 (by omega)
      generalize zs[z.toNat] = u at a1 lt
      generalize zs[z.toNat + 1] = v at a2 lt
      simp [defM, start', seqM, iteM, andT, orT, notT, andV, orV, notV, tstM, truM, op2, un1, vM, cM, bd_ret, bd_no, toB, setM, nxM, retM, onA, consM, nilM, isi1, bigA, isiA, kindOf, isK, truthA, isA, sameN, lenA, tupA, lstA, mkTup, mkLst, callM, dropM, itOn, itSeq, seqA, addA, subA, iiM, asgM, tgT, tgCons, tgN, tgNil, lcF, wipeA, yesM, ixA, a1, a2, ltA_int, lt]
    · rw [List.length_map, rng_length]
      exact small_line (by omega)
  exact (onA_ret (consM_ret e rfl)).trans (allA_true _)
theorem truM_ret {m : ME'} {ρ : Env'} {b : Bool} (h : m ρ = ret (.bl b)) : truM m ρ = ret b := by
  unfold truM
  rw [bd_eq h]
  rfl
theorem notT_ret {t : Env' → M Bool} {ρ : Env'} {b : Bool} (h : t ρ = ret b) : notT t ρ = ret (!b) := by
  unfold notT
  rw [bd_eq h]
theorem notT_t {t : Env' → M Bool} {ρ : Env'} (h : t ρ = ret true) : notT t ρ = ret false := notT_ret h
theorem notT_f {t : Env' → M Bool} {ρ : Env'} (h : t ρ = ret false) : notT t ρ = ret true := notT_ret h
theorem orT_f {t u : Env' → M Bool} {ρ : Env'} (h : t ρ = ret false) : orT t u ρ = u ρ := by
  unfold orT
  rw [bd_eq h]
  rfl
theorem orT_t {t u : Env' → M Bool} {ρ : Env'} (h : t ρ = ret true) : orT t u ρ = ret true := by
  unfold orT
  rw [bd_eq h]
  rfl
theorem lot_ok {n : Int} {zs : List Int} (h : Lot n zs) (hn : n ≤ 1000) : g_is_lot [.int n, tupI zs] = ret (.bl true) :=
  defM_rt ((seqM_nx (ite_nx ((orT_f rfl).trans (notT_t (truM_ret (lot_inn h hn)))))).trans (retM_ret (lot_asc h hn)))
theorem saying_tup {n : Int} {w : A} {zs : List Int} (h : Lot n zs) (hn : n ≤ 1000) : g_need_saying [.int n, w, tupI zs] = ret (tupI zs) := by
  refine defM_rt ((seqM_nx (setM_ret ((ite_f rfl).trans rfl))).trans ((seqM_nx (ite_nx (notT_t (truM_ret ?_)))).trans (retM_ret rfl)))
  exact (callM_ret (as := [.int n, tupI zs]) rfl rfl).trans (lot_ok h hn)
theorem saying_lst {n : Int} {w : A} {zs : List Int} (h : Lot n zs) (hn : n ≤ 1000) : g_need_saying [.int n, w, lstI zs] = ret (tupI zs) := by
  refine defM_rt ((seqM_nx (setM_ret (a := tupI zs) ((ite_t rfl).trans rfl))).trans ((seqM_nx (ite_nx (notT_t (truM_ret ?_)))).trans (retM_ret rfl)))
  exact (callM_ret (as := [.int n, tupI zs]) rfl rfl).trans (lot_ok h hn)
/-- a saying as it is handed in: tuple or list -/
def SayA (a : A) (zs : List Int) : Prop := a = tupI zs ∨ a = lstI zs
theorem saying_ok {n : Int} {w a : A} {zs : List Int} (hs : SayA a zs) (h : Lot n zs) (hn : n ≤ 1000) : g_need_saying [.int n, w, a] = ret (tupI zs) := by
  rcases hs with rfl | rfl
  · exact saying_tup h hn
  · exact saying_lst h hn
/-! ### letters and worlds -/
theorem need_letters_ok {n : Int} (h1 : 1 ≤ n) (h2 : n ≤ 4) : g_need_letters [.int n] = ret .non := by
  have e : chn leA leA (cM (.int 1)) (vM 0) (cM (.int 4)) [some (.int n)] = ret (.bl true) := by simp [defM, start', seqM, iteM, andT, orT, notT, andV, orV, notV, tstM, truM, op2, un1, vM, cM, bd_ret, bd_no, toB, setM, nxM, retM, onA, consM, nilM, isi1, bigA, isiA, kindOf, isK, truthA, isA, sameN, lenA, tupA, lstA, mkTup, mkLst, callM, dropM, itOn, itSeq, seqA, addA, subA, iiM, asgM, tgT, tgCons, tgN, tgNil, chn, leA, h1, h2]
  unfold g_need_letters defM
  have e2 : seqM (iteM (orT (notT (truM (callM 1 g_is_whole (consM (vM 0) nilM)))) (notT (tstM (chn leA leA (cM (.int 1)) (vM 0) (cM (.int 4)))))) (raiseM 2 2 (consM (cM (.str "letters")) (consM (vM 0) nilM))) nxM) nxM (start' 1 [.int n]) = ret (.nx [some (.int n)]) := by
    refine (seqM_nx (ite_nx ((orT_f rfl).trans (notT_t ?_)))).trans rfl
    show bd (chn leA leA (cM (.int 1)) (vM 0) (cM (.int 4)) [some (.int n)]) toB = _
    rw [bd_eq e]
    rfl
  rw [bd_eq e2]
def two (n : Int) : Int := 2 ^ n.toNat
theorem two_le {n : Int} (h2 : n ≤ 4) : two n ≤ 16 := by
  unfold two
  have : n.toNat ≤ 4 := by omega
  have h : n.toNat = 0 ∨ n.toNat = 1 ∨ n.toNat = 2 ∨ n.toNat = 3 ∨ n.toNat = 4 := by omega
  rcases h with h | h | h | h | h <;> rw [h] <;> decide
theorem many_worlds_ok {n : Int} (h1 : 1 ≤ n) (h2 : n ≤ 4) : g_many_worlds [.int n] = ret (.int (two n)) := by
  have h : n = 1 ∨ n = 2 ∨ n = 3 ∨ n = 4 := by omega
  rcases h with rfl | rfl | rfl | rfl <;> rfl
theorem letters_saying_ok {n : Int} {w a : A} {zs : List Int} (h1 : 1 ≤ n) (h2 : n ≤ 4) (hs : SayA a zs) (h : Lot (two n) zs) : g_need_letters_saying [w, a, .int n] = ret (tupI zs) := by
  have e1 : callM 1 g_need_letters (consM (vM 2) nilM) [some w, some a, some (.int n)] = ret .non := (callM_ret (as := [.int n]) rfl rfl).trans (need_letters_ok h1 h2)
  have e2 : callM 1 g_many_worlds (consM (vM 2) nilM) [some w, some a, some (.int n)] = ret (.int (two n)) := (callM_ret (as := [.int n]) rfl rfl).trans (many_worlds_ok h1 h2)
  refine defM_rt ((seqM_nx (ρ' := [some w, some a, some (.int n)]) ?_).trans (retM_ret ?_))
  · show bd (callM 1 g_need_letters (consM (vM 2) nilM) [some w, some a, some (.int n)]) _ = _
    rw [bd_eq e1]
    rfl
  · exact (callM_ret (as := [.int (two n), w, a]) (consM_ret e2 rfl) rfl).trans (saying_ok hs h (by have := two_le h2; omega))
theorem filt {P : Int → Bool} {n : Int} {zs : List Int} (h : Lot n zs) : Lot n (zs.filter P) := List.filter_sublist.trans h
theorem rngW {n : Int} (h0 : -10 ≤ n) (h : n < 1000000) : range1A [.int n] = ret (iL (rng n)) := by
  refine range1_int ?_
  unfold rngOk
  have : -(2 ^ 62) ≤ n ∧ n < 2 ^ 62 := by omega
  exact decide_eq_true this
theorem others_ok {n : Int} {zs : List Int} (h1 : 1 ≤ n) (h2 : n ≤ 4) : g_others_by [tupI zs, .int n] = ret (tupI ((rng (two n)).filter fun x => !decide (x ∈ zs))) := by
  have e2 : callM 1 g_many_worlds (consM (vM 1) nilM) [some (tupI zs), some (.int n), none, none] = ret (.int (two n)) := (callM_ret (as := [.int n]) rfl rfl).trans (many_worlds_ok h1 h2)
  have t := two_le h2
  have t0 : 0 ≤ two n := Int.pow_nonneg (by omega)
  refine defM_rt (retM_ret ((onA_ret (consM_ret (lcM_filter (ns := rng (two n)) (fun x => !decide (x ∈ zs)) ?_ (fun x hx => ?_) ?_) rfl)).trans rfl))
  · exact (itOn_ret (consM_ret e2 rfl)).trans (rngW (by omega) (by omega))
  · by_cases c : x ∈ zs
    · have e := notInA_tI x zs
      rw [decide_eq_true c] at e
      simp [defM, start', seqM, iteM, andT, orT, notT, andV, orV, notV, tstM, truM, op2, un1, vM, cM, bd_ret, bd_no, toB, setM, nxM, retM, onA, consM, nilM, isi1, bigA, isiA, kindOf, isK, truthA, isA, sameN, lenA, tupA, lstA, mkTup, mkLst, callM, dropM, itOn, itSeq, seqA, addA, subA, iiM, asgM, tgT, tgCons, tgN, tgNil, lcF, wipeA, e, c]
    · have e := notInA_tI x zs
      rw [decide_eq_false c] at e
      simp [defM, start', seqM, iteM, andT, orT, notT, andV, orV, notV, tstM, truM, op2, un1, vM, cM, bd_ret, bd_no, toB, setM, nxM, retM, onA, consM, nilM, isi1, bigA, isiA, kindOf, isK, truthA, isA, sameN, lenA, tupA, lstA, mkTup, mkLst, callM, dropM, itOn, itSeq, seqA, addA, subA, iiM, asgM, tgT, tgCons, tgN, tgNil, lcF, wipeA, e, c]
  · rw [rng_length]; exact small_line (by omega)
theorem other_worlds_ok {n : Int} {a : A} {zs : List Int} (h1 : 1 ≤ n) (h2 : n ≤ 4) (hs : SayA a zs) (h : Lot (two n) zs) : g_other_worlds [a, .int n] = ret (tupI ((rng (two n)).filter fun x => !decide (x ∈ zs))) := by
  have e1 : callM 3 g_need_letters_saying (consM (cM (.str "saying")) (consM (vM 0) (consM (vM 1) nilM))) [some a, some (.int n)] = ret (tupI zs) := (callM_ret (as := [.str "saying", a, .int n]) rfl rfl).trans (letters_saying_ok h1 h2 hs h)
  exact defM_rt (retM_ret ((callM_ret (as := [tupI zs, .int n]) (consM_ret e1 rfl) rfl).trans (others_ok h1 h2)))
theorem two_sayings_ok {n : Int} {a b : A} {zs ys : List Int} (h1 : 1 ≤ n) (h2 : n ≤ 4) (ha : SayA a zs) (hz : Lot (two n) zs) (hb : SayA b ys) (hy : Lot (two n) ys) : g_need_two_sayings [a, b, .int n] = ret (.tup [tupI zs, tupI ys]) := by
  have e1 : callM 3 g_need_letters_saying (consM (cM (.str "one")) (consM (vM 0) (consM (vM 2) nilM))) [some a, some b, some (.int n)] = ret (tupI zs) := (callM_ret (as := [.str "one", a, .int n]) rfl rfl).trans (letters_saying_ok h1 h2 ha hz)
  have e2 : callM 3 g_need_letters_saying (consM (cM (.str "other")) (consM (vM 1) (consM (vM 2) nilM))) [some a, some b, some (.int n)] = ret (tupI ys) := (callM_ret (as := [.str "other", b, .int n]) rfl rfl).trans (letters_saying_ok h1 h2 hb hy)
  exact defM_rt (retM_ret ((onA_ret (as := [tupI zs, tupI ys]) (consM_ret e1 (consM_ret e2 rfl))).trans (mkTup_ret (small_line (show 2 ≤ 1000 by decide)))))
theorem asgM_ret {t : Tg} {m : ME'} {ρ ρ' : Env'} {a : A} (h : m ρ = ret a) (ht : t a ρ = some ρ') : asgM t m ρ = ret (.nx ρ') := by
  unfold asgM
  rw [bd_eq h, ht]
theorem both_ok {n : Int} {a b : A} {zs ys : List Int} (h1 : 1 ≤ n) (h2 : n ≤ 4) (ha : SayA a zs) (hz : Lot (two n) zs) (hb : SayA b ys) (hy : Lot (two n) ys) : g_both_so [a, b, .int n] = ret (tupI (zs.filter fun x => decide (x ∈ ys))) := by
  have e1 : callM 3 g_need_two_sayings (consM (vM 0) (consM (vM 1) (consM (vM 2) nilM))) (start' 7 [a, b, .int n]) = ret (.tup [tupI zs, tupI ys]) := (callM_ret (as := [a, b, .int n]) rfl rfl).trans (two_sayings_ok h1 h2 ha hz hb hy)
  have t := two_le h2
  refine defM_rt ((seqM_nx (asgM_ret (ρ' := [some a, some b, some (.int n), some (tupI zs), some (tupI ys), none, none]) e1 rfl)).trans (retM_ret ((onA_ret (consM_ret (lcM_filter (ns := zs) (fun x => decide (x ∈ ys)) rfl (fun x hx => ?_) (small_line (hz.len (by omega)))) rfl)).trans rfl)))
  by_cases c : x ∈ ys
  · have e := inA_tI x ys
    rw [decide_eq_true c] at e
    simp [defM, start', seqM, iteM, andT, orT, notT, andV, orV, notV, tstM, truM, op2, un1, vM, cM, bd_ret, bd_no, toB, setM, nxM, retM, onA, consM, nilM, isi1, bigA, isiA, kindOf, isK, truthA, isA, sameN, lenA, tupA, lstA, mkTup, mkLst, callM, dropM, itOn, itSeq, seqA, addA, subA, iiM, asgM, tgT, tgCons, tgN, tgNil, lcF, wipeA, e, c]
  · have e := inA_tI x ys
    rw [decide_eq_false c] at e
    simp [defM, start', seqM, iteM, andT, orT, notT, andV, orV, notV, tstM, truM, op2, un1, vM, cM, bd_ret, bd_no, toB, setM, nxM, retM, onA, consM, nilM, isi1, bigA, isiA, kindOf, isK, truthA, isA, sameN, lenA, tupA, lstA, mkTup, mkLst, callM, dropM, itOn, itSeq, seqA, addA, subA, iiM, asgM, tgT, tgCons, tgN, tgNil, lcF, wipeA, e, c]
theorem some_ok {n : Int} {a b : A} {zs ys : List Int} (h1 : 1 ≤ n) (h2 : n ≤ 4) (ha : SayA a zs) (hz : Lot (two n) zs) (hb : SayA b ys) (hy : Lot (two n) ys) : g_some_so [a, b, .int n] = ret (tupI ((rng (two n)).filter fun x => decide (x ∈ zs) || decide (x ∈ ys))) := by
  have e1 : callM 3 g_need_two_sayings (consM (vM 0) (consM (vM 1) (consM (vM 2) nilM))) (start' 7 [a, b, .int n]) = ret (.tup [tupI zs, tupI ys]) := (callM_ret (as := [a, b, .int n]) rfl rfl).trans (two_sayings_ok h1 h2 ha hz hb hy)
  have t := two_le h2
  have t0 : 0 ≤ two n := Int.pow_nonneg (by omega)
  have e2 : callM 1 g_many_worlds (consM (vM 2) nilM) [some a, some b, some (.int n), some (tupI zs), some (tupI ys), none, none] = ret (.int (two n)) := (callM_ret (as := [.int n]) rfl rfl).trans (many_worlds_ok h1 h2)
  refine defM_rt ((seqM_nx (asgM_ret (ρ' := [some a, some b, some (.int n), some (tupI zs), some (tupI ys), none, none]) e1 rfl)).trans (retM_ret ((onA_ret (consM_ret (lcM_filter (ns := rng (two n)) (fun x => decide (x ∈ zs) || decide (x ∈ ys)) ?_ (fun x hx => ?_) ?_) rfl)).trans rfl)))
  · exact (itOn_ret (consM_ret e2 rfl)).trans (rngW (by omega) (by omega))
  · have e := inA_tI x ys
    have e' := inA_tI x zs
    by_cases c' : x ∈ zs <;> by_cases c : x ∈ ys
    all_goals
      simp only [c, c', decide_true, decide_false] at e e'
      simp [defM, start', seqM, iteM, andT, orT, notT, andV, orV, notV, tstM, truM, op2, un1, vM, cM, bd_ret, bd_no, toB, setM, nxM, retM, onA, consM, nilM, isi1, bigA, isiA, kindOf, isK, truthA, isA, sameN, lenA, tupA, lstA, mkTup, mkLst, callM, dropM, itOn, itSeq, seqA, addA, subA, iiM, asgM, tgT, tgCons, tgN, tgNil, lcF, wipeA, e, e', c, c']
  · rw [rng_length]; exact small_line (by omega)
theorem within_by_ok {zs ys : List Int} (hl : zs.length ≤ 1000) : g_within_by [tupI zs, tupI ys] = ret (.bl (zs.all fun x => decide (x ∈ ys))) := by
  have e : lcM (itSeq (vM 0)) (tgN 3) yesM (op2 inA (vM 3) (vM 1)) [2, 3] [some (tupI zs), some (tupI ys), none, none] = ret (.lst ((iL zs).map fun a => match a with | .int x => .bl (decide (x ∈ ys)) | _ => .non)) := by
    refine lcM_map _ rfl (fun x hx => ?_) (by rw [List.length_map]; exact small_line hl)
    obtain ⟨z, hz, rfl⟩ := List.mem_map.mp hx
    have e := inA_tI z ys
    simp [defM, start', seqM, iteM, andT, orT, notT, andV, orV, notV, tstM, truM, op2, un1, vM, cM, bd_ret, bd_no, toB, setM, nxM, retM, onA, consM, nilM, isi1, bigA, isiA, kindOf, isK, truthA, isA, sameN, lenA, tupA, lstA, mkTup, mkLst, callM, dropM, itOn, itSeq, seqA, addA, subA, iiM, asgM, tgT, tgCons, tgN, tgNil, lcF, wipeA, yesM, e]
  refine defM_rt (retM_ret ((onA_ret (consM_ret e rfl)).trans ?_))
  have e2 : ((iL zs).map fun a => match a with | .int x => A.bl (decide (x ∈ ys)) | _ => .non) = (zs.map fun x => decide (x ∈ ys)).map A.bl := by
    unfold iL
    rw [List.map_map, List.map_map]
    rfl
  rw [e2, allA_bls, List.all_map]
  rfl
theorem within_ok {n : Int} {a b : A} {zs ys : List Int} (h1 : 1 ≤ n) (h2 : n ≤ 4) (ha : SayA a zs) (hz : Lot (two n) zs) (hb : SayA b ys) (hy : Lot (two n) ys) : g_is_within [a, b, .int n] = ret (.bl (zs.all fun x => decide (x ∈ ys))) := by
  have e1 : callM 3 g_need_two_sayings (consM (vM 0) (consM (vM 1) (consM (vM 2) nilM))) (start' 5 [a, b, .int n]) = ret (.tup [tupI zs, tupI ys]) := (callM_ret (as := [a, b, .int n]) rfl rfl).trans (two_sayings_ok h1 h2 ha hz hb hy)
  have t := two_le h2
  exact defM_rt ((seqM_nx (asgM_ret (ρ' := [some a, some b, some (.int n), some (tupI zs), some (tupI ys)]) e1 rfl)).trans (retM_ret ((callM_ret (as := [tupI zs, tupI ys]) rfl rfl).trans (within_by_ok (hz.len (by omega))))))
end Mir

/-! Pl5: sorted, each once. -/
namespace Mir
open PySem L2
theorem asc_ext : ∀ {xs ys : List Int}, xs.Pairwise (· < ·) → ys.Pairwise (· < ·) → (∀ z, z ∈ xs ↔ z ∈ ys) → xs = ys
  | [], [], _, _, _ => rfl
  | [], y :: ys, _, _, h => absurd ((h y).mpr List.mem_cons_self) (by simp)
  | x :: xs, [], _, _, h => absurd ((h x).mp List.mem_cons_self) (by simp)
  | x :: xs, y :: ys, hx, hy, h => by
    obtain ⟨x1, x2⟩ := List.pairwise_cons.mp hx
    obtain ⟨y1, y2⟩ := List.pairwise_cons.mp hy
    have e : x = y := by
      rcases List.mem_cons.mp ((h x).mp List.mem_cons_self) with e | e
      · exact e
      · rcases List.mem_cons.mp ((h y).mpr List.mem_cons_self) with f | f
        · exact f.symm
        · have := x1 _ f; have := y1 _ e; omega
    subst e
    rw [asc_ext x2 y2 fun z => ⟨fun m => ?_, fun m => ?_⟩]
    · rcases List.mem_cons.mp ((h z).mp (List.mem_cons_of_mem _ m)) with e | e
      · have := x1 _ m; omega
      · exact e
    · rcases List.mem_cons.mp ((h z).mpr (List.mem_cons_of_mem _ m)) with e | e
      · have := y1 _ m; omega
      · exact e
def srt (ws : List Int) : List Int := ws.mergeSort fun a b => decide (a ≤ b)
theorem srt_perm (ws : List Int) : (srt ws).Perm ws := List.mergeSort_perm _ _
theorem srt_asc (ws : List Int) : (srt ws).Pairwise (· ≤ ·) := by
  have := List.pairwise_mergeSort (le := fun a b : Int => decide (a ≤ b)) (fun a b c h1 h2 => by simp at *; omega) (fun a b => by simp; omega) ws
  exact this.imp fun h => by simpa using h
theorem sortL_ints {ws : List Int} (hl : ws.length ≤ 5000) : sortL (iL ws) = ret (lstI (srt ws)) := by
  unfold sortL
  rw [toPys_iL]
  have h1 : alikeB (ws.map PyData.int) = true := by
    unfold alikeB
    simp only [List.all_map, List.all_eq_true, Function.comp]
    intro a _ b _
    rfl
  have h2 : sortB (ws.map PyData.int) = true := by
    unfold sortB
    rw [Bool.or_eq_true]
    right
    simp only [List.all_map, List.all_eq_true, Function.comp]
    intro a _
    trivial
  have h3 : (iL ws).length ≤ sizeLine := by rw [List.length_map, sizeLine_eq]; omega
  have h4 : ∀ d ∈ ws.map PyData.int, d.depth ≤ 60 := fun d hd => by
    obtain ⟨w, _, rfl⟩ := List.mem_map.mp hd
    show 0 ≤ 60
    omega
  dsimp only
  rw [if_pos ⟨h1, h2, h3, h4⟩]
  have e : iL (srt ws) = (iL ws).mergeSort (PySem.W.dataLe false encA) := by
    unfold iL srt
    refine List.map_mergeSort fun a _ b _ => ?_
    exact (congrFun (congrFun (PySem.W.dataLe_int (fun x : Int => x)) a) b).symm
  rw [← e]
/-- each once -/
def keepAt (L : List Int) (i : Int) : Bool := decide (i = 0) || decide (L[i.toNat]? ≠ L[(i - 1).toNat]?)
def once (L : List Int) : List Int := (rng L.length).filterMap fun i => if keepAt L i then L[i.toNat]? else none
theorem once_mem {L : List Int} {v : Int} : v ∈ once L ↔ v ∈ L := by
  unfold once
  rw [List.mem_filterMap]
  constructor
  · rintro ⟨i, _, h⟩
    split at h
    · exact List.mem_of_getElem? h
    · cases h
  · intro h
    obtain ⟨k, hk⟩ := List.mem_iff_getElem?.mp h
    clear h
    induction k with
    | zero =>
      obtain ⟨c, _⟩ := List.getElem?_eq_some_iff.mp hk
      exact ⟨0, mem_rng.mpr ⟨by omega, by omega⟩, by rw [if_pos (by rfl)]; exact hk⟩
    | succ k ih =>
      by_cases e : L[k + 1]? = L[k]?
      · exact ih (e ▸ hk)
      · obtain ⟨c, _⟩ := List.getElem?_eq_some_iff.mp hk
        refine ⟨((k + 1 : Nat) : Int), mem_rng.mpr ⟨by omega, by omega⟩, ?_⟩
        rw [if_pos]
        · exact hk
        · unfold keepAt
          rw [Bool.or_eq_true]
          right
          rw [show (((k + 1 : Nat) : Int) - 1).toNat = k by omega]
          exact decide_eq_true e
theorem once_asc {L : List Int} (h : L.Pairwise (· ≤ ·)) : (once L).Pairwise (· < ·) := by
  unfold once
  rw [List.pairwise_filterMap]
  refine (rng_sorted L.length).imp_of_mem ?_
  intro i j hi hj hij a ha b hb
  obtain ⟨i0, i1⟩ := mem_rng.mp hi
  obtain ⟨j0, j1⟩ := mem_rng.mp hj
  split at ha
  · split at hb
    · rename_i k1 k2
      have h1 : i.toNat < L.length := by omega
      have h2 : j.toNat < L.length := by omega
      have h3 : (j - 1).toNat < L.length := by omega
      unfold keepAt at k2
      rw [Bool.or_eq_true] at k2
      rcases k2 with k2 | k2
      · have := of_decide_eq_true k2; omega
      · replace k2 := of_decide_eq_true k2
        rw [List.getElem?_eq_getElem h2, List.getElem?_eq_getElem h3] at k2
        rw [List.getElem?_eq_getElem h1] at ha
        rw [List.getElem?_eq_getElem h2] at hb
        cases ha
        cases hb
        have s := List.pairwise_iff_getElem.mp h
        have le2 := s _ _ h3 h2 (by omega)
        have ne : L[j.toNat] ≠ L[(j - 1).toNat] := fun z => k2 (by rw [z])
        by_cases q : i.toNat = (j - 1).toNat
        · have : L[i.toNat] = L[(j - 1).toNat] := by congr 1
          omega
        · have le1 := s _ _ h1 h3 (by omega)
          omega
    · cases hb
  · cases ha
def onceG (L : List Int) : A → Option A := fun a => match a with
  | .int i => if keepAt L i then (L[i.toNat]?).map A.int else none
  | _ => none
theorem onceG_once (L : List Int) : ∀ ns : List Int, (iL ns).filterMap (onceG L) = iL (ns.filterMap fun i => if keepAt L i then L[i.toNat]? else none)
  | [] => rfl
  | n :: ns => by
    have ih := onceG_once L ns
    unfold iL at ih ⊢
    rw [List.map_cons, List.filterMap_cons, List.filterMap_cons, ih]
    by_cases k : keepAt L n = true
    · rw [show onceG L (.int n) = (L[n.toNat]?).map A.int from if_pos k, if_pos k]
      cases L[n.toNat]? <;> rfl
    · rw [show onceG L (.int n) = none from if_neg k, if_neg k]
theorem unlike_step {L : List Int} {w : A} {x : Int} (x0 : 0 ≤ x) (x1 : x < L.length) : lcF (tgN 3) (orT (tstM (op2 eqA (vM 3) (cM (.int 0)))) (tstM (op2 neA (op2 ixA (vM 1) (vM 3)) (op2 ixA (vM 1) (op2 subA (vM 3) (cM (.int 1))))))) (op2 ixA (vM 1) (vM 3)) (wipeA [some w, some (lstI L), none, none] [2, 3]) (.int x) = ret (onceG L (.int x)) := by
  have i1 : x.toNat < L.length := by omega
  have a1 : atI (iL L) x = some (.int L[x.toNat]) := atI_nat x0 (by rw [List.getElem?_map, List.getElem?_eq_getElem i1]; rfl)
  show _ = ret (if keepAt L x then (L[x.toNat]?).map A.int else none)
  rw [List.getElem?_eq_getElem i1]
  unfold keepAt
  rw [List.getElem?_eq_getElem i1]
  by_cases c : x = 0
  · subst c
    generalize L[(0 : Int).toNat] = u at a1
    simp [defM, start', seqM, iteM, andT, orT, notT, andV, orV, notV, tstM, truM, op2, un1, vM, cM, bd_ret, bd_no, toB, setM, nxM, retM, onA, consM, nilM, isi1, bigA, isiA, kindOf, isK, truthA, isA, sameN, lenA, tupA, lstA, mkTup, mkLst, callM, dropM, itOn, itSeq, seqA, addA, subA, iiM, asgM, tgT, tgCons, tgN, tgNil, lcF, wipeA, ixA, a1, eqA_int]
  · have i2 : (x - 1).toNat < L.length := by omega
    have a2 : atI (iL L) (x - 1) = some (.int L[(x - 1).toNat]) := atI_nat (by omega) (by rw [List.getElem?_map, List.getElem?_eq_getElem i2]; rfl)
    rw [List.getElem?_eq_getElem i2]
    generalize L[x.toNat] = u at a1
    generalize L[(x - 1).toNat] = v at a2
    by_cases d : u = v
    · simp [defM, start', seqM, iteM, andT, orT, notT, andV, orV, notV, tstM, truM, op2, un1, vM, cM, bd_ret, bd_no, toB, setM, nxM, retM, onA, consM, nilM, isi1, bigA, isiA, kindOf, isK, truthA, isA, sameN, lenA, tupA, lstA, mkTup, mkLst, callM, dropM, itOn, itSeq, seqA, addA, subA, iiM, asgM, tgT, tgCons, tgN, tgNil, lcF, wipeA, ixA, a1, a2, eqA_int, neA_int, c, d]
    · simp [defM, start', seqM, iteM, andT, orT, notT, andV, orV, notV, tstM, truM, op2, un1, vM, cM, bd_ret, bd_no, toB, setM, nxM, retM, onA, consM, nilM, isi1, bigA, isiA, kindOf, isK, truthA, isA, sameN, lenA, tupA, lstA, mkTup, mkLst, callM, dropM, itOn, itSeq, seqA, addA, subA, iiM, asgM, tgT, tgCons, tgN, tgNil, lcF, wipeA, ixA, a1, a2, eqA_int, neA_int, c, d]
theorem unlike_ok {ws : List Int} (hl : ws.length ≤ 1000) : unlikeM [tupI ws] = ret (lstI (once (srt ws))) := by
  have hL : (srt ws).length = ws.length := (srt_perm ws).length_eq
  have e1 : onA sortA (consM (vM 0) nilM) (start' 4 [tupI ws]) = ret (lstI (srt ws)) := (onA_ret (as := [tupI ws]) rfl).trans (sortL_ints (by omega))
  refine defM_rt ((seqM_nx (setM_ret e1)).trans (retM_ret ?_))
  have e2 : itOn range1A (consM (onA lenA (consM (vM 1) nilM)) nilM) [some (tupI ws), some (lstI (srt ws)), none, none] = ret (iL (rng (srt ws).length)) := by
    have e : consM (onA lenA (consM (vM 1) nilM)) nilM [some (tupI ws), some (lstI (srt ws)), none, none] = ret [.int ((iL (srt ws)).length : Nat)] := rfl
    rw [itOn_ret e, List.length_map]
    exact rngW (by omega) (by omega)
  have e3 := lcM_ret (t := tgN 3) (c := orT (tstM (op2 eqA (vM 3) (cM (.int 0)))) (tstM (op2 neA (op2 ixA (vM 1) (vM 3)) (op2 ixA (vM 1) (op2 subA (vM 3) (cM (.int 1))))))) (e := op2 ixA (vM 1) (vM 3)) (vs := [2, 3]) (onceG (srt ws)) e2 (fun x hx => by
    obtain ⟨z, hz, rfl⟩ := List.mem_map.mp hx
    obtain ⟨z0, z1⟩ := mem_rng.mp hz
    exact unlike_step z0 z1) (by rw [List.length_map, rng_length]; exact small_line (by omega))
  rw [onceG_once] at e3
  exact e3
theorem unlike_or {n : Int} {zs ys : List Int} (hz : Lot n zs) (hy : Lot n ys) (hn : n ≤ 400) : unlikeM [tupI (zs ++ ys)] = ret (lstI ((rng n).filter fun x => decide (x ∈ zs) || decide (x ∈ ys))) := by
  have l1 := hz.length_le
  have l2 := hy.length_le
  rw [rng_length] at l1 l2
  rw [unlike_ok (by rw [List.length_append]; omega)]
  refine congrArg (fun l => ret (lstI l)) (asc_ext (once_asc (srt_asc _)) ((rng_sorted n).filter _) fun z => ?_)
  rw [once_mem, (srt_perm _).mem_iff, List.mem_append, List.mem_filter, Bool.or_eq_true, decide_eq_true_eq, decide_eq_true_eq]
  exact ⟨fun h => ⟨h.elim (fun h => hz.subset h) (fun h => hy.subset h), h⟩, fun h => h.2⟩
end Mir

/-! Pl6: what is refused. -/
namespace Mir
open PySem L2
def badN : List A := [.non, .int 0, .int 5, .bl true]
def oddsOf (w : Int) : List A := [.non, .int 5, .tup [.int 0, .int 0], .tup [.int w], .tup [.int 1, .int 0], .tup [.bl true], .str "0", .tup [.non]]
theorem letters_bad {b : A} {p : Pen} (h : b ∈ badN) : g_need_letters [b] p = .exc 2 [b, .str "letters"] p := by
  simp only [badN, List.mem_cons, List.not_mem_nil, or_false] at h
  rcases h with rfl | rfl | rfl | rfl <;> rfl
theorem lot_bad {n : Int} {b : A} (h1 : 1 ≤ n) (h2 : n ≤ 4) (h : b ∈ oddsOf (two n)) : g_is_lot [.int (two n), b] = ret (.bl false) := by
  have hn : n = 1 ∨ n = 2 ∨ n = 3 ∨ n = 4 := by omega
  simp only [oddsOf, List.mem_cons, List.not_mem_nil, or_false] at h
  rcases hn with rfl | rfl | rfl | rfl <;> rcases h with rfl | rfl | rfl | rfl | rfl | rfl | rfl | rfl <;> rfl
theorem saying_bad {n : Int} {w b : A} {p : Pen} (h1 : 1 ≤ n) (h2 : n ≤ 4) (h : b ∈ oddsOf (two n)) : g_need_saying [.int (two n), w, b] p = .exc 3 [b, w] p := by
  have e := lot_bad h1 h2 h
  have hi : truM (isi1 (.ty "list") (vM 2)) (start' 4 [.int (two n), w, b]) = ret false := by
    simp only [oddsOf, List.mem_cons, List.not_mem_nil, or_false] at h
    rcases h with rfl | rfl | rfl | rfl | rfl | rfl | rfl | rfl <;> rfl
  have e1 : callM 2 g_is_lot (consM (vM 0) (consM (vM 3) nilM)) [some (.int (two n)), some w, some b, some b] = ret (.bl false) := (callM_ret (as := [.int (two n), b]) rfl rfl).trans e
  have e2 : (iteM (notT (truM (callM 2 g_is_lot (consM (vM 0) (consM (vM 3) nilM))))) (raiseM 3 2 (consM (vM 1) (consM (vM 2) nilM))) nxM) [some (.int (two n)), some w, some b, some b] = (raiseM 3 2 (consM (vM 1) (consM (vM 2) nilM))) [some (.int (two n)), some w, some b, some b] := ite_t (notT_f (truM_ret e1))
  have e3 : setM 3 (iteM (truM (isi1 (.ty "list") (vM 2))) (onA tupA (consM (vM 2) nilM)) (vM 2)) (start' 4 [.int (two n), w, b]) = ret (.nx [some (.int (two n)), some w, some b, some b]) := setM_ret ((ite_f hi).trans rfl)
  unfold g_need_saying defM
  refine bd_exc ?_
  rw [seqM_nx e3]
  refine bd_exc ?_
  rw [e2]
  rfl
theorem callM_exc {n : Nat} {m : List A → M A} {ms : Env' → M (List A)} {ρ : Env'} {as : List A} {p p' : Pen} {c : Nat} {fs : List A} (h : ms ρ = ret as) (hn : as.length = n) (e : m as p = .exc c fs p') : callM n m ms ρ p = .exc c fs p' := by
  rw [callM_ret h hn, e]
/-- letters are looked at first -/
theorem letters_saying_badN {w a b : A} {p : Pen} (h : b ∈ badN) : g_need_letters_saying [w, a, b] p = .exc 2 [b, .str "letters"] p := by
  unfold g_need_letters_saying defM
  refine bd_exc (bd_exc (bd_exc ?_))
  exact callM_exc (as := [b]) rfl rfl (letters_bad h)
theorem letters_saying_bad {n : Int} {w b : A} {p : Pen} (h1 : 1 ≤ n) (h2 : n ≤ 4) (h : b ∈ oddsOf (two n)) : g_need_letters_saying [w, b, .int n] p = .exc 3 [b, w] p := by
  have e1 : callM 1 g_need_letters (consM (vM 2) nilM) [some w, some b, some (.int n)] = ret .non := (callM_ret (as := [.int n]) rfl rfl).trans (need_letters_ok h1 h2)
  have e2 : callM 1 g_many_worlds (consM (vM 2) nilM) [some w, some b, some (.int n)] = ret (.int (two n)) := (callM_ret (as := [.int n]) rfl rfl).trans (many_worlds_ok h1 h2)
  have e3 : dropM (callM 1 g_need_letters (consM (vM 2) nilM)) (start' 3 [w, b, .int n]) = ret (.nx [some w, some b, some (.int n)]) := by
    show bd (callM 1 g_need_letters (consM (vM 2) nilM) [some w, some b, some (.int n)]) _ = _
    rw [bd_eq e1]
    rfl
  unfold g_need_letters_saying defM
  refine bd_exc ?_
  rw [seqM_nx e3]
  refine bd_exc ?_
  exact callM_exc (as := [.int (two n), w, b]) (consM_ret e2 rfl) rfl (saying_bad h1 h2 h)
theorem bd_exc2 {α β : Type} {m : M α} {f : α → M β} {p : Pen} {c : Nat} {fs : List A} (h : m p = .exc c fs p) : bd m f p = .exc c fs p := bd_exc h
theorem two_badN {a b d : A} {p : Pen} (h : d ∈ badN) : g_need_two_sayings [a, b, d] p = .exc 2 [d, .str "letters"] p := by
  unfold g_need_two_sayings defM
  refine bd_exc (bd_exc (bd_exc (bd_exc ?_)))
  exact callM_exc (as := [.str "one", a, d]) rfl rfl (letters_saying_badN h)
theorem two_bad1 {n : Int} {a b : A} {p : Pen} (h1 : 1 ≤ n) (h2 : n ≤ 4) (h : a ∈ oddsOf (two n)) : g_need_two_sayings [a, b, .int n] p = .exc 3 [a, .str "one"] p := by
  unfold g_need_two_sayings defM
  refine bd_exc (bd_exc (bd_exc (bd_exc ?_)))
  exact callM_exc (as := [.str "one", a, .int n]) rfl rfl (letters_saying_bad h1 h2 h)
theorem two_bad2 {n : Int} {a b : A} {zs : List Int} {p : Pen} (h1 : 1 ≤ n) (h2 : n ≤ 4) (ha : SayA a zs) (hz : Lot (two n) zs) (h : b ∈ oddsOf (two n)) : g_need_two_sayings [a, b, .int n] p = .exc 3 [b, .str "other"] p := by
  have e1 : callM 3 g_need_letters_saying (consM (cM (.str "one")) (consM (vM 0) (consM (vM 2) nilM))) [some a, some b, some (.int n)] = ret (tupI zs) := (callM_ret (as := [.str "one", a, .int n]) rfl rfl).trans (letters_saying_ok h1 h2 ha hz)
  have e2 : callM 3 g_need_letters_saying (consM (cM (.str "other")) (consM (vM 1) (consM (vM 2) nilM))) [some a, some b, some (.int n)] p = .exc 3 [b, .str "other"] p := callM_exc (as := [.str "other", b, .int n]) rfl rfl (letters_saying_bad h1 h2 h)
  unfold g_need_two_sayings defM
  refine bd_exc (bd_exc (bd_exc ?_))
  show bd (callM 3 g_need_letters_saying (consM (cM (.str "one")) (consM (vM 0) (consM (vM 2) nilM))) [some a, some b, some (.int n)]) _ p = _
  rw [bd_eq e1]
  exact bd_exc (bd_exc e2)
theorem other_badN {a d : A} {p : Pen} (h : d ∈ badN) : g_other_worlds [a, d] p = .exc 2 [d, .str "letters"] p := by
  unfold g_other_worlds defM
  refine bd_exc (bd_exc (bd_exc (bd_exc ?_)))
  exact callM_exc (as := [.str "saying", a, d]) rfl rfl (letters_saying_badN h)
theorem other_bad {n : Int} {a : A} {p : Pen} (h1 : 1 ≤ n) (h2 : n ≤ 4) (h : a ∈ oddsOf (two n)) : g_other_worlds [a, .int n] p = .exc 3 [a, .str "saying"] p := by
  unfold g_other_worlds defM
  refine bd_exc (bd_exc (bd_exc (bd_exc ?_)))
  exact callM_exc (as := [.str "saying", a, .int n]) rfl rfl (letters_saying_bad h1 h2 h)
theorem both_exc {a b d : A} {p : Pen} {c : Nat} {fs : List A} (h : g_need_two_sayings [a, b, d] p = .exc c fs p) : g_both_so [a, b, d] p = .exc c fs p := by
  unfold g_both_so defM
  refine bd_exc (bd_exc (bd_exc ?_))
  exact callM_exc (as := [a, b, d]) rfl rfl h
theorem some_exc {a b d : A} {p : Pen} {c : Nat} {fs : List A} (h : g_need_two_sayings [a, b, d] p = .exc c fs p) : g_some_so [a, b, d] p = .exc c fs p := by
  unfold g_some_so defM
  refine bd_exc (bd_exc (bd_exc ?_))
  exact callM_exc (as := [a, b, d]) rfl rfl h
theorem within_exc {a b d : A} {p : Pen} {c : Nat} {fs : List A} (h : g_need_two_sayings [a, b, d] p = .exc c fs p) : g_is_within [a, b, d] p = .exc c fs p := by
  unfold g_is_within defM
  refine bd_exc (bd_exc (bd_exc ?_))
  exact callM_exc (as := [a, b, d]) rfl rfl h
end Mir

/-! Pl7: errors told alike. -/
namespace Mir
open PySem L2
theorem ne_self {a : A} {d : PyData} (h : toPy a = some d) (hs : SeqAt.shaped d = true) : neA a a = ret (.bl false) := by
  have hc : d.canLay0 = true := by
    unfold SeqAt.shaped at hs
    rw [Bool.and_eq_true] at hs
    exact hs.1
  have e : eqO a a = some true := by
    unfold eqO
    rw [h]
    dsimp only
    rw [hs]
    simp only [Bool.and_self, if_true, PySem.SeqAt.eqv_refl d hc]
  unfold neA
  rw [e]
  rfl
def repOk (d : PyData) : Bool := d.showable && !d.hasDict && decide (d.depth ≤ 60) && decide (d.shown.length ≤ 100000) && SeqAt.shaped (.str d.shown)
theorem rep_ok {b : A} {d : PyData} (h : toPy b = some d) (hk : repOk d = true) : ∃ s, reprA [b] = ret (.str s) ∧ neA (.str s) (.str s) = ret (.bl false) := by
  unfold repOk at hk
  simp only [Bool.and_eq_true, decide_eq_true_eq, Bool.not_eq_true'] at hk
  obtain ⟨⟨⟨⟨h1, h2⟩, h3⟩, h4⟩, h5⟩ := hk
  refine ⟨d.shown, ?_, ne_self (d := .str d.shown) rfl h5⟩
  unfold reprA
  dsimp only
  rw [h]
  exact if_pos ⟨h1, h2, h3, Nat.le_trans h4 (Nat.le_trans (show 100000 ≤ 16777216 by decide) (Nat.le_of_eq sizeLine_eq.symm))⟩
def condM : Env' → M Bool := (orT (tstM (op2 neA (cutM (vM 3) noP (someP (un1 negA (cM (.int 1))))) (cutM (vM 2) noP (someP (un1 negA (cM (.int 1))))))) (tstM (op2 neA (onA reprA (consM (op2 ixA (vM 3) (un1 negA (cM (.int 1)))) nilM)) (onA reprA (consM (op2 ixA (vM 2) (un1 negA (cM (.int 1)))) nilM)))))
theorem tstM_ret {m : ME'} {ρ : Env'} {b : Bool} (h : m ρ = ret (.bl b)) : tstM m ρ = ret b := by
  unfold tstM
  rw [bd_eq h]
  rfl
theorem cond_of {b : A} {d : PyData} {k w : Str} {x y : Option A} (h : toPy b = some d) (hk : repOk d = true) (hs : SeqAt.shaped (.tuple [.str k, .str w]) = true) : condM [x, y, some (.tup [.str k, .str w, b]), some (.tup [.str k, .str w, b])] = ret false := by
  obtain ⟨s, e1, e2⟩ := rep_ok h hk
  have c2 : cutM (vM 2) noP (someP (un1 negA (cM (.int 1)))) [x, y, some (.tup [.str k, .str w, b]), some (.tup [.str k, .str w, b])] = ret (.tup [.str k, .str w]) := rfl
  have c3 : cutM (vM 3) noP (someP (un1 negA (cM (.int 1)))) [x, y, some (.tup [.str k, .str w, b]), some (.tup [.str k, .str w, b])] = ret (.tup [.str k, .str w]) := rfl
  have r2 : onA reprA (consM (op2 ixA (vM 2) (un1 negA (cM (.int 1)))) nilM) [x, y, some (.tup [.str k, .str w, b]), some (.tup [.str k, .str w, b])] = ret (.str s) := (onA_ret (as := [b]) rfl).trans e1
  have r3 : onA reprA (consM (op2 ixA (vM 3) (un1 negA (cM (.int 1)))) nilM) [x, y, some (.tup [.str k, .str w, b]), some (.tup [.str k, .str w, b])] = ret (.str s) := (onA_ret (as := [b]) rfl).trans e1
  refine (orT_f (tstM_ret ((op2_ret c3 c2).trans (ne_self (d := .tuple [.str k, .str w]) rfl hs)))).trans ?_
  exact tstM_ret ((op2_ret r3 r2).trans e2)
theorem cond_num {b : A} {x y : Option A} (h : b ∈ badN) : condM [x, y, some (.tup [.str "number", .str "letters", b]), some (.tup [.str "number", .str "letters", b])] = ret false := by
  simp only [badN, List.mem_cons, List.not_mem_nil, or_false] at h
  rcases h with rfl | rfl | rfl | rfl <;> exact cond_of rfl (by decide +kernel) (by decide +kernel)
theorem cond_row {b : A} {w : Str} {x y : Option A} {n : Int} (h1 : 1 ≤ n) (h2 : n ≤ 4) (hw : w = "saying" ∨ w = "one" ∨ w = "other") (h : b ∈ oddsOf (two n)) : condM [x, y, some (.tup [.str "row", .str w, b]), some (.tup [.str "row", .str w, b])] = ret false := by
  have hs : SeqAt.shaped (.tuple [.str "row", .str w]) = true := by rcases hw with rfl | rfl | rfl <;> decide +kernel
  have hn : n = 1 ∨ n = 2 ∨ n = 3 ∨ n = 4 := by omega
  simp only [oddsOf, List.mem_cons, List.not_mem_nil, or_false] at h
  rcases hn with rfl | rfl | rfl | rfl <;> rcases h with rfl | rfl | rfl | rfl | rfl | rfl | rfl | rfl <;> exact cond_of rfl (by decide +kernel) hs
end Mir

/-! Pl8: sentences that laws draw, and whether they are so. -/
namespace Mir
open PySem L2
def soM : Nat → List A → M A
  | 0 => fun _ => no
  | n + 1 => defM 5 (seqM (iteM (tstM (op2 eqA (op2 ixA (vM 0) (cM (.int 0))) (cM (.str "letter")))) (retM (op2 eqA (op2 ixA (vM 1) (op2 ixA (vM 0) (cM (.int 1)))) (cM (.int 1)))) nxM) (seqM (iteM (tstM (op2 eqA (op2 ixA (vM 0) (cM (.int 0))) (cM (.str "not")))) (retM (notV (callM 2 (soM n) (consM (op2 ixA (vM 0) (cM (.int 1))) (consM (vM 1) nilM))))) nxM) (seqM (iteM (tstM (op2 eqA (op2 ixA (vM 0) (cM (.int 0))) (cM (.str "if")))) (retM (orV (notV (callM 2 (soM n) (consM (op2 ixA (vM 0) (cM (.int 1))) (consM (vM 1) nilM)))) (callM 2 (soM n) (consM (op2 ixA (vM 0) (cM (.int 2))) (consM (vM 1) nilM))))) nxM) (seqM (setM 2 (lcM (itSeq (op2 ixA (vM 0) (cM (.int 1)))) (tgN 4) yesM (callM 2 (soM n) (consM (vM 4) (consM (vM 1) nilM))) [3, 4])) (retM (iteM (tstM (op2 eqA (op2 ixA (vM 0) (cM (.int 0))) (cM (.str "and")))) (op2 notInA (cM (.bl false)) (vM 2)) (op2 inA (cM (.bl true)) (vM 2))))))))
def digitsM : List A → M A := defM 4 (seqM (setM 2 (onA mkTup nilM)) (seqM (forS (itOn range1A (consM (vM 1) nilM)) (tgN 3) (seqM (setM 2 (op2 addA (onA mkTup (consM (op2 modA (onA intA (consM (vM 0) nilM)) (cM (.int 2))) nilM)) (vM 2))) (seqM (setM 0 (op2 fdivA (onA intA (consM (vM 0) nilM)) (cM (.int 2)))) nxM))) (retM (vM 2))))
def sayingM : List A → M A := defM 4 (retM (onA tupA (consM (lcM (itOn range1A (consM (callM 1 worldsM (consM (vM 1) nilM)) nilM)) (tgN 3) (truM (callM 2 (soM 8) (consM (vM 0) (consM (callM 2 digitsM (consM (vM 3) (consM (vM 1) nilM))) nilM)))) (vM 3) [2, 3]) nilM)))
def drawnSM : Nat → List A → M A
  | 0 => fun _ => no
  | n + 1 => defM 7 (seqM (setM 3 (iteM (tstM (op2 gtA (vM 2) (cM (.int 1)))) (callM 2 drawM (consM (vM 0) (consM (cM (.int 7)) nilM))) (cM (.int 0)))) (seqM (iteM (tstM (op2 ltA (vM 3) (cM (.int 2)))) (retM (onA mkTup (consM (cM (.str "letter")) (consM (callM 2 drawM (consM (vM 0) (consM (vM 1) nilM))) nilM)))) nxM) (seqM (iteM (tstM (op2 eqA (vM 3) (cM (.int 2)))) (retM (onA mkTup (consM (cM (.str "not")) (consM (callM 3 (drawnSM n) (consM (vM 0) (consM (vM 1) (consM (op2 subA (vM 2) (cM (.int 1))) nilM)))) nilM)))) nxM) (seqM (iteM (tstM (op2 eqA (vM 3) (cM (.int 3)))) (retM (onA mkTup (consM (cM (.str "if")) (consM (callM 3 (drawnSM n) (consM (vM 0) (consM (vM 1) (consM (op2 subA (vM 2) (cM (.int 1))) nilM)))) (consM (callM 3 (drawnSM n) (consM (vM 0) (consM (vM 1) (consM (op2 subA (vM 2) (cM (.int 1))) nilM)))) nilM))))) nxM) (seqM (setM 4 (onA tupA (consM (lcM (itOn range1A (consM (callM 2 drawM (consM (vM 0) (consM (cM (.int 4)) nilM))) nilM)) (tgN 6) yesM (callM 3 (drawnSM n) (consM (vM 0) (consM (vM 1) (consM (op2 subA (vM 2) (cM (.int 1))) nilM)))) [5, 6]) nilM))) (retM (onA mkTup (consM (callM 2 pickM (consM (vM 0) (consM (onA mkLst (consM (cM (.str "and")) (consM (cM (.str "or")) nilM))) nilM))) (consM (vM 4) nilM)))))))))
/-- sentences -/
inductive Sn where
  | l (i : Nat) | no (s : Sn) | iff (s t : Sn) | an (xs : List Sn) | orr (xs : List Sn)
mutual
def encS : Sn → A
  | .l i => .tup [.str "letter", .int i]
  | .no s => .tup [.str "not", encS s]
  | .iff s t => .tup [.str "if", encS s, encS t]
  | .an xs => .tup [.str "and", .tup (encSs xs)]
  | .orr xs => .tup [.str "or", .tup (encSs xs)]
def encSs : List Sn → List A
  | [] => []
  | s :: r => encS s :: encSs r
end
mutual
def evalS (f : Nat → Bool) : Sn → Bool
  | .l i => f i
  | .no s => !evalS f s
  | .iff s t => !evalS f s || evalS f t
  | .an xs => evalAll f xs
  | .orr xs => evalAny f xs
def evalAll (f : Nat → Bool) : List Sn → Bool
  | [] => true
  | s :: r => evalS f s && evalAll f r
def evalAny (f : Nat → Bool) : List Sn → Bool
  | [] => false
  | s :: r => evalS f s || evalAny f r
end
mutual
/-- letters below n, so deep at most, rows of so many at most -/
def okS (n w : Nat) : Nat → Sn → Prop
  | 0, _ => False
  | _ + 1, .l i => i < n
  | d + 1, .no s => okS n w d s
  | d + 1, .iff s t => okS n w d s ∧ okS n w d t
  | d + 1, .an xs => xs.length ≤ w ∧ okSs n w d xs
  | d + 1, .orr xs => xs.length ≤ w ∧ okSs n w d xs
def okSs (n w : Nat) : Nat → List Sn → Prop
  | _, [] => True
  | d, s :: r => okS n w d s ∧ okSs n w d r
end
theorem okS_succ {n w : Nat} : ∀ {d : Nat}, (∀ {s : Sn}, okS n w d s → okS n w (d + 1) s) ∧ ∀ {xs : List Sn}, okSs n w d xs → okSs n w (d + 1) xs := by
  intro d
  induction d with
  | zero =>
    refine ⟨fun {s} h => by simp only [okS] at h, fun {xs} h => ?_⟩
    cases xs with
    | nil => simp only [okSs]
    | cons s r => simp only [okSs, okS, false_and] at h
  | succ d ih =>
    have one : ∀ {s : Sn}, okS n w (d + 1) s → okS n w (d + 2) s := fun {s} h => by
      cases s with
      | l i => simpa only [okS] using h
      | no s => simp only [okS] at h ⊢; exact ih.1 h
      | iff s t => simp only [okS] at h ⊢; exact ⟨ih.1 h.1, ih.1 h.2⟩
      | an xs => simp only [okS] at h ⊢; exact ⟨h.1, ih.2 h.2⟩
      | orr xs => simp only [okS] at h ⊢; exact ⟨h.1, ih.2 h.2⟩
    refine ⟨one, fun {xs} h => ?_⟩
    induction xs with
    | nil => simp only [okSs]
    | cons s r ihr =>
      simp only [okSs] at h ⊢
      exact ⟨one h.1, ihr h.2⟩
theorem encSs_length : ∀ xs : List Sn, (encSs xs).length = xs.length
  | [] => rfl
  | s :: r => by simp only [encSs, List.length_cons, encSs_length r]
/-! truth values in a row -/
def bls (bs : List Bool) : List A := bs.map A.bl
theorem toPys_bls : ∀ bs : List Bool, toPys (bls bs) = some (bs.map PyData.bool)
  | [] => rfl
  | b :: bs => by
    have h := toPys_bls bs
    unfold bls at h ⊢
    simp only [List.map_cons, toPys, toPy, h]
theorem shaped_bools (bs : List Bool) : SeqAt.shaped (.list (bs.map PyData.bool)) = true := by
  have h1 : ∀ bs : List Bool, PyData.canLayAll0 (bs.map PyData.bool) = true := by
    intro bs
    induction bs with
    | nil => rfl
    | cons b bs ih => simp only [List.map_cons, PyData.canLayAll0, ih, Bool.and_true]; rfl
  have h2 : ∀ bs : List Bool, PyData.depthAll (bs.map PyData.bool) = 0 := by
    intro bs
    induction bs with
    | nil => rfl
    | cons b bs ih => simp only [List.map_cons, PyData.depthAll, ih]; rfl
  unfold SeqAt.shaped
  simp only [PyData.canLay0, h1, PyData.depth, h2, Bool.true_and, decide_eq_true_eq]
  decide
theorem inO_B (x : Bool) (bs : List Bool) : inO (.bl x) (bls bs) = some (decide (x ∈ bs)) := by
  unfold inO
  rw [toPys_bls]
  have hs : SeqAt.shaped (.bool x) = true := by cases x <;> rfl
  simp only [toPy, hs, shaped_bools, Bool.and_self, if_true, Option.some.injEq]
  induction bs with
  | nil => rfl
  | cons b bs ih =>
    rw [List.map_cons, List.any_cons, ih]
    cases b <;> cases x <;> simp [PyData.eqv]
/-! comprehensions, item by item -/
theorem lcL_vals {f : A → M (Option A)} : ∀ {xs ys : List A}, xs.length = ys.length → (∀ (i : Nat) (x y : A), xs[i]? = some x → ys[i]? = some y → f x = ret (some y)) → lcL f xs = ret ys
  | [], [], _, _ => rfl
  | [], _ :: _, h, _ => by simp at h
  | _ :: _, [], h, _ => by simp at h
  | x :: xs, y :: ys, h, k => by
    unfold lcL
    rw [k 0 x y rfl rfl, bd_ret, lcL_vals (xs := xs) (ys := ys) (by simpa using h) fun i a b h1 h2 => k (i + 1) a b (by simpa using h1) (by simpa using h2), bd_ret]
    rfl
theorem lcM_vals {it : Env' → M (List A)} {t : Tg} {c : Env' → M Bool} {e : ME'} {vs : List Nat} {ρ : Env'} {xs ys : List A} (hit : it ρ = ret xs) (hl : xs.length = ys.length) (h : ∀ (i : Nat) (x y : A), xs[i]? = some x → ys[i]? = some y → lcF t c e (wipeA ρ vs) x = ret (some y)) (hs : ys.length ≤ sizeLine) : lcM it t c e vs ρ = ret (.lst ys) := by
  unfold lcM
  rw [hit, bd_ret, lcL_vals hl h, nox_ret, bd_ret]
  unfold mkLst
  rw [if_pos hs]
/-- whether the digits of a world make a letter so -/
def dig (ds : List Int) (i : Nat) : Bool := match ds[i]? with
  | some d => decide (d = 1)
  | none => false
theorem evalAll_mem (f : Nat → Bool) : ∀ xs : List Sn, evalAll f xs = !decide (false ∈ xs.map (evalS f))
  | [] => by simp [evalAll]
  | s :: r => by
    rw [evalAll, evalAll_mem f r, List.map_cons]
    cases evalS f s <;> simp
theorem evalAny_mem (f : Nat → Bool) : ∀ xs : List Sn, evalAny f xs = decide (true ∈ xs.map (evalS f))
  | [] => by simp [evalAny]
  | s :: r => by
    rw [evalAny, evalAny_mem f r, List.map_cons]
    cases evalS f s <;> simp
theorem okSs_get {n w d : Nat} : ∀ {xs : List Sn} {i : Nat} {s : Sn}, okSs n w d xs → xs[i]? = some s → okS n w d s
  | [], i, s, _, h => by simp at h
  | x :: xs, 0, s, k, h => by simp only [okSs] at k; simp at h; subst h; exact k.1
  | x :: xs, i + 1, s, k, h => by simp only [okSs] at k; exact okSs_get k.2 (by simpa using h)
theorem encSs_get : ∀ {xs : List Sn} {i : Nat} {a : A}, (encSs xs)[i]? = some a → ∃ s, xs[i]? = some s ∧ a = encS s
  | [], i, a, h => by simp [encSs] at h
  | x :: xs, 0, a, h => by simp only [encSs] at h; simp at h; exact ⟨x, rfl, h.symm⟩
  | x :: xs, i + 1, a, h => by
    simp only [encSs] at h
    obtain ⟨s, h1, h2⟩ := encSs_get (xs := xs) (i := i) (by simpa using h)
    exact ⟨s, by simpa using h1, h2⟩
theorem notInA_lB (x : Bool) (bs : List Bool) : notInA (.bl x) (.lst (bls bs)) = ret (.bl (!decide (x ∈ bs))) := by simp only [notInA, inO_B]
theorem inA_lB (x : Bool) (bs : List Bool) : inA (.bl x) (.lst (bls bs)) = ret (.bl (decide (x ∈ bs))) := by simp only [inA, inO_B]
theorem notV_ret {m : ME'} {ρ : Env'} {b : Bool} (h : m ρ = ret (.bl b)) : notV m ρ = ret (.bl (!b)) := by
  unfold notV
  rw [bd_eq h]
  rfl
theorem orV_ret {m n : ME'} {ρ : Env'} {b c : Bool} (h : m ρ = ret (.bl b)) (h2 : n ρ = ret (.bl c)) : orV m n ρ = ret (.bl (b || c)) := by
  unfold orV
  rw [bd_eq h]
  cases b
  · exact h2
  · rfl
abbrev isW (w : Str) : Env' → M Bool := tstM (op2 eqA (op2 ixA (vM 0) (cM (.int 0))) (cM (.str w)))
theorem isW_of {v w : Str} {r : Bool} {x : A} {e : Env'} (h : eqO (.str v) (.str w) = some r) : isW w (some (.tup [.str v, x]) :: e) = ret r := by
  refine tstM_ret ((op2_ret (a := .str v) (b := .str w) ((op2_ret (a := .tup [.str v, x]) (b := .int 0) rfl rfl).trans rfl) rfl).trans ?_)
  unfold eqA
  rw [h]
theorem isW_of3 {v w : Str} {r : Bool} {x y : A} {e : Env'} (h : eqO (.str v) (.str w) = some r) : isW w (some (.tup [.str v, x, y]) :: e) = ret r := by
  refine tstM_ret ((op2_ret (a := .str v) (b := .str w) ((op2_ret (a := .tup [.str v, x, y]) (b := .int 0) rfl rfl).trans rfl) rfl).trans ?_)
  unfold eqA
  rw [h]
theorem w_ll : eqO (.str "letter") (.str "letter") = some true := by decide +kernel
theorem w_nl : eqO (.str "not") (.str "letter") = some false := by decide +kernel
theorem w_nn : eqO (.str "not") (.str "not") = some true := by decide +kernel
theorem w_il : eqO (.str "if") (.str "letter") = some false := by decide +kernel
theorem w_in : eqO (.str "if") (.str "not") = some false := by decide +kernel
theorem w_ii : eqO (.str "if") (.str "if") = some true := by decide +kernel
theorem w_al : eqO (.str "and") (.str "letter") = some false := by decide +kernel
theorem w_an : eqO (.str "and") (.str "not") = some false := by decide +kernel
theorem w_ai : eqO (.str "and") (.str "if") = some false := by decide +kernel
theorem w_aa : eqO (.str "and") (.str "and") = some true := by decide +kernel
theorem w_ol : eqO (.str "or") (.str "letter") = some false := by decide +kernel
theorem w_on : eqO (.str "or") (.str "not") = some false := by decide +kernel
theorem w_oi : eqO (.str "or") (.str "if") = some false := by decide +kernel
theorem w_oa : eqO (.str "or") (.str "and") = some false := by decide +kernel
theorem so_ok {n w : Nat} {ds : List Int} (hw : w ≤ 1000) (hn : ds.length = n) : ∀ (d : Nat) (k : Nat) (s : Sn), okS n w d s → d ≤ k → soM k [encS s, tupI ds] = ret (.bl (evalS (dig ds) s)) := by
  intro d
  induction d with
  | zero => intro k s h; simp only [okS] at h
  | succ d ih =>
    intro k s h hk
    obtain ⟨k, rfl⟩ : ∃ j, k = j + 1 := ⟨k - 1, by omega⟩
    have hk : d ≤ k := by omega
    have many : ∀ (v : Str) (xs : List Sn), xs.length ≤ w → okSs n w d xs → ∀ r2 r3 r4, lcM (itSeq (op2 ixA (vM 0) (cM (.int 1)))) (tgN 4) yesM (callM 2 (soM k) (consM (vM 4) (consM (vM 1) nilM))) [3, 4] [some (.tup [.str v, .tup (encSs xs)]), some (tupI ds), r2, r3, r4] = ret (.lst (bls (xs.map (evalS (dig ds))))) := by
      intro v xs hl hx r2 r3 r4
      refine lcM_vals (xs := encSs xs) rfl (by unfold bls; rw [List.length_map, List.length_map, encSs_length]) (fun i x y h1 h2 => ?_) (small_line (by unfold bls; rw [List.length_map, List.length_map]; omega))
      obtain ⟨s, hs, rfl⟩ := encSs_get h1
      unfold bls at h2
      rw [List.getElem?_map, List.getElem?_map, hs] at h2
      have h2 : A.bl (evalS (dig ds) s) = y := Option.some.inj h2
      subst h2
      have e : callM 2 (soM k) (consM (vM 4) (consM (vM 1) nilM)) ((wipeA [some (.tup [.str v, .tup (encSs xs)]), some (tupI ds), r2, r3, r4] [3, 4]).set 4 (some (encS s))) = ret (.bl (evalS (dig ds) s)) := (callM_ret (n := 2) (m := soM k) (as := [encS s, tupI ds]) rfl rfl).trans (ih k s (okSs_get hx hs) hk)
      show bd (callM 2 (soM k) (consM (vM 4) (consM (vM 1) nilM)) ((wipeA [some (.tup [.str v, .tup (encSs xs)]), some (tupI ds), r2, r3, r4] [3, 4]).set 4 (some (encS s)))) (fun y => ret (some y)) = _
      rw [bd_eq e]
    cases s with
    | l i =>
      simp only [okS] at h
      have hi : i < ds.length := by omega
      have e1 : ixA (tupI ds) (.int (i : Int)) = ret (.int ds[i]) := by
        have ea : atI (iL ds) (i : Int) = some (.int ds[i]) := atI_nat (by omega) (by
          unfold iL
          rw [List.getElem?_map, show ((i : Int)).toNat = i by omega, List.getElem?_eq_getElem hi]
          rfl)
        simp only [ixA, tupI, ea]
      simp only [encS, evalS]
      refine defM_rt ?_
      refine seqM_rt ((ite_t (isW_of w_ll)).trans (retM_ret ?_))
      refine (op2_ret (a := .int ds[i]) (b := .int 1) ?_ rfl).trans ?_
      · exact (op2_ret (a := tupI ds) (b := .int i) rfl rfl).trans e1
      · rw [eqA_int]
        unfold dig
        rw [List.getElem?_eq_getElem hi]
    | no s =>
      simp only [okS] at h
      simp only [encS, evalS]
      refine defM_rt ?_
      refine (seqM_nx (ite_nx (isW_of w_nl))).trans ?_
      refine seqM_rt ((ite_t (isW_of w_nn)).trans (retM_ret ?_))
      have e : callM 2 (soM k) (consM (op2 ixA (vM 0) (cM (.int 1))) (consM (vM 1) nilM)) [some (.tup [.str "not", encS s]), some (tupI ds), none, none, none] = ret (.bl (evalS (dig ds) s)) := (callM_ret (n := 2) (m := soM k) (as := [encS s, tupI ds]) rfl rfl).trans (ih k s h hk)
      exact notV_ret e
    | iff s t =>
      simp only [okS] at h
      simp only [encS, evalS]
      refine defM_rt ?_
      refine (seqM_nx (ite_nx (isW_of3 w_il))).trans ?_
      refine (seqM_nx (ite_nx (isW_of3 w_in))).trans ?_
      refine seqM_rt ((ite_t (isW_of3 w_ii)).trans (retM_ret ?_))
      have e : callM 2 (soM k) (consM (op2 ixA (vM 0) (cM (.int 1))) (consM (vM 1) nilM)) [some (.tup [.str "if", encS s, encS t]), some (tupI ds), none, none, none] = ret (.bl (evalS (dig ds) s)) := (callM_ret (n := 2) (m := soM k) (as := [encS s, tupI ds]) rfl rfl).trans (ih k s h.1 hk)
      have e2 : callM 2 (soM k) (consM (op2 ixA (vM 0) (cM (.int 2))) (consM (vM 1) nilM)) [some (.tup [.str "if", encS s, encS t]), some (tupI ds), none, none, none] = ret (.bl (evalS (dig ds) t)) := (callM_ret (n := 2) (m := soM k) (as := [encS t, tupI ds]) rfl rfl).trans (ih k t h.2 hk)
      exact orV_ret (notV_ret e) e2
    | an xs =>
      simp only [okS] at h
      simp only [encS, evalS]
      refine defM_rt ?_
      refine (seqM_nx (ite_nx (isW_of w_al))).trans ?_
      refine (seqM_nx (ite_nx (isW_of w_an))).trans ?_
      refine (seqM_nx (ite_nx (isW_of w_ai))).trans ?_
      refine (seqM_nx (setM_ret (many "and" xs h.1 h.2 none none none))).trans ?_
      refine retM_ret ?_
      refine (ite_t (isW_of w_aa)).trans ?_
      refine (op2_ret (a := .bl false) (b := .lst (bls (xs.map (evalS (dig ds))))) rfl rfl).trans ?_
      rw [notInA_lB, evalAll_mem]
    | orr xs =>
      simp only [okS] at h
      simp only [encS, evalS]
      refine defM_rt ?_
      refine (seqM_nx (ite_nx (isW_of w_ol))).trans ?_
      refine (seqM_nx (ite_nx (isW_of w_on))).trans ?_
      refine (seqM_nx (ite_nx (isW_of w_oi))).trans ?_
      refine (seqM_nx (setM_ret (many "or" xs h.1 h.2 none none none))).trans ?_
      refine retM_ret ?_
      refine (ite_f (isW_of w_oa)).trans ?_
      refine (op2_ret (a := .bl true) (b := .lst (bls (xs.map (evalS (dig ds))))) rfl rfl).trans ?_
      rw [inA_lB, evalAny_mem]
end Mir

/-! Pl9: drawn sentences; the worlds in which they are so. -/
namespace Mir
open PySem L2
theorem consM_run' {m : ME'} {ms : Env' → M (List A)} {ρ : Env'} {a : A} {as : List A} {p p1 p2 : Pen} (h : m ρ p = .ok a p1) (hs : ms ρ p1 = .ok as p2) : consM m ms ρ p = .ok (a :: as) p2 := by
  unfold consM
  rw [bd_run h, bd_run hs]
  rfl
theorem onA_run' {g : List A → M A} {ms : Env' → M (List A)} {ρ : Env'} {as : List A} {p p1 : Pen} (h : ms ρ p = .ok as p1) : onA g ms ρ p = g as p1 := by
  unfold onA
  rw [bd_run h]
theorem nilM_run {ρ : Env'} {p : Pen} : nilM ρ p = .ok [] p := rfl
theorem mkTup_run {as : List A} {p : Pen} (h : as.length ≤ 1000) : mkTup as p = .ok (.tup as) p := congrFun (mkTup_ret (small_line h)) p
theorem mkTup2_run {a b : A} {p : Pen} : mkTup [a, b] p = .ok (.tup [a, b]) p := mkTup_run (show 2 ≤ 1000 by decide)
theorem mkTup3_run {a b c : A} {p : Pen} : mkTup [a, b, c] p = .ok (.tup [a, b, c]) p := mkTup_run (show 3 ≤ 1000 by decide)
theorem setM_run {i : Nat} {m : ME'} {ρ : Env'} {a : A} {p p' : Pen} (h : m ρ p = .ok a p') : setM i m ρ p = .ok (.nx (ρ.set i (some a))) p' := by
  unfold setM
  rw [bd_run h]
  rfl
theorem retM_run {m : ME'} {ρ : Env'} {a : A} {p p' : Pen} (h : m ρ p = .ok a p') : retM m ρ p = .ok (.rt a) p' := by
  unfold retM
  rw [bd_run h]
  rfl
theorem seqM_rtr {m n : MS'} {ρ : Env'} {a : A} {p p' : Pen} (h : m ρ p = .ok (.rt a) p') : seqM m n ρ p = .ok (.rt a) p' := by
  unfold seqM
  rw [bd_run h]
  rfl
theorem defM_run {N : Nat} {m : MS'} {as : List A} {a : A} {p p' : Pen} (h : m (start' N as) p = .ok (.rt a) p') : defM N m as p = .ok a p' := by
  unfold defM
  rw [bd_run h]
  rfl
theorem call_run {n : Nat} {m : List A → M A} {ms : Env' → M (List A)} {ρ : Env'} {as : List A} {p p' : Pen} {r : Res A} (h : ms ρ p = .ok as p') (hn : as.length = n) (e : m as p' = r) : callM n m ms ρ p = r := by
  unfold callM
  rw [bd_run h, if_pos hn, e]
theorem pick_run {xs : List A} {ms : Env' → M (List A)} {ρ : Env'} {p : Pen} (hp : PenOk p) (h : ms ρ = Mir.ret [.pen, .lst xs]) (h0 : xs ≠ []) (hl : xs.length < 1000) : ∃ a p', callM 2 pickM ms ρ p = .ok a p' ∧ PenOk p' ∧ a ∈ xs := by
  obtain ⟨a, p', e, h1, h2⟩ := pick_spec hp h0 (by omega)
  exact ⟨a, p', call_run (congrFun h p) rfl e, h1, h2⟩
theorem draw_run {n : Int} {ms : Env' → M (List A)} {ρ : Env'} {p : Pen} (hp : PenOk p) (h : ms ρ = Mir.ret [.pen, .int n]) (h0 : 0 < n) (hl : n < 1073741824) : ∃ d p', callM 2 drawM ms ρ p = .ok (.int d) p' ∧ PenOk p' ∧ 0 ≤ d ∧ d < n := by
  obtain ⟨a, p', e, h1, d, rfl, h2, h3⟩ := draw_spec hp h0 hl
  exact ⟨d, p', call_run (congrFun h p) rfl e, h1, h2, h3⟩
theorem lcL_sn {n w d : Nat} {f : A → M (Option A)} : ∀ {xs : List A} {p : Pen}, (∀ x ∈ xs, ∀ p, PenOk p → ∃ s p', f x p = .ok (some (encS s)) p' ∧ PenOk p' ∧ okS n w d s) → PenOk p → ∃ ss p', lcL f xs p = .ok (encSs ss) p' ∧ PenOk p' ∧ okSs n w d ss ∧ ss.length = xs.length
  | [], p, _, hp => ⟨[], p, rfl, hp, by simp only [okSs], rfl⟩
  | x :: xs, p, h, hp => by
    obtain ⟨s, p1, e1, hp1, k1⟩ := h x List.mem_cons_self p hp
    obtain ⟨ss, p2, e2, hp2, k2, l2⟩ := lcL_sn (xs := xs) (fun y hy => h y (List.mem_cons_of_mem _ hy)) hp1
    refine ⟨s :: ss, p2, ?_, hp2, by simp only [okSs]; exact ⟨k1, k2⟩, by simp [l2]⟩
    unfold lcL
    rw [bd_run e1, bd_run e2]
    rfl
def ds0 : MS' := (setM 3 (iteM (tstM (op2 gtA (vM 2) (cM (.int 1)))) (callM 2 drawM (consM (vM 0) (consM (cM (.int 7)) nilM))) (cM (.int 0))))
def ds1 : MS' := (iteM (tstM (op2 ltA (vM 3) (cM (.int 2)))) (retM (onA mkTup (consM (cM (.str "letter")) (consM (callM 2 drawM (consM (vM 0) (consM (vM 1) nilM))) nilM)))) nxM)
def ds2 (n : Nat) : MS' := (iteM (tstM (op2 eqA (vM 3) (cM (.int 2)))) (retM (onA mkTup (consM (cM (.str "not")) (consM (callM 3 (drawnSM n) (consM (vM 0) (consM (vM 1) (consM (op2 subA (vM 2) (cM (.int 1))) nilM)))) nilM)))) nxM)
def ds3 (n : Nat) : MS' := (iteM (tstM (op2 eqA (vM 3) (cM (.int 3)))) (retM (onA mkTup (consM (cM (.str "if")) (consM (callM 3 (drawnSM n) (consM (vM 0) (consM (vM 1) (consM (op2 subA (vM 2) (cM (.int 1))) nilM)))) (consM (callM 3 (drawnSM n) (consM (vM 0) (consM (vM 1) (consM (op2 subA (vM 2) (cM (.int 1))) nilM)))) nilM))))) nxM)
def ds4 (n : Nat) : MS' := (setM 4 (onA tupA (consM (lcM (itOn range1A (consM (callM 2 drawM (consM (vM 0) (consM (cM (.int 4)) nilM))) nilM)) (tgN 6) yesM (callM 3 (drawnSM n) (consM (vM 0) (consM (vM 1) (consM (op2 subA (vM 2) (cM (.int 1))) nilM)))) [5, 6]) nilM)))
def ds5 : MS' := (retM (onA mkTup (consM (callM 2 pickM (consM (vM 0) (consM (onA mkLst (consM (cM (.str "and")) (consM (cM (.str "or")) nilM))) nilM))) (consM (vM 4) nilM))))
theorem ds_eq (n : Nat) : drawnSM (n + 1) = defM 7 (seqM ds0 (seqM ds1 (seqM (ds2 n) (seqM (ds3 n) (seqM (ds4 n) ds5))))) := rfl
abbrev dsE (n D v : Int) (r4 r5 r6 : Option A) : Env' := [some .pen, some (.int n), some (.int D), some (.int v), r4, r5, r6]
theorem ds_lt {n D v : Int} : tstM (op2 ltA (vM 3) (cM (.int 2))) (dsE n D v none none none) = ret (decide (v < 2)) := tstM_ret ((op2_ret (a := .int v) (b := .int 2) rfl rfl).trans rfl)
theorem ds_e {n D v c : Int} : tstM (op2 eqA (vM 3) (cM (.int c))) (dsE n D v none none none) = ret (decide (v = c)) := tstM_ret ((op2_ret (a := .int v) (b := .int c) rfl rfl).trans (eqA_int v c))
theorem letter_ok {n : Nat} (h1 : 1 ≤ n) (h2 : n ≤ 4) {D v : Int} {d : Nat} {p : Pen} (hv : v < 2) (hp : PenOk p) : ∃ s p', ds1 (dsE n D v none none none) p = .ok (.rt (encS s)) p' ∧ PenOk p' ∧ okS n 3 (d + 1) s := by
  obtain ⟨i, p1, e1, hp1, i0, i1⟩ := draw_run (n := (n : Int)) (ms := consM (vM 0) (consM (vM 1) nilM)) (ρ := dsE n D v none none none) hp rfl (by omega) (by omega)
  refine ⟨.l i.toNat, p1, ?_, hp1, by simp only [okS]; omega⟩
  unfold ds1
  refine (congrFun (ite_t (ds_lt.trans (by rw [decide_eq_true hv]))) p).trans ?_
  refine retM_run ?_
  have e2 := consM_run' (m := cM (.str "letter")) (a := .str "letter") (p := p) (ρ := dsE n D v none none none) rfl (consM_run' e1 nilM_run)
  refine (onA_run' e2).trans ((mkTup2_run).trans ?_)
  simp only [encS]
  rw [show ((i.toNat : Nat) : Int) = i by omega]
theorem sent_ok {n : Nat} (h1 : 1 ≤ n) (h2 : n ≤ 4) : ∀ (d k : Nat) (p : Pen), 1 ≤ d → d ≤ k → d ≤ 1000 → PenOk p → ∃ s p', drawnSM k [.pen, .int n, .int d] p = .ok (encS s) p' ∧ PenOk p' ∧ okS n 3 d s := by
  intro d
  induction d with
  | zero => intro k p h; omega
  | succ d ih =>
    intro k p _ hk hd hp
    obtain ⟨k, rfl⟩ : ∃ j, k = j + 1 := ⟨k - 1, by omega⟩
    have hk : d ≤ k := by omega
    rw [ds_eq]
    have t0 : tstM (op2 gtA (vM 2) (cM (.int 1))) (start' 7 [.pen, .int n, .int ((d + 1 : Nat) : Int)]) = ret (decide ((1 : Int) < ((d + 1 : Nat) : Int))) := tstM_ret ((op2_ret (a := .int ((d + 1 : Nat) : Int)) (b := .int 1) rfl rfl).trans rfl)
    by_cases z : d = 0
    · have e0 : ds0 (start' 7 [.pen, .int n, .int ((d + 1 : Nat) : Int)]) p = .ok (.nx (dsE n ((d + 1 : Nat) : Int) 0 none none none)) p := by
        unfold ds0
        refine (setM_run (a := .int 0) ?_).trans rfl
        exact (congrFun (ite_f (t0.trans (by rw [decide_eq_false (by omega)]))) p).trans rfl
      obtain ⟨s, p1, e1, hp1, k1⟩ := letter_ok h1 h2 (D := ((d + 1 : Nat) : Int)) (v := 0) (d := d) (by omega) hp
      exact ⟨s, p1, defM_run ((seqM_next e0).trans (seqM_rtr e1)), hp1, k1⟩
    · obtain ⟨v, p1, e1, hp1, v0, v1⟩ := draw_run (n := 7) (ms := consM (vM 0) (consM (cM (.int 7)) nilM)) (ρ := start' 7 [.pen, .int n, .int ((d + 1 : Nat) : Int)]) hp rfl (by omega) (by omega)
      have e0 : ds0 (start' 7 [.pen, .int n, .int ((d + 1 : Nat) : Int)]) p = .ok (.nx (dsE n ((d + 1 : Nat) : Int) v none none none)) p1 := by
        unfold ds0
        refine (setM_run (a := .int v) ?_).trans rfl
        exact (congrFun (ite_t (t0.trans (by rw [decide_eq_true (by omega)]))) p).trans e1
      by_cases hv : v < 2
      · obtain ⟨s, p2, e2, hp2, k2⟩ := letter_ok h1 h2 (D := ((d + 1 : Nat) : Int)) (v := v) (d := d) hv hp1
        exact ⟨s, p2, defM_run ((seqM_next e0).trans (seqM_rtr e2)), hp2, k2⟩
      · have f1 : ds1 (dsE n ((d + 1 : Nat) : Int) v none none none) = ret (.nx (dsE n ((d + 1 : Nat) : Int) v none none none)) := ite_nx (ds_lt.trans (by rw [decide_eq_false hv]))
        have rec_ : ∀ (ρ : Env') (p : Pen), ρ[0]? = some (some .pen) → ρ[1]? = some (some (.int n)) → ρ[2]? = some (some (.int ((d + 1 : Nat) : Int))) → PenOk p → ∃ s p', callM 3 (drawnSM k) (consM (vM 0) (consM (vM 1) (consM (op2 subA (vM 2) (cM (.int 1))) nilM))) ρ p = .ok (encS s) p' ∧ PenOk p' ∧ okS n 3 d s := by
          intro ρ p r0 r1 r2 hp
          obtain ⟨s, p', e, h⟩ := ih k p (by omega) hk (by omega) hp
          have ed : ((d + 1 : Nat) : Int) - 1 = (d : Int) := by omega
          have eb : op2 subA (vM 2) (cM (.int 1)) ρ = ret (.int d) := by
            refine (op2_ret (a := .int ((d + 1 : Nat) : Int)) (b := .int 1) (by unfold vM; rw [r2]) rfl).trans ?_
            show ret (A.int (((d + 1 : Nat) : Int) - 1)) = _
            rw [ed]
          have em : consM (vM 0) (consM (vM 1) (consM (op2 subA (vM 2) (cM (.int 1))) nilM)) ρ = ret [.pen, .int n, .int d] := consM_ret (by unfold vM; rw [r0]) (consM_ret (by unfold vM; rw [r1]) (consM_ret (ms := nilM) eb rfl))
          exact ⟨s, p', call_run (congrFun em p) rfl e, h⟩
        by_cases v2 : v = 2
        · obtain ⟨s, p2, e2, hp2, k2⟩ := rec_ (dsE n ((d + 1 : Nat) : Int) v none none none) p1 rfl rfl rfl hp1
          refine ⟨.no s, p2, defM_run ((seqM_next e0).trans ((congrFun (seqM_nx f1) p1).trans (seqM_rtr ?_))), hp2, by simp only [okS]; exact k2⟩
          unfold ds2
          refine (congrFun (ite_t (ds_e.trans (by rw [decide_eq_true v2]))) p1).trans (retM_run ?_)
          have e3 := consM_run' (m := cM (.str "not")) (a := .str "not") (p := p1) (ρ := dsE n ((d + 1 : Nat) : Int) v none none none) rfl (consM_run' e2 nilM_run)
          refine (onA_run' e3).trans ((mkTup2_run).trans ?_)
          simp only [encS]
        · have f2 : ds2 k (dsE n ((d + 1 : Nat) : Int) v none none none) = ret (.nx (dsE n ((d + 1 : Nat) : Int) v none none none)) := ite_nx (ds_e.trans (by rw [decide_eq_false v2]))
          by_cases v3 : v = 3
          · obtain ⟨s, p2, e2, hp2, k2⟩ := rec_ (dsE n ((d + 1 : Nat) : Int) v none none none) p1 rfl rfl rfl hp1
            obtain ⟨s', p3, e3, hp3, k3⟩ := rec_ (dsE n ((d + 1 : Nat) : Int) v none none none) p2 rfl rfl rfl hp2
            refine ⟨.iff s s', p3, defM_run ((seqM_next e0).trans ((congrFun (seqM_nx f1) p1).trans ((congrFun (seqM_nx f2) p1).trans (seqM_rtr ?_)))), hp3, by simp only [okS]; exact ⟨k2, k3⟩⟩
            unfold ds3
            refine (congrFun (ite_t (ds_e.trans (by rw [decide_eq_true v3]))) p1).trans (retM_run ?_)
            have e4 := consM_run' (m := cM (.str "if")) (a := .str "if") (p := p1) (ρ := dsE n ((d + 1 : Nat) : Int) v none none none) rfl (consM_run' e2 (consM_run' e3 nilM_run))
            refine (onA_run' e4).trans (mkTup3_run.trans ?_)
            simp only [encS]
          · have f3 : ds3 k (dsE n ((d + 1 : Nat) : Int) v none none none) = ret (.nx (dsE n ((d + 1 : Nat) : Int) v none none none)) := ite_nx (ds_e.trans (by rw [decide_eq_false v3]))
            obtain ⟨c, p2, e2, hp2, c0, c1⟩ := draw_run (n := 4) (ms := consM (vM 0) (consM (cM (.int 4)) nilM)) (ρ := dsE n ((d + 1 : Nat) : Int) v none none none) hp1 rfl (by omega) (by omega)
            have ei : itOn range1A (consM (callM 2 drawM (consM (vM 0) (consM (cM (.int 4)) nilM))) nilM) (dsE n ((d + 1 : Nat) : Int) v none none none) p1 = .ok (iL (rng c)) p2 := by
              unfold itOn
              rw [bd_run (consM_run' e2 nilM_run)]
              exact congrFun (rngW (by omega) (by omega)) p2
            obtain ⟨ss, p3, e3, hp3, k3, l3⟩ := lcL_sn (n := n) (w := 3) (d := d) (f := lcF (tgN 6) yesM (callM 3 (drawnSM k) (consM (vM 0) (consM (vM 1) (consM (op2 subA (vM 2) (cM (.int 1))) nilM)))) (wipeA (dsE n ((d + 1 : Nat) : Int) v none none none) [5, 6])) (xs := iL (rng c)) (fun x _ p hp => by
              obtain ⟨s, p', e, h⟩ := rec_ ((wipeA (dsE n ((d + 1 : Nat) : Int) v none none none) [5, 6]).set 6 (some x)) p rfl rfl rfl hp
              refine ⟨s, p', ?_, h⟩
              show bd (callM 3 (drawnSM k) (consM (vM 0) (consM (vM 1) (consM (op2 subA (vM 2) (cM (.int 1))) nilM))) ((wipeA (dsE n ((d + 1 : Nat) : Int) v none none none) [5, 6]).set 6 (some x))) (fun y => ret (some y)) p = _
              rw [bd_run e]
              rfl) hp2
            have ls : ss.length ≤ 3 := by
              rw [l3]
              unfold iL
              rw [List.length_map, rng_length]
              omega
            have e4 : lcM (itOn range1A (consM (callM 2 drawM (consM (vM 0) (consM (cM (.int 4)) nilM))) nilM)) (tgN 6) yesM (callM 3 (drawnSM k) (consM (vM 0) (consM (vM 1) (consM (op2 subA (vM 2) (cM (.int 1))) nilM)))) [5, 6] (dsE n ((d + 1 : Nat) : Int) v none none none) p1 = .ok (.lst (encSs ss)) p3 := by
              unfold lcM
              rw [bd_run ei, bd_run (nox_run e3)]
              exact congrFun (mkLst_ret (small_line (by rw [encSs_length]; omega))) p3
            have f4 : ds4 k (dsE n ((d + 1 : Nat) : Int) v none none none) p1 = .ok (.nx (dsE n ((d + 1 : Nat) : Int) v (some (.tup (encSs ss))) none none)) p3 := by
              unfold ds4
              exact setM_run ((onA_run' (consM_run' e4 nilM_run)).trans rfl)
            obtain ⟨a, p4, e5, hp4, ha⟩ := pick_run (ms := consM (vM 0) (consM (onA mkLst (consM (cM (.str "and")) (consM (cM (.str "or")) nilM))) nilM)) (ρ := dsE n ((d + 1 : Nat) : Int) v (some (.tup (encSs ss))) none none) (xs := [.str "and", .str "or"]) hp3 rfl (by simp) (by decide)
            have e6 : ds5 (dsE n ((d + 1 : Nat) : Int) v (some (.tup (encSs ss))) none none) p3 = .ok (.rt (.tup [a, .tup (encSs ss)])) p4 := by
              unfold ds5
              exact retM_run ((onA_run' (consM_run' e5 (consM_run' (a := .tup (encSs ss)) rfl nilM_run))).trans mkTup2_run)
            have fin : ∀ s : Sn, encS s = .tup [a, .tup (encSs ss)] → okS n 3 (d + 1) s → ∃ s p', defM 7 (seqM ds0 (seqM ds1 (seqM (ds2 k) (seqM (ds3 k) (seqM (ds4 k) ds5))))) [.pen, .int n, .int ((d + 1 : Nat) : Int)] p = .ok (encS s) p' ∧ PenOk p' ∧ okS n 3 (d + 1) s := fun s es hs => by
              refine ⟨s, p4, ?_, hp4, hs⟩
              rw [es]
              exact defM_run ((seqM_next e0).trans ((congrFun (seqM_nx f1) p1).trans ((congrFun (seqM_nx f2) p1).trans ((congrFun (seqM_nx f3) p1).trans ((seqM_next f4).trans e6)))))
            simp only [List.mem_cons, List.not_mem_nil, or_false] at ha
            rcases ha with rfl | rfl
            · exact fin (.an ss) (by simp only [encS]) (by simp only [okS]; exact ⟨ls, k3⟩)
            · exact fin (.orr ss) (by simp only [encS]) (by simp only [okS]; exact ⟨ls, k3⟩)
/-! ### digits, and the worlds of a sentence -/
def digs (n w : Nat) : List Int := (List.range n).map fun i => (((w / 2 ^ (n - 1 - i)) % 2 : Nat) : Int)
theorem digits1 : (fun p => (List.range 2).map fun (w : Nat) => digitsM [.int w, .int 1] p) = fun p => (List.range 2).map fun (w : Nat) => .ok (tupI (digs 1 w)) p := by kernel_rfl
theorem digits2 : (fun p => (List.range 4).map fun (w : Nat) => digitsM [.int w, .int 2] p) = fun p => (List.range 4).map fun (w : Nat) => .ok (tupI (digs 2 w)) p := by kernel_rfl
theorem digits3 : (fun p => (List.range 8).map fun (w : Nat) => digitsM [.int w, .int 3] p) = fun p => (List.range 8).map fun (w : Nat) => .ok (tupI (digs 3 w)) p := by kernel_rfl
theorem digits4 : (fun p => (List.range 16).map fun (w : Nat) => digitsM [.int w, .int 4] p) = fun p => (List.range 16).map fun (w : Nat) => .ok (tupI (digs 4 w)) p := by kernel_rfl
theorem digits_ok {n w : Nat} (h1 : 1 ≤ n) (h2 : n ≤ 4) (hw : w < 2 ^ n) : digitsM [.int w, .int n] = ret (tupI (digs n w)) := by
  funext p
  have h : n = 1 ∨ n = 2 ∨ n = 3 ∨ n = 4 := by omega
  rcases h with rfl | rfl | rfl | rfl
  · exact List.map_inj_left.mp (congrFun digits1 p) w (List.mem_range.mpr hw)
  · exact List.map_inj_left.mp (congrFun digits2 p) w (List.mem_range.mpr hw)
  · exact List.map_inj_left.mp (congrFun digits3 p) w (List.mem_range.mpr hw)
  · exact List.map_inj_left.mp (congrFun digits4 p) w (List.mem_range.mpr hw)
/-- whether a sentence is so in a world -/
def soW (n : Nat) (s : Sn) (w : Int) : Bool := evalS (dig (digs n w.toNat)) s
theorem two_nat {n : Nat} : two n = ((2 ^ n : Nat) : Int) := by unfold two; simp
theorem worlds_ok' {n : Nat} (h1 : 1 ≤ n) (h2 : n ≤ 4) : worldsM [.int n] = ret (.int (two n)) := by
  have h : n = 1 ∨ n = 2 ∨ n = 3 ∨ n = 4 := by omega
  rcases h with rfl | rfl | rfl | rfl <;> rfl
theorem saying_sn {n w d : Nat} {s : Sn} (h1 : 1 ≤ n) (h2 : n ≤ 4) (hs : okS n w d s) (hw : w ≤ 1000) (hd : d ≤ 8) : sayingM [encS s, .int n] = ret (tupI ((rng (two n)).filter (soW n s))) := by
  have t := two_le (n := (n : Int)) (by omega)
  have t0 : 0 ≤ two n := Int.pow_nonneg (by omega)
  unfold sayingM
  refine defM_rt (retM_ret ?_)
  refine (onA_ret (consM_ret (ms := nilM) (lcM_filter (ns := rng (two n)) (soW n s) ?_ (fun x hx => ?_) ?_) rfl)).trans rfl
  · have e : callM 1 worldsM (consM (vM 1) nilM) (start' 4 [encS s, .int n]) = ret (.int (two n)) := (callM_ret (n := 1) (m := worldsM) (as := [.int n]) rfl rfl).trans (worlds_ok' h1 h2)
    exact (itOn_ret (consM_ret (ms := nilM) e rfl)).trans (rngW (by omega) (by omega))
  · obtain ⟨x0, x1⟩ := mem_rng.mp hx
    obtain ⟨w', rfl⟩ : ∃ w' : Nat, x = (w' : Int) := ⟨x.toNat, by omega⟩
    have hw' : w' < 2 ^ n := by rw [two_nat] at x1; omega
    have e1 : callM 2 digitsM (consM (vM 3) (consM (vM 1) nilM)) ((wipeA (start' 4 [encS s, .int n]) [2, 3]).set 3 (some (.int (w' : Int)))) = ret (tupI (digs n w')) := (callM_ret (n := 2) (m := digitsM) (as := [.int w', .int n]) rfl rfl).trans (digits_ok h1 h2 hw')
    have e2 : callM 2 (soM 8) (consM (vM 0) (consM (callM 2 digitsM (consM (vM 3) (consM (vM 1) nilM))) nilM)) ((wipeA (start' 4 [encS s, .int n]) [2, 3]).set 3 (some (.int (w' : Int)))) = ret (.bl (evalS (dig (digs n w')) s)) := (callM_ret (n := 2) (m := soM 8) (as := [encS s, tupI (digs n w')]) (consM_ret (a := encS s) rfl (consM_ret (ms := nilM) e1 rfl)) rfl).trans (so_ok hw (by unfold digs; simp) d 8 s hs hd)
    show bd (truM (callM 2 (soM 8) (consM (vM 0) (consM (callM 2 digitsM (consM (vM 3) (consM (vM 1) nilM))) nilM))) ((wipeA (start' 4 [encS s, .int n]) [2, 3]).set 3 (some (.int (w' : Int))))) (fun b => if b then bd (vM 3 ((wipeA (start' 4 [encS s, .int n]) [2, 3]).set 3 (some (.int (w' : Int))))) fun y => ret (some y) else ret none) = _
    rw [bd_eq (truM_ret e2)]
    have es : soW n s (w' : Int) = evalS (dig (digs n w')) s := by unfold soW; rw [show ((w' : Int)).toNat = w' by omega]
    rw [es]
    cases evalS (dig (digs n w')) s <;> rfl
  · rw [rng_length]
    exact small_line (by omega)
end Mir

/-! Pl10: plain values by a code: ==, in; comprehensions over coded lists. -/
namespace Mir
open PySem L2
structure Code {β : Type} [DecidableEq β] (enc : β → A) (pd : β → PyData) (k : Nat) : Prop where
  py : ∀ x, toPy (enc x) = some (pd x)
  lay : ∀ x, (pd x).canLay0 = true
  dep : ∀ x, (pd x).depth ≤ k
  eqv : ∀ x y, PyData.eqv (pd x) (pd y) = decide (x = y)
section
variable {β : Type} [DecidableEq β] {enc : β → A} {pd : β → PyData} {k : Nat}
theorem Code.pys (c : Code enc pd k) : ∀ L : List β, toPys (L.map enc) = some (L.map pd)
  | [] => rfl
  | x :: L => by
    have h := c.pys L
    simp only [List.map_cons, toPys, c.py, h]
theorem Code.lays (c : Code enc pd k) : ∀ L : List β, PyData.canLayAll0 (L.map pd) = true
  | [] => rfl
  | x :: L => by simp only [List.map_cons, PyData.canLayAll0, c.lay, c.lays L, Bool.and_self]
theorem Code.deps (c : Code enc pd k) : ∀ L : List β, PyData.depthAll (L.map pd) ≤ k
  | [] => Nat.zero_le _
  | x :: L => by
    simp only [List.map_cons, PyData.depthAll]
    exact Nat.max_le.mpr ⟨c.dep x, c.deps L⟩
theorem Code.eqvs (c : Code enc pd k) : ∀ L M : List β, PyData.eqvAll (L.map pd) (M.map pd) = decide (L = M)
  | [], [] => rfl
  | [], _ :: _ => rfl
  | _ :: _, [] => rfl
  | x :: L, y :: M => by
    simp only [List.map_cons, PyData.eqvAll, c.eqv, c.eqvs L M, List.cons.injEq]
    by_cases h : x = y <;> by_cases h2 : L = M <;> simp [h, h2]
theorem Code.shaped (c : Code enc pd k) (hk : k ≤ 64) (x : β) : SeqAt.shaped (pd x) = true := by
  unfold SeqAt.shaped
  rw [c.lay, Bool.true_and, decide_eq_true_eq]
  exact Nat.le_trans (c.dep x) hk
theorem Code.lst (c : Code enc pd k) : Code (fun L : List β => .lst (L.map enc)) (fun L => .list (L.map pd)) (k + 1) where
  py := fun L => by simp only [toPy, c.pys, Option.map_some]
  lay := fun L => by simp only [PyData.canLay0, c.lays]
  dep := fun L => by
    have h := c.deps L
    simp only [PyData.depth]
    omega
  eqv := fun L M => by simp only [PyData.eqv, c.eqvs]
theorem Code.shapedL (c : Code enc pd k) (hk : k < 64) (L : List β) : SeqAt.shaped (.list (L.map pd)) = true := by
  unfold SeqAt.shaped
  have h := (c.lst).dep L
  have h2 := (c.lst).lay L
  rw [h2, Bool.true_and, decide_eq_true_eq]
  exact Nat.le_trans h hk
theorem Code.inO (c : Code enc pd k) (hk : k < 64) (x : β) (L : List β) : Mir.inO (enc x) (L.map enc) = some (decide (x ∈ L)) := by
  unfold Mir.inO
  rw [c.pys, c.py]
  simp only [c.shaped (Nat.le_of_lt hk), c.shapedL hk, Bool.and_self, if_true, Option.some.injEq]
  induction L with
  | nil => rfl
  | cons y L ih =>
    rw [List.map_cons, List.any_cons, ih, c.eqv]
    simp only [List.mem_cons]
    by_cases h : y = x
    · subst h; simp
    · have : ¬ x = y := fun z => h z.symm
      simp [h, this]
theorem Code.eqO (c : Code enc pd k) (hk : k ≤ 64) (x y : β) : Mir.eqO (enc x) (enc y) = some (decide (x = y)) := by
  unfold Mir.eqO
  simp only [c.py, c.shaped hk, Bool.and_self, if_true, c.eqv]
theorem Code.tup (c : Code enc pd k) : Code (fun L : List β => .tup (L.map enc)) (fun L => .tuple (L.map pd)) (k + 1) where
  py := fun L => by simp only [toPy, c.pys, Option.map_some]
  lay := fun L => by simp only [PyData.canLay0, c.lays]
  dep := fun L => by
    have h := c.deps L
    simp only [PyData.depth]
    omega
  eqv := fun L M => by simp only [PyData.eqv, c.eqvs]
theorem Code.eqA (c : Code enc pd k) (hk : k ≤ 64) (x y : β) : Mir.eqA (enc x) (enc y) = ret (.bl (decide (x = y))) := by unfold Mir.eqA; rw [c.eqO hk]
theorem Code.neA (c : Code enc pd k) (hk : k ≤ 64) (x y : β) : Mir.neA (enc x) (enc y) = ret (.bl (!decide (x = y))) := by unfold Mir.neA; rw [c.eqO hk]
theorem Code.inT (c : Code enc pd k) (hk : k < 64) (x : β) (L : List β) : Mir.inA (enc x) (.tup (L.map enc)) = ret (.bl (decide (x ∈ L))) := by
  have h := c.inO hk x L
  simp only [Mir.inA, h]
theorem Code.inL (c : Code enc pd k) (hk : k < 64) (x : β) (L : List β) : Mir.inA (enc x) (.lst (L.map enc)) = ret (.bl (decide (x ∈ L))) := by
  have h := c.inO hk x L
  simp only [Mir.inA, h]
theorem Code.notInT (c : Code enc pd k) (hk : k < 64) (x : β) (L : List β) : Mir.notInA (enc x) (.tup (L.map enc)) = ret (.bl (!decide (x ∈ L))) := by
  have h := c.inO hk x L
  simp only [Mir.notInA, h]
theorem Code.notInL (c : Code enc pd k) (hk : k < 64) (x : β) (L : List β) : Mir.notInA (enc x) (.lst (L.map enc)) = ret (.bl (!decide (x ∈ L))) := by
  have h := c.inO hk x L
  simp only [Mir.notInA, h]
end
theorem codeI : Code A.int PyData.int 0 where
  py := fun _ => rfl
  lay := fun _ => rfl
  dep := fun _ => Nat.le_refl _
  eqv := fun x y => by
    simp only [PyData.eqv]
    by_cases h : x = y <;> simp [h]
/-- a letter and whether it is so -/
def eq2 (q : Nat × Bool) : A := .tup [.int q.1, .bl q.2]
theorem codeP : Code eq2 (fun q => .tuple [.int q.1, .bool q.2]) 1 where
  py := fun _ => rfl
  lay := fun _ => rfl
  dep := fun _ => Nat.le_refl _
  eqv := fun x y => by
    obtain ⟨i, b⟩ := x
    obtain ⟨j, c⟩ := y
    simp only [PyData.eqv, PyData.eqvAll, Prod.mk.injEq, Bool.and_true]
    have hij : ((i : Int) == (j : Int)) = decide (i = j) := by
      by_cases h : i = j
      · simp [h]
      · simp [h]; omega
    rw [hij]
    by_cases h : i = j <;> cases b <;> cases c <;> simp [h]
/-! ### comprehensions over coded lists -/
section
variable {β γ : Type} {it : Env' → M (List A)} {t : Tg} {c : Env' → M Bool} {e : ME'} {vs : List Nat} {ρ : Env'}
theorem lcM_opt {enc : β → A} {enc' : γ → A} {L : List β} (f : β → Option γ) (hit : it ρ = ret (L.map enc)) (h : ∀ x ∈ L, lcF t c e (wipeA ρ vs) (enc x) = ret ((f x).map enc')) (hl : L.length ≤ 1000) : lcM it t c e vs ρ = ret (.lst ((L.filterMap f).map enc')) := by
  have key : ∀ L : List β, (∀ x ∈ L, lcF t c e (wipeA ρ vs) (enc x) = ret ((f x).map enc')) → lcL (lcF t c e (wipeA ρ vs)) (L.map enc) = ret ((L.filterMap f).map enc') := by
    intro L
    induction L with
    | nil => intro _; rfl
    | cons x L ih =>
      intro h
      rw [List.map_cons]
      unfold lcL
      rw [h x List.mem_cons_self, bd_ret, ih fun y hy => h y (List.mem_cons_of_mem _ hy), bd_ret, List.filterMap_cons]
      cases f x <;> rfl
  unfold lcM
  rw [hit, bd_ret, key L h, nox_ret, bd_ret]
  exact mkLst_ret (small_line (by rw [List.length_map]; exact Nat.le_trans (List.length_filterMap_le _ _) hl))
theorem lcM_filterE {enc : β → A} {L : List β} (P : β → Bool) (hit : it ρ = ret (L.map enc)) (h : ∀ x ∈ L, lcF t c e (wipeA ρ vs) (enc x) = ret (if P x then some (enc x) else none)) (hl : L.length ≤ 1000) : lcM it t c e vs ρ = ret (.lst ((L.filter P).map enc)) := by
  rw [lcM_opt (enc' := enc) (fun x => if P x then some x else none) hit (fun x hx => by rw [h x hx]; cases P x <;> rfl) hl]
  congr 3
  rw [← List.filterMap_eq_filter]
  congr 1
  first | done | (funext x; cases h : P x <;> simp [h, Option.guard])
theorem lcM_mapE {enc : β → A} {enc' : γ → A} {L : List β} (f : β → γ) (hit : it ρ = ret (L.map enc)) (h : ∀ x ∈ L, lcF t c e (wipeA ρ vs) (enc x) = ret (some (enc' (f x)))) (hl : L.length ≤ 1000) : lcM it t c e vs ρ = ret (.lst ((L.map f).map enc')) := by
  rw [lcM_opt (enc' := enc') (fun x => some (f x)) hit (fun x hx => by rw [h x hx]; rfl) hl, List.filterMap_eq_map']
/-- one turn: the target a name -/
theorem lcF_yes {i : Nat} {x a : A} (h : e (ρ.set i (some x)) = ret a) : lcF (tgN i) yesM e ρ x = ret (some a) := by
  show bd (e (ρ.set i (some x))) (fun y => ret (some y)) = _
  rw [bd_eq h]
theorem lcF_if {i : Nat} {x a : A} {b : Bool} (hb : c (ρ.set i (some x)) = ret b) (h : e (ρ.set i (some x)) = ret a) : lcF (tgN i) c e ρ x = ret (if b then some a else none) := by
  show bd (c (ρ.set i (some x))) (fun b => if b then bd (e (ρ.set i (some x))) fun y => ret (some y) else ret none) = _
  rw [bd_eq hb]
  cases b
  · rfl
  · show bd (e (ρ.set i (some x))) (fun y => ret (some y)) = _
    rw [bd_eq h]
    rfl
end
/-- the same, by any way to decide it -/
theorem decB {p : Prop} (i j : Decidable p) : @decide p i = @decide p j := by congr
theorem Code.eqB {β : Type} [DecidableEq β] {enc : β → A} {pd : β → PyData} {k : Nat} (c : Code enc pd k) (hk : k ≤ 64) (x y : β) (i : Decidable (x = y)) : Mir.eqA (enc x) (enc y) = ret (.bl (@decide _ i)) := by
  rw [c.eqA hk, decB i]
theorem Code.inTB {β : Type} [DecidableEq β] {enc : β → A} {pd : β → PyData} {k : Nat} (c : Code enc pd k) (hk : k < 64) (x : β) (L : List β) (i : Decidable (x ∈ L)) : Mir.inA (enc x) (.tup (L.map enc)) = ret (.bl (@decide _ i)) := by
  rw [c.inT hk, decB i]
theorem Code.inLB {β : Type} [DecidableEq β] {enc : β → A} {pd : β → PyData} {k : Nat} (c : Code enc pd k) (hk : k < 64) (x : β) (L : List β) (i : Decidable (x ∈ L)) : Mir.inA (enc x) (.lst (L.map enc)) = ret (.bl (@decide _ i)) := by
  rw [c.inL hk, decB i]
theorem Code.notInTB {β : Type} [DecidableEq β] {enc : β → A} {pd : β → PyData} {k : Nat} (c : Code enc pd k) (hk : k < 64) (x : β) (L : List β) (i : Decidable (x ∈ L)) : Mir.notInA (enc x) (.tup (L.map enc)) = ret (.bl (!@decide _ i)) := by
  rw [c.notInT hk, decB i]
end Mir

/-! Pl11: steps of loops, pairs of targets, counted lists. -/
namespace Mir
open PySem L2
theorem parM_ret {i j : Nat} {ms : Env' → M (List A)} {ρ : Env'} {a b : A} (h : ms ρ = ret [a, b]) : parM i j ms ρ = ret (.nx ((ρ.set i (some a)).set j (some b))) := by
  unfold parM
  rw [bd_eq h]
theorem parM_run {i j : Nat} {ms : Env' → M (List A)} {ρ : Env'} {a b : A} {p p' : Pen} (h : ms ρ p = .ok [a, b] p') : parM i j ms ρ p = .ok (.nx ((ρ.set i (some a)).set j (some b))) p' := by
  unfold parM
  rw [bd_run h]
  rfl
theorem for_nx {t : Tg} {body : MS'} {x : A} {xs : List A} {ρ ρ1 ρ2 : Env'} (ht : t x ρ = some ρ1) (hb : body ρ1 = ret (.nx ρ2)) : forM t body (x :: xs) ρ = forM t body xs ρ2 := by
  show (match t x ρ with
    | none => no
    | some ρ1 => bd (body ρ1) fun f => match f with
      | .nx ρ2 => forM t body xs ρ2
      | .ct ρ2 => forM t body xs ρ2
      | .bk ρ2 => ret (.nx ρ2)
      | .rt a => ret (.rt a)) = _
  rw [ht]
  dsimp only
  rw [bd_eq hb]
theorem for_run {t : Tg} {body : MS'} {x : A} {xs : List A} {ρ ρ1 ρ2 : Env'} {p p' : Pen} (ht : t x ρ = some ρ1) (hb : body ρ1 p = .ok (.nx ρ2) p') : forM t body (x :: xs) ρ p = forM t body xs ρ2 p' := by
  show (match t x ρ with
    | none => no
    | some ρ1 => bd (body ρ1) fun f => match f with
      | .nx ρ2 => forM t body xs ρ2
      | .ct ρ2 => forM t body xs ρ2
      | .bk ρ2 => ret (.nx ρ2)
      | .rt a => ret (.rt a)) p = _
  rw [ht]
  dsimp only
  rw [bd_run hb]
theorem forS_ret {it : Env' → M (List A)} {t : Tg} {body : MS'} {xs : List A} {ρ : Env'} {f : Fl} (h : it ρ = ret xs) (hf : forM t body xs ρ = ret f) : forS it t body ρ = ret f := by
  unfold forS
  rw [bd_eq h, hf]
theorem forS_run {it : Env' → M (List A)} {t : Tg} {body : MS'} {xs : List A} {ρ : Env'} {p p1 : Pen} {r : Res Fl} (h : it ρ p = .ok xs p1) (hf : forM t body xs ρ p1 = r) : forS it t body ρ p = r := by
  unfold forS
  rw [bd_run h, hf]
theorem line5 {n : Nat} (h : n ≤ 100000) : n ≤ sizeLine := Nat.le_trans h (Nat.le_trans (show 100000 ≤ 16777216 by decide) (Nat.le_of_eq sizeLine_eq.symm))
theorem Code.notInLB {β : Type} [DecidableEq β] {enc : β → A} {pd : β → PyData} {k : Nat} (c : Code enc pd k) (hk : k < 64) (x : β) (L : List β) (i : Decidable (x ∈ L)) : Mir.notInA (enc x) (.lst (L.map enc)) = ret (.bl (!@decide _ i)) := by
  rw [c.notInL hk, decB i]
theorem appM_ret {i : Nat} {m : ME'} {ρ : Env'} {xs : List A} {a : A} (hi : ρ[i]? = some (some (.lst xs))) (h : m ρ = ret a) (hl : xs.length < 1000) : appM i m ρ = ret (.nx (ρ.set i (some (.lst (xs ++ [a]))))) := by
  unfold appM ownL
  rw [hi]
  show bd (m ρ) _ = _
  rw [bd_eq h]
  refine if_pos (small_line ?_)
  rw [List.length_append]
  exact hl
theorem ext2M_ret {i : Nat} {m : ME'} {ρ : Env'} {xs ys : List A} (hi : ρ[i]? = some (some (.lst xs))) (h : m ρ = ret (.lst ys)) (hl : xs.length + ys.length ≤ 100000) : ext2M i m ρ = ret (.nx (ρ.set i (some (.lst (xs ++ ys))))) := by
  unfold ext2M ownL
  rw [hi]
  show bd (m ρ) _ = _
  rw [bd_eq h]
  refine if_pos (line5 ?_)
  rw [List.length_append]
  exact hl
theorem lcF_ifT {t : Tg} {c : Env' → M Bool} {e : ME'} {ρ ρ1 : Env'} {x a : A} {b : Bool} (ht : t x ρ = some ρ1) (hb : c ρ1 = ret b) (h : e ρ1 = ret a) : lcF t c e ρ x = ret (if b then some a else none) := by
  unfold lcF
  rw [ht]
  dsimp only
  rw [bd_eq hb]
  cases b
  · rfl
  · show bd (e ρ1) (fun y => ret (some y)) = _
    rw [bd_eq h]
    rfl
theorem len_lst {m : ME'} {ρ : Env'} {xs : List A} (h : m ρ = ret (.lst xs)) : onA lenA (consM m nilM) ρ = ret (.int (xs.length : Nat)) := (onA_ret (consM_ret (ms := nilM) h rfl)).trans rfl
theorem itSeq_lst {m : ME'} {ρ : Env'} {xs : List A} (h : m ρ = ret (.lst xs)) : itSeq m ρ = ret xs := by
  unfold itSeq
  rw [bd_eq h]
  rfl
theorem itSeq_tup {m : ME'} {ρ : Env'} {xs : List A} (h : m ρ = ret (.tup xs)) : itSeq m ρ = ret xs := by
  unfold itSeq
  rw [bd_eq h]
  rfl
/-- a list with its counts -/
def countF {β : Type} (enc : β → A) : Nat → List β → List A
  | _, [] => []
  | k, c :: L => .tup [.int (k : Nat), enc c] :: countF enc (k + 1) L
theorem enumL_eq {β : Type} (enc : β → A) (L : List β) : enumL (L.map enc) = countF enc 0 L := by
  have key : ∀ (L : List β) (k : Nat), ((L.map enc).mapIdx fun i x => A.tup [.int ((k + i : Nat) : Int), x]) = countF enc k L := by
    intro L
    induction L with
    | nil => intro k; rfl
    | cons c L ih =>
      intro k
      rw [List.map_cons, List.mapIdx_cons, countF, ← ih (k + 1)]
      congr 1
      congr 1
      funext i x
      congr 3
      congr 1
      omega
  rw [← key L 0]
  unfold enumL
  congr 1
  funext i x
  rw [Nat.zero_add]
theorem zipL_eq {β : Type} (enc : β → A) (f : β → A) (L : List β) : zipL (L.map enc) (L.map f) = L.map fun c => .tup [enc c, f c] := by
  unfold zipL
  induction L with
  | nil => rfl
  | cons c L ih => rw [List.map_cons, List.map_cons, List.zip_cons_cons, List.map_cons, ih, List.map_cons]
theorem inI_B (x : Int) (ns : List Int) (i : Decidable (x ∈ ns)) : inA (.int x) (tupI ns) = ret (.bl (@decide _ i)) := by rw [inA_tI, decB i]
end Mir

/-! Pl12: closures that capture plain values. -/
namespace Mir
open PySem L2
mutual
theorem fillA_id {cap : Nat → Option (List A)} : ∀ a : A, noClo a = true → fillA cap a = some a
  | .non, _ => rfl
  | .bl _, _ => rfl
  | .int _, _ => rfl
  | .str _, _ => rfl
  | .tup xs, h => by
    simp only [noClo] at h
    simp only [fillA, fills_id xs h, Option.map_some]
  | .lst xs, h => by
    simp only [noClo] at h
    simp only [fillA, fills_id xs h, Option.map_some]
  | .ins c xs, h => by
    simp only [noClo] at h
    simp only [fillA, h, if_true]
  | .dct ks xs, h => by
    simp only [noClo] at h
    simp only [fillA, h, if_true]
  | .clo _ _, h => by simp only [noClo] at h; cases h
  | .fn _, h => by simp only [noClo] at h; cases h
  | .pen, _ => rfl
theorem fills_id {cap : Nat → Option (List A)} : ∀ xs : List A, noClos xs = true → fills cap xs = some xs
  | [], _ => rfl
  | x :: xs, h => by
    simp only [noClos, Bool.and_eq_true] at h
    simp only [fills, fillA_id x h.1, fills_id xs h.2]
end
/-- calls and what is due of them -/
abbrev Call := Nat × Str × Str × A
def callA (f : Nat → List A) (q : Call) : A := .tup [.clo q.1 (f q.1), .tup [.str q.2.1, .str q.2.2.1, q.2.2.2]]
theorem fills_calls {cap : Nat → Option (List A)} {f : Nat → List A} : ∀ L : List Call, (∀ q ∈ L, cap q.1 = some (f q.1) ∧ noClo q.2.2.2 = true) → fills cap (L.map (callA fun _ => [])) = some (L.map (callA f))
  | [], _ => rfl
  | q :: L, h => by
    obtain ⟨h1, h2⟩ := h q List.mem_cons_self
    have ih := fills_calls L fun r hr => h r (List.mem_cons_of_mem _ hr)
    have e : fillA cap (callA (fun _ => []) q) = some (callA f q) := by
      simp only [callA, fillA, fills, h1, fillA_id _ h2, Option.map_some]
    simp only [List.map_cons, fills, e, ih]
def okV (b : A) : Bool := match toPy b with
  | some d => repOk d
  | none => false
theorem okV_of {b : A} (h : okV b = true) : ∃ d, toPy b = some d ∧ repOk d = true := by
  unfold okV at h
  cases e : toPy b with
  | none => rw [e] at h; cases h
  | some d => rw [e] at h; exact ⟨d, rfl, h⟩
theorem pairM {i : Nat} {k w : Str} {j : Nat} {v : A} {ρ : Env'} (h : vM j ρ = ret v) : onA mkTup (consM (cM (.clo i [])) (consM (onA mkTup (consM (cM (.str k)) (consM (cM (.str w)) (consM (vM j) nilM)))) nilM)) ρ = ret (callA (fun _ => []) (i, k, w, v)) := by
  have e : onA mkTup (consM (cM (.str k)) (consM (cM (.str w)) (consM (vM j) nilM))) ρ = ret (.tup [.str k, .str w, v]) := (onA_ret (consM_ret (a := .str k) rfl (consM_ret (a := .str w) rfl (consM_ret (ms := nilM) h rfl)))).trans (mkTup_ret (small_line (show 3 ≤ 1000 by decide)))
  exact (onA_ret (consM_ret (a := .clo i []) rfl (consM_ret (ms := nilM) e rfl))).trans (mkTup_ret (small_line (show 2 ≤ 1000 by decide)))
end Mir

/-! Pl13: wide values have a text that is not too long. -/
namespace Mir
open PySem L2
structure SG (B D : Nat) (d : PyData) : Prop where
  sh : d.showable = true
  nd : d.hasDict = false
  dp : d.depth ≤ D
  ln : d.shown.length ≤ B
  ok : PyData.strOk d.shown = true
structure SGs (B D : Nat) (ds : List PyData) : Prop where
  sh : PyData.showableAll ds = true
  nd : PyData.hasDictAll ds = false
  dp : PyData.depthAll ds ≤ D
  ln : piled (PyData.shownAll ds) ≤ B
  ok : ∀ t ∈ PyData.shownAll ds, PyData.strOk t = true
theorem strOk_app {a b : Str} (h : PyData.strOk a = true) (k : PyData.strOk b = true) : PyData.strOk (a ++ b) = true := by
  have e : (a ++ b).cps = a.cps ++ b.cps := rfl
  unfold PyData.strOk at h k ⊢
  rw [e, Array.all_append, h, k]
  rfl
theorem strOk_join : ∀ ts : List Str, (∀ t ∈ ts, PyData.strOk t = true) → PyData.strOk (Str.join ", " ts) = true
  | [], _ => by decide +kernel
  | [x], h => h x List.mem_cons_self
  | x :: y :: r, h => strOk_app (strOk_app (h x List.mem_cons_self) (by decide +kernel)) (strOk_join (y :: r) fun t ht => h t (List.mem_cons_of_mem _ ht))
theorem SGs.nil {D : Nat} : SGs 0 D [] := ⟨rfl, rfl, Nat.zero_le _, Nat.le_refl _, fun t h => by cases h⟩
theorem SGs.cons {B C D : Nat} {d : PyData} {ds : List PyData} (h : SG B D d) (k : SGs C D ds) : SGs (B + 2 + C) D (d :: ds) where
  sh := by simp only [PyData.showableAll, h.sh, k.sh, Bool.and_self]
  nd := by simp only [PyData.hasDictAll, h.nd, k.nd, Bool.or_self]
  dp := by have := h.dp; have := k.dp; simp only [PyData.depthAll]; omega
  ln := by have := h.ln; have := k.ln; simp only [PyData.shownAll, piled_cons]; omega
  ok := fun t ht => by
    simp only [PyData.shownAll, List.mem_cons] at ht
    rcases ht with rfl | ht
    · exact h.ok
    · exact k.ok t ht
theorem SG.mono {B C D E : Nat} {d : PyData} (h : SG B D d) (hB : B ≤ C) (hD : D ≤ E) : SG C E d := ⟨h.sh, h.nd, Nat.le_trans h.dp hD, Nat.le_trans h.ln hB, h.ok⟩
theorem SGs.mono {B C D E : Nat} {ds : List PyData} (h : SGs B D ds) (hB : B ≤ C) (hD : D ≤ E) : SGs C E ds := ⟨h.sh, h.nd, Nat.le_trans h.dp hD, Nat.le_trans h.ln hB, h.ok⟩
theorem SGs.app {B C D : Nat} {es : List PyData} (k : SGs C D es) : ∀ {ds : List PyData}, SGs B D ds → SGs (B + C) D (ds ++ es)
  | [], h => k.mono (Nat.le_add_left _ _) (Nat.le_refl _)
  | d :: ds, h => by
    have h1 := h.sh
    have h2 := h.nd
    have h3 := h.dp
    have h4 := h.ln
    have h5 := h.ok
    simp only [PyData.showableAll, Bool.and_eq_true] at h1
    simp only [PyData.hasDictAll, Bool.or_eq_false_iff] at h2
    simp only [PyData.depthAll] at h3
    simp only [PyData.shownAll, piled_cons] at h4
    simp only [PyData.shownAll] at h5
    have g : SG d.shown.length D d := ⟨h1.1, h2.1, by omega, Nat.le_refl _, h5 _ List.mem_cons_self⟩
    have gs : SGs (piled (PyData.shownAll ds)) D ds := ⟨h1.2, h2.2, by omega, Nat.le_refl _, fun t ht => h5 t (List.mem_cons_of_mem _ ht)⟩
    exact (SGs.cons g (SGs.app k gs)).mono (by omega) (Nat.le_refl _)
theorem SGs.rep {B D : Nat} {d : PyData} (h : SG B D d) : ∀ n : Nat, SGs (n * (B + 2)) D (List.replicate n d)
  | 0 => by rw [Nat.zero_mul]; exact SGs.nil
  | n + 1 => (SGs.cons h (SGs.rep h n)).mono (by rw [Nat.succ_mul]; omega) (Nat.le_refl _)
theorem SG.tup {B D : Nat} {ds : List PyData} (h : SGs B D ds) : SG (B + 3) (D + 1) (.tuple ds) where
  sh := h.sh
  nd := h.nd
  dp := by have := h.dp; simp only [PyData.depth]; omega
  ln := by
    have h4 := h.ln
    show (tupleText (PyData.shownAll ds)).length ≤ _
    unfold tupleText
    rw [strLen_append, strLen_append]
    have e1 : ((("(" : String) : Str)).length = 1 := rfl
    have e3 : ∀ b : Bool, (((if b then ",)" else ")" : String) : Str)).length ≤ 2 := by intro b; cases b <;> decide
    have e4 : (Str.join ", " (PyData.shownAll ds)).length ≤ piled (PyData.shownAll ds) := by
      cases e : PyData.shownAll ds with
      | nil => exact Nat.zero_le _
      | cons t ts => have := join_length_add (t :: ts) (by simp); omega
    have := e3 ((PyData.shownAll ds).length == 1)
    rw [e1]
    omega
  ok := by
    show PyData.strOk (tupleText (PyData.shownAll ds)) = true
    unfold tupleText
    refine strOk_app (strOk_app (by decide +kernel) (strOk_join _ h.ok)) ?_
    cases (PyData.shownAll ds).length == 1 <;> decide +kernel
theorem SG.by {d : PyData} (h : repOk d = true) : SG d.shown.length d.depth d := by
  unfold repOk at h
  simp only [Bool.and_eq_true, decide_eq_true_eq, Bool.not_eq_true'] at h
  obtain ⟨⟨⟨⟨h1, h2⟩, h3⟩, h4⟩, h5⟩ := h
  unfold SeqAt.shaped at h5
  rw [Bool.and_eq_true] at h5
  exact ⟨h1, h2, Nat.le_refl _, Nat.le_refl _, by have := h5.1; simpa only [PyData.canLay0] using this⟩
theorem SG.str {s : Str} {B : Nat} (h : repOk (.str s) = true) (hB : (PyData.str s).shown.length ≤ B) : SG B 1 (.str s) := (SG.by h).mono hB (by simp only [PyData.depth]; omega)
/-- a row: a word and a tuple -/
theorem SG.row {B D : Nat} {s : Str} {ds : List PyData} (h : repOk (.str s) = true) (hs : (PyData.str s).shown.length ≤ 8) (k : SGs B D ds) (hD : 1 ≤ D) : SG (B + 18) (D + 2) (.tuple [.str s, .tuple ds]) := by
  have a := SG.tup k
  have b := SGs.cons ((SG.str h hs).mono (Nat.le_refl _) (show 1 ≤ D + 1 by omega)) (SGs.cons a SGs.nil)
  exact (SG.tup b).mono (by omega) (by omega)
theorem repOk_of {B D : Nat} {d : PyData} (h : SG B D d) (hB : B ≤ 100000) (hD : D ≤ 60) : repOk d = true := by
  have h3 := h.dp
  have h4 := h.ln
  have e1 : decide (d.depth ≤ 60) = true := decide_eq_true (by omega)
  have e2 : decide (d.shown.length ≤ 100000) = true := decide_eq_true (by omega)
  have e3 : SeqAt.shaped (.str d.shown) = true := by
    unfold SeqAt.shaped
    simp only [PyData.canLay0, PyData.depth, h.ok, Bool.true_and]
    rfl
  unfold repOk
  rw [h.sh, h.nd, e1, e2, e3]
  rfl
end Mir

/-! Pl14: levels, as lots of worlds. -/
namespace Mir
open PySem L2
def g_are_levels : List A → M A := defM 4 (seqM (iteM (orT (notT (truM (isi1 (.ty "tuple") (vM 0)))) (notT (truM (onA allA (consM (lcM (itSeq (vM 0)) (tgN 1) yesM (andV (callM 2 g_is_lot (consM (cM (.int 8)) (consM (vM 1) nilM))) (vM 1)) [3, 1]) nilM))))) (retM (cM (.bl false))) nxM) (seqM (setM 2 (onA mkLst nilM)) (seqM (forS (itSeq (vM 0)) (tgN 1) (seqM (ext2M 2 (vM 1)) nxM)) (retM (andV (chn leA leA (cM (.int 1)) (onA lenA (consM (vM 2) nilM)) (cM (.int 8))) (op2 eqA (onA sortKTA (consM (vM 2) nilM)) (lstRg (rg1M (onA lenA (consM (vM 2) nilM))))))))))
def g_Levels_init : List A → M (List A) := initM 3 (preI (setM 2 (iteM (truM (isi1 (.ty "list") (vM 1))) (onA tupA (consM (vM 1) nilM)) (vM 1))) (preI (iteM (notT (truM (callM 1 g_are_levels (consM (vM 2) nilM)))) (raiseM 3 2 (consM (cM (.str "lots")) (consM (vM 1) nilM))) nxM) (setI (vM 2) endI)))
def g_need_levels : List A → M A := defM 2 (seqM (iteM (notT (truM (isi1 (.own 20) (vM 1)))) (raiseM 3 2 (consM (vM 0) (consM (vM 1) nilM))) nxM) (retM (vM 1)))
def g_many_of (T : Nat → List Str) : List A → M A := defM 3 (retM (onA sumA (consM (lcM (itSeq (attM T "lots" (vM 0))) (tgN 2) yesM (onA lenA (consM (vM 2) nilM)) [1, 2]) nilM)))
def g_need_world (T : Nat → List Str) : List A → M A := defM 3 (seqM (iteM (notT (truM (callM 2 g_is_index (consM (vM 2) (consM (callM 1 (g_many_of T) (consM (vM 0) nilM)) nilM))))) (raiseM 2 2 (consM (vM 1) (consM (vM 2) nilM))) nxM) nxM)
def g_heights_by (T : Nat → List Str) : List A → M A := defM 5 (seqM (setM 1 (op2 repA (onA mkLst (consM (cM (.int 0)) nilM)) (callM 1 (g_many_of T) (consM (vM 0) nilM)))) (seqM (forS (itOn enumTA (consM (attM T "lots" (vM 0)) nilM)) (tgT 2 (tgCons (tgN 2) (tgCons (tgN 3) tgNil))) (seqM (forS (itSeq (vM 3)) (tgN 4) (seqM (setIM 1 (vM 4) (vM 2)) nxM)) nxM)) (retM (vM 1))))
def g_level_of (T : Nat → List Str) : List A → M A := defM 2 (seqM (dropM (callM 2 g_need_levels (consM (cM (.str "levels")) (consM (vM 0) nilM)))) (seqM (dropM (callM 3 (g_need_world T) (consM (vM 0) (consM (cM (.str "world")) (consM (vM 1) nilM))))) (retM (op2 ixA (callM 1 (g_heights_by T) (consM (vM 0) nilM)) (vM 1)))))
def g_is_ahead (T : Nat → List Str) : List A → M A := defM 4 (seqM (dropM (callM 2 g_need_levels (consM (cM (.str "levels")) (consM (vM 0) nilM)))) (seqM (dropM (callM 3 (g_need_world T) (consM (vM 0) (consM (cM (.str "world")) (consM (vM 1) nilM))))) (seqM (dropM (callM 3 (g_need_world T) (consM (vM 0) (consM (cM (.str "other")) (consM (vM 2) nilM))))) (seqM (setM 3 (callM 1 (g_heights_by T) (consM (vM 0) nilM))) (retM (op2 ltA (op2 ixA (vM 3) (vM 1)) (op2 ixA (vM 3) (vM 2))))))))
def g_first_by (T : Nat → List Str) : List A → M A := defM 6 (seqM (forS (itSeq (attM T "lots" (vM 0))) (tgN 2) (seqM (setM 3 (onA tupA (consM (lcM (itSeq (vM 2)) (tgN 5) (tstM (op2 inA (vM 5) (vM 1))) (vM 5) [4, 5]) nilM))) (seqM (iteM (truM (vM 3)) (retM (vM 3)) nxM) nxM))) (retM (onA mkTup nilM)))
def g_first_ones (T : Nat → List Str) : List A → M A := defM 2 (seqM (dropM (callM 2 g_need_levels (consM (cM (.str "levels")) (consM (vM 0) nilM)))) (retM (callM 2 (g_first_by T) (consM (vM 0) (consM (callM 3 g_need_saying (consM (callM 1 (g_many_of T) (consM (vM 0) nilM)) (consM (cM (.str "saying")) (consM (vM 1) nilM)))) nilM)))))
def g_levels_from : List A → M A := defM 5 (seqM (setM 1 dnewM) (seqM (forS (itOn enumTA (consM (vM 0) nilM)) (tgT 2 (tgCons (tgN 2) (tgCons (tgN 3) tgNil))) (seqM (dputM 1 (vM 3) (onA mkTup (starM (getDO 1 (vM 3) (onA mkTup nilM)) (consM (vM 2) nilM)))) nxM)) (retM (newM 20 1 g_Levels_init (consM (lcM (itSeq (onA sortDA (consM (vM 1) nilM))) (tgN 3) yesM (op2 ixDA (vM 1) (vM 3)) [4, 3]) nilM)))))
def g_narrowed_levels (T : Nat → List Str) : List A → M A := defM 6 (seqM (dropM (callM 2 g_need_levels (consM (cM (.str "levels")) (consM (vM 0) nilM)))) (seqM (setM 2 (callM 3 g_need_saying (consM (callM 1 (g_many_of T) (consM (vM 0) nilM)) (consM (cM (.str "saying")) (consM (vM 1) nilM))))) (seqM (iteM (notT (truM (vM 2))) (raiseM 3 2 (consM (cM (.str "saying")) (consM (vM 1) nilM))) nxM) (seqM (setM 3 (callM 1 (g_heights_by T) (consM (vM 0) nilM))) (retM (callM 1 g_levels_from (consM (lcM (itSeq (vM 2)) (tgN 5) yesM (op2 ixA (vM 3) (vM 5)) [4, 5]) nilM)))))))
def g_law_unlike : List A → M A := defM 4 (seqM (setM 1 (onA sortKTA (consM (vM 0) nilM))) (retM (lcM (itOn range1A (consM (onA lenA (consM (vM 1) nilM)) nilM)) (tgN 3) (orT (tstM (op2 eqA (vM 3) (cM (.int 0)))) (tstM (op2 neA (op2 ixA (vM 1) (vM 3)) (op2 ixA (vM 1) (op2 subA (vM 3) (cM (.int 1))))))) (op2 ixA (vM 1) (vM 3)) [2, 3])))
def g_law_lots_of : List A → M A := defM 4 (retM (onA tupA (consM (lcM (itSeq (callM 1 g_law_unlike (consM (vM 0) nilM))) (tgN 2) yesM (onA tupA (consM (lcM (itOn range1A (consM (onA lenA (consM (vM 0) nilM)) nilM)) (tgN 3) (tstM (op2 eqA (op2 ixA (vM 0) (vM 3)) (vM 2))) (vM 3) [1, 3]) nilM)) [1, 2]) nilM)))
def g_law_heights : List A → M A := defM 6 (seqM (setM 1 (op2 repA (onA mkLst (consM (cM (.int 0)) nilM)) (onA sumA (consM (lcM (itSeq (vM 0)) (tgN 5) yesM (onA lenA (consM (vM 5) nilM)) [4, 5]) nilM)))) (seqM (forS (itOn range1A (consM (onA lenA (consM (vM 0) nilM)) nilM)) (tgN 2) (seqM (forS (itSeq (op2 ixA (vM 0) (vM 2))) (tgN 3) (seqM (setIM 1 (vM 3) (vM 2)) nxM)) nxM)) (retM (vM 1))))
def g_law_first : List A → M A := defM 6 (seqM (forS (itSeq (vM 0)) (tgN 2) (seqM (setM 3 (onA tupA (consM (lcM (itSeq (vM 2)) (tgN 5) (tstM (op2 inA (vM 5) (vM 1))) (vM 5) [4, 5]) nilM))) (seqM (iteM (tstM (op2 neA (vM 3) (onA mkTup nilM))) (retM (vM 3)) nxM) nxM))) (retM (onA mkTup nilM)))
def g_law_drawn_lots : List A → M A := defM 5 (seqM (setM 2 (callM 2 pickM (consM (vM 0) (consM (onA mkLst (consM (cM (.int 1)) (consM (cM (.int 2)) (consM (cM (.int 3)) (consM (vM 1) (consM (vM 1) nilM)))))) nilM)))) (retM (callM 1 g_law_lots_of (consM (lcM (itOn range1A (consM (vM 1) nilM)) (tgN 4) yesM (callM 2 drawM (consM (vM 0) (consM (vM 2) nilM))) [3, 4]) nilM))))
def g_law_drawn_saying : List A → M A := defM 4 (retM (onA tupA (consM (lcM (itOn range1A (consM (vM 1) nilM)) (tgN 3) (tstM (op2 eqA (callM 2 drawM (consM (vM 0) (consM (cM (.int 2)) nilM))) (cM (.int 0)))) (vM 3) [2, 3]) nilM)))
def g_law_pairs : List A → M A := defM 5 (seqM (setM 1 (onA mkLst nilM)) (seqM (forS (itOn range1A (consM (vM 0) nilM)) (tgN 2) (seqM (ext2M 1 (lcM (itOn range2A (consM (op2 addA (vM 2) (cM (.int 1))) (consM (vM 0) nilM))) (tgN 4) yesM (onA mkTup (consM (vM 2) (consM (vM 4) nilM))) [3, 4])) nxM)) (retM (vM 1))))
def g_law_plain (T : Nat → List Str) : List A → M A := defM 1 (retM (iteM (truM (isi1 (.own 20) (vM 0))) (attM T "lots" (vM 0)) (cM .non)))
/-! ### small steps -/
theorem ext2T_ret {i : Nat} {m : ME'} {ρ : Env'} {xs ys : List A} (hi : ρ[i]? = some (some (.lst xs))) (h : m ρ = ret (.tup ys)) (hl : xs.length + ys.length ≤ 100000) : ext2M i m ρ = ret (.nx (ρ.set i (some (.lst (xs ++ ys))))) := by
  unfold ext2M ownL
  rw [hi]
  show bd (m ρ) _ = _
  rw [bd_eq h]
  refine if_pos (line5 ?_)
  rw [List.length_append]
  exact hl
theorem andV_t {m n : ME'} {ρ : Env'} (h : m ρ = ret (.bl true)) : andV m n ρ = n ρ := by
  unfold andV
  rw [bd_eq h]
  rfl
theorem chn_le {ma mb mc : ME'} {ρ : Env'} {a b c : Int} (ha : ma ρ = ret (.int a)) (hb : mb ρ = ret (.int b)) (hc : mc ρ = ret (.int c)) (h1 : a ≤ b) (h2 : b ≤ c) : chn leA leA ma mb mc ρ = ret (.bl true) := by
  unfold chn
  rw [bd_eq ha, bd_eq hb]
  have e1 : leA (.int a) (.int b) = ret (.bl true) := by
    show ret (A.bl (decide (a ≤ b))) = _
    rw [decide_eq_true h1]
  have e2 : leA (.int b) (.int c) = ret (.bl true) := by
    show ret (A.bl (decide (b ≤ c))) = _
    rw [decide_eq_true h2]
  rw [bd_eq e1]
  show bd (mc ρ) _ = _
  rw [bd_eq hc, e2]
theorem for_rt {t : Tg} {body : MS'} {x a : A} {xs : List A} {ρ ρ1 : Env'} (ht : t x ρ = some ρ1) (hb : body ρ1 = ret (.rt a)) : forM t body (x :: xs) ρ = ret (.rt a) := by
  show (match t x ρ with
    | none => no
    | some ρ1 => bd (body ρ1) fun f => match f with
      | .nx ρ2 => forM t body xs ρ2
      | .ct ρ2 => forM t body xs ρ2
      | .bk ρ2 => ret (.nx ρ2)
      | .rt a => ret (.rt a)) = _
  rw [ht]
  dsimp only
  rw [bd_eq hb]
theorem initM_ret {N : Nat} {m : Env' → M (List A)} {as fs : List A} (h1 : noClos as = true) (h2 : m (start' N (.fn EX :: as)) = ret fs) (h3 : noClos fs = true) : initM N m as = ret fs := by
  funext p
  unfold initM
  rw [if_pos h1, h2]
  exact if_pos h3
theorem preI_ret {m : MS'} {n : Env' → M (List A)} {ρ ρ' : Env'} (h : m ρ = ret (.nx ρ')) : preI m n ρ = n ρ' := by
  unfold preI
  rw [bd_eq h]
theorem setI_ret {m : ME'} {n : Env' → M (List A)} {ρ : Env'} {a : A} {gs : List A} (h0 : selfOk ρ = true) (h : m ρ = ret a) (h2 : n ρ = ret gs) : setI m n ρ = ret (a :: gs) := by
  unfold setI
  rw [if_pos h0, bd_eq h, bd_eq h2]
theorem newM_ret {c n : Nat} {m : List A → M (List A)} {ms : Env' → M (List A)} {ρ : Env'} {as fs : List A} (h : ms ρ = ret as) (hn : as.length = n) (h2 : m as = ret fs) : newM c n m ms ρ = ret (.ins c fs) := by
  unfold newM
  rw [bd_eq h, if_pos hn, bd_eq h2]
theorem drop_ret {m : ME'} {ρ : Env'} {a : A} (h : m ρ = ret a) : dropM m ρ = ret (.nx ρ) := by
  unfold dropM
  rw [bd_eq h]
theorem setIM_ret {i : Nat} {mj m : ME'} {ρ : Env'} {xs : List A} {j : Int} {a : A} (hi : ρ[i]? = some (some (.lst xs))) (hj : mj ρ = ret (.int j)) (h : m ρ = ret a) (h0 : 0 ≤ j) (h1 : j < xs.length) (hl : xs.length ≤ 1000) : setIM i mj m ρ = ret (.nx (ρ.set i (some (.lst (xs.set j.toNat a))))) := by
  have e : ixN xs.length j = some j.toNat := by
    unfold ixN
    simp [h0, h1]
  unfold setIM
  rw [bd_eq h]
  unfold ownL
  rw [hi]
  dsimp only
  rw [bd_eq hj]
  dsimp only
  rw [e]
  exact if_pos (by rw [List.length_set]; exact small_line hl)
theorem lstRg_ret {m : ME'} {ρ : Env'} {b : Int} (h : m ρ = ret (.int b)) (h0 : 0 ≤ b) (h1 : b < 1000000) : lstRg (rg1M m) ρ = ret (lstI (rng b)) := by
  have e0 : rg1M m ρ = ret (0, b) := by
    unfold rg1M
    rw [bd_eq h]
    rfl
  have e1 : (2 : Int) ^ 62 = 4611686018427387904 := by rfl
  have e2 : (2 : Nat) ^ 24 = 16777216 := by rfl
  have e3 : rgOk 0 b = true := by
    unfold rgOk
    rw [e1, e2]
    exact decide_eq_true (by omega)
  unfold lstRg
  rw [bd_eq e0]
  dsimp only
  rw [rangeL_rng]
  exact if_pos e3
theorem tupRg_ret {m : ME'} {ρ : Env'} {b : Int} (h : m ρ = ret (.int b)) (h0 : 0 ≤ b) (h1 : b < 1000000) : tupRg (rg1M m) ρ = ret (tupI (rng b)) := by
  have e0 : rg1M m ρ = ret (0, b) := by
    unfold rg1M
    rw [bd_eq h]
    rfl
  have e1 : (2 : Int) ^ 62 = 4611686018427387904 := by rfl
  have e2 : (2 : Nat) ^ 24 = 16777216 := by rfl
  have e3 : rgOk 0 b = true := by
    unfold rgOk
    rw [e1, e2]
    exact decide_eq_true (by omega)
  unfold tupRg
  rw [bd_eq e0]
  dsimp only
  rw [rangeL_rng]
  exact if_pos e3
theorem sum_ints (ns : List Int) : sumA [lstI ns] = ret (.int ns.sum) := by
  have h : ∀ ns : List Int, intsOf (iL ns) = some ns := fun ns => by
    induction ns with
    | nil => rfl
    | cons n ns ih => unfold iL at ih ⊢; simp only [List.map_cons, intsOf, ih, Option.map_some]
  simp only [sumA, lstI, h]
/-! ### lots -/
def encL (L : List (List Int)) : A := .tup (L.map tupI)
def levA (L : List (List Int)) : A := .ins 20 [encL L]
/-- levels of m worlds -/
structure Lv (m : Nat) (L : List (List Int)) : Prop where
  lot : ∀ l ∈ L, Lot m l
  ne : ∀ l ∈ L, l ≠ []
  nd : L.flatten.Nodup
  mem : ∀ x, x ∈ L.flatten ↔ 0 ≤ x ∧ x < (m : Int)
theorem lt_of_nodup {ws : List Int} (h1 : ws.Pairwise (· ≤ ·)) (h2 : ws.Nodup) : ws.Pairwise (· < ·) := (List.Pairwise.and h1 h2).imp fun ⟨a, b⟩ => by omega
theorem Lv.srt_eq {m : Nat} {L : List (List Int)} (h : Lv m L) : srt L.flatten = rng m := asc_ext (lt_of_nodup (srt_asc _) ((srt_perm _).nodup_iff.mpr h.nd)) (rng_sorted _) fun z => by rw [(srt_perm _).mem_iff, h.mem, mem_rng]
theorem Lv.flat {m : Nat} {L : List (List Int)} (h : Lv m L) : L.flatten.length = m := by
  rw [← (srt_perm L.flatten).length_eq, h.srt_eq, rng_length]
  omega
theorem len_flat {L : List (List Int)} (h : ∀ l ∈ L, l ≠ []) : L.length ≤ L.flatten.length := by
  induction L with
  | nil => exact Nat.le_refl _
  | cons l L ih =>
    have a := ih fun x hx => h x (List.mem_cons_of_mem _ hx)
    have b := List.length_pos_iff.mpr (h l List.mem_cons_self)
    simp only [List.length_cons, List.flatten_cons, List.length_append]
    omega
theorem Lv.len {m : Nat} {L : List (List Int)} (h : Lv m L) : L.length ≤ m := h.flat ▸ len_flat h.ne
theorem Lv.lotlen {m : Nat} {L : List (List Int)} (h : Lv m L) {l : List Int} (hl : l ∈ L) : l.length ≤ m := by
  have := (h.lot l hl).length_le
  rw [rng_length] at this
  omega
theorem Lv.inn {m : Nat} {L : List (List Int)} (h : Lv m L) {l : List Int} (hl : l ∈ L) {x : Int} (hx : x ∈ l) : 0 ≤ x ∧ x < (m : Int) := mem_rng.mp ((h.lot l hl).subset hx)
theorem rng_sub {m n : Nat} (h : m ≤ n) : (rng m).Sublist (rng n) := by
  unfold rng
  refine List.Sublist.map _ (List.range_sublist.mpr ?_)
  omega
theorem noClo_I (zs : List Int) : noClo (tupI zs) = true := by
  unfold tupI noClo
  induction zs with
  | nil => rfl
  | cons z zs ih => simp only [iL, List.map_cons, noClos, noClo, Bool.true_and]; exact ih
theorem noClos_L (L : List (List Int)) : noClos (L.map tupI) = true := by
  induction L with
  | nil => rfl
  | cons l L ih => simp only [List.map_cons, noClos, noClo_I, ih, Bool.and_self]
theorem noClo_L (L : List (List Int)) : noClo (encL L) = true := by unfold encL; simp only [noClo, noClos_L]
theorem noClo_lev (L : List (List Int)) : noClo (levA L) = true := by unfold levA; simp only [noClo, noClos, noClo_L, Bool.and_self]
theorem tv_tup {zs : List Int} (h : zs ≠ []) (hl : zs.length ≤ 1000) : tvA (tupI zs) = some true := by
  have e : toPy (tupI zs) = some (.tuple (zs.map PyData.int)) := by
    unfold tupI
    simp only [toPy, toPys_iL, Option.map_some]
  have g : fitB (.tuple (zs.map PyData.int)) = true := decide_eq_true (by rw [List.length_map]; exact small_line hl)
  unfold tvA
  rw [e]
  show (if fitB (.tuple (zs.map PyData.int)) = true then some (PyData.truthy (.tuple (zs.map PyData.int))) else none) = _
  rw [if_pos g]
  cases zs with
  | nil => exact absurd rfl h
  | cons z zs => rfl
theorem allA_ne {L : List (List Int)} (h : ∀ l ∈ L, l ≠ [] ∧ l.length ≤ 1000) : allA [.lst (L.map tupI)] = ret (.bl true) := by
  have e : tvAs (L.map tupI) = some (L.map fun _ => true) := by
    induction L with
    | nil => rfl
    | cons l L ih =>
      have a := h l List.mem_cons_self
      simp only [List.map_cons, tvAs, tv_tup a.1 a.2, ih fun x hx => h x (List.mem_cons_of_mem _ hx)]
  simp only [allA, e]
  have e2 : (L.map fun _ => true).all id = true := by simp
  rw [e2]
theorem ext_loop {x0 x3 : Option A} : ∀ (L : List (List Int)) (acc : List Int) (x1 : Option A), acc.length + L.flatten.length ≤ 1000 → ∃ y1, forM (tgN 1) (seqM (ext2M 2 (vM 1)) nxM) (L.map tupI) [x0, x1, some (lstI acc), x3] = ret (.nx [x0, y1, some (lstI (acc ++ L.flatten)), x3])
  | [], acc, x1, _ => ⟨x1, by rw [List.flatten_nil, List.append_nil]; rfl⟩
  | l :: L, acc, x1, h => by
    simp only [List.flatten_cons, List.length_append] at h
    obtain ⟨y1, e⟩ := ext_loop (x0 := x0) (x3 := x3) L (acc ++ l) (some (tupI l)) (by rw [List.length_append]; omega)
    refine ⟨y1, ?_⟩
    rw [List.map_cons, List.flatten_cons, ← List.append_assoc]
    refine (for_nx (ρ1 := [x0, some (tupI l), some (lstI acc), x3]) (ρ2 := [x0, some (tupI l), some (lstI (acc ++ l)), x3]) rfl ?_).trans e
    refine (seqM_nx (ext2T_ret (xs := iL acc) (ys := iL l) rfl rfl (by unfold iL; rw [List.length_map, List.length_map]; omega))).trans ?_
    show ret (Fl.nx [x0, some (tupI l), some (.lst (iL acc ++ iL l)), x3]) = _
    unfold iL
    rw [← List.map_append]
theorem Lv.are {m : Nat} {L : List (List Int)} (h : Lv m L) (h1 : 1 ≤ m) (h8 : m ≤ 8) : g_are_levels [encL L] = ret (.bl true) := by
  have hf := h.flat
  have hn := h.len
  have e0 : lcM (itSeq (vM 0)) (tgN 1) yesM (andV (callM 2 g_is_lot (consM (cM (.int 8)) (consM (vM 1) nilM))) (vM 1)) [3, 1] [some (encL L), none, none, none] = ret (.lst (L.map tupI)) := by
    have e := lcM_mapE (it := itSeq (vM 0)) (t := tgN 1) (c := yesM) (e := andV (callM 2 g_is_lot (consM (cM (.int 8)) (consM (vM 1) nilM))) (vM 1)) (vs := [3, 1]) (ρ := [some (encL L), none, none, none]) (enc := tupI) (enc' := tupI) (L := L) (fun l => l) (itSeq_tup rfl) (fun l hl => lcF_yes ((andV_t ((callM_ret (n := 2) (m := g_is_lot) (as := [.int 8, tupI l]) rfl rfl).trans (lot_ok (n := 8) ((h.lot l hl).trans (rng_sub h8)) (by omega)))).trans rfl)) (by omega)
    rw [List.map_id'] at e
    exact e
  have e1 : onA allA (consM (lcM (itSeq (vM 0)) (tgN 1) yesM (andV (callM 2 g_is_lot (consM (cM (.int 8)) (consM (vM 1) nilM))) (vM 1)) [3, 1]) nilM) [some (encL L), none, none, none] = ret (.bl true) := (onA_ret (consM_ret (ms := nilM) e0 rfl)).trans (allA_ne fun l hl => ⟨h.ne l hl, by have := h.lotlen hl; omega⟩)
  unfold g_are_levels
  refine defM_rt ((seqM_nx (ite_nx ((orT_f rfl).trans (notT_t (truM_ret e1))))).trans ((seqM_nx (setM_ret lst_nil)).trans ?_))
  obtain ⟨y1, e2⟩ := ext_loop (x0 := some (encL L)) (x3 := none) L [] none (by rw [List.length_nil]; omega)
  refine (seqM_nx (forS_ret (xs := L.map tupI) (itSeq_tup rfl) e2)).trans (retM_ret ?_)
  rw [List.nil_append]
  have e3 : onA lenA (consM (vM 2) nilM) [some (encL L), y1, some (lstI L.flatten), none] = ret (.int (m : Int)) := by
    refine (len_lst (xs := iL L.flatten) rfl).trans ?_
    unfold iL
    rw [List.length_map, hf]
  have e4 : onA sortKTA (consM (vM 2) nilM) [some (encL L), y1, some (lstI L.flatten), none] = ret (lstI (rng m)) := by
    rw [← h.srt_eq]
    exact (onA_ret (as := [lstI L.flatten]) rfl).trans (sortKTA_of (sortL_ints (by omega)))
  refine (andV_t (chn_le rfl e3 rfl (by omega) (by omega))).trans ((op2_ret e4 (lstRg_ret e3 (by omega) (by omega))).trans ((codeI.lst.eqA (by omega) _ _).trans ?_))
  rw [decide_eq_true rfl]
theorem Lv.init {m : Nat} {L : List (List Int)} (h : Lv m L) (h1 : 1 ≤ m) (h8 : m ≤ 8) {a : A} (ha : a = encL L ∨ a = .lst (L.map tupI)) : g_Levels_init [a] = ret [encL L] := by
  unfold g_Levels_init
  refine initM_ret ?_ ?_ (by simp only [noClos, noClo_L, Bool.and_self])
  · rcases ha with rfl | rfl
    · simp only [noClos, noClo_L, Bool.and_self]
    · simp only [noClos, noClo, noClos_L, Bool.and_self]
  · have e1 : setM 2 (iteM (truM (isi1 (.ty "list") (vM 1))) (onA tupA (consM (vM 1) nilM)) (vM 1)) (start' 3 [.fn EX, a]) = ret (.nx [some (.fn EX), some a, some (encL L)]) := by
      rcases ha with rfl | rfl
      · exact setM_ret rfl
      · exact setM_ret rfl
    refine (preI_ret e1).trans ((preI_ret (ite_nx (notT_t (truM_ret ((callM_ret (n := 1) (m := g_are_levels) (as := [encL L]) rfl rfl).trans (h.are h1 h8)))))).trans (setI_ret rfl rfl rfl))
theorem Lv.new {m : Nat} {L : List (List Int)} (h : Lv m L) (h1 : 1 ≤ m) (h8 : m ≤ 8) {a : A} (ha : a = encL L ∨ a = .lst (L.map tupI)) {ms : ME'} {ρ : Env'} (hm : ms ρ = ret a) : newM 20 1 g_Levels_init (consM ms nilM) ρ = ret (levA L) := newM_ret (consM_ret (ms := nilM) hm rfl) rfl (h.init h1 h8 ha)
/-! ### attributes, how many -/
theorem sum_flat (L : List (List Int)) : (L.map fun l => ((l.length : Nat) : Int)).sum = ((L.flatten.length : Nat) : Int) := by
  induction L with
  | nil => rfl
  | cons l L ih =>
    simp only [List.map_cons, List.sum_cons, ih, List.flatten_cons, List.length_append]
    omega
section
variable {T : Nat → List Str} (hT : T 20 = [("lots" : Str)])
include hT
theorem lots_ret {m : ME'} {ρ : Env'} {L : List (List Int)} (h : m ρ = ret (levA L)) : attM T "lots" m ρ = ret (encL L) := by
  unfold attM
  rw [bd_eq h]
  unfold levA attA
  dsimp only
  rw [if_pos (Nat.le_refl 20), hT]
  have e : ((["lots"] : List Str).zip [encL L]).lookup ("lots" : Str) = some (encL L) := by
    show (([(("lots" : Str), encL L)] : List (Str × A)).lookup ("lots" : Str)) = _
    rw [List.lookup_cons, beq_self_eq_true]
  rw [e]
theorem many_ok {m : Nat} {L : List (List Int)} (h : Lv m L) (h8 : m ≤ 8) : g_many_of T [levA L] = ret (.int (m : Nat)) := by
  have hn := h.len
  unfold g_many_of
  refine defM_rt (retM_ret ?_)
  have e := lcM_mapE (it := itSeq (attM T "lots" (vM 0))) (t := tgN 2) (c := yesM) (e := onA lenA (consM (vM 2) nilM)) (vs := [1, 2]) (ρ := start' 3 [levA L]) (enc := tupI) (enc' := A.int) (L := L) (fun l => ((l.length : Nat) : Int)) (itSeq_tup (lots_ret hT rfl)) (fun l hl => lcF_yes (by
    refine (onA_ret (as := [tupI l]) rfl).trans ?_
    show ret (A.int ((iL l).length : Nat)) = _
    unfold iL
    rw [List.length_map])) (by omega)
  refine (onA_ret (consM_ret (ms := nilM) e rfl)).trans ((sum_ints _).trans ?_)
  rw [sum_flat, h.flat]
theorem many_call {m : Nat} {L : List (List Int)} (h : Lv m L) (h8 : m ≤ 8) {ρ : Env'} {i : Nat} (hi : vM i ρ = ret (levA L)) : callM 1 (g_many_of T) (consM (vM i) nilM) ρ = ret (.int (m : Nat)) := (callM_ret (n := 1) (as := [levA L]) (consM_ret (ms := nilM) hi rfl) rfl).trans (many_ok hT h h8)
end
theorem need_lev {w : A} {L : List (List Int)} : g_need_levels [w, levA L] = ret (levA L) := by
  unfold g_need_levels
  exact defM_rt ((seqM_nx (ite_nx (notT_t (truM_ret (b := true) rfl)))).trans rfl)
/-! ### heights -/
def setW (xs : List Int) (v : Int) : List Int → List Int
  | [] => xs
  | w :: ws => setW (xs.set w.toNat v) v ws
def hgt : Nat → List (List Int) → List Int → List Int
  | _, [], xs => xs
  | k, l :: L, xs => hgt (k + 1) L (setW xs k l)
def heightsL (m : Nat) (L : List (List Int)) : List Int := hgt 0 L (List.replicate m 0)
theorem setW_len (v : Int) : ∀ (ws xs : List Int), (setW xs v ws).length = xs.length
  | [], xs => rfl
  | w :: ws, xs => by rw [setW, setW_len v ws, List.length_set]
theorem hgt_len : ∀ (L : List (List Int)) (k : Nat) (xs : List Int), (hgt k L xs).length = xs.length
  | [], k, xs => rfl
  | l :: L, k, xs => by rw [hgt, hgt_len L, setW_len]
theorem heights_len (m : Nat) (L : List (List Int)) : (heightsL m L).length = m := by unfold heightsL; rw [hgt_len, List.length_replicate]
theorem iL_set (xs : List Int) (i : Nat) (v : Int) : (iL xs).set i (.int v) = iL (xs.set i v) := by unfold iL; rw [List.map_set]
theorem iL_len (xs : List Int) : (iL xs).length = xs.length := by unfold iL; rw [List.length_map]
theorem inner5 {x0 x3 : Option A} {v : Int} : ∀ (ws xs : List Int) (x4 : Option A), (∀ w ∈ ws, 0 ≤ w ∧ w < (xs.length : Int)) → xs.length ≤ 1000 → ∃ y4, forM (tgN 4) (seqM (setIM 1 (vM 4) (vM 2)) nxM) (iL ws) [x0, some (lstI xs), some (.int v), x3, x4] = ret (.nx [x0, some (lstI (setW xs v ws)), some (.int v), x3, y4])
  | [], xs, x4, _, _ => ⟨x4, rfl⟩
  | w :: ws, xs, x4, h, hl => by
    have hw := h w List.mem_cons_self
    obtain ⟨y4, e⟩ := inner5 (x0 := x0) (x3 := x3) (v := v) ws (xs.set w.toNat v) (some (.int w)) (fun z hz => by rw [List.length_set]; exact h z (List.mem_cons_of_mem _ hz)) (by rw [List.length_set]; exact hl)
    refine ⟨y4, (for_nx (ρ1 := [x0, some (lstI xs), some (.int v), x3, some (.int w)]) (ρ2 := [x0, some (lstI (xs.set w.toNat v)), some (.int v), x3, some (.int w)]) rfl ?_).trans e⟩
    refine (seqM_nx (setIM_ret (xs := iL xs) (j := w) (a := .int v) rfl rfl rfl hw.1 (by rw [iL_len]; exact hw.2) (by rw [iL_len]; exact hl))).trans ?_
    rw [iL_set]
    rfl
theorem inner6 {x0 x4 x5 : Option A} {v : Int} : ∀ (ws xs : List Int) (x3 : Option A), (∀ w ∈ ws, 0 ≤ w ∧ w < (xs.length : Int)) → xs.length ≤ 1000 → ∃ y3, forM (tgN 3) (seqM (setIM 1 (vM 3) (vM 2)) nxM) (iL ws) [x0, some (lstI xs), some (.int v), x3, x4, x5] = ret (.nx [x0, some (lstI (setW xs v ws)), some (.int v), y3, x4, x5])
  | [], xs, x3, _, _ => ⟨x3, rfl⟩
  | w :: ws, xs, x3, h, hl => by
    have hw := h w List.mem_cons_self
    obtain ⟨y3, e⟩ := inner6 (x0 := x0) (x4 := x4) (x5 := x5) (v := v) ws (xs.set w.toNat v) (some (.int w)) (fun z hz => by rw [List.length_set]; exact h z (List.mem_cons_of_mem _ hz)) (by rw [List.length_set]; exact hl)
    refine ⟨y3, (for_nx (ρ1 := [x0, some (lstI xs), some (.int v), some (.int w), x4, x5]) (ρ2 := [x0, some (lstI (xs.set w.toNat v)), some (.int v), some (.int w), x4, x5]) rfl ?_).trans e⟩
    refine (seqM_nx (setIM_ret (xs := iL xs) (j := w) (a := .int v) rfl rfl rfl hw.1 (by rw [iL_len]; exact hw.2) (by rw [iL_len]; exact hl))).trans ?_
    rw [iL_set]
    rfl
theorem outer5 {x0 : Option A} : ∀ (L : List (List Int)) (k : Nat) (xs : List Int) (x2 x3 x4 : Option A), (∀ l ∈ L, ∀ w ∈ l, 0 ≤ w ∧ w < (xs.length : Int)) → xs.length ≤ 1000 → ∃ y2 y3 y4, forM (tgT 2 (tgCons (tgN 2) (tgCons (tgN 3) tgNil))) (seqM (forS (itSeq (vM 3)) (tgN 4) (seqM (setIM 1 (vM 4) (vM 2)) nxM)) nxM) (countF tupI k L) [x0, some (lstI xs), x2, x3, x4] = ret (.nx [x0, some (lstI (hgt k L xs)), y2, y3, y4])
  | [], k, xs, x2, x3, x4, _, _ => ⟨x2, x3, x4, rfl⟩
  | l :: L, k, xs, x2, x3, x4, h, hl => by
    obtain ⟨z4, e1⟩ := inner5 (x0 := x0) (x3 := some (tupI l)) (v := (k : Nat)) l xs x4 (h l List.mem_cons_self) hl
    obtain ⟨y2, y3, y4, e2⟩ := outer5 (x0 := x0) L (k + 1) (setW xs k l) (some (.int (k : Nat))) (some (tupI l)) z4 (fun z hz => by rw [setW_len]; exact h z (List.mem_cons_of_mem _ hz)) (by rw [setW_len]; exact hl)
    refine ⟨y2, y3, y4, ?_⟩
    rw [countF, hgt]
    refine (for_nx (ρ1 := [x0, some (lstI xs), some (.int (k : Nat)), some (tupI l), x4]) (ρ2 := [x0, some (lstI (setW xs k l)), some (.int (k : Nat)), some (tupI l), z4]) rfl ?_).trans e2
    exact (seqM_nx (forS_ret (xs := iL l) (itSeq_tup rfl) e1)).trans rfl
theorem rep_flat : ∀ m : Nat, (List.replicate m ([A.int 0] : List A)).flatten = iL (List.replicate m 0)
  | 0 => rfl
  | m + 1 => by rw [List.replicate_succ, List.flatten_cons, rep_flat m, List.replicate_succ]; rfl
theorem zeros {m : Nat} {mk : ME'} {ρ : Env'} (h : mk ρ = ret (.int (m : Nat))) (h8 : m ≤ 8) : op2 repA (onA mkLst (consM (cM (.int 0)) nilM)) mk ρ = ret (lstI (List.replicate m 0)) := by
  have e0 : onA mkLst (consM (cM (.int 0)) nilM) ρ = ret (lstI [0]) := (onA_ret (as := [.int 0]) rfl).trans (mkLst_ret (small_line (show 1 ≤ 1000 by decide)))
  have e2 : (2 : Int) ^ 63 = 9223372036854775808 := by rfl
  have e3 : ∀ k : Int, (-(2 ^ 63) ≤ k ∧ k < 2 ^ 63 ∧ 1 * k.toNat ≤ sizeLine) → repA (lstI [0]) (.int k) = ret (.lst (List.replicate k.toNat ([A.int 0] : List A)).flatten) := fun k c => if_pos c
  refine (op2_ret e0 h).trans ((e3 _ ⟨by rw [e2]; omega, by rw [e2]; omega, by rw [Nat.one_mul]; exact small_line (by omega)⟩).trans ?_)
  rw [show ((m : Nat) : Int).toNat = m by omega, rep_flat]
theorem heights_ok {T : Nat → List Str} (hT : T 20 = [("lots" : Str)]) {m : Nat} {L : List (List Int)} (h : Lv m L) (h8 : m ≤ 8) : g_heights_by T [levA L] = ret (lstI (heightsL m L)) := by
  have hl := h.len
  unfold g_heights_by
  refine defM_rt ((seqM_nx (setM_ret (zeros (many_call hT h h8 rfl) h8))).trans ?_)
  obtain ⟨y2, y3, y4, e⟩ := outer5 (x0 := some (levA L)) L 0 (List.replicate m 0) none none none (fun l hl w hw => by rw [List.length_replicate]; exact h.inn hl hw) (by rw [List.length_replicate]; omega)
  have e1 : itOn enumTA (consM (attM T "lots" (vM 0)) nilM) [some (levA L), some (lstI (List.replicate m 0)), none, none, none] = ret (countF tupI 0 L) := by
    refine (itOn_ret (consM_ret (ms := nilM) (lots_ret hT rfl) rfl)).trans ?_
    show ret (enumL (L.map tupI)) = _
    rw [enumL_eq]
  exact (seqM_nx (forS_ret e1 e)).trans (retM_ret rfl)
theorem heights_call {T : Nat → List Str} (hT : T 20 = [("lots" : Str)]) {m : Nat} {L : List (List Int)} (h : Lv m L) (h8 : m ≤ 8) {ρ : Env'} {i : Nat} (hi : vM i ρ = ret (levA L)) : callM 1 (g_heights_by T) (consM (vM i) nilM) ρ = ret (lstI (heightsL m L)) := (callM_ret (n := 1) (as := [levA L]) (consM_ret (ms := nilM) hi rfl) rfl).trans (heights_ok hT h h8)
theorem outer6 {L0 : List (List Int)} {x4 x5 : Option A} : ∀ (L : List (List Int)) (k : Nat) (xs : List Int) (x2 x3 : Option A), L0.drop k = L → (∀ l ∈ L, ∀ w ∈ l, 0 ≤ w ∧ w < (xs.length : Int)) → xs.length ≤ 1000 → ∃ y2 y3, forM (tgN 2) (seqM (forS (itSeq (op2 ixA (vM 0) (vM 2))) (tgN 3) (seqM (setIM 1 (vM 3) (vM 2)) nxM)) nxM) ((List.range' k L.length).map fun i => A.int (i : Nat)) [some (encL L0), some (lstI xs), x2, x3, x4, x5] = ret (.nx [some (encL L0), some (lstI (hgt k L xs)), y2, y3, x4, x5])
  | [], k, xs, x2, x3, _, _, _ => ⟨x2, x3, rfl⟩
  | l :: L, k, xs, x2, x3, hd, h, hl => by
    obtain ⟨z3, e1⟩ := inner6 (x0 := some (encL L0)) (x4 := x4) (x5 := x5) (v := (k : Nat)) l xs x3 (h l List.mem_cons_self) hl
    have hg : L0[k]? = some l := by
      have := congrArg (fun M => M[0]?) hd
      simpa using this
    obtain ⟨y2, y3, e2⟩ := outer6 (L0 := L0) (x4 := x4) (x5 := x5) L (k + 1) (setW xs k l) (some (.int (k : Nat))) z3 (by
      have := congrArg List.tail hd
      simpa using this) (fun z hz => by rw [setW_len]; exact h z (List.mem_cons_of_mem _ hz)) (by rw [setW_len]; exact hl)
    refine ⟨y2, y3, ?_⟩
    rw [List.length_cons, List.range'_succ, List.map_cons, hgt]
    refine (for_nx (ρ1 := [some (encL L0), some (lstI xs), some (.int (k : Nat)), x3, x4, x5]) (ρ2 := [some (encL L0), some (lstI (setW xs k l)), some (.int (k : Nat)), z3, x4, x5]) rfl ?_).trans e2
    have e3 : op2 ixA (vM 0) (vM 2) [some (encL L0), some (lstI xs), some (.int (k : Nat)), x3, x4, x5] = ret (tupI l) := by
      refine (op2_ret (a := encL L0) (b := .int (k : Nat)) rfl rfl).trans ?_
      have e : atI (L0.map tupI) ((k : Nat) : Int) = some (tupI l) := atI_nat (by omega) (by
        rw [List.getElem?_map, show ((k : Nat) : Int).toNat = k by omega, hg]
        rfl)
      simp only [encL, ixA, e]
    exact (seqM_nx (forS_ret (xs := iL l) (itSeq_tup e3) e1)).trans rfl
theorem law_heights_ok {m : Nat} {L : List (List Int)} (h : Lv m L) (h8 : m ≤ 8) : g_law_heights [encL L] = ret (lstI (heightsL m L)) := by
  have hl := h.len
  unfold g_law_heights
  have e := lcM_mapE (it := itSeq (vM 0)) (t := tgN 5) (c := yesM) (e := onA lenA (consM (vM 5) nilM)) (vs := [4, 5]) (ρ := start' 6 [encL L]) (enc := tupI) (enc' := A.int) (L := L) (fun l => ((l.length : Nat) : Int)) (itSeq_tup rfl) (fun l hl => lcF_yes (by
    refine (onA_ret (as := [tupI l]) rfl).trans ?_
    show ret (A.int ((iL l).length : Nat)) = _
    rw [iL_len])) (by omega)
  have e1 : onA sumA (consM (lcM (itSeq (vM 0)) (tgN 5) yesM (onA lenA (consM (vM 5) nilM)) [4, 5]) nilM) (start' 6 [encL L]) = ret (.int (m : Nat)) := by
    refine (onA_ret (consM_ret (ms := nilM) e rfl)).trans ((sum_ints _).trans ?_)
    rw [sum_flat, h.flat]
  refine defM_rt ((seqM_nx (setM_ret (zeros e1 h8))).trans ?_)
  obtain ⟨y2, y3, e2⟩ := outer6 (L0 := L) (x4 := none) (x5 := none) L 0 (List.replicate m 0) none none rfl (fun l hl w hw => by rw [List.length_replicate]; exact h.inn hl hw) (by rw [List.length_replicate]; omega)
  have e3 : itOn range1A (consM (onA lenA (consM (vM 0) nilM)) nilM) [some (encL L), some (lstI (List.replicate m 0)), none, none, none, none] = ret ((List.range' 0 L.length).map fun i => A.int (i : Nat)) := by
    have e : consM (onA lenA (consM (vM 0) nilM)) nilM [some (encL L), some (lstI (List.replicate m 0)), none, none, none, none] = ret [.int ((L.map tupI).length : Nat)] := rfl
    rw [itOn_ret e, List.length_map]
    refine (rngW (by omega) (by omega)).trans ?_
    unfold rng iL
    rw [List.map_map, ← List.range_eq_range']
    rfl
  exact (seqM_nx (forS_ret e3 e2)).trans (retM_ret rfl)
/-! ### first ones -/
def firstF : List (List Int) → List Int → List Int
  | [], _ => []
  | l :: L, s => if l.filter (fun x => decide (x ∈ s)) = [] then firstF L s else l.filter fun x => decide (x ∈ s)
theorem firstF_sub {L : List (List Int)} {s : List Int} {x : Int} (h : x ∈ firstF L s) : x ∈ s := by
  induction L with
  | nil => cases h
  | cons l L ih =>
    unfold firstF at h
    split at h
    · exact ih h
    · exact of_decide_eq_true (List.mem_filter.mp h).2
abbrev firstB (c : Env' → M Bool) : MS' := seqM (setM 3 (onA tupA (consM (lcM (itSeq (vM 2)) (tgN 5) (tstM (op2 inA (vM 5) (vM 1))) (vM 5) [4, 5]) nilM))) (seqM (iteM c (retM (vM 3)) nxM) nxM)
theorem first_loop {c : Env' → M Bool} {x0 x4 x5 : Option A} {s : List Int} (hc : ∀ (x1 x2 : Option A) (f : List Int), f.length ≤ 1000 → c [x0, x1, x2, some (tupI f), x4, x5] = ret (!decide (f = []))) : ∀ (L : List (List Int)) (x2 x3 : Option A), (∀ l ∈ L, l.length ≤ 1000) →
    (firstF L s = [] ∧ ∃ y2 y3, forM (tgN 2) (firstB c) (L.map tupI) [x0, some (tupI s), x2, x3, x4, x5] = ret (.nx [x0, some (tupI s), y2, y3, x4, x5])) ∨ (firstF L s ≠ [] ∧ forM (tgN 2) (firstB c) (L.map tupI) [x0, some (tupI s), x2, x3, x4, x5] = ret (.rt (tupI (firstF L s))))
  | [], x2, x3, _ => .inl ⟨rfl, x2, x3, rfl⟩
  | l :: L, x2, x3, h => by
    have hl := h l List.mem_cons_self
    have hf : (l.filter fun x => decide (x ∈ s)).length ≤ 1000 := Nat.le_trans (List.length_filter_le _ _) hl
    have e1 : setM 3 (onA tupA (consM (lcM (itSeq (vM 2)) (tgN 5) (tstM (op2 inA (vM 5) (vM 1))) (vM 5) [4, 5]) nilM)) [x0, some (tupI s), some (tupI l), x3, x4, x5] = ret (.nx [x0, some (tupI s), some (tupI l), some (tupI (l.filter fun x => decide (x ∈ s))), x4, x5]) := by
      have e := lcM_filter (it := itSeq (vM 2)) (t := tgN 5) (c := tstM (op2 inA (vM 5) (vM 1))) (e := vM 5) (vs := [4, 5]) (ρ := [x0, some (tupI s), some (tupI l), x3, x4, x5]) (ns := l) (fun x => decide (x ∈ s)) (itSeq_tup rfl) (fun x _ => lcF_if (tstM_ret ((op2_ret (a := .int x) (b := tupI s) rfl rfl).trans (inI_B x s _))) rfl) (small_line hl)
      exact setM_ret ((onA_ret (consM_ret (ms := nilM) e rfl)).trans rfl)
    have hb : ∀ (y1 : Option A), c [x0, y1, some (tupI l), some (tupI (l.filter fun x => decide (x ∈ s))), x4, x5] = ret (!decide ((l.filter fun x => decide (x ∈ s)) = [])) := fun y1 => hc y1 _ _ hf
    by_cases e : l.filter (fun x => decide (x ∈ s)) = []
    · have hF : firstF (l :: L) s = firstF L s := if_pos e
      have b2 : firstB c [x0, some (tupI s), some (tupI l), x3, x4, x5] = ret (.nx [x0, some (tupI s), some (tupI l), some (tupI (l.filter fun x => decide (x ∈ s))), x4, x5]) := (seqM_nx e1).trans ((seqM_nx (ite_nx ((hb _).trans (by rw [decide_eq_true e]; rfl)))).trans rfl)
      rw [hF]
      rcases first_loop hc L (some (tupI l)) (some (tupI (l.filter fun x => decide (x ∈ s)))) (fun z hz => h z (List.mem_cons_of_mem _ hz)) with ⟨f1, y2, y3, f2⟩ | ⟨f1, f2⟩
      · exact .inl ⟨f1, y2, y3, (for_nx (ρ1 := [x0, some (tupI s), some (tupI l), x3, x4, x5]) rfl b2).trans f2⟩
      · exact .inr ⟨f1, (for_nx (ρ1 := [x0, some (tupI s), some (tupI l), x3, x4, x5]) rfl b2).trans f2⟩
    · have hF : firstF (l :: L) s = l.filter (fun x => decide (x ∈ s)) := if_neg e
      rw [hF]
      refine .inr ⟨e, for_rt (ρ1 := [x0, some (tupI s), some (tupI l), x3, x4, x5]) rfl ?_⟩
      exact (seqM_nx e1).trans (seqM_rt ((ite_t ((hb _).trans (by rw [decide_eq_false e]; rfl))).trans (retM_ret rfl)))
theorem tru_tup {i : Nat} {ρ : Env'} {f : List Int} (h : vM i ρ = ret (tupI f)) : truM (vM i) ρ = ret (!decide (f = [])) := by
  unfold truM
  rw [bd_eq h]
  show ret (!(iL f).isEmpty) = _
  cases f <;> rfl
theorem tup_nil {ρ : Env'} : onA mkTup nilM ρ = ret (tupI []) := (onA_ret (as := []) rfl).trans (mkTup_ret (small_line (show 0 ≤ 1000 by decide)))
theorem ne_nil {i : Nat} {ρ : Env'} {f : List Int} (h : vM i ρ = ret (tupI f)) : tstM (op2 neA (vM i) (onA mkTup nilM)) ρ = ret (!decide (f = [])) := tstM_ret ((op2_ret h tup_nil).trans (codeI.tup.neA (by omega) f []))
theorem law_first_ok {m : Nat} {L : List (List Int)} (h : Lv m L) (h8 : m ≤ 8) {s : List Int} : g_law_first [encL L, tupI s] = ret (tupI (firstF L s)) := by
  unfold g_law_first
  rcases first_loop (c := tstM (op2 neA (vM 3) (onA mkTup nilM))) (x0 := some (encL L)) (x4 := none) (x5 := none) (s := s) (fun x1 x2 f _ => ne_nil rfl) L none none (fun l hl => by have := h.lotlen hl; omega) with ⟨f1, y2, y3, f2⟩ | ⟨f1, f2⟩
  · exact defM_rt ((seqM_nx (forS_ret (xs := L.map tupI) (itSeq_tup rfl) f2)).trans (retM_ret (by rw [f1]; exact tup_nil)))
  · exact defM_rt (seqM_rt (forS_ret (xs := L.map tupI) (itSeq_tup rfl) f2))
theorem first_by_ok {T : Nat → List Str} (hT : T 20 = [("lots" : Str)]) {m : Nat} {L : List (List Int)} (h : Lv m L) (h8 : m ≤ 8) {s : List Int} : g_first_by T [levA L, tupI s] = ret (tupI (firstF L s)) := by
  unfold g_first_by
  rcases first_loop (c := truM (vM 3)) (x0 := some (levA L)) (x4 := none) (x5 := none) (s := s) (fun x1 x2 f _ => tru_tup rfl) L none none (fun l hl => by have := h.lotlen hl; omega) with ⟨f1, y2, y3, f2⟩ | ⟨f1, f2⟩
  · exact defM_rt ((seqM_nx (forS_ret (xs := L.map tupI) (itSeq_tup (lots_ret hT rfl)) f2)).trans (retM_ret (by rw [f1]; exact tup_nil)))
  · exact defM_rt (seqM_rt (forS_ret (xs := L.map tupI) (itSeq_tup (lots_ret hT rfl)) f2))
/-! ### worlds -/
def atH (H : List Int) (x : Int) : Int := H.getD x.toNat 0
theorem ix_int {H : List Int} {x : Int} (h0 : 0 ≤ x) (h1 : x < H.length) : ixA (lstI H) (.int x) = ret (.int (atH H x)) := by
  have hl : x.toNat < H.length := by omega
  have e : atI (iL H) x = some (.int (atH H x)) := atI_nat h0 (by
    unfold iL atH
    rw [List.getElem?_map, List.getElem?_eq_getElem hl, List.getD_eq_getElem?_getD, List.getElem?_eq_getElem hl]
    rfl)
  simp only [lstI, ixA, e]
section
variable {T : Nat → List Str} (hT : T 20 = [("lots" : Str)]) {m : Nat} {L : List (List Int)} (h : Lv m L) (h8 : m ≤ 8)
include hT h h8
theorem need_lev_call {i : Nat} {ρ : Env'} (hi : vM i ρ = ret (levA L)) : dropM (callM 2 g_need_levels (consM (cM (.str "levels")) (consM (vM i) nilM))) ρ = ret (.nx ρ) := drop_ret ((callM_ret (n := 2) (as := [.str "levels", levA L]) (consM_ret rfl (consM_ret (ms := nilM) hi rfl)) rfl).trans need_lev)
theorem need_world_ok {w : A} {x : Int} (h0 : 0 ≤ x) (h1 : x < m) : g_need_world T [levA L, w, .int x] = ret .non := by
  unfold g_need_world defM
  have e : callM 2 g_is_index (consM (vM 2) (consM (callM 1 (g_many_of T) (consM (vM 0) nilM)) nilM)) (start' 3 [levA L, w, .int x]) = ret (.bl true) := by
    refine (callM_ret (n := 2) (as := [.int x, .int (m : Nat)]) (consM_ret rfl (consM_ret (ms := nilM) (many_call hT h h8 rfl) rfl)) rfl).trans ((index_int x m).trans ?_)
    rw [decide_eq_true ⟨h0, h1⟩]
  rw [bd_eq ((seqM_nx (ite_nx (notT_t (truM_ret e)))).trans rfl)]
theorem need_world_call {i j : Nat} {w : Str} {ρ : Env'} {x : Int} (hi : vM i ρ = ret (levA L)) (hj : vM j ρ = ret (.int x)) (h0 : 0 ≤ x) (h1 : x < m) : dropM (callM 3 (g_need_world T) (consM (vM i) (consM (cM (.str w)) (consM (vM j) nilM)))) ρ = ret (.nx ρ) := drop_ret ((callM_ret (n := 3) (as := [levA L, .str w, .int x]) (consM_ret hi (consM_ret rfl (consM_ret (ms := nilM) hj rfl))) rfl).trans (need_world_ok hT h h8 h0 h1))
theorem level_of_ok {x : Int} (h0 : 0 ≤ x) (h1 : x < m) : g_level_of T [levA L, .int x] = ret (.int (atH (heightsL m L) x)) := by
  unfold g_level_of
  refine defM_rt ((seqM_nx (need_lev_call hT h h8 rfl)).trans ((seqM_nx (need_world_call hT h h8 rfl rfl h0 h1)).trans (retM_ret ?_)))
  exact (op2_ret (heights_call hT h h8 rfl) (b := .int x) rfl).trans (ix_int h0 (by rw [heights_len]; exact h1))
theorem is_ahead_ok {x y : Int} (x0 : 0 ≤ x) (x1 : x < m) (y0 : 0 ≤ y) (y1 : y < m) : g_is_ahead T [levA L, .int x, .int y] = ret (.bl (decide (atH (heightsL m L) x < atH (heightsL m L) y))) := by
  unfold g_is_ahead
  refine defM_rt ((seqM_nx (need_lev_call hT h h8 rfl)).trans ((seqM_nx (need_world_call hT h h8 rfl rfl x0 x1)).trans ((seqM_nx (need_world_call hT h h8 rfl rfl y0 y1)).trans ((seqM_nx (setM_ret (heights_call hT h h8 rfl))).trans (retM_ret ?_)))))
  refine (op2_ret ((op2_ret (a := lstI (heightsL m L)) (b := .int x) rfl rfl).trans (ix_int x0 (by rw [heights_len]; exact x1))) ((op2_ret (a := lstI (heightsL m L)) (b := .int y) rfl rfl).trans (ix_int y0 (by rw [heights_len]; exact y1)))).trans rfl
theorem need_say {a : A} {s : List Int} (ha : SayA a s) (hs : Lot m s) {i j : Nat} {w : Str} {ρ : Env'} (hi : vM i ρ = ret (levA L)) (hj : vM j ρ = ret a) : callM 3 g_need_saying (consM (callM 1 (g_many_of T) (consM (vM i) nilM)) (consM (cM (.str w)) (consM (vM j) nilM))) ρ = ret (tupI s) := (callM_ret (n := 3) (as := [.int (m : Nat), .str w, a]) (consM_ret (many_call hT h h8 hi) (consM_ret rfl (consM_ret (ms := nilM) hj rfl))) rfl).trans (saying_ok ha hs (by omega))
theorem first_ones_ok {a : A} {s : List Int} (ha : SayA a s) (hs : Lot m s) : g_first_ones T [levA L, a] = ret (tupI (firstF L s)) := by
  unfold g_first_ones
  refine defM_rt ((seqM_nx (need_lev_call hT h h8 rfl)).trans (retM_ret ?_))
  exact (callM_ret (n := 2) (as := [levA L, tupI s]) (consM_ret rfl (consM_ret (ms := nilM) (need_say hT h h8 ha hs rfl rfl) rfl)) rfl).trans (first_by_ok hT h h8)
end
/-! ### lots of heights -/
def lotsOf (h : List Int) : List (List Int) := (once (srt h)).map fun v => (rng h.length).filter fun i => decide (atH h i = v)
theorem atH_mem {h : List Int} {i : Int} (h0 : 0 ≤ i) (h1 : i < h.length) : atH h i ∈ h := by
  have hl : i.toNat < h.length := by omega
  unfold atH
  rw [List.getD_eq_getElem?_getD, List.getElem?_eq_getElem hl]
  exact List.getElem_mem hl
theorem mem_atH {h : List Int} {v : Int} (hv : v ∈ h) : ∃ i : Int, 0 ≤ i ∧ i < h.length ∧ atH h i = v := by
  obtain ⟨k, hk, e⟩ := List.mem_iff_getElem.mp hv
  refine ⟨(k : Int), by omega, by omega, ?_⟩
  unfold atH
  rw [show ((k : Nat) : Int).toNat = k by omega, List.getD_eq_getElem?_getD, List.getElem?_eq_getElem hk]
  exact e
theorem once_srt {h : List Int} {v : Int} : v ∈ once (srt h) ↔ v ∈ h := once_mem.trans (srt_perm h).mem_iff
theorem rng_nodup (n : Int) : (rng n).Nodup := (rng_sorted n).imp fun h => by omega
theorem lv_lotsOf (h : List Int) : Lv h.length (lotsOf h) where
  lot := fun l hl => by
    obtain ⟨v, _, rfl⟩ := List.mem_map.mp hl
    exact List.filter_sublist
  ne := fun l hl => by
    obtain ⟨v, hv, rfl⟩ := List.mem_map.mp hl
    obtain ⟨i, h0, h1, e⟩ := mem_atH (once_srt.mp hv)
    exact List.ne_nil_of_mem (List.mem_filter.mpr ⟨mem_rng.mpr ⟨h0, h1⟩, decide_eq_true e⟩)
  nd := by
    unfold lotsOf List.Nodup
    rw [List.pairwise_flatten]
    refine ⟨fun l hl => ?_, ?_⟩
    · obtain ⟨v, _, rfl⟩ := List.mem_map.mp hl
      exact (rng_nodup _).filter _
    · rw [List.pairwise_map]
      refine (once_asc (srt_asc h)).imp fun {v w} hvw x hx y hy e => ?_
      subst e
      have a := of_decide_eq_true (List.mem_filter.mp hx).2
      have b := of_decide_eq_true (List.mem_filter.mp hy).2
      omega
  mem := fun x => by
    unfold lotsOf
    rw [List.mem_flatten]
    constructor
    · rintro ⟨l, hl, hx⟩
      obtain ⟨v, _, rfl⟩ := List.mem_map.mp hl
      exact mem_rng.mp (List.mem_filter.mp hx).1
    · rintro ⟨h0, h1⟩
      exact ⟨_, List.mem_map.mpr ⟨atH h x, once_srt.mpr (atH_mem h0 h1), rfl⟩, List.mem_filter.mpr ⟨mem_rng.mpr ⟨h0, h1⟩, decide_eq_true rfl⟩⟩
theorem law_unlike_ok {ws : List Int} (hl : ws.length ≤ 5000) : g_law_unlike [lstI ws] = ret (lstI (once (srt ws))) := by
  have hL : (srt ws).length = ws.length := (srt_perm ws).length_eq
  have e1 : onA sortKTA (consM (vM 0) nilM) (start' 4 [lstI ws]) = ret (lstI (srt ws)) := (onA_ret (as := [lstI ws]) rfl).trans (sortKTA_of (sortL_ints (by omega)))
  refine defM_rt ((seqM_nx (setM_ret e1)).trans (retM_ret ?_))
  have e2 : itOn range1A (consM (onA lenA (consM (vM 1) nilM)) nilM) [some (lstI ws), some (lstI (srt ws)), none, none] = ret (iL (rng (srt ws).length)) := by
    have e : consM (onA lenA (consM (vM 1) nilM)) nilM [some (lstI ws), some (lstI (srt ws)), none, none] = ret [.int ((iL (srt ws)).length : Nat)] := rfl
    rw [itOn_ret e, iL_len]
    exact rngW (by omega) (by omega)
  have e3 := lcM_ret (t := tgN 3) (c := orT (tstM (op2 eqA (vM 3) (cM (.int 0)))) (tstM (op2 neA (op2 ixA (vM 1) (vM 3)) (op2 ixA (vM 1) (op2 subA (vM 3) (cM (.int 1))))))) (e := op2 ixA (vM 1) (vM 3)) (vs := [2, 3]) (onceG (srt ws)) e2 (fun x hx => by
    obtain ⟨z, hz, rfl⟩ := List.mem_map.mp hx
    obtain ⟨z0, z1⟩ := mem_rng.mp hz
    exact unlike_step z0 z1) (by rw [List.length_map, rng_length]; exact line5 (by omega))
  rw [onceG_once] at e3
  exact e3
theorem once_len (ws : List Int) : (once ws).length ≤ ws.length := by
  unfold once
  refine Nat.le_trans (List.length_filterMap_le _ _) ?_
  rw [rng_length]
  omega
theorem law_lots_ok {h : List Int} (hl : h.length ≤ 1000) : g_law_lots_of [lstI h] = ret (encL (lotsOf h)) := by
  unfold g_law_lots_of
  have hs : (once (srt h)).length ≤ 1000 := Nat.le_trans (once_len _) (by rw [(srt_perm h).length_eq]; exact hl)
  have e := lcM_mapE (it := itSeq (callM 1 g_law_unlike (consM (vM 0) nilM))) (t := tgN 2) (c := yesM) (e := onA tupA (consM (lcM (itOn range1A (consM (onA lenA (consM (vM 0) nilM)) nilM)) (tgN 3) (tstM (op2 eqA (op2 ixA (vM 0) (vM 3)) (vM 2))) (vM 3) [1, 3]) nilM)) (vs := [1, 2]) (ρ := start' 4 [lstI h]) (enc := A.int) (enc' := tupI) (L := once (srt h)) (fun v => (rng h.length).filter fun i => decide (atH h i = v)) (itSeq_lst ((callM_ret (n := 1) (as := [lstI h]) rfl rfl).trans (law_unlike_ok (by omega)))) (fun v hv => lcF_yes (by
    have e2 : itOn range1A (consM (onA lenA (consM (vM 0) nilM)) nilM) [some (lstI h), none, some (.int v), none] = ret (iL (rng h.length)) := by
      have e : consM (onA lenA (consM (vM 0) nilM)) nilM [some (lstI h), none, some (.int v), none] = ret [.int ((iL h).length : Nat)] := rfl
      rw [itOn_ret e, iL_len]
      exact rngW (by omega) (by omega)
    have e3 := lcM_filter (t := tgN 3) (c := tstM (op2 eqA (op2 ixA (vM 0) (vM 3)) (vM 2))) (e := vM 3) (vs := [1, 3]) (ns := rng h.length) (fun i => decide (atH h i = v)) e2 (fun x hx => by
      obtain ⟨x0, x1⟩ := mem_rng.mp hx
      exact lcF_if (tstM_ret ((op2_ret ((op2_ret (a := lstI h) (b := .int x) rfl rfl).trans (ix_int x0 x1)) (b := .int v) rfl).trans (eqA_int _ _))) rfl) (by rw [rng_length]; exact small_line (by omega))
    exact (onA_ret (consM_ret (ms := nilM) e3 rfl)).trans rfl)) hs
  exact defM_rt (retM_ret ((onA_ret (consM_ret (ms := nilM) e rfl)).trans rfl))
/-! ### levels of heights, by a dict -/
def dctF (f : Int → A) (ks : List Int) : A := .dct (ks.map Sum.inl) (ks.map f)
def dputI (ks : List Int) (k : Int) : List Int := if k ∈ ks then ks else ks ++ [k]
theorem hasK_I (k : Int) (ks : List Int) : hasK (ks.map Sum.inl) (.inl k) = decide (k ∈ ks) := by
  rw [Bool.eq_iff_iff, decide_eq_true_eq]
  unfold hasK
  rw [List.any_eq_true]
  constructor
  · rintro ⟨x, hx, h⟩
    obtain ⟨z, hz, rfl⟩ := List.mem_map.mp hx
    have := of_decide_eq_true h
    cases this
    exact hz
  · intro h
    exact ⟨.inl k, List.mem_map.mpr ⟨k, h, rfl⟩, decide_eq_true rfl⟩
theorem replA_I (f : Int → A) (k : Int) (a : A) : ∀ ks : List Int, replA (ks.map Sum.inl) (ks.map f) (.inl k) a = ks.map fun z => if z = k then a else f z
  | [] => rfl
  | z :: zs => by
    simp only [List.map_cons, replA, replA_I f k a zs, Sum.inl.injEq]
theorem dputA_I (f : Int → A) (k : Int) (a : A) (ks : List Int) : dputA (ks.map Sum.inl) (ks.map f) (.inl k) a = ((dputI ks k).map Sum.inl, (dputI ks k).map fun z => if z = k then a else f z) := by
  unfold dputA dputI
  rw [hasK_I]
  by_cases h : k ∈ ks
  · rw [if_pos (decide_eq_true h), if_pos h, replA_I]
  · rw [if_neg (by rw [decide_eq_true_eq]; exact h), if_neg h, List.map_append, List.map_append]
    have e : ks.map (fun z => if z = k then a else f z) = ks.map f := List.map_congr_left fun z hz => if_neg fun c => by rw [c] at hz; exact h hz
    rw [e]
    simp
theorem valA_I (f : Int → A) (k : Int) : ∀ ks : List Int, valA (ks.map Sum.inl) (ks.map f) (.inl k) = if k ∈ ks then some (f k) else none
  | [] => rfl
  | z :: zs => by
    simp only [List.map_cons, valA, valA_I f k zs, Sum.inl.injEq]
    by_cases c : z = k
    · subst c
      rw [if_pos rfl, if_pos List.mem_cons_self]
    · rw [if_neg c]
      by_cases d : k ∈ zs
      · rw [if_pos d, if_pos (List.mem_cons_of_mem _ d)]
      · rw [if_neg d, if_neg fun e => (List.mem_cons.mp e).elim (fun e => c e.symm) d]
theorem mem_dputI {x k : Int} {ks : List Int} : x ∈ dputI ks k ↔ x ∈ ks ∨ x = k := by
  unfold dputI
  by_cases h : k ∈ ks
  · rw [if_pos h]
    exact ⟨.inl, fun z => z.elim id fun e => e ▸ h⟩
  · rw [if_neg h, List.mem_append, List.mem_cons]
    simp
theorem nodup_dputI {k : Int} {ks : List Int} (h : ks.Nodup) : (dputI ks k).Nodup := by
  unfold dputI
  by_cases c : k ∈ ks
  · rw [if_pos c]; exact h
  · rw [if_neg c]
    exact List.nodup_append.mpr ⟨h, List.pairwise_singleton _ _, fun x hx y hy e => by
      rcases List.mem_cons.mp hy with rfl | hy
      · exact c (e ▸ hx)
      · cases hy⟩
theorem len_dputI {k : Int} {ks : List Int} : (dputI ks k).length ≤ ks.length + 1 := by
  unfold dputI
  split
  · omega
  · rw [List.length_append]; exact Nat.le_refl _
theorem dputM_I {i : Nat} {mk m : ME'} {ρ : Env'} {a : A} {k : Int} {f : Int → A} {ks : List Int} (hi : ρ[i]? = some (some (dctF f ks))) (hm : m ρ = ret a) (hk : mk ρ = ret (.int k)) (hl : ks.length ≤ 1000) : dputM i mk m ρ = ret (.nx (ρ.set i (some (dctF (fun z => if z = k then a else f z) (dputI ks k))))) := by
  unfold dputM ownD
  rw [bd_eq hm, hi]
  unfold dctF
  dsimp only
  rw [bd_eq hk]
  dsimp only
  rw [hi]
  unfold dctF
  dsimp only
  rw [if_pos (by rw [List.length_map]; exact Nat.lt_of_le_of_lt hl (Nat.lt_of_lt_of_le (show 1000 < 16777216 by decide) (Nat.le_of_eq sizeLine_eq.symm))), dputA_I]
  rfl
theorem getDO_I {i : Nat} {mj mz : ME'} {ρ : Env'} {k : Int} {z : A} {f : Int → A} {ks : List Int} (hi : ρ[i]? = some (some (dctF f ks))) (hj : mj ρ = ret (.int k)) (hz : mz ρ = ret z) : getDO i mj mz ρ = ret (if k ∈ ks then f k else z) := by
  unfold getDO
  rw [hi]
  unfold dctF
  dsimp only
  rw [bd_eq hj, bd_eq hz]
  simp only [getDA, valA_I]
  by_cases c : k ∈ ks
  · rw [if_pos c, if_pos c]; rfl
  · rw [if_neg c, if_neg c]; rfl
theorem ixDA_I {f : Int → A} {ks : List Int} {k : Int} (h : k ∈ ks) : ixDA (dctF f ks) (.int k) = ret (f k) := by
  unfold dctF
  simp only [ixDA, valA_I, if_pos h]
theorem sortDA_I {f : Int → A} {ks : List Int} (h : ks.length < 64) : sortDA [dctF f ks] = ret (lstI (isort ks)) := by
  have e : ∀ ks : List Int, intKs (ks.map Sum.inl) = some ks := fun ks => by
    induction ks with
    | nil => rfl
    | cons k ks ih => simp only [List.map_cons, intKs, ih, Option.map_some]
  unfold dctF sortDA
  dsimp only
  rw [e]
  dsimp only
  rw [if_pos h]
theorem isort_lt {ks : List Int} (h : ks.Nodup) : (isort ks).Pairwise (· < ·) := lt_of_nodup (isort_asc ks) ((isort_perm ks).nodup_iff.mpr h)
/-- the worlds below i of height v -/
def atV (h : List Int) (i : Nat) (v : Int) : List Int := (rng (i : Nat)).filter fun x => decide (atH h x = v)
theorem rng_succ (i : Nat) : rng ((i + 1 : Nat) : Int) = rng (i : Nat) ++ [((i : Nat) : Int)] := by
  unfold rng
  rw [show (((i + 1 : Nat) : Int)).toNat = i + 1 by omega, show (((i : Nat) : Int)).toNat = i by omega, List.range_succ, List.map_append]
  rfl
theorem atV_succ (h : List Int) (i : Nat) (v : Int) : atV h (i + 1) v = atV h i v ++ (if atH h (i : Nat) = v then [((i : Nat) : Int)] else []) := by
  unfold atV
  rw [rng_succ, List.filter_append]
  congr 1
  by_cases c : atH h (i : Nat) = v
  · simp [c]
  · simp [c]
abbrev lfB : MS' := seqM (dputM 1 (vM 3) (onA mkTup (starM (getDO 1 (vM 3) (onA mkTup nilM)) (consM (vM 2) nilM)))) nxM
theorem lf_loop {h : List Int} (h8 : h.length ≤ 8) {x4 : Option A} : ∀ (r : List Int) (i : Nat) (ks : List Int) (x2 x3 : Option A), h.drop i = r → ks.length ≤ i → ks.Nodup → (∀ v, v ∈ ks ↔ ∃ x : Int, 0 ≤ x ∧ x < i ∧ atH h x = v) → i ≤ h.length →
    ∃ (ks' : List Int) (y2 y3 : Option A), forM (tgT 2 (tgCons (tgN 2) (tgCons (tgN 3) tgNil))) lfB (countF A.int i r) [some (lstI h), some (dctF (fun v => tupI (atV h i v)) ks), x2, x3, x4] = ret (.nx [some (lstI h), some (dctF (fun v => tupI (atV h h.length v)) ks'), y2, y3, x4]) ∧ ks'.length ≤ h.length ∧ ks'.Nodup ∧ ∀ v, v ∈ ks' ↔ ∃ x : Int, 0 ≤ x ∧ x < h.length ∧ atH h x = v
  | [], i, ks, x2, x3, hd, hk, hn, hm, hi => by
    have e : i = h.length := by
      have := congrArg List.length hd
      rw [List.length_drop, List.length_nil] at this
      omega
    subst e
    exact ⟨ks, x2, x3, rfl, hk, hn, hm⟩
  | v :: r, i, ks, x2, x3, hd, hk, hn, hm, hi => by
    have hlt : i < h.length := by
      have := congrArg List.length hd
      rw [List.length_drop, List.length_cons] at this
      omega
    have hv : atH h (i : Nat) = v := by
      have := congrArg (fun M => M[0]?) hd
      have e : h[i]? = some v := by simpa using this
      unfold atH
      rw [show (((i : Nat) : Int)).toNat = i by omega, List.getD_eq_getElem?_getD, e]
      rfl
    have lenV : ∀ v, (atV h i v).length ≤ 8 := fun v => by
      have a := List.length_filter_le (fun x => decide (atH h x = v)) (rng (i : Nat))
      rw [rng_length] at a
      unfold atV
      omega
    have e1 : lfB [some (lstI h), some (dctF (fun v => tupI (atV h i v)) ks), some (.int (i : Nat)), some (.int v), x4] = ret (.nx [some (lstI h), some (dctF (fun v => tupI (atV h (i + 1) v)) (dputI ks v)), some (.int (i : Nat)), some (.int v), x4]) := by
      have g : getDO 1 (vM 3) (onA mkTup nilM) [some (lstI h), some (dctF (fun v => tupI (atV h i v)) ks), some (.int (i : Nat)), some (.int v), x4] = ret (tupI (atV h i v)) := by
        refine (getDO_I (k := v) (z := tupI []) rfl rfl tup_nil).trans ?_
        by_cases c : v ∈ ks
        · rw [if_pos c]
        · rw [if_neg c]
          have e : atV h i v = [] := List.filter_eq_nil_iff.mpr fun x hx z => c ((hm v).mpr ⟨x, (mem_rng.mp hx).1, (mem_rng.mp hx).2, of_decide_eq_true z⟩)
          rw [e]
      have g2 : onA mkTup (starM (getDO 1 (vM 3) (onA mkTup nilM)) (consM (vM 2) nilM)) [some (lstI h), some (dctF (fun v => tupI (atV h i v)) ks), some (.int (i : Nat)), some (.int v), x4] = ret (tupI (atV h (i + 1) v)) := by
        have s : starM (getDO 1 (vM 3) (onA mkTup nilM)) (consM (vM 2) nilM) [some (lstI h), some (dctF (fun v => tupI (atV h i v)) ks), some (.int (i : Nat)), some (.int v), x4] = ret (iL (atV h i v) ++ [.int (i : Nat)]) := by
          unfold starM
          have z : bd (getDO 1 (vM 3) (onA mkTup nilM) [some (lstI h), some (dctF (fun v => tupI (atV h i v)) ks), some (.int (i : Nat)), some (.int v), x4]) seqA = ret (iL (atV h i v)) := (bd_eq g).trans rfl
          rw [bd_eq z]
          rfl
        refine (onA_ret s).trans ((mkTup_ret (small_line ?_)).trans ?_)
        · have := lenV v
          rw [List.length_append, iL_len]
          show _ + 1 ≤ 1000
          omega
        · rw [atV_succ, if_pos hv]
          unfold tupI iL
          rw [List.map_append]
          rfl
      refine (seqM_nx (dputM_I (k := v) rfl g2 rfl (by omega))).trans ?_
      have e : (fun z => if z = v then tupI (atV h (i + 1) v) else tupI (atV h i z)) = fun z => tupI (atV h (i + 1) z) := by
        funext z
        by_cases c : z = v
        · rw [if_pos c, c]
        · rw [if_neg c, atV_succ, if_neg (by rw [hv]; exact fun e => c e.symm), List.append_nil]
      rw [e]
      rfl
    have hm' : ∀ w, w ∈ dputI ks v ↔ ∃ x : Int, 0 ≤ x ∧ x < ((i + 1 : Nat) : Int) ∧ atH h x = w := by
      intro w
      rw [mem_dputI, hm]
      constructor
      · rintro (⟨x, a, b, c⟩ | rfl)
        · exact ⟨x, a, by omega, c⟩
        · exact ⟨(i : Nat), by omega, by omega, hv⟩
      · rintro ⟨x, a, b, c⟩
        by_cases e : x = (i : Nat)
        · right
          rw [← c, e, hv]
        · exact .inl ⟨x, a, by omega, c⟩
    have hd' : h.drop (i + 1) = r := by
      have := congrArg List.tail hd
      simpa using this
    obtain ⟨ks', y2, y3, e2, h2, h3, h4⟩ := lf_loop h8 (x4 := x4) r (i + 1) (dputI ks v) (some (.int (i : Nat))) (some (.int v)) hd' (by have := len_dputI (k := v) (ks := ks); omega) (nodup_dputI hn) hm' hlt
    refine ⟨ks', y2, y3, ?_, h2, h3, h4⟩
    rw [countF]
    exact (for_nx (ρ1 := [some (lstI h), some (dctF (fun v => tupI (atV h i v)) ks), some (.int (i : Nat)), some (.int v), x4]) rfl e1).trans e2
theorem levels_from_ok {h : List Int} (h1 : 1 ≤ h.length) (h8 : h.length ≤ 8) : g_levels_from [lstI h] = ret (levA (lotsOf h)) := by
  unfold g_levels_from
  refine defM_rt ((seqM_nx (setM_ret (a := dctF (fun v => tupI (atV h 0 v)) []) rfl)).trans ?_)
  obtain ⟨ks, y2, y3, e, hk, hn, hm⟩ := lf_loop h8 (x4 := none) h 0 [] none none rfl (Nat.le_refl _) .nil (fun v => Iff.intro (fun z => by cases z) (fun z => by obtain ⟨x, a, b, _⟩ := z; omega)) (Nat.zero_le _)
  have e1 : itOn enumTA (consM (vM 0) nilM) [some (lstI h), some (dctF (fun v => tupI (atV h 0 v)) []), none, none, none] = ret (countF A.int 0 h) := by
    refine (itOn_ret (as := [lstI h]) rfl).trans ?_
    show ret (enumL (h.map A.int)) = _
    rw [enumL_eq]
  refine (seqM_nx (forS_ret e1 e)).trans (retM_ret ?_)
  have hs : isort ks = once (srt h) := asc_ext (isort_lt hn) (once_asc (srt_asc h)) fun z => by
    rw [(isort_perm ks).mem_iff, hm, once_srt]
    exact ⟨fun ⟨x, a, b, c⟩ => c ▸ atH_mem a b, fun hz => mem_atH hz⟩
  have e2 : itSeq (onA sortDA (consM (vM 1) nilM)) [some (lstI h), some (dctF (fun v => tupI (atV h h.length v)) ks), y2, y3, none] = ret ((isort ks).map A.int) := itSeq_lst ((onA_ret (as := [dctF (fun v => tupI (atV h h.length v)) ks]) rfl).trans (sortDA_I (by omega)))
  have hl : (isort ks).length ≤ 1000 := by rw [(isort_perm ks).length_eq]; omega
  have e3 := lcM_mapE (t := tgN 3) (c := yesM) (e := op2 ixDA (vM 1) (vM 3)) (vs := [4, 3]) (enc := A.int) (enc' := tupI) (L := isort ks) (fun v => atV h h.length v) e2 (fun v hv => lcF_yes ((op2_ret (a := dctF (fun v => tupI (atV h h.length v)) ks) (b := .int v) rfl rfl).trans (ixDA_I ((isort_perm ks).mem_iff.mp hv)))) hl
  have e4 : (isort ks).map (fun v => atV h h.length v) = lotsOf h := by rw [hs]; rfl
  rw [e4] at e3
  exact (lv_lotsOf h).new h1 h8 (.inr rfl) e3
theorem narrowed_ok {T : Nat → List Str} (hT : T 20 = [("lots" : Str)]) {m : Nat} {L : List (List Int)} (h : Lv m L) (h8 : m ≤ 8) {a : A} {s : List Int} (ha : SayA a s) (hs : Lot m s) (hne : s ≠ []) : g_narrowed_levels T [levA L, a] = ret (levA (lotsOf (s.map (atH (heightsL m L))))) := by
  have sl : s.length ≤ m := by
    have := hs.length_le
    rw [rng_length] at this
    omega
  unfold g_narrowed_levels
  refine defM_rt ((seqM_nx (need_lev_call hT h h8 rfl)).trans ((seqM_nx (setM_ret (need_say hT h h8 ha hs rfl rfl))).trans ?_))
  have e1 : notT (truM (vM 2)) [some (levA L), some a, some (tupI s), none, none, none] = ret false := by
    refine (notT_ret (tru_tup (f := s) rfl)).trans ?_
    rw [decide_eq_false hne]
    rfl
  refine (seqM_nx (ite_nx e1)).trans ((seqM_nx (setM_ret (heights_call hT h h8 rfl))).trans (retM_ret ?_))
  have e2 := lcM_mapE (it := itSeq (vM 2)) (t := tgN 5) (c := yesM) (e := op2 ixA (vM 3) (vM 5)) (vs := [4, 5]) (ρ := [some (levA L), some a, some (tupI s), some (lstI (heightsL m L)), none, none]) (enc := A.int) (enc' := A.int) (L := s) (atH (heightsL m L)) (itSeq_tup rfl) (fun x hx => lcF_yes ((op2_ret (a := lstI (heightsL m L)) (b := .int x) rfl rfl).trans (ix_int (hs.inn hx).1 (by rw [heights_len]; exact (hs.inn hx).2)))) (by omega)
  refine (callM_ret (n := 1) (as := [lstI (s.map (atH (heightsL m L)))]) (consM_ret (ms := nilM) e2 rfl) rfl).trans (levels_from_ok ?_ ?_)
  · rw [List.length_map]
    exact List.length_pos_iff.mpr hne
  · rw [List.length_map]
    omega
/-! ### draws -/
theorem lcL_draws {f : A → M (Option A)} : ∀ (ns : List Int) (p : Pen), PenOk p → (∀ x ∈ ns, ∀ p, PenOk p → ∃ d p', f (.int x) p = .ok (some (.int d)) p' ∧ PenOk p') → ∃ hs p', lcL f (iL ns) p = .ok (iL hs) p' ∧ PenOk p' ∧ hs.length = ns.length
  | [], p, hp, _ => ⟨[], p, rfl, hp, rfl⟩
  | n :: ns, p, hp, h => by
    obtain ⟨d, p1, e1, hp1⟩ := h n List.mem_cons_self p hp
    obtain ⟨hs, p2, e2, hp2, hl⟩ := lcL_draws ns p1 hp1 fun x hx => h x (List.mem_cons_of_mem _ hx)
    refine ⟨d :: hs, p2, ?_, hp2, by rw [List.length_cons, List.length_cons, hl]⟩
    show bd (f (.int n)) _ p = _
    rw [bd_run e1]
    show bd (lcL f (iL ns)) _ p1 = _
    rw [bd_run e2]
    rfl
theorem lcM_draws {it : Env' → M (List A)} {t : Tg} {c : Env' → M Bool} {e : ME'} {vs : List Nat} {ρ : Env'} {ns : List Int} {p : Pen} (hit : it ρ = ret (iL ns)) (hp : PenOk p) (h : ∀ x ∈ ns, ∀ p, PenOk p → ∃ d p', lcF t c e (wipeA ρ vs) (.int x) p = .ok (some (.int d)) p' ∧ PenOk p') (hl : ns.length ≤ 1000) : ∃ hs p', lcM it t c e vs ρ p = .ok (lstI hs) p' ∧ PenOk p' ∧ hs.length = ns.length := by
  obtain ⟨hs, p', e1, hp', h2⟩ := lcL_draws ns p hp h
  refine ⟨hs, p', ?_, hp', h2⟩
  unfold lcM
  rw [bd_eq hit, bd_run (nox_run e1)]
  exact congrFun (mkLst_ret (small_line (by rw [iL_len]; omega))) p'
theorem lcM_sub {it : Env' → M (List A)} {t : Tg} {c : Env' → M Bool} {e : ME'} {vs : List Nat} {ρ : Env'} {ns : List Int} {p : Pen} (hit : it ρ = ret (iL ns)) (hp : PenOk p) (h : ∀ x ∈ ns, ∀ p, PenOk p → Ok (lcF t c e (wipeA ρ vs) (.int x)) p (fun o p' => PenOk p' ∧ (o = none ∨ o = some (.int x)))) (hl : ns.length ≤ 1000) : ∃ zs p', lcM it t c e vs ρ p = .ok (lstI zs) p' ∧ PenOk p' ∧ zs.Sublist ns := by
  obtain ⟨ys, p', e1, hp', zs, rfl, hz⟩ := lcL_sub ns p hp h
  refine ⟨zs, p', ?_, hp', hz⟩
  unfold lcM
  rw [bd_eq hit, bd_run (nox_run e1)]
  exact congrFun (mkLst_ret (small_line (by rw [iL_len]; exact Nat.le_trans hz.length_le hl))) p'
theorem lcF_run {i : Nat} {c : Env' → M Bool} {e : ME'} {ρ : Env'} {x a : A} {b : Bool} {p p1 : Pen} (hb : c (ρ.set i (some x)) p = .ok b p1) (h : e (ρ.set i (some x)) = ret a) : lcF (tgN i) c e ρ x p = .ok (if b then some a else none) p1 := by
  show bd (c (ρ.set i (some x))) _ p = _
  rw [bd_run hb]
  cases b
  · rfl
  · show bd (e (ρ.set i (some x))) _ p1 = _
    rw [bd_eq h]
    rfl
theorem drawn_lots_ok {p : Pen} {m : Nat} (hp : PenOk p) (h1 : 1 ≤ m) (h8 : m ≤ 8) : ∃ h p', g_law_drawn_lots [.pen, .int (m : Nat)] p = .ok (encL (lotsOf h)) p' ∧ PenOk p' ∧ h.length = m := by
  have el : onA mkLst (consM (cM (.int 1)) (consM (cM (.int 2)) (consM (cM (.int 3)) (consM (vM 1) (consM (vM 1) nilM))))) (start' 5 [.pen, .int (m : Nat)]) = ret (.lst [.int 1, .int 2, .int 3, .int (m : Nat), .int (m : Nat)]) := (onA_ret (as := [.int 1, .int 2, .int 3, .int (m : Nat), .int (m : Nat)]) rfl).trans (mkLst_ret (small_line (show 5 ≤ 1000 by decide)))
  obtain ⟨w, p1, e1, hp1, hw⟩ := pick_run (p := p) hp (consM_ret (m := vM 0) (a := .pen) rfl (consM_ret (ms := nilM) el rfl)) (by simp) (show 5 < 1000 by decide)
  obtain ⟨k, rfl, k0, k1⟩ : ∃ k : Int, w = .int k ∧ 0 < k ∧ k ≤ 8 := by
    simp only [List.mem_cons, List.not_mem_nil, or_false] at hw
    rcases hw with rfl | rfl | rfl | rfl | rfl
    · exact ⟨1, rfl, by omega, by omega⟩
    · exact ⟨2, rfl, by omega, by omega⟩
    · exact ⟨3, rfl, by omega, by omega⟩
    · exact ⟨_, rfl, by omega, by omega⟩
    · exact ⟨_, rfl, by omega, by omega⟩
  have e2 : itOn range1A (consM (vM 1) nilM) [some .pen, some (.int (m : Nat)), some (.int k), none, none] = ret (iL (rng (m : Nat))) := (itOn_ret (as := [.int (m : Nat)]) rfl).trans (rngW (by omega) (by omega))
  obtain ⟨h, p2, e3, hp2, hl⟩ := lcM_draws (t := tgN 4) (c := yesM) (e := callM 2 drawM (consM (vM 0) (consM (vM 2) nilM))) (vs := [3, 4]) e2 hp1 (fun x _ p hp => by
    obtain ⟨d, p', e, hp', _⟩ := draw_run (ms := consM (vM 0) (consM (vM 2) nilM)) (ρ := [some .pen, some (.int (m : Nat)), some (.int k), none, some (.int x)]) (n := k) hp rfl k0 (by omega)
    refine ⟨d, p', ?_, hp'⟩
    show bd (callM 2 drawM (consM (vM 0) (consM (vM 2) nilM)) [some .pen, some (.int (m : Nat)), some (.int k), none, some (.int x)]) _ p = _
    rw [bd_run e]
    rfl) (by rw [rng_length]; omega)
  rw [rng_length] at hl
  have hl : h.length = m := by omega
  refine ⟨h, p2, ?_, hp2, hl⟩
  unfold g_law_drawn_lots
  refine defM_run ((seqM_next (setM_run e1)).trans (retM_run ?_))
  exact call_run (n := 1) (as := [lstI h]) (consM_run' e3 (show nilM _ p2 = .ok [] p2 from rfl)) rfl (congrFun (law_lots_ok (by omega)) p2)
theorem drawn_say_ok {p : Pen} {m : Nat} (hp : PenOk p) (h8 : m ≤ 8) : ∃ s p', g_law_drawn_saying [.pen, .int (m : Nat)] p = .ok (tupI s) p' ∧ PenOk p' ∧ Lot m s := by
  obtain ⟨a, p', e, hp', s, rfl, hs⟩ := drawn_spec (p := p) (n := (m : Nat)) hp (by omega) (by omega)
  exact ⟨s, p', e, hp', hs⟩
end Mir

/-! Pl15: wrong levels, worlds, lots are refused; first ones of pairs tell the levels. -/
namespace Mir
open PySem L2
/-! ### first ones -/
theorem first_within {s t : List Int} (hts : ∀ x ∈ t, x ∈ s) {x : Int} : ∀ {L : List (List Int)}, x ∈ firstF L s → x ∈ t → x ∈ firstF L t
  | [], hx, _ => by cases hx
  | l :: L, hx, hxt => by
    unfold firstF at hx ⊢
    by_cases c : l.filter (fun x => decide (x ∈ s)) = []
    · rw [if_pos c] at hx
      have d : l.filter (fun x => decide (x ∈ t)) = [] := List.filter_eq_nil_iff.mpr fun y hy z => List.filter_eq_nil_iff.mp c y hy (decide_eq_true (hts y (of_decide_eq_true z)))
      rw [if_pos d]
      exact first_within hts hx hxt
    · rw [if_neg c] at hx
      have hm : x ∈ l.filter fun x => decide (x ∈ t) := List.mem_filter.mpr ⟨(List.mem_filter.mp hx).1, decide_eq_true hxt⟩
      rw [if_neg (List.ne_nil_of_mem hm)]
      exact hm
theorem firstF_nil : ∀ L : List (List Int), firstF L [] = []
  | [] => rfl
  | l :: L => by
    have e : l.filter (fun x => decide (x ∈ ([] : List Int))) = [] := List.filter_eq_nil_iff.mpr fun x _ z => by simp at z
    unfold firstF
    rw [if_pos e, firstF_nil L]
theorem firstF_head {l : List Int} {L : List (List Int)} {q : List Int} {y : Int} (hy : y ∈ l) (hq : y ∈ q) : firstF (l :: L) q = l.filter fun x => decide (x ∈ q) := by
  unfold firstF
  exact if_neg (List.ne_nil_of_mem (List.mem_filter.mpr ⟨hy, decide_eq_true hq⟩))
theorem firstF_skip {l : List Int} {L : List (List Int)} {q : List Int} (h : ∀ y ∈ q, y ∉ l) : firstF (l :: L) q = firstF L q := by
  have e : l.filter (fun x => decide (x ∈ q)) = [] := List.filter_eq_nil_iff.mpr fun y hy z => h y (of_decide_eq_true z) hy
  exact if_pos e
/-- x and y, the less ahead -/
def pr2 (x y : Int) : List Int := if x < y then [x, y] else [y, x]
theorem mem_pr2 {x y z : Int} : z ∈ pr2 x y ↔ z = x ∨ z = y := by
  unfold pr2
  split
  · simp
  · simp [or_comm]
theorem lots_eq : ∀ (L M : List (List Int)), (∀ l ∈ L, l.Pairwise (· < ·)) → (∀ l ∈ M, l.Pairwise (· < ·)) → (∀ l ∈ L, l ≠ []) → (∀ l ∈ M, l ≠ []) → L.flatten.Nodup → M.flatten.Nodup → (∀ x, x ∈ L.flatten ↔ x ∈ M.flatten) → (∀ x ∈ L.flatten, ∀ y ∈ L.flatten, x ≠ y → firstF L (pr2 x y) = firstF M (pr2 x y)) → L = M
  | [], [], _, _, _, _, _, _, _, _ => rfl
  | [], k :: M, _, _, _, h4, _, _, h7, _ => by
    obtain ⟨y, hy⟩ := List.exists_mem_of_ne_nil _ (h4 k List.mem_cons_self)
    have := (h7 y).mpr (by rw [List.flatten_cons]; exact List.mem_append_left _ hy)
    cases this
  | l :: L, [], _, _, h3, _, _, _, h7, _ => by
    obtain ⟨y, hy⟩ := List.exists_mem_of_ne_nil _ (h3 l List.mem_cons_self)
    have := (h7 y).mp (by rw [List.flatten_cons]; exact List.mem_append_left _ hy)
    cases this
  | l :: L, k :: M, h1, h2, h3, h4, h5, h6, h7, h8 => by
    have inL : ∀ x ∈ l, x ∈ (l :: L).flatten := fun x hx => by rw [List.flatten_cons]; exact List.mem_append_left _ hx
    have inM : ∀ x ∈ k, x ∈ (k :: M).flatten := fun x hx => by rw [List.flatten_cons]; exact List.mem_append_left _ hx
    have a1 : ∀ x ∈ l, x ∈ k := fun x hx => by
      obtain ⟨y, hy⟩ := List.exists_mem_of_ne_nil _ (h4 k List.mem_cons_self)
      by_cases c : x = y
      · rw [c]; exact hy
      · have e := h8 x (inL x hx) y ((h7 y).mpr (inM y hy)) c
        rw [firstF_head hx (mem_pr2.mpr (.inl rfl)), firstF_head hy (mem_pr2.mpr (.inr rfl))] at e
        have hm : x ∈ l.filter fun z => decide (z ∈ pr2 x y) := List.mem_filter.mpr ⟨hx, decide_eq_true (mem_pr2.mpr (.inl rfl))⟩
        rw [e] at hm
        exact (List.mem_filter.mp hm).1
    have a2 : ∀ x ∈ k, x ∈ l := fun x hx => by
      obtain ⟨y, hy⟩ := List.exists_mem_of_ne_nil _ (h3 l List.mem_cons_self)
      by_cases c : x = y
      · rw [c]; exact hy
      · have e := h8 x ((h7 x).mpr (inM x hx)) y (inL y hy) c
        rw [firstF_head hy (mem_pr2.mpr (.inr rfl)), firstF_head hx (mem_pr2.mpr (.inl rfl))] at e
        have hm : x ∈ k.filter fun z => decide (z ∈ pr2 x y) := List.mem_filter.mpr ⟨hx, decide_eq_true (mem_pr2.mpr (.inl rfl))⟩
        rw [← e] at hm
        exact (List.mem_filter.mp hm).1
    have e : l = k := asc_ext (h1 l List.mem_cons_self) (h2 k List.mem_cons_self) fun z => ⟨a1 z, a2 z⟩
    subst e
    rw [List.flatten_cons] at h5 h6
    obtain ⟨_, n5, d5⟩ := List.nodup_append.mp h5
    obtain ⟨_, n6, d6⟩ := List.nodup_append.mp h6
    have out5 : ∀ x ∈ L.flatten, x ∉ l := fun x hx hl => d5 x hl x hx rfl
    have out6 : ∀ x ∈ M.flatten, x ∉ l := fun x hx hl => d6 x hl x hx rfl
    have m7 : ∀ x, x ∈ L.flatten ↔ x ∈ M.flatten := fun x => by
      constructor
      · intro hx
        have := (h7 x).mp (by rw [List.flatten_cons]; exact List.mem_append_right _ hx)
        rw [List.flatten_cons] at this
        exact (List.mem_append.mp this).elim (fun z => absurd z (out5 x hx)) id
      · intro hx
        have := (h7 x).mpr (by rw [List.flatten_cons]; exact List.mem_append_right _ hx)
        rw [List.flatten_cons] at this
        exact (List.mem_append.mp this).elim (fun z => absurd z (out6 x hx)) id
    rw [lots_eq L M (fun z hz => h1 z (List.mem_cons_of_mem _ hz)) (fun z hz => h2 z (List.mem_cons_of_mem _ hz)) (fun z hz => h3 z (List.mem_cons_of_mem _ hz)) (fun z hz => h4 z (List.mem_cons_of_mem _ hz)) n5 n6 m7 fun x hx y hy c => by
      have e := h8 x (by rw [List.flatten_cons]; exact List.mem_append_right _ hx) y (by rw [List.flatten_cons]; exact List.mem_append_right _ hy) c
      have sk : ∀ z ∈ pr2 x y, z ∉ l := fun z hz => (mem_pr2.mp hz).elim (fun q => q ▸ out5 x hx) fun q => q ▸ out5 y hy
      rw [firstF_skip sk, firstF_skip sk] at e
      exact e]
theorem Lv.asc {m : Nat} {L : List (List Int)} (h : Lv m L) : ∀ l ∈ L, l.Pairwise (· < ·) := fun l hl => (h.lot l hl).asc
/-- first ones of all pairs tell the levels -/
theorem Lv.eq_of_pairs {m : Nat} {L M : List (List Int)} (h : Lv m L) (k : Lv m M) (hp : ∀ x y : Int, 0 ≤ x → x < y → y < m → firstF L [x, y] = firstF M [x, y]) : L = M :=
  lots_eq L M h.asc k.asc h.ne k.ne h.nd k.nd (fun x => (h.mem x).trans (k.mem x).symm) fun x hx y hy c => by
    have a := (h.mem x).mp hx
    have b := (h.mem y).mp hy
    unfold pr2
    by_cases d : x < y
    · rw [if_pos d]; exact hp x y a.1 d b.2
    · rw [if_neg d]; exact hp y x b.1 (by omega) a.2
theorem first_all {m : Nat} {l : List Int} {L : List (List Int)} (h : Lv m (l :: L)) : firstF (l :: L) (rng m) = l := by
  obtain ⟨y, hy⟩ := List.exists_mem_of_ne_nil _ (h.ne l List.mem_cons_self)
  have hi : ∀ x ∈ l, x ∈ rng m := fun x hx => mem_rng.mpr (h.inn List.mem_cons_self hx)
  rw [firstF_head hy (hi y hy)]
  exact List.filter_eq_self.mpr fun x hx => decide_eq_true (hi x hx)
theorem map_atH {H : List Int} {m : Nat} (h : H.length = m) : (rng m).map (atH H) = H := by
  apply List.ext_getElem
  · rw [List.length_map, rng_length]; omega
  · intro i h1 h2
    rw [List.getElem_map]
    have e : (rng m)[i]'(by rw [List.length_map] at h1; exact h1) = (i : Int) := by
      unfold rng
      simp
    rw [e]
    unfold atH
    rw [show ((i : Nat) : Int).toNat = i by omega, List.getD_eq_getElem?_getD, List.getElem?_eq_getElem h2]
    rfl
theorem ix_zero {x : A} {xs : List A} : ixA (.tup (x :: xs)) (.int 0) = ret x := by
  have e : atI (x :: xs) 0 = some x := atI_nat (Int.le_refl 0) rfl
  simp only [ixA, e]
/-! ### pairs -/
def prs (m : Nat) : List (List Int) := (List.range m).flatMap fun i => (List.range' (i + 1) (m - i - 1)).map fun j => [((i : Nat) : Int), ((j : Nat) : Int)]
theorem mem_prs {m : Nat} {q : List Int} : q ∈ prs m ↔ ∃ x y : Int, q = [x, y] ∧ 0 ≤ x ∧ x < y ∧ y < m := by
  unfold prs
  rw [List.mem_flatMap]
  constructor
  · rintro ⟨i, hi, hq⟩
    obtain ⟨j, hj, rfl⟩ := List.mem_map.mp hq
    have a := List.mem_range.mp hi
    have b := List.mem_range'_1.mp hj
    exact ⟨_, _, rfl, by omega, by omega, by omega⟩
  · rintro ⟨x, y, rfl, a, b, c⟩
    refine ⟨x.toNat, List.mem_range.mpr (by omega), List.mem_map.mpr ⟨y.toNat, List.mem_range'_1.mpr ⟨by omega, by omega⟩, ?_⟩⟩
    rw [show ((x.toNat : Nat) : Int) = x by omega, show ((y.toNat : Nat) : Int) = y by omega]
theorem pairs_1 : (fun p => g_law_pairs [.int 1] p) = fun p => .ok (.lst ((prs 1).map tupI)) p := by kernel_rfl
theorem pairs_2 : (fun p => g_law_pairs [.int 2] p) = fun p => .ok (.lst ((prs 2).map tupI)) p := by kernel_rfl
theorem pairs_3 : (fun p => g_law_pairs [.int 3] p) = fun p => .ok (.lst ((prs 3).map tupI)) p := by kernel_rfl
theorem pairs_4 : (fun p => g_law_pairs [.int 4] p) = fun p => .ok (.lst ((prs 4).map tupI)) p := by kernel_rfl
theorem pairs_5 : (fun p => g_law_pairs [.int 5] p) = fun p => .ok (.lst ((prs 5).map tupI)) p := by kernel_rfl
theorem pairs_6 : (fun p => g_law_pairs [.int 6] p) = fun p => .ok (.lst ((prs 6).map tupI)) p := by kernel_rfl
theorem pairs_7 : (fun p => g_law_pairs [.int 7] p) = fun p => .ok (.lst ((prs 7).map tupI)) p := by kernel_rfl
theorem pairs_8 : (fun p => g_law_pairs [.int 8] p) = fun p => .ok (.lst ((prs 8).map tupI)) p := by kernel_rfl
theorem pairs_ok {m : Nat} (h1 : 1 ≤ m) (h8 : m ≤ 8) : g_law_pairs [.int (m : Nat)] = ret (.lst ((prs m).map tupI)) := by
  have h : m = 1 ∨ m = 2 ∨ m = 3 ∨ m = 4 ∨ m = 5 ∨ m = 6 ∨ m = 7 ∨ m = 8 := by omega
  rcases h with rfl | rfl | rfl | rfl | rfl | rfl | rfl | rfl
  · exact pairs_1
  · exact pairs_2
  · exact pairs_3
  · exact pairs_4
  · exact pairs_5
  · exact pairs_6
  · exact pairs_7
  · exact pairs_8
theorem prs_len {m : Nat} (h1 : 1 ≤ m) (h8 : m ≤ 8) : (prs m).length ≤ 28 := by
  have h : m = 1 ∨ m = 2 ∨ m = 3 ∨ m = 4 ∨ m = 5 ∨ m = 6 ∨ m = 7 ∨ m = 8 := by omega
  rcases h with rfl | rfl | rfl | rfl | rfl | rfl | rfl | rfl <;> decide
/-! ### refused -/
theorem seqM_exc {m n : MS'} {ρ : Env'} {c : Nat} {fs : List A} {p p' : Pen} (h : m ρ p = .exc c fs p') : seqM m n ρ p = .exc c fs p' := bd_exc h
theorem defM_exc {N : Nat} {m : MS'} {as : List A} {c : Nat} {fs : List A} {p p' : Pen} (h : m (start' N as) p = .exc c fs p') : defM N m as p = .exc c fs p' := bd_exc h
theorem dropM_exc {m : ME'} {ρ : Env'} {c : Nat} {fs : List A} {p p' : Pen} (h : m ρ p = .exc c fs p') : dropM m ρ p = .exc c fs p' := bd_exc h
theorem setM_exc {i : Nat} {m : ME'} {ρ : Env'} {c : Nat} {fs : List A} {p p' : Pen} (h : m ρ p = .exc c fs p') : setM i m ρ p = .exc c fs p' := bd_exc h
theorem retM_exc {m : ME'} {ρ : Env'} {c : Nat} {fs : List A} {p p' : Pen} (h : m ρ p = .exc c fs p') : retM m ρ p = .exc c fs p' := bd_exc h
theorem call_exc {n : Nat} {m : List A → M A} {ms : Env' → M (List A)} {ρ : Env'} {as fs : List A} {c : Nat} {p p' : Pen} (h : ms ρ = ret as) (hn : as.length = n) (e : m as p = .exc c fs p') : callM n m ms ρ p = .exc c fs p' := call_run (congrFun h p) hn e
theorem ite_exc {t : Env' → M Bool} {m n : MS'} {ρ : Env'} {c : Nat} {fs : List A} {p p' : Pen} (h : t ρ = ret true) (e : m ρ p = .exc c fs p') : iteM t m n ρ p = .exc c fs p' := by rw [ite_t h]; exact e
theorem seqM_nxr {m n : MS'} {ρ ρ' : Env'} {p : Pen} {r : Res Fl} (h : m ρ = ret (.nx ρ')) (e : n ρ' p = r) : seqM m n ρ p = r := by rw [seqM_nx h]; exact e
def badL : List A := [.non, .int 5, .tup [], .tup [.tup [.int 0]], .str "levels"]
def badW (m : Int) : List A := [.non, .int (-1), .int m, .bl true, .str "0"]
def badS (m : Int) : List A := [.non, .int 5, .tup [.int 0, .int 0], .tup [.int m], .tup [.int (-1)], .tup [.bl true], .str "0", .tup [.non]]
theorem need_levels_bad {w b : A} {p : Pen} (hb : b ∈ badL) : g_need_levels [w, b] p = .exc 3 [b, w] p := by
  have e : notT (truM (isi1 (.own 20) (vM 1))) [some w, some b] = ret true := by
    simp only [badL, List.mem_cons, List.not_mem_nil, or_false] at hb
    rcases hb with rfl | rfl | rfl | rfl | rfl <;> rfl
  unfold g_need_levels
  exact defM_exc (seqM_exc (ite_exc e rfl))
theorem index_bad {m : Nat} {b : A} (hb : b ∈ badW m) : g_is_index [b, .int (m : Nat)] = ret (.bl false) := by
  simp only [badW, List.mem_cons, List.not_mem_nil, or_false] at hb
  rcases hb with rfl | rfl | rfl | rfl | rfl
  · rfl
  · exact (index_int (-1) m).trans (by rw [decide_eq_false (by omega)])
  · exact (index_int m m).trans (by rw [decide_eq_false (by omega)])
  · rfl
  · rfl
theorem need_world_bad {T : Nat → List Str} (hT : T 20 = [("lots" : Str)]) {m : Nat} {L : List (List Int)} (h : Lv m L) (h8 : m ≤ 8) {w b : A} {p : Pen} (hb : b ∈ badW m) : g_need_world T [levA L, w, b] p = .exc 2 [b, w] p := by
  have e : callM 2 g_is_index (consM (vM 2) (consM (callM 1 (g_many_of T) (consM (vM 0) nilM)) nilM)) (start' 3 [levA L, w, b]) = ret (.bl false) := (callM_ret (n := 2) (as := [b, .int (m : Nat)]) (consM_ret rfl (consM_ret (ms := nilM) (many_call hT h h8 rfl) rfl)) rfl).trans (index_bad hb)
  unfold g_need_world
  exact defM_exc (seqM_exc (ite_exc (notT_f (truM_ret e)) rfl))
theorem says_1 : (fun w p => (badS 1).map fun b => g_need_saying [.int 1, w, b] p) = fun w p => (badS 1).map fun b => .exc 3 [b, w] p := by kernel_rfl
theorem says_2 : (fun w p => (badS 2).map fun b => g_need_saying [.int 2, w, b] p) = fun w p => (badS 2).map fun b => .exc 3 [b, w] p := by kernel_rfl
theorem says_3 : (fun w p => (badS 3).map fun b => g_need_saying [.int 3, w, b] p) = fun w p => (badS 3).map fun b => .exc 3 [b, w] p := by kernel_rfl
theorem says_4 : (fun w p => (badS 4).map fun b => g_need_saying [.int 4, w, b] p) = fun w p => (badS 4).map fun b => .exc 3 [b, w] p := by kernel_rfl
theorem says_5 : (fun w p => (badS 5).map fun b => g_need_saying [.int 5, w, b] p) = fun w p => (badS 5).map fun b => .exc 3 [b, w] p := by kernel_rfl
theorem says_6 : (fun w p => (badS 6).map fun b => g_need_saying [.int 6, w, b] p) = fun w p => (badS 6).map fun b => .exc 3 [b, w] p := by kernel_rfl
theorem says_7 : (fun w p => (badS 7).map fun b => g_need_saying [.int 7, w, b] p) = fun w p => (badS 7).map fun b => .exc 3 [b, w] p := by kernel_rfl
theorem says_8 : (fun w p => (badS 8).map fun b => g_need_saying [.int 8, w, b] p) = fun w p => (badS 8).map fun b => .exc 3 [b, w] p := by kernel_rfl
theorem need_saying_bad {m : Nat} (h1 : 1 ≤ m) (h8 : m ≤ 8) {w b : A} {p : Pen} (hb : b ∈ badS m) : g_need_saying [.int (m : Nat), w, b] p = .exc 3 [b, w] p := by
  have h : m = 1 ∨ m = 2 ∨ m = 3 ∨ m = 4 ∨ m = 5 ∨ m = 6 ∨ m = 7 ∨ m = 8 := by omega
  rcases h with rfl | rfl | rfl | rfl | rfl | rfl | rfl | rfl
  · exact List.map_inj_left.mp (congrFun (congrFun says_1 w) p) b hb
  · exact List.map_inj_left.mp (congrFun (congrFun says_2 w) p) b hb
  · exact List.map_inj_left.mp (congrFun (congrFun says_3 w) p) b hb
  · exact List.map_inj_left.mp (congrFun (congrFun says_4 w) p) b hb
  · exact List.map_inj_left.mp (congrFun (congrFun says_5 w) p) b hb
  · exact List.map_inj_left.mp (congrFun (congrFun says_6 w) p) b hb
  · exact List.map_inj_left.mp (congrFun (congrFun says_7 w) p) b hb
  · exact List.map_inj_left.mp (congrFun (congrFun says_8 w) p) b hb
theorem nc_badL {b : A} (hb : b ∈ badL) : noClo b = true ∧ okV b = true := by
  have h : (badL.all fun b => noClo b && okV b) = true := by decide +kernel
  simpa using List.all_eq_true.mp h b hb
theorem ncW_1 : ((badW 1).all fun b => noClo b && okV b) = true := by decide +kernel
theorem ncS_1 : ((badS 1).all fun b => noClo b && okV b) = true := by decide +kernel
theorem ncW_2 : ((badW 2).all fun b => noClo b && okV b) = true := by decide +kernel
theorem ncS_2 : ((badS 2).all fun b => noClo b && okV b) = true := by decide +kernel
theorem ncW_3 : ((badW 3).all fun b => noClo b && okV b) = true := by decide +kernel
theorem ncS_3 : ((badS 3).all fun b => noClo b && okV b) = true := by decide +kernel
theorem ncW_4 : ((badW 4).all fun b => noClo b && okV b) = true := by decide +kernel
theorem ncS_4 : ((badS 4).all fun b => noClo b && okV b) = true := by decide +kernel
theorem ncW_5 : ((badW 5).all fun b => noClo b && okV b) = true := by decide +kernel
theorem ncS_5 : ((badS 5).all fun b => noClo b && okV b) = true := by decide +kernel
theorem ncW_6 : ((badW 6).all fun b => noClo b && okV b) = true := by decide +kernel
theorem ncS_6 : ((badS 6).all fun b => noClo b && okV b) = true := by decide +kernel
theorem ncW_7 : ((badW 7).all fun b => noClo b && okV b) = true := by decide +kernel
theorem ncS_7 : ((badS 7).all fun b => noClo b && okV b) = true := by decide +kernel
theorem ncW_8 : ((badW 8).all fun b => noClo b && okV b) = true := by decide +kernel
theorem ncS_8 : ((badS 8).all fun b => noClo b && okV b) = true := by decide +kernel
theorem nc_badW {m : Nat} (h1 : 1 ≤ m) (h8 : m ≤ 8) {b : A} (hb : b ∈ badW m) : noClo b = true ∧ okV b = true := by
  have h : m = 1 ∨ m = 2 ∨ m = 3 ∨ m = 4 ∨ m = 5 ∨ m = 6 ∨ m = 7 ∨ m = 8 := by omega
  rcases h with rfl | rfl | rfl | rfl | rfl | rfl | rfl | rfl
  · simpa using List.all_eq_true.mp ncW_1 b hb
  · simpa using List.all_eq_true.mp ncW_2 b hb
  · simpa using List.all_eq_true.mp ncW_3 b hb
  · simpa using List.all_eq_true.mp ncW_4 b hb
  · simpa using List.all_eq_true.mp ncW_5 b hb
  · simpa using List.all_eq_true.mp ncW_6 b hb
  · simpa using List.all_eq_true.mp ncW_7 b hb
  · simpa using List.all_eq_true.mp ncW_8 b hb
theorem nc_badS {m : Nat} (h1 : 1 ≤ m) (h8 : m ≤ 8) {b : A} (hb : b ∈ badS m) : noClo b = true ∧ okV b = true := by
  have h : m = 1 ∨ m = 2 ∨ m = 3 ∨ m = 4 ∨ m = 5 ∨ m = 6 ∨ m = 7 ∨ m = 8 := by omega
  rcases h with rfl | rfl | rfl | rfl | rfl | rfl | rfl | rfl
  · simpa using List.all_eq_true.mp ncS_1 b hb
  · simpa using List.all_eq_true.mp ncS_2 b hb
  · simpa using List.all_eq_true.mp ncS_3 b hb
  · simpa using List.all_eq_true.mp ncS_4 b hb
  · simpa using List.all_eq_true.mp ncS_5 b hb
  · simpa using List.all_eq_true.mp ncS_6 b hb
  · simpa using List.all_eq_true.mp ncS_7 b hb
  · simpa using List.all_eq_true.mp ncS_8 b hb
end Mir

namespace LG
open PySem PySem.Spec PyProof.Rows L2 Mir
def topS (i : Nat) : Stmt := PySem.Challenge.pw_changedminds_k02_whole_first_ones.main.body.getD i (.Pass ⟨0, 0, 0, 0⟩)
abbrev fuel : Nat := 100000
abbrev s_law_pen : Stmt := topS 30
abbrev s_law_draw : Stmt := topS 31
abbrev s_law_pick : Stmt := topS 32
abbrev s_law_unlike : Stmt := topS 36
abbrev s_law_lots_of : Stmt := topS 37
abbrev s_law_drawn_lots : Stmt := topS 38
abbrev s_is_whole : Stmt := topS 11
abbrev s_is_index : Stmt := topS 12
abbrev s_is_lot : Stmt := topS 16
abbrev s_are_levels : Stmt := topS 17
abbrev s_Levels_init : Stmt := (clsBody (topS 15)).getD 0 (.Pass ⟨0, 0, 0, 0⟩)
abbrev s_law_made : Stmt := topS 40
abbrev s_law_heights : Stmt := topS 39
abbrev s_law_is : Stmt := topS 33
abbrev s_need_levels : Stmt := topS 18
abbrev s_many_of : Stmt := topS 19
abbrev s_need_world : Stmt := topS 20
abbrev s_heights_by : Stmt := topS 22
abbrev s_level_of : Stmt := topS 25
abbrev s_law_pairs : Stmt := topS 44
abbrev s_is_ahead : Stmt := topS 27
abbrev s_law_drawn_saying : Stmt := topS 42
abbrev s_law_first : Stmt := topS 43
abbrev s_first_by : Stmt := topS 24
abbrev s_need_saying : Stmt := topS 21
abbrev s_first_ones : Stmt := topS 26
abbrev s_law_plain : Stmt := topS 41
abbrev s_levels_from : Stmt := topS 23
abbrev s_narrowed_levels : Stmt := topS 28
abbrev s_law_odd_levels : Stmt := topS 45
abbrev s_law_odd_world : Stmt := topS 46
abbrev s_law_odd_lot : Stmt := topS 47
abbrev s_law_caught : Stmt := topS 34
abbrev s_law_raise_so : Stmt := topS 35
abbrev s_law_refusals_right : Stmt := topS 48
abbrev s_law : Stmt := topS 49
abbrev c_BadText : Stmt := topS 2
abbrev s_BadText : Stmt := (clsBody c_BadText).getD 0 (.Pass ⟨0, 0, 0, 0⟩)
abbrev c_BadName : Stmt := topS 3
abbrev s_BadName : Stmt := (clsBody c_BadName).getD 0 (.Pass ⟨0, 0, 0, 0⟩)
abbrev c_BadNumber : Stmt := topS 4
abbrev s_BadNumber : Stmt := (clsBody c_BadNumber).getD 0 (.Pass ⟨0, 0, 0, 0⟩)
abbrev c_BadRow : Stmt := topS 5
abbrev s_BadRow : Stmt := (clsBody c_BadRow).getD 0 (.Pass ⟨0, 0, 0, 0⟩)
abbrev c_NoName : Stmt := topS 6
abbrev s_NoName : Stmt := (clsBody c_NoName).getD 0 (.Pass ⟨0, 0, 0, 0⟩)
abbrev c_TakenName : Stmt := topS 7
abbrev s_TakenName : Stmt := (clsBody c_TakenName).getD 0 (.Pass ⟨0, 0, 0, 0⟩)
abbrev c_Unlike : Stmt := topS 8
abbrev s_Unlike : Stmt := (clsBody c_Unlike).getD 0 (.Pass ⟨0, 0, 0, 0⟩)
abbrev c_TooMany : Stmt := topS 9
abbrev s_TooMany : Stmt := (clsBody c_TooMany).getD 0 (.Pass ⟨0, 0, 0, 0⟩)
theorem sc_law_pen : FnScope ["script", "fold", "cell"] ["script"] (defScope s_law_pen) := ⟨rfl, rfl, rfl, by decide +kernel, rfl, by decide +kernel, by decide +kernel⟩
theorem sc_law_draw : FnScope ["pen", "many", "cell", "digit", "blend"] ["pen", "many"] (defScope s_law_draw) := ⟨rfl, rfl, rfl, by decide +kernel, rfl, by decide +kernel, by decide +kernel⟩
theorem sc_law_pick : FnScope ["pen", "some"] ["pen", "some"] (defScope s_law_pick) := ⟨rfl, rfl, rfl, by decide +kernel, rfl, by decide +kernel, by decide +kernel⟩
theorem sc_law_unlike : FnScope ["row", "some", ".0", "at"] ["row"] (defScope s_law_unlike) := ⟨rfl, rfl, rfl, by decide +kernel, rfl, by decide +kernel, by decide +kernel⟩
theorem sc_law_lots_of : FnScope ["heights", ".0", "height", "world"] ["heights"] (defScope s_law_lots_of) := ⟨rfl, rfl, rfl, by decide +kernel, rfl, by decide +kernel, by decide +kernel⟩
theorem sc_law_drawn_lots : FnScope ["pen", "many", "wide", ".0", "world"] ["pen", "many"] (defScope s_law_drawn_lots) := ⟨rfl, rfl, rfl, by decide +kernel, rfl, by decide +kernel, by decide +kernel⟩
theorem sc_is_whole : FnScope ["value"] ["value"] (defScope s_is_whole) := ⟨rfl, rfl, rfl, by decide +kernel, rfl, by decide +kernel, by decide +kernel⟩
theorem sc_is_index : FnScope ["value", "many"] ["value", "many"] (defScope s_is_index) := ⟨rfl, rfl, rfl, by decide +kernel, rfl, by decide +kernel, by decide +kernel⟩
theorem sc_is_lot : FnScope ["many", "value", ".0", "one", "at"] ["many", "value"] (defScope s_is_lot) := ⟨rfl, rfl, rfl, by decide +kernel, rfl, by decide +kernel, by decide +kernel⟩
theorem sc_are_levels : FnScope ["value", "lot", "worlds", ".0"] ["value"] (defScope s_are_levels) := ⟨rfl, rfl, rfl, by decide +kernel, rfl, by decide +kernel, by decide +kernel⟩
theorem sc_Levels_init : FnScope ["self", "lots", "known"] ["self", "lots"] (defScope s_Levels_init) := ⟨rfl, rfl, rfl, by decide +kernel, rfl, by decide +kernel, by decide +kernel⟩
theorem sc_law_made : FnScope ["lots"] ["lots"] (defScope s_law_made) := ⟨rfl, rfl, rfl, by decide +kernel, rfl, by decide +kernel, by decide +kernel⟩
theorem sc_law_heights : FnScope ["lots", "found", "at", "world", ".0", "lot"] ["lots"] (defScope s_law_heights) := ⟨rfl, rfl, rfl, by decide +kernel, rfl, by decide +kernel, by decide +kernel⟩
theorem sc_law_is : FnScope ["told", "due", ".0", "at"] ["told", "due"] (defScope s_law_is) := ⟨rfl, rfl, rfl, by decide +kernel, rfl, by decide +kernel, by decide +kernel⟩
theorem sc_need_levels : FnScope ["what", "value"] ["what", "value"] (defScope s_need_levels) := ⟨rfl, rfl, rfl, by decide +kernel, rfl, by decide +kernel, by decide +kernel⟩
theorem sc_many_of : FnScope ["levels", ".0", "lot"] ["levels"] (defScope s_many_of) := ⟨rfl, rfl, rfl, by decide +kernel, rfl, by decide +kernel, by decide +kernel⟩
theorem sc_need_world : FnScope ["levels", "what", "world"] ["levels", "what", "world"] (defScope s_need_world) := ⟨rfl, rfl, rfl, by decide +kernel, rfl, by decide +kernel, by decide +kernel⟩
theorem sc_heights_by : FnScope ["levels", "found", "at", "lot", "world"] ["levels"] (defScope s_heights_by) := ⟨rfl, rfl, rfl, by decide +kernel, rfl, by decide +kernel, by decide +kernel⟩
theorem sc_level_of : FnScope ["levels", "world"] ["levels", "world"] (defScope s_level_of) := ⟨rfl, rfl, rfl, by decide +kernel, rfl, by decide +kernel, by decide +kernel⟩
theorem sc_law_pairs : FnScope ["many", "found", "first", ".0", "second"] ["many"] (defScope s_law_pairs) := ⟨rfl, rfl, rfl, by decide +kernel, rfl, by decide +kernel, by decide +kernel⟩
theorem sc_is_ahead : FnScope ["levels", "world", "other", "heights"] ["levels", "world", "other"] (defScope s_is_ahead) := ⟨rfl, rfl, rfl, by decide +kernel, rfl, by decide +kernel, by decide +kernel⟩
theorem sc_law_drawn_saying : FnScope ["pen", "many", ".0", "world"] ["pen", "many"] (defScope s_law_drawn_saying) := ⟨rfl, rfl, rfl, by decide +kernel, rfl, by decide +kernel, by decide +kernel⟩
theorem sc_law_first : FnScope ["lots", "saying", "lot", "some", ".0", "world"] ["lots", "saying"] (defScope s_law_first) := ⟨rfl, rfl, rfl, by decide +kernel, rfl, by decide +kernel, by decide +kernel⟩
theorem sc_first_by : FnScope ["levels", "saying", "lot", "some", ".0", "world"] ["levels", "saying"] (defScope s_first_by) := ⟨rfl, rfl, rfl, by decide +kernel, rfl, by decide +kernel, by decide +kernel⟩
theorem sc_need_saying : FnScope ["many", "what", "saying", "known"] ["many", "what", "saying"] (defScope s_need_saying) := ⟨rfl, rfl, rfl, by decide +kernel, rfl, by decide +kernel, by decide +kernel⟩
theorem sc_first_ones : FnScope ["levels", "saying"] ["levels", "saying"] (defScope s_first_ones) := ⟨rfl, rfl, rfl, by decide +kernel, rfl, by decide +kernel, by decide +kernel⟩
theorem sc_law_plain : FnScope ["told"] ["told"] (defScope s_law_plain) := ⟨rfl, rfl, rfl, by decide +kernel, rfl, by decide +kernel, by decide +kernel⟩
theorem sc_levels_from : FnScope ["heights", "found", "world", "height", ".0"] ["heights"] (defScope s_levels_from) := ⟨rfl, rfl, rfl, by decide +kernel, rfl, by decide +kernel, by decide +kernel⟩
theorem sc_narrowed_levels : FnScope ["levels", "saying", "known", "heights", ".0", "world"] ["levels", "saying"] (defScope s_narrowed_levels) := ⟨rfl, rfl, rfl, by decide +kernel, rfl, by decide +kernel, by decide +kernel⟩
theorem sc_law_odd_levels : FnScope ["pen"] ["pen"] (defScope s_law_odd_levels) := ⟨rfl, rfl, rfl, by decide +kernel, rfl, by decide +kernel, by decide +kernel⟩
theorem sc_law_odd_world : FnScope ["pen", "many"] ["pen", "many"] (defScope s_law_odd_world) := ⟨rfl, rfl, rfl, by decide +kernel, rfl, by decide +kernel, by decide +kernel⟩
theorem sc_law_odd_lot : FnScope ["pen", "many"] ["pen", "many"] (defScope s_law_odd_lot) := ⟨rfl, rfl, rfl, by decide +kernel, rfl, by decide +kernel, by decide +kernel⟩
theorem sc_law_caught : FnScope ["action", "e", "found"] ["action"] (defScope s_law_caught) := ⟨rfl, rfl, rfl, by decide +kernel, rfl, by decide +kernel, by decide +kernel⟩
theorem sc_law_raise_so : FnScope ["calls", "call", "due", "told"] ["calls"] (defScope s_law_raise_so) := ⟨rfl, rfl, rfl, by decide +kernel, rfl, by decide +kernel, by decide +kernel⟩
theorem sc_law_refusals_right : FnScope ["pen", "made", "many", "calls", "bad", "saying", "world"] ["pen", "made", "many"] (defScope s_law_refusals_right) := ⟨rfl, rfl, rfl, by decide +kernel, rfl, by decide +kernel, by decide +kernel⟩
theorem sc_law : FnScope ["script", "pen", "lap", "many", "lots", "made", "heights", "first", "second", "turn", "saying", "given", "due", "less", "other", "same", ".0", "world", "pair"] ["script"] (defScope s_law) := ⟨rfl, rfl, rfl, by decide +kernel, rfl, by decide +kernel, by decide +kernel⟩
theorem sc_BadText : FnScope ["self", "line", "word"] ["self", "line", "word"] (defScope s_BadText) := ⟨rfl, rfl, rfl, by decide +kernel, rfl, by decide +kernel, by decide +kernel⟩
theorem sc_BadName : FnScope ["self", "name"] ["self", "name"] (defScope s_BadName) := ⟨rfl, rfl, rfl, by decide +kernel, rfl, by decide +kernel, by decide +kernel⟩
theorem sc_BadNumber : FnScope ["self", "what", "number"] ["self", "what", "number"] (defScope s_BadNumber) := ⟨rfl, rfl, rfl, by decide +kernel, rfl, by decide +kernel, by decide +kernel⟩
theorem sc_BadRow : FnScope ["self", "what", "row"] ["self", "what", "row"] (defScope s_BadRow) := ⟨rfl, rfl, rfl, by decide +kernel, rfl, by decide +kernel, by decide +kernel⟩
theorem sc_NoName : FnScope ["self", "name"] ["self", "name"] (defScope s_NoName) := ⟨rfl, rfl, rfl, by decide +kernel, rfl, by decide +kernel, by decide +kernel⟩
theorem sc_TakenName : FnScope ["self", "name"] ["self", "name"] (defScope s_TakenName) := ⟨rfl, rfl, rfl, by decide +kernel, rfl, by decide +kernel, by decide +kernel⟩
theorem sc_Unlike : FnScope ["self", "what"] ["self", "what"] (defScope s_Unlike) := ⟨rfl, rfl, rfl, by decide +kernel, rfl, by decide +kernel, by decide +kernel⟩
theorem sc_TooMany : FnScope ["self", "what", "many", "limit"] ["self", "what", "many", "limit"] (defScope s_TooMany) := ⟨rfl, rfl, rfl, by decide +kernel, rfl, by decide +kernel, by decide +kernel⟩
def namesT : List (Nat × Str) := [(0, "BadText"), (1, "BadName"), (2, "BadNumber"), (3, "BadRow"), (4, "NoName"), (5, "TakenName"), (6, "Unlike"), (7, "TooMany"), (20, "Levels")]
def fldsTab : List (Nat × List Str) := [(0, ["word", "line"]), (1, ["name"]), (2, ["number", "what"]), (3, ["row", "what"]), (4, ["name"]), (5, ["name"]), (6, ["what"]), (7, ["limit", "many", "what"]), (20, ["lots"])]
abbrev fldsT : Nat → List Str := fldsOf fldsTab
def lamL0 : Lam := (lamAt s_law_refusals_right "_law_refusals_right.<locals>.<lambda>" 0 ["bad", "world"]).getD ⟨"x", ⟨[], [], none, [], [], none, []⟩, .Constant .none 0 ⟨0,0,0,0⟩, ⟨.function, [], false, false, []⟩, []⟩
def lamL1 : Lam := (lamAt s_law_refusals_right "_law_refusals_right.<locals>.<lambda>" 1 ["made", "world"]).getD ⟨"x", ⟨[], [], none, [], [], none, []⟩, .Constant .none 0 ⟨0,0,0,0⟩, ⟨.function, [], false, false, []⟩, []⟩
def lamL2 : Lam := (lamAt s_law_refusals_right "_law_refusals_right.<locals>.<lambda>" 2 ["bad", "saying"]).getD ⟨"x", ⟨[], [], none, [], [], none, []⟩, .Constant .none 0 ⟨0,0,0,0⟩, ⟨.function, [], false, false, []⟩, []⟩
def lamL3 : Lam := (lamAt s_law_refusals_right "_law_refusals_right.<locals>.<lambda>" 3 ["made", "saying"]).getD ⟨"x", ⟨[], [], none, [], [], none, []⟩, .Constant .none 0 ⟨0,0,0,0⟩, ⟨.function, [], false, false, []⟩, []⟩
def lamL4 : Lam := (lamAt s_law_refusals_right "_law_refusals_right.<locals>.<lambda>" 4 ["bad", "world"]).getD ⟨"x", ⟨[], [], none, [], [], none, []⟩, .Constant .none 0 ⟨0,0,0,0⟩, ⟨.function, [], false, false, []⟩, []⟩
def lamL5 : Lam := (lamAt s_law_refusals_right "_law_refusals_right.<locals>.<lambda>" 5 ["made", "world"]).getD ⟨"x", ⟨[], [], none, [], [], none, []⟩, .Constant .none 0 ⟨0,0,0,0⟩, ⟨.function, [], false, false, []⟩, []⟩
def lamL6 : Lam := (lamAt s_law_refusals_right "_law_refusals_right.<locals>.<lambda>" 6 ["made", "world"]).getD ⟨"x", ⟨[], [], none, [], [], none, []⟩, .Constant .none 0 ⟨0,0,0,0⟩, ⟨.function, [], false, false, []⟩, []⟩
def lamL7 : Lam := (lamAt s_law_refusals_right "_law_refusals_right.<locals>.<lambda>" 7 ["bad", "saying"]).getD ⟨"x", ⟨[], [], none, [], [], none, []⟩, .Constant .none 0 ⟨0,0,0,0⟩, ⟨.function, [], false, false, []⟩, []⟩
def lamL8 : Lam := (lamAt s_law_refusals_right "_law_refusals_right.<locals>.<lambda>" 8 ["made", "saying"]).getD ⟨"x", ⟨[], [], none, [], [], none, []⟩, .Constant .none 0 ⟨0,0,0,0⟩, ⟨.function, [], false, false, []⟩, []⟩
def lamL9 : Lam := (lamAt s_law_refusals_right "_law_refusals_right.<locals>.<lambda>" 9 ["made"]).getD ⟨"x", ⟨[], [], none, [], [], none, []⟩, .Constant .none 0 ⟨0,0,0,0⟩, ⟨.function, [], false, false, []⟩, []⟩
def lamsT : Nat → Option Lam
  | 0 => some lamL0
  | 1 => some lamL1
  | 2 => some lamL2
  | 3 => some lamL3
  | 4 => some lamL4
  | 5 => some lamL5
  | 6 => some lamL6
  | 7 => some lamL7
  | 8 => some lamL8
  | 9 => some lamL9
  | _ => none
def slots__law_refusals_right : Nat → Option (List Nat)
  | 0 => some [4, 6]
  | 1 => some [1, 6]
  | 2 => some [4, 5]
  | 3 => some [1, 5]
  | 4 => some [4, 6]
  | 5 => some [1, 6]
  | 6 => some [1, 6]
  | 7 => some [4, 5]
  | 8 => some [1, 5]
  | 9 => some [1]
  | _ => none
def here__law_refusals_right : Nat → Bool := fun n => decide (0 ≤ n ∧ n < 10)
structure Fx (P : Program) (w : World) (K : PySem.W.Frag) (mg : Str → Option Value) (base : Heap) : Prop where
  f_law_pen : FnF K mg "_law_pen" s_law_pen ["script"]
  f_law_draw : FnF K mg "_law_draw" s_law_draw ["pen", "many"]
  f_law_pick : FnF K mg "_law_pick" s_law_pick ["pen", "some"]
  f_law_unlike : FnF K mg "_law_unlike" s_law_unlike ["row"]
  f_law_lots_of : FnF K mg "_law_lots_of" s_law_lots_of ["heights"]
  f_law_drawn_lots : FnF K mg "_law_drawn_lots" s_law_drawn_lots ["pen", "many"]
  f_is_whole : FnF K mg "is_whole" s_is_whole ["value"]
  f_is_index : FnF K mg "is_index" s_is_index ["value", "many"]
  f_is_lot : FnF K mg "is_lot" s_is_lot ["many", "value"]
  f_are_levels : FnF K mg "are_levels" s_are_levels ["value"]
  f_law_made : FnF K mg "_law_made" s_law_made ["lots"]
  f_law_heights : FnF K mg "_law_heights" s_law_heights ["lots"]
  f_law_is : FnF K mg "_law_is" s_law_is ["told", "due"]
  f_need_levels : FnF K mg "need_levels" s_need_levels ["what", "value"]
  f_many_of : FnF K mg "many_of" s_many_of ["levels"]
  f_need_world : FnF K mg "need_world" s_need_world ["levels", "what", "world"]
  f_heights_by : FnF K mg "heights_by" s_heights_by ["levels"]
  f_level_of : FnF K mg "level_of" s_level_of ["levels", "world"]
  f_law_pairs : FnF K mg "_law_pairs" s_law_pairs ["many"]
  f_is_ahead : FnF K mg "is_ahead" s_is_ahead ["levels", "world", "other"]
  f_law_drawn_saying : FnF K mg "_law_drawn_saying" s_law_drawn_saying ["pen", "many"]
  f_law_first : FnF K mg "_law_first" s_law_first ["lots", "saying"]
  f_first_by : FnF K mg "first_by" s_first_by ["levels", "saying"]
  f_need_saying : FnF K mg "need_saying" s_need_saying ["many", "what", "saying"]
  f_first_ones : FnF K mg "first_ones" s_first_ones ["levels", "saying"]
  f_law_plain : FnF K mg "_law_plain" s_law_plain ["told"]
  f_levels_from : FnF K mg "levels_from" s_levels_from ["heights"]
  f_narrowed_levels : FnF K mg "narrowed_levels" s_narrowed_levels ["levels", "saying"]
  f_law_odd_levels : FnF K mg "_law_odd_levels" s_law_odd_levels ["pen"]
  f_law_odd_world : FnF K mg "_law_odd_world" s_law_odd_world ["pen", "many"]
  f_law_odd_lot : FnF K mg "_law_odd_lot" s_law_odd_lot ["pen", "many"]
  f_law_caught : FnF K mg "_law_caught" s_law_caught ["action"]
  f_law_raise_so : FnF K mg "_law_raise_so" s_law_raise_so ["calls"]
  f_law_refusals_right : FnF K mg "_law_refusals_right" s_law_refusals_right ["pen", "made", "many"]
  f_law : FnF K mg "law" s_law ["script"]
  z_all : mg "all" = none
  z_bool : mg "bool" = none
  z_enumerate : mg "enumerate" = none
  z_int : mg "int" = none
  z_isinstance : mg "isinstance" = none
  z_len : mg "len" = none
  z_list : mg "list" = none
  z_range : mg "range" = none
  z_repr : mg "repr" = none
  z_sorted : mg "sorted" = none
  z_str : mg "str" = none
  z_sum : mg "sum" = none
  z_tuple : mg "tuple" = none
  c_MOST_WORLDS : ∃ t, mg "MOST_WORLDS" = some (.int 8 t)
  mi : ∃ C, MindF K mg "MindError" C
  i_Levels : ∃ C, InsF K mg "Levels" ["lots"] s_Levels_init ["self", "lots"] C
  oo : ∀ c C d C', 20 ≤ c → 20 ≤ d → clsOf namesT mg c = some C → clsOf namesT mg d = some C' → PySem.W.kitOne K (.ref C) (.ref C') = some (c == d)
  e_BadText : ∃ C, ErrF K mg "BadText" s_BadText ["self", "line", "word"] C
  e_BadName : ∃ C, ErrF K mg "BadName" s_BadName ["self", "name"] C
  e_BadNumber : ∃ C, ErrF K mg "BadNumber" s_BadNumber ["self", "what", "number"] C
  e_BadRow : ∃ C, ErrF K mg "BadRow" s_BadRow ["self", "what", "row"] C
  e_NoName : ∃ C, ErrF K mg "NoName" s_NoName ["self", "name"] C
  e_TakenName : ∃ C, ErrF K mg "TakenName" s_TakenName ["self", "name"] C
  e_Unlike : ∃ C, ErrF K mg "Unlike" s_Unlike ["self", "what"] C
  e_TooMany : ∃ C, ErrF K mg "TooMany" s_TooMany ["self", "what", "many", "limit"] C
  no : ∀ c C, clsOf namesT mg c = some C → c < 20 → ∀ f ∈ (["limit", "line", "many", "name", "number", "row", "what", "word"] : List Str), PySem.W.findIn K (.ref C) f = some none
  sb : ∀ c C d C', clsOf namesT mg c = some C → clsOf namesT mg d = some C' → c < 20 → d < 20 → PySem.W.kitOne K (.ref C) (.ref C') = some (c == d)
  xm : ∀ c C CM, clsOf namesT mg c = some C → c < 20 → mg "MindError" = some (.ref CM) → PySem.W.exmOne K (.ref C) (.ref CM) = some true
  og : PySem.W.specialIn K (.builtin "object.__class__") "__get__" = some (some (.builtin "getset_descriptor.__get__"))
  ot : PySem.W.takesIn K (.builtin "object.__class__") = some true
structure Tx (K : PySem.W.Frag) (mg : Str → Option Value) (base : Heap) (T : List (Addr × Str)) : Prop where
  t_law_refusals_right : ∃ (f : Addr) (fd : FuncData) (c Pt : Addr), mg "_law_refusals_right" = some (.ref f) ∧ L2.Fun K "_law_refusals_right" "_law_refusals_right" s_law_refusals_right f fd ∧ L2.Binds K fd ["pen", "made", "many"] [] ∧ fd.code = .ref c ∧ LamX.TabB base mg c Pt ∧ (Pt, ("_law_refusals_right.<locals>.<lambda>" : Str)) ∈ T ∧ ∀ p ∈ T, p.1 = Pt → p.2 = ("_law_refusals_right.<locals>.<lambda>" : Str)
section
variable {P : Program} {w : World} {K : PySem.W.Frag} {mg : Str → Option Value} {base : Heap} {T : List (Addr × Str)} {D : Dcl}
abbrev DF (mg : Str → Option Value) (T : List (Addr × Str)) (D : Dcl) : Prop := DFo mg namesT fldsTab lamsT T D
theorem at_cl {here : Nat → Bool} {cells : List (Str × Addr)} {n : Nat} {L : Lam} (hD : DF mg T D) (hl : lamsT n = some L) (hh : here n = true) : (D.at_ here cells).cl n = some (cloFrom cells L.scope.names []) := by
  show (if here n then (D.lams n).map (fun L => cloFrom cells L.scope.names []) else none) = _
  rw [hh, congrFun hD.lams n, hl]
  rfl
theorem dfMe {a : Addr} (hD : DF mg T D) : DF mg T (D.me a) := ⟨hD.cls, hD.flds, hD.lams, hD.T, hD.xc⟩
theorem cls_lt {c : Nat} {C : Addr} (h : clsOf namesT mg c = some C) (h20 : c < 20) : c < 8 := by
  unfold clsOf at h
  obtain ⟨x, h1, _⟩ := Option.bind_eq_some_iff.mp h
  have h2 := mem_look h1
  simp only [namesT, List.mem_cons, Prod.mk.injEq, List.not_mem_nil, or_false] at h2
  omega
theorem cls_ge {c : Nat} {C : Addr} (h : clsOf namesT mg c = some C) (h20 : 20 ≤ c) : c = 20 := by
  unfold clsOf at h
  obtain ⟨x, h1, _⟩ := Option.bind_eq_some_iff.mp h
  have h2 := mem_look h1
  simp only [namesT, List.mem_cons, Prod.mk.injEq, List.not_mem_nil, or_false] at h2
  omega
theorem ins_at (Z : Fx P w K mg base) {c : Nat} {C : Addr} (h20 : 20 ≤ c) (h : clsOf namesT mg c = some C) : ∃ x fl st ps, InsF K mg x fl st ps C ∧ fldsOf fldsTab c = fl := by
  rcases cls_ge h h20 with rfl
  · obtain ⟨C', I⟩ := Z.i_Levels
    have e : refO (mg "Levels") = some C := h
    rw [I.m] at e
    cases e
    exact ⟨_, _, _, _, I, rfl⟩

theorem clsF (Z : Fx P w K mg base) (hD : DF mg T D) : ClsF K D := clsF_of hD.cls hD.flds (fun c C a b => ins_at Z a b) Z.og Z.ot Z.oo
theorem Fx.cl_Levels (Z : Fx P w K mg base) (hD : DF mg T D) : ∃ C, mg "Levels" = some (.ref C) ∧ D.cls 20 = some C := by
  obtain ⟨C, I⟩ := Z.i_Levels
  exact ⟨C, I.m, by rw [hD.cls]; show refO (mg "Levels") = some C; rw [I.m]; rfl⟩
theorem Fx.x_BadNumber (Z : Fx P w K mg base) (hD : DF mg T D) : ExcK P w K mg base D 1 "BadNumber" 2 := by
  obtain ⟨CM, M⟩ := Z.mi
  obtain ⟨C, E⟩ := Z.e_BadNumber
  obtain ⟨fI, fd, h1, h2, h3, h4⟩ := E.ex
  have hc : clsOf namesT mg 2 = some C := by show refO (mg "BadNumber") = some C; rw [E.m]; rfl
  refine ⟨C, fI, fd, _, E.m, by rw [hD.cls]; exact hc, E.o, h1, h2, h4, ?_⟩
  rw [hD.flds]
  exact init2 (k := 0) h3 sc_BadNumber rfl (fun _ => rfl) M.c rfl M.m E.o (.inl rfl) (.inl rfl) (.inl rfl) (Z.no 2 C hc (by decide) _ (by decide)) (Z.no 2 C hc (by decide) _ (by decide))
theorem Fx.x_BadRow (Z : Fx P w K mg base) (hD : DF mg T D) : ExcK P w K mg base D 1 "BadRow" 3 := by
  obtain ⟨CM, M⟩ := Z.mi
  obtain ⟨C, E⟩ := Z.e_BadRow
  obtain ⟨fI, fd, h1, h2, h3, h4⟩ := E.ex
  have hc : clsOf namesT mg 3 = some C := by show refO (mg "BadRow") = some C; rw [E.m]; rfl
  refine ⟨C, fI, fd, _, E.m, by rw [hD.cls]; exact hc, E.o, h1, h2, h4, ?_⟩
  rw [hD.flds]
  exact init2 (k := 0) h3 sc_BadRow rfl (fun _ => rfl) M.c rfl M.m E.o (.inl rfl) (.inl rfl) (.inl rfl) (Z.no 3 C hc (by decide) _ (by decide)) (Z.no 3 C hc (by decide) _ (by decide))
theorem d_law_pen (Z : Fx P w K mg base) : PenDef P w K mg base 1 := by
  obtain ⟨f, fd, h1, h2, h3⟩ := Z.f_law_pen
  refine ⟨f, fd, _, h1, h2.kp, h3, h2.okX (k := 0) sc_law_pen (fun vs H Q E h => ?_) fun cdv A outer s H vs Q E hr h => ⟨_, ?_, pen_read (E := E) (Nm := ["script", "fold", "cell"]) rfl rfl h⟩⟩
  · obtain ⟨a, ns, rfl, _⟩ := h
    rfl
  · exact pss_cons (ps_set sc_law_pen.nd rfl (.inl rfl) pe_int) (pss_cons (ps_for pown rfl (pi_seq (pe_var rfl (.inl rfl) (by decide) (by decide))) (pg_name sc_law_pen.nd rfl (.inl rfl)) (pss_one (ps_set sc_law_pen.nd rfl (.inl rfl) (pe_op op_mod (pe_callTy call_int1 rfl Z.z_int bt_int (pa_cons (pe_op op_add (pe_op op_mul (pe_var rfl (.inl rfl) (by decide) (by decide)) pe_int) (pe_var rfl (.inl rfl) (by decide) (by decide))) pa_nil)) pe_int))))
      (pss_one (ps_ret (pe_disp (pps_cons pe_str (pe_callTy call_list_of rfl Z.z_list bt_list (pa_cons (pe_var rfl (.inl rfl) (by decide) (by decide)) pa_nil)) (pps_cons pe_str pe_int (pps_cons pe_str pe_int (pps_cons pe_str pe_int (pps_cons pe_str (pe_var rfl (.inl rfl) (by decide) (by decide)) pps_nil))))) rfl rfl (by simp) (by decide)))))

def m_law_draw : List A → M A := defM 5 (seqM (penS (vM 0) .count (op2 addA (onPen (vM 0) fun p => .ok (.int (p.get .count)) p) (cM (.int 1)))) (seqM (iteM (andT (tstM (op2 eqA (onPen (vM 0) fun p => .ok (.int (p.get .digits)) p) (cM (.int 0)))) (tstM (op2 ltA (onPen (vM 0) fun p => .ok (.int (p.get .at_)) p) (onA lenA (consM (onPen (vM 0) fun p => .ok (.lst (p.cells.map A.int)) p) nilM))))) (seqM (setM 2 (op2 ixA (onPen (vM 0) fun p => .ok (.lst (p.cells.map A.int)) p) (onPen (vM 0) fun p => .ok (.int (p.get .at_)) p))) (seqM (penS (vM 0) .at_ (op2 addA (onPen (vM 0) fun p => .ok (.int (p.get .at_)) p) (cM (.int 1)))) (seqM (iteM (tstM (op2 geA (vM 2) (op2 powA (cM (.int 10)) (cM (.int 18))))) (seqM (penS (vM 0) .digits (op2 subA (vM 2) (op2 powA (cM (.int 10)) (cM (.int 18))))) nxM) (seqM (penS (vM 0) .fold (op2 modA (onA intA (consM (op2 addA (op2 mulA (onPen (vM 0) fun p => .ok (.int (p.get .fold)) p) (cM (.int 69069))) (vM 2)) nilM)) (cM (.int 2147483587)))) nxM)) nxM))) nxM) (seqM (iteM (tstM (op2 gtA (onPen (vM 0) fun p => .ok (.int (p.get .digits)) p) (cM (.int 0)))) (seqM (setM 3 (op2 modA (onA intA (consM (onPen (vM 0) fun p => .ok (.int (p.get .digits)) p) nilM)) (vM 1))) (seqM (penS (vM 0) .digits (op2 fdivA (onPen (vM 0) fun p => .ok (.int (p.get .digits)) p) (vM 1))) (retM (vM 3)))) nxM) (seqM (setM 4 (op2 modA (onA intA (consM (op2 addA (op2 addA (op2 mulA (onPen (vM 0) fun p => .ok (.int (p.get .fold)) p) (cM (.int 48271))) (op2 mulA (onPen (vM 0) fun p => .ok (.int (p.get .count)) p) (cM (.int 7919)))) (cM (.int 13))) nilM)) (cM (.int 2147483647)))) (seqM (setM 4 (op2 modA (onA intA (consM (op2 addA (op2 addA (op2 mulA (vM 4) (vM 4)) (op2 mulA (cM (.int 31)) (vM 4))) (onPen (vM 0) fun p => .ok (.int (p.get .count)) p)) nilM)) (cM (.int 2147483629)))) (seqM (penS (vM 0) .fold (op2 modA (onA intA (consM (op2 addA (op2 mulA (vM 4) (cM (.int 16807))) (cM (.int 7))) nilM)) (cM (.int 2147483647)))) (retM (op2 modA (onA intA (consM (op2 fdivA (vM 4) (cM (.int 64))) nilM)) (vM 1)))))))))
theorem d_law_draw (Z : Fx P w K mg base) (hD : DF mg T D) : Def P w K mg base D 1 "_law_draw" 2 m_law_draw :=
  Def.of (own' := []) (k := 0) Z.f_law_draw sc_law_draw rfl (by decide) fun f cdv A outer s H E hr => (mss_cons (ms_penS (f := .count) (hu1 hr) rfl (me_var rfl (.inl rfl) (by decide)) (me_add (me_penG (f := .count) (hu1 hr) rfl (me_var rfl (.inl rfl) (by decide))) me_int)) (mss_cons (ms_if (MW.pt (mw_and (mt_eq (hu65 hr) (me_penG (f := .digits) (hu1 hr) rfl (me_var rfl (.inl rfl) (by decide))) me_int) (mw_and1 (mt_lt (hu65 hr) (me_penG (f := .at_) (hu1 hr) rfl (me_var rfl (.inl rfl) (by decide))) (me_callB call_lenX fnm_len rfl Z.z_len bt_len (ma_cons (me_penC (hu1 hr) (me_var rfl (.inl rfl) (by decide))) ma_nil)))))) (mss_cons (ms_set (sc_law_draw).nd rfl (.inl rfl) (me_ix (me_penC (hu1 hr) (me_var rfl (.inl rfl) (by decide))) (me_penG (f := .at_) (hu1 hr) rfl (me_var rfl (.inl rfl) (by decide))) (fun _ _ => rfl))) (mss_cons (ms_penS (f := .at_) (hu1 hr) rfl (me_var rfl (.inl rfl) (by decide)) (me_add (me_penG (f := .at_) (hu1 hr) rfl (me_var rfl (.inl rfl) (by decide))) me_int)) (mss_cons (ms_if (mt_ge (me_var rfl (.inl rfl) (by decide)) (me_pow me_int me_int)) (mss_cons (ms_penS (f := .digits) (hu1 hr) rfl (me_var rfl (.inl rfl) (by decide)) (me_sub (me_var rfl (.inl rfl) (by decide)) (me_pow me_int me_int))) mss_nil) (mss_cons (ms_penS (f := .fold) (hu1 hr) rfl (me_var rfl (.inl rfl) (by decide)) (me_mod (me_callTy call_int1 fnm_int rfl Z.z_int bt_int (ma_cons (me_add (me_mul (me_penG (f := .fold) (hu1 hr) rfl (me_var rfl (.inl rfl) (by decide))) me_int) (me_var rfl (.inl rfl) (by decide))) ma_nil)) me_int)) mss_nil)) mss_nil))) mss_nil) (mss_cons (ms_if (mt_gt (me_penG (f := .digits) (hu1 hr) rfl (me_var rfl (.inl rfl) (by decide))) me_int) (mss_cons (ms_set (sc_law_draw).nd rfl (.inl rfl) (me_mod (me_callTy call_int1 fnm_int rfl Z.z_int bt_int (ma_cons (me_penG (f := .digits) (hu1 hr) rfl (me_var rfl (.inl rfl) (by decide))) ma_nil)) (me_var rfl (.inl rfl) (by decide)))) (mss_cons (ms_penS (f := .digits) (hu1 hr) rfl (me_var rfl (.inl rfl) (by decide)) (me_fdiv (me_penG (f := .digits) (hu1 hr) rfl (me_var rfl (.inl rfl) (by decide))) (me_var rfl (.inl rfl) (by decide)))) (mss_one (ms_ret (me_var rfl (.inl rfl) (by decide)))))) mss_nil) (mss_cons (ms_set (sc_law_draw).nd rfl (.inl rfl) (me_mod (me_callTy call_int1 fnm_int rfl Z.z_int bt_int (ma_cons (me_add (me_add (me_mul (me_penG (f := .fold) (hu1 hr) rfl (me_var rfl (.inl rfl) (by decide))) me_int) (me_mul (me_penG (f := .count) (hu1 hr) rfl (me_var rfl (.inl rfl) (by decide))) me_int)) me_int) ma_nil)) me_int)) (mss_cons (ms_set (sc_law_draw).nd rfl (.inl rfl) (me_mod (me_callTy call_int1 fnm_int rfl Z.z_int bt_int (ma_cons (me_add (me_add (me_mul (me_var rfl (.inl rfl) (by decide)) (me_var rfl (.inl rfl) (by decide))) (me_mul me_int (me_var rfl (.inl rfl) (by decide)))) (me_penG (f := .count) (hu1 hr) rfl (me_var rfl (.inl rfl) (by decide)))) ma_nil)) me_int)) (mss_cons (ms_penS (f := .fold) (hu1 hr) rfl (me_var rfl (.inl rfl) (by decide)) (me_mod (me_callTy call_int1 fnm_int rfl Z.z_int bt_int (ma_cons (me_add (me_mul (me_var rfl (.inl rfl) (by decide)) me_int) me_int) ma_nil)) me_int)) (mss_one (ms_ret (me_mod (me_callTy call_int1 fnm_int rfl Z.z_int bt_int (ma_cons (me_fdiv (me_var rfl (.inl rfl) (by decide)) me_int) ma_nil)) (me_var rfl (.inl rfl) (by decide)))))))))))

def m_law_pick : List A → M A := defM 2 (retM (op2 ixA (vM 1) (callM 2 m_law_draw (consM (vM 0) (consM (onA lenA (consM (vM 1) nilM)) nilM)))))
theorem d_law_pick (Z : Fx P w K mg base) (hD : DF mg T D) : Def P w K mg base D 2 "_law_pick" 2 m_law_pick :=
  Def.of (own' := []) (k := 1) Z.f_law_pick sc_law_pick rfl (by decide) fun f cdv A outer s H E hr => (mss_one (ms_ret (me_ix (me_var rfl (.inl rfl) (by decide)) (me_call (d_law_draw Z hD) hr (by decide) px rfl (ma_cons (me_var rfl (.inl rfl) (by decide)) (ma_cons (me_callB call_lenX fnm_len rfl Z.z_len bt_len (ma_cons (me_var rfl (.inl rfl) (by decide)) ma_nil)) ma_nil))) (fun _ _ => rfl))))

def m_law_unlike : List A → M A := defM 4 (seqM (setM 1 (onA sortKTA (consM (vM 0) nilM))) (retM (lcM (itOn range1A (consM (onA lenA (consM (vM 1) nilM)) nilM)) (tgN 3) (orT (tstM (op2 eqA (vM 3) (cM (.int 0)))) (tstM (op2 neA (op2 ixA (vM 1) (vM 3)) (op2 ixA (vM 1) (op2 subA (vM 3) (cM (.int 1))))))) (op2 ixA (vM 1) (vM 3)) [2, 3])))
theorem d_law_unlike (Z : Fx P w K mg base) (hD : DF mg T D) : Def P w K mg base D 1 "_law_unlike" 1 m_law_unlike :=
  Def.of (own' := []) (k := 0) Z.f_law_unlike sc_law_unlike rfl (by decide) fun f cdv A outer s H E hr => (mss_cons (ms_set (sc_law_unlike).nd rfl (.inr rfl) (me_callB (cr_sortT (hu64 hr)) fnm_sortedKT rfl Z.z_sorted bt_sorted (ma_cons (me_var rfl (.inl rfl) (by decide)) ma_nil))) (mss_one (ms_ret (me_lc (is := [3]) (ow := [(".0", 2), ("at", 3)]) (by decide) rfl (sc_law_unlike).nd (mi_range1 rfl Z.z_range (ma_cons (me_callB call_lenX fnm_len rfl Z.z_len bt_len (ma_cons (me_var rfl (.inr (.inl rfl)) (by decide)) ma_nil)) ma_nil)) (blkOk_by (by rfl)) (fun _ _ _ _ _ => (mg_name (sc_law_unlike).nd rfl (.inl rfl))) (fun _ _ _ _ _ => (mts_one (MW.pt (mw_or (mt_eq (hu65 hr) (me_var rfl (.inl rfl) (by decide)) me_int) (mw_or1 (mt_ne (hu65 hr) (me_ix (me_var rfl (.inr (.inl rfl)) (by decide)) (me_var rfl (.inl rfl) (by decide)) (fun _ _ => rfl)) (me_ix (me_var rfl (.inr (.inl rfl)) (by decide)) (me_sub (me_var rfl (.inl rfl) (by decide)) me_int) (fun _ _ => rfl)))))))) (fun _ _ _ _ _ => (me_ix (me_var rfl (.inr (.inl rfl)) (by decide)) (me_var rfl (.inl rfl) (by decide)) (fun _ _ => rfl))) (fun _ => rfl)))))

def m_law_lots_of : List A → M A := defM 4 (retM (onA tupA (consM (lcM (itSeq (callM 1 m_law_unlike (consM (vM 0) nilM))) (tgN 2) yesM (onA tupA (consM (lcM (itOn range1A (consM (onA lenA (consM (vM 0) nilM)) nilM)) (tgN 3) (tstM (op2 eqA (op2 ixA (vM 0) (vM 3)) (vM 2))) (vM 3) [1, 3]) nilM)) [1, 2]) nilM)))
theorem d_law_lots_of (Z : Fx P w K mg base) (hD : DF mg T D) : Def P w K mg base D 2 "_law_lots_of" 1 m_law_lots_of :=
  Def.of (own' := []) (k := 1) Z.f_law_lots_of sc_law_lots_of rfl (by decide) fun f cdv A outer s H E hr => (mss_one (ms_ret (me_callTy call_tuple_of fnm_tuple rfl Z.z_tuple bt_tuple (ma_cons (me_lc (is := [2]) (ow := [(".0", 1), ("height", 2)]) (by decide) rfl (sc_law_lots_of).nd (mi_seq (me_call (d_law_unlike Z hD) hr (by decide) px rfl (ma_cons (me_var rfl (.inr (.inl rfl)) (by decide)) ma_nil))) (blkOk_by (by rfl)) (fun _ _ _ _ _ => (mg_name (sc_law_lots_of).nd rfl (.inr rfl))) (fun _ _ _ _ _ => mts_nil) (fun _ _ _ _ _ => (me_callTy call_tuple_of fnm_tuple rfl Z.z_tuple bt_tuple (ma_cons (me_lc (is := [3]) (ow := [(".0", 1), ("world", 3)]) (by decide) rfl (sc_law_lots_of).nd (mi_range1 rfl Z.z_range (ma_cons (me_callB call_lenX fnm_len rfl Z.z_len bt_len (ma_cons (me_var rfl (.inr (.inl rfl)) (by decide)) ma_nil)) ma_nil)) (blkOk_by (by rfl)) (fun _ _ _ _ _ => (mg_name (sc_law_lots_of).nd rfl (.inl rfl))) (fun _ _ _ _ _ => (mts_one (mt_eq (hu65 hr) (me_ix (me_var rfl (.inr (.inl rfl)) (by decide)) (me_var rfl (.inl rfl) (by decide)) (fun _ _ => rfl)) (me_var rfl (.inr (.inl rfl)) (by decide))))) (fun _ _ _ _ _ => (me_var rfl (.inl rfl) (by decide))) (fun _ => rfl)) ma_nil))) (fun _ => rfl)) ma_nil))))

def m_law_drawn_lots : List A → M A := defM 5 (seqM (setM 2 (callM 2 m_law_pick (consM (vM 0) (consM (onA mkLst (consM (cM (.int 1)) (consM (cM (.int 2)) (consM (cM (.int 3)) (consM (vM 1) (consM (vM 1) nilM)))))) nilM)))) (retM (callM 1 m_law_lots_of (consM (lcM (itOn range1A (consM (vM 1) nilM)) (tgN 4) yesM (callM 2 m_law_draw (consM (vM 0) (consM (vM 2) nilM))) [3, 4]) nilM))))
theorem d_law_drawn_lots (Z : Fx P w K mg base) (hD : DF mg T D) : Def P w K mg base D 3 "_law_drawn_lots" 2 m_law_drawn_lots :=
  Def.of (own' := []) (k := 2) Z.f_law_drawn_lots sc_law_drawn_lots rfl (by decide) fun f cdv A outer s H E hr => (mss_cons (ms_set (sc_law_drawn_lots).nd rfl (.inr rfl) (me_call (d_law_pick Z hD) hr (by decide) px rfl (ma_cons (me_var rfl (.inr (.inl rfl)) (by decide)) (ma_cons (me_lst (ma_cons me_int (ma_cons me_int (ma_cons me_int (ma_cons (me_var rfl (.inl rfl) (by decide)) (ma_cons (me_var rfl (.inl rfl) (by decide)) ma_nil)))))) ma_nil)))) (mss_one (ms_ret (me_call (d_law_lots_of Z hD) hr (by decide) px rfl (ma_cons (me_lc (is := [4]) (ow := [(".0", 3), ("world", 4)]) (by decide) rfl (sc_law_drawn_lots).nd (mi_range1 rfl Z.z_range (ma_cons (me_var rfl (.inl rfl) (by decide)) ma_nil)) (blkOk_by (by rfl)) (fun _ _ _ _ _ => (mg_name (sc_law_drawn_lots).nd rfl (.inl rfl))) (fun _ _ _ _ _ => mts_nil) (fun _ _ _ _ _ => (me_call (d_law_draw Z hD) hr (by decide) L2.passL rfl (ma_cons (me_var rfl (.inr (.inl rfl)) (by decide)) (ma_cons (me_var rfl (.inr (.inl rfl)) (by decide)) ma_nil)))) (fun _ => rfl)) ma_nil)))))

def m_is_whole : List A → M A := defM 1 (retM (andV (isi1 (.ty "int") (vM 0)) (notV (isi1 (.ty "bool") (vM 0)))))
theorem d_is_whole (Z : Fx P w K mg base) (hD : DF mg T D) : Def P w K mg base D 1 "is_whole" 1 m_is_whole :=
  Def.of (own' := []) (k := 0) Z.f_is_whole sc_is_whole rfl (by decide) fun f cdv A outer s H E hr => (mss_one (ms_ret (me_and (me_isi (clsF Z hD) rfl Z.z_isinstance (me_var rfl (.inl rfl) (by decide)) (carg_ty rfl Z.z_int bt_int (by decide))) (me_one (me_not (me_isi (clsF Z hD) rfl Z.z_isinstance (me_var rfl (.inl rfl) (by decide)) (carg_ty rfl Z.z_bool bt_bool (by decide))))))))

def m_is_index : List A → M A := defM 2 (retM (andV (callM 1 m_is_whole (consM (vM 0) nilM)) (chn leA ltA (cM (.int 0)) (vM 0) (vM 1))))
theorem d_is_index (Z : Fx P w K mg base) (hD : DF mg T D) : Def P w K mg base D 2 "is_index" 2 m_is_index :=
  Def.of (own' := []) (k := 1) Z.f_is_index sc_is_index rfl (by decide) fun f cdv A outer s H E hr => (mss_one (ms_ret (me_and (me_call (d_is_whole Z hD) hr (by decide) px rfl (ma_cons (me_var rfl (.inl rfl) (by decide)) ma_nil)) (me_one (me_chain op_le (op_ltI (hu65 hr)) op2_iib op2_lt me_int (me_var rfl (.inl rfl) (by decide)) (me_var rfl (.inl rfl) (by decide)) rfl)))))

def m_is_lot : List A → M A := defM 5 (seqM (iteM (orT (notT (truM (isi1 (.ty "tuple") (vM 1)))) (notT (truM (onA allA (consM (lcM (itSeq (vM 1)) (tgN 3) yesM (callM 2 m_is_index (consM (vM 3) (consM (vM 0) nilM))) [2, 3]) nilM))))) (retM (cM (.bl false))) nxM) (retM (onA allA (consM (lcM (itOn range1A (consM (op2 subA (onA lenA (consM (vM 1) nilM)) (cM (.int 1))) nilM)) (tgN 4) yesM (op2 ltA (op2 ixA (vM 1) (vM 4)) (op2 ixA (vM 1) (op2 addA (vM 4) (cM (.int 1))))) [2, 4]) nilM))))
theorem d_is_lot (Z : Fx P w K mg base) (hD : DF mg T D) : Def P w K mg base D 3 "is_lot" 2 m_is_lot :=
  Def.of (own' := []) (k := 2) Z.f_is_lot sc_is_lot rfl (by decide) fun f cdv A outer s H E hr => (mss_cons (ms_if (MW.pt (mw_or (mt_not (mt_val (me_isi (clsF Z hD) rfl Z.z_isinstance (me_var rfl (.inr (.inl rfl)) (by decide)) (carg_ty rfl Z.z_tuple bt_tuple (by decide))) (fun _ => rfl))) (mw_or1 (mt_not (mt_val (me_callB (cr_allD rfl) fnm_all rfl Z.z_all bt_all (ma_cons (me_lc (is := [3]) (ow := [(".0", 2), ("one", 3)]) (by decide) rfl (sc_is_lot).nd (mi_seq (me_var rfl (.inr (.inl rfl)) (by decide))) (blkOk_by (by rfl)) (fun _ _ _ _ _ => (mg_name (sc_is_lot).nd rfl (.inl rfl))) (fun _ _ _ _ _ => mts_nil) (fun _ _ _ _ _ => (me_call (d_is_index Z hD) hr (by decide) L2.passL rfl (ma_cons (me_var rfl (.inl rfl) (by decide)) (ma_cons (me_var rfl (.inr (.inl rfl)) (by decide)) ma_nil)))) (fun _ => rfl)) ma_nil)) (fun _ => rfl)))))) (mss_one (ms_ret me_bl)) mss_nil) (mss_one (ms_ret (me_callB (cr_allD rfl) fnm_all rfl Z.z_all bt_all (ma_cons (me_lc (is := [4]) (ow := [(".0", 2), ("at", 4)]) (by decide) rfl (sc_is_lot).nd (mi_range1 rfl Z.z_range (ma_cons (me_sub (me_callB call_lenX fnm_len rfl Z.z_len bt_len (ma_cons (me_var rfl (.inr (.inl rfl)) (by decide)) ma_nil)) me_int) ma_nil)) (blkOk_by (by rfl)) (fun _ _ _ _ _ => (mg_name (sc_is_lot).nd rfl (.inl rfl))) (fun _ _ _ _ _ => mts_nil) (fun _ _ _ _ _ => (me_lt (hu65 hr) (me_ix (me_var rfl (.inr (.inl rfl)) (by decide)) (me_var rfl (.inl rfl) (by decide)) (fun _ _ => rfl)) (me_ix (me_var rfl (.inr (.inl rfl)) (by decide)) (me_add (me_var rfl (.inl rfl) (by decide)) me_int) (fun _ _ => rfl)))) (fun _ => rfl)) ma_nil)))))

def m_are_levels : List A → M A := defM 4 (seqM (iteM (orT (notT (truM (isi1 (.ty "tuple") (vM 0)))) (notT (truM (onA allA (consM (lcM (itSeq (vM 0)) (tgN 1) yesM (andV (callM 2 m_is_lot (consM (cM (.int 8)) (consM (vM 1) nilM))) (vM 1)) [3, 1]) nilM))))) (retM (cM (.bl false))) nxM) (seqM (setM 2 (onA mkLst nilM)) (seqM (forS (itSeq (vM 0)) (tgN 1) (seqM (ext2M 2 (vM 1)) nxM)) (retM (andV (chn leA leA (cM (.int 1)) (onA lenA (consM (vM 2) nilM)) (cM (.int 8))) (op2 eqA (onA sortKTA (consM (vM 2) nilM)) (lstRg (rg1M (onA lenA (consM (vM 2) nilM))))))))))
theorem d_are_levels (Z : Fx P w K mg base) (hD : DF mg T D) : Def P w K mg base D 4 "are_levels" 1 m_are_levels :=
  Def.of (own' := [2]) (k := 3) Z.f_are_levels sc_are_levels rfl (by decide) fun f cdv A outer s H E hr => (mss_cons (ms_if (MW.pt (mw_or (mt_not (mt_val (me_isi (clsF Z hD) rfl Z.z_isinstance (me_var rfl (.inl rfl) (by decide)) (carg_ty rfl Z.z_tuple bt_tuple (by decide))) (fun _ => rfl))) (mw_or1 (mt_not (mt_val (me_callB (cr_allD rfl) fnm_all rfl Z.z_all bt_all (ma_cons (me_lc (is := [1]) (ow := [(".0", 3), ("lot", 1)]) (by decide) rfl (sc_are_levels).nd (mi_seq (me_var rfl (.inl rfl) (by decide))) (blkOk_by (by rfl)) (fun _ _ _ _ _ => (mg_name (sc_are_levels).nd rfl (.inl rfl))) (fun _ _ _ _ _ => mts_nil) (fun _ _ _ _ _ => (me_and (me_call (d_is_lot Z hD) hr (by decide) L2.passL rfl (ma_cons (me_gint rfl Z.c_MOST_WORLDS) (ma_cons (me_var rfl (.inl rfl) (by decide)) ma_nil))) (me_one (me_var rfl (.inl rfl) (by decide))))) (fun _ => rfl)) ma_nil)) (fun _ => rfl)))))) (mss_one (ms_ret me_bl)) mss_nil) (mss_cons (ms_setF (sc_are_levels).nd rfl (.inl rfl) (mf_lst ma_nil)) (mss_cons (ms_for pown rfl (mi_seq (me_var rfl (.inl rfl) (by decide))) (mg_name (sc_are_levels).nd rfl (.inl rfl)) (mss_cons (ms_extend2 rfl (.inl rfl) (by decide) (me_var rfl (.inl rfl) (by decide))) mss_nil)) (mss_one (ms_pre [2] (ms_ret (me_and (me_chain op_le op_le op2_iib op2_iib me_int (me_callB call_lenX fnm_len rfl Z.z_len bt_len (ma_cons (me_var rfl (.inl rfl) (by decide)) ma_nil)) (me_gint rfl Z.c_MOST_WORLDS) rfl) (me_one (me_eq (hu65 hr) (me_callB (cr_sortT (hu64 hr)) fnm_sortedKT rfl Z.z_sorted bt_sorted (ma_cons (me_var rfl (.inl rfl) (by decide)) ma_nil)) (me_lstRg rfl rfl Z.z_list (mr_1 rfl Z.z_range (me_callB call_lenX fnm_len rfl Z.z_len bt_len (ma_cons (me_var rfl (.inl rfl) (by decide)) ma_nil)))))))))))))

def m_Levels_init : List A → M (List A) := initM 3 (preI (setM 2 (iteM (truM (isi1 (.ty "list") (vM 1))) (onA tupA (consM (vM 1) nilM)) (vM 1))) (preI (iteM (notT (truM (callM 1 m_are_levels (consM (vM 2) nilM)))) (raiseM 3 2 (consM (cM (.str "lots")) (consM (vM 1) nilM))) nxM) (setI (vM 2) endI)))
theorem d_Levels_init (Z : Fx P w K mg base) (hD : DF mg T D) : DefI P w K mg base D 5 "Levels" 20 1 m_Levels_init := by
  obtain ⟨C, I⟩ := Z.i_Levels
  obtain ⟨fI, fd, M, F, hb⟩ := I.ini
  refine mk_init (k := 4) F I.m (by rw [hD.cls]; show refO (mg "Levels") = some C; rw [I.m]; rfl) M sc_Levels_init hb rfl fun a cdv A outer s H E hr => ?_
  have hD := dfMe (a := a) hD
  exact (mib_pre (ownB := []) (ms_set (sc_Levels_init).nd rfl (.inl rfl) (me_if (mt_val (me_isi (clsF Z hD) rfl Z.z_isinstance (me_var rfl (.inl rfl) (by decide)) (carg_ty rfl Z.z_list bt_list (by decide))) (fun _ => rfl)) (me_callTy call_tuple_of fnm_tuple rfl Z.z_tuple bt_tuple (ma_cons (me_var rfl (.inl rfl) (by decide)) ma_nil)) (me_var rfl (.inl rfl) (by decide)))) (mib_pre (ownB := []) (ms_if (mt_not (mt_val (me_call (d_are_levels Z hD) hr (by decide) px rfl (ma_cons (me_var rfl (.inl rfl) (by decide)) ma_nil)) (fun _ => rfl))) (mss_one (ms_raise (Z.x_BadRow hD) rfl tk_cx hr (by decide) (by rw [hD.flds]; rfl) rfl (ma_cons me_str (ma_cons (me_var rfl (.inl rfl) (by decide)) ma_nil)))) mss_nil) (mib_set (c := 20) (clsF Z hD) rfl (by decide) (fl := ["lots"]) (by rw [hD.flds]; rfl) rfl (by decide) (by decide) rfl (.inl rfl) (me_var rfl (.inl rfl) (by decide)) (mib_nil (by rw [hD.flds]; rfl)))))

def m_law_made : List A → M A := defM 1 (retM (newM 20 1 m_Levels_init (consM (vM 0) nilM)))
theorem d_law_made (Z : Fx P w K mg base) (hD : DF mg T D) : Def P w K mg base D 7 "_law_made" 1 m_law_made :=
  Def.of (own' := []) (k := 6) Z.f_law_made sc_law_made rfl (by decide) fun f cdv A outer s H E hr => (mss_one (ms_ret (me_new (d_Levels_init Z hD) hr (by decide) px rfl (ma_cons (me_var rfl (.inl rfl) (by decide)) ma_nil))))

def m_law_heights : List A → M A := defM 6 (seqM (setM 1 (op2 repA (onA mkLst (consM (cM (.int 0)) nilM)) (onA sumA (consM (lcM (itSeq (vM 0)) (tgN 5) yesM (onA lenA (consM (vM 5) nilM)) [4, 5]) nilM)))) (seqM (forS (itOn range1A (consM (onA lenA (consM (vM 0) nilM)) nilM)) (tgN 2) (seqM (forS (itSeq (op2 ixA (vM 0) (vM 2))) (tgN 3) (seqM (setIM 1 (vM 3) (vM 2)) nxM)) nxM)) (retM (vM 1))))
theorem d_law_heights (Z : Fx P w K mg base) (hD : DF mg T D) : Def P w K mg base D 1 "_law_heights" 1 m_law_heights :=
  Def.of (own' := [1]) (k := 0) Z.f_law_heights sc_law_heights rfl (by decide) fun f cdv A outer s H E hr => (mss_cons (ms_setF (sc_law_heights).nd rfl (.inl rfl) (mf_mul (me_lst (ma_cons me_int ma_nil)) (me_callB (cr_sum rfl) fnm_sum rfl Z.z_sum bt_sum (ma_cons (me_lc (is := [5]) (ow := [(".0", 4), ("lot", 5)]) (by decide) rfl (sc_law_heights).nd (mi_seq (me_var rfl (.inl rfl) (by decide))) (blkOk_by (by rfl)) (fun _ _ _ _ _ => (mg_name (sc_law_heights).nd rfl (.inl rfl))) (fun _ _ _ _ _ => mts_nil) (fun _ _ _ _ _ => (me_callB call_lenX fnm_len rfl Z.z_len bt_len (ma_cons (me_var rfl (.inl rfl) (by decide)) ma_nil))) (fun _ => rfl)) ma_nil)))) (mss_cons (ms_for pown rfl (mi_range1 rfl Z.z_range (ma_cons (me_callB call_lenX fnm_len rfl Z.z_len bt_len (ma_cons (me_var rfl (.inl rfl) (by decide)) ma_nil)) ma_nil)) (mg_name (sc_law_heights).nd rfl (.inl rfl)) (mss_cons (ms_for pown rfl (mi_seq (me_ix (me_var rfl (.inl rfl) (by decide)) (me_var rfl (.inl rfl) (by decide)) (fun _ _ => rfl))) (mg_name (sc_law_heights).nd rfl (.inl rfl)) (mss_cons (ms_setI rfl (.inl rfl) (by decide) (me_var rfl (.inl rfl) (by decide)) (me_var rfl (.inl rfl) (by decide))) mss_nil)) mss_nil)) (mss_one (ms_pre [1] (ms_ret (me_var rfl (.inl rfl) (by decide)))))))

def m_law_is : Nat → List A → M A
  | 0 => fun _ => no
  | n + 1 => defM 4 (seqM (iteM (truM (isi1 (.ty "tuple") (vM 1))) (seqM (iteM (orT (notT (truM (isi1 (.ty "tuple") (vM 0)))) (tstM (op2 neA (onA lenA (consM (vM 0) nilM)) (onA lenA (consM (vM 1) nilM))))) (retM (cM (.bl false))) nxM) (retM (op2 eqA (lcM (itOn range1A (consM (onA lenA (consM (vM 1) nilM)) nilM)) (tgN 3) (notT (truM (callM 2 (m_law_is n) (consM (op2 ixA (vM 0) (vM 3)) (consM (op2 ixA (vM 1) (vM 3)) nilM))))) (vM 3) [2, 3]) (onA mkLst nilM)))) nxM) (seqM (iteM (tstM (op2 isA (vM 1) (cM .non))) (retM (op2 isA (vM 0) (cM .non))) nxM) (seqM (iteM (tstM (op2 isA (vM 1) (cM (.bl true)))) (retM (op2 isA (vM 0) (cM (.bl true)))) nxM) (seqM (iteM (tstM (op2 isA (vM 1) (cM (.bl false)))) (retM (op2 isA (vM 0) (cM (.bl false)))) nxM) (seqM (iteM (truM (isi1 (.ty "str") (vM 1))) (retM (andV (isi1 (.ty "str") (vM 0)) (op2 eqA (vM 0) (vM 1)))) nxM) (retM (andV (isi1 (.ty "int") (vM 0)) (andV (notV (isi1 (.ty "bool") (vM 0))) (op2 eqA (vM 0) (vM 1))))))))))
theorem d_law_is (Z : Fx P w K mg base) (hD : DF mg T D) : ∀ n, Def P w K mg base D (0 + n) "_law_is" 2 (m_law_is n)
  | 0 => Def.nil Z.f_law_is rfl
  | n + 1 => by
    have ih := d_law_is Z hD n
    refine Def.of (own' := []) (k := 0 + n) Z.f_law_is sc_law_is rfl (by decide) fun f cdv A outer s H E hr => ?_
    exact (mss_cons (ms_if (mt_val (me_isi (clsF Z hD) rfl Z.z_isinstance (me_var rfl (.inr (.inl rfl)) (by decide)) (carg_ty rfl Z.z_tuple bt_tuple (by decide))) (fun _ => rfl)) (mss_cons (ms_if (MW.pt (mw_or (mt_not (mt_val (me_isi (clsF Z hD) rfl Z.z_isinstance (me_var rfl (.inr (.inl rfl)) (by decide)) (carg_ty rfl Z.z_tuple bt_tuple (by decide))) (fun _ => rfl))) (mw_or1 (mt_ne (hu65 hr) (me_callB call_lenX fnm_len rfl Z.z_len bt_len (ma_cons (me_var rfl (.inr (.inl rfl)) (by decide)) ma_nil)) (me_callB call_lenX fnm_len rfl Z.z_len bt_len (ma_cons (me_var rfl (.inr (.inl rfl)) (by decide)) ma_nil)))))) (mss_one (ms_ret me_bl)) mss_nil) (mss_one (ms_ret (me_eq (hu65 hr) (me_lc (is := [3]) (ow := [(".0", 2), ("at", 3)]) (by decide) rfl (sc_law_is).nd (mi_range1 rfl Z.z_range (ma_cons (me_callB call_lenX fnm_len rfl Z.z_len bt_len (ma_cons (me_var rfl (.inr (.inl rfl)) (by decide)) ma_nil)) ma_nil)) (blkOk_by (by rfl)) (fun _ _ _ _ _ => (mg_name (sc_law_is).nd rfl (.inl rfl))) (fun _ _ _ _ _ => (mts_one (mt_not (mt_val (me_call ih hr (by omega) L2.passL rfl (ma_cons (me_ix (me_var rfl (.inr (.inl rfl)) (by decide)) (me_var rfl (.inl rfl) (by decide)) (fun _ _ => rfl)) (ma_cons (me_ix (me_var rfl (.inr (.inl rfl)) (by decide)) (me_var rfl (.inl rfl) (by decide)) (fun _ _ => rfl)) ma_nil))) (fun _ => rfl))))) (fun _ _ _ _ _ => (me_var rfl (.inl rfl) (by decide))) (fun _ => rfl)) (me_lst ma_nil))))) mss_nil) (mss_cons (ms_if (mt_is (me_var rfl (.inr (.inl rfl)) (by decide)) me_non) (mss_one (ms_ret (me_is (me_var rfl (.inr (.inl rfl)) (by decide)) me_non))) mss_nil) (mss_cons (ms_if (mt_is (me_var rfl (.inr (.inl rfl)) (by decide)) me_bl) (mss_one (ms_ret (me_is (me_var rfl (.inr (.inl rfl)) (by decide)) me_bl))) mss_nil) (mss_cons (ms_if (mt_is (me_var rfl (.inr (.inl rfl)) (by decide)) me_bl) (mss_one (ms_ret (me_is (me_var rfl (.inr (.inl rfl)) (by decide)) me_bl))) mss_nil) (mss_cons (ms_if (mt_val (me_isi (clsF Z hD) rfl Z.z_isinstance (me_var rfl (.inr (.inl rfl)) (by decide)) (carg_ty rfl Z.z_str bt_str (by decide))) (fun _ => rfl)) (mss_one (ms_ret (me_and (me_isi (clsF Z hD) rfl Z.z_isinstance (me_var rfl (.inr (.inl rfl)) (by decide)) (carg_ty rfl Z.z_str bt_str (by decide))) (me_one (me_eq (hu65 hr) (me_var rfl (.inr (.inl rfl)) (by decide)) (me_var rfl (.inr (.inl rfl)) (by decide))))))) mss_nil) (mss_one (ms_ret (me_and (me_isi (clsF Z hD) rfl Z.z_isinstance (me_var rfl (.inr (.inl rfl)) (by decide)) (carg_ty rfl Z.z_int bt_int (by decide))) (me_and (me_not (me_isi (clsF Z hD) rfl Z.z_isinstance (me_var rfl (.inr (.inl rfl)) (by decide)) (carg_ty rfl Z.z_bool bt_bool (by decide)))) (me_one (me_eq (hu65 hr) (me_var rfl (.inr (.inl rfl)) (by decide)) (me_var rfl (.inr (.inl rfl)) (by decide)))))))))))))

def m_need_levels : List A → M A := defM 2 (seqM (iteM (notT (truM (isi1 (.own 20) (vM 1)))) (raiseM 3 2 (consM (vM 0) (consM (vM 1) nilM))) nxM) (retM (vM 1)))
theorem d_need_levels (Z : Fx P w K mg base) (hD : DF mg T D) : Def P w K mg base D 3 "need_levels" 2 m_need_levels :=
  Def.of (own' := []) (k := 2) Z.f_need_levels sc_need_levels rfl (by decide) fun f cdv A outer s H E hr => (mss_cons (ms_if (mt_not (mt_val (me_isi (clsF Z hD) rfl Z.z_isinstance (me_var rfl (.inl rfl) (by decide)) (carg_own' rfl (Z.cl_Levels hD) (by decide))) (fun _ => rfl))) (mss_one (ms_raise (Z.x_BadRow hD) rfl tk_cx hr (by decide) (by rw [hD.flds]; rfl) rfl (ma_cons (me_var rfl (.inl rfl) (by decide)) (ma_cons (me_var rfl (.inl rfl) (by decide)) ma_nil)))) mss_nil) (mss_one (ms_ret (me_var rfl (.inl rfl) (by decide)))))

def m_many_of : List A → M A := defM 3 (retM (onA sumA (consM (lcM (itSeq (attM fldsT "lots" (vM 0))) (tgN 2) yesM (onA lenA (consM (vM 2) nilM)) [1, 2]) nilM)))
theorem d_many_of (Z : Fx P w K mg base) (hD : DF mg T D) : Def P w K mg base D 1 "many_of" 1 m_many_of :=
  Def.of (own' := []) (k := 0) Z.f_many_of sc_many_of rfl (by decide) fun f cdv A outer s H E hr => (mss_one (ms_ret (me_callB (cr_sum rfl) fnm_sum rfl Z.z_sum bt_sum (ma_cons (me_lc (is := [2]) (ow := [(".0", 1), ("lot", 2)]) (by decide) rfl (sc_many_of).nd (mi_seq (me_att (clsF Z hD) hD.flds (me_var rfl (.inl rfl) (by decide)))) (blkOk_by (by rfl)) (fun _ _ _ _ _ => (mg_name (sc_many_of).nd rfl (.inl rfl))) (fun _ _ _ _ _ => mts_nil) (fun _ _ _ _ _ => (me_callB call_lenX fnm_len rfl Z.z_len bt_len (ma_cons (me_var rfl (.inl rfl) (by decide)) ma_nil))) (fun _ => rfl)) ma_nil))))

def m_need_world : List A → M A := defM 3 (seqM (iteM (notT (truM (callM 2 m_is_index (consM (vM 2) (consM (callM 1 m_many_of (consM (vM 0) nilM)) nilM))))) (raiseM 2 2 (consM (vM 1) (consM (vM 2) nilM))) nxM) nxM)
theorem d_need_world (Z : Fx P w K mg base) (hD : DF mg T D) : Def P w K mg base D 3 "need_world" 3 m_need_world :=
  Def.of (own' := []) (k := 2) Z.f_need_world sc_need_world rfl (by decide) fun f cdv A outer s H E hr => (mss_cons (ms_if (mt_not (mt_val (me_call (d_is_index Z hD) hr (by decide) px rfl (ma_cons (me_var rfl (.inl rfl) (by decide)) (ma_cons (me_call (d_many_of Z hD) hr (by decide) px rfl (ma_cons (me_var rfl (.inl rfl) (by decide)) ma_nil)) ma_nil))) (fun _ => rfl))) (mss_one (ms_raise (Z.x_BadNumber hD) rfl tk_cx hr (by decide) (by rw [hD.flds]; rfl) rfl (ma_cons (me_var rfl (.inl rfl) (by decide)) (ma_cons (me_var rfl (.inl rfl) (by decide)) ma_nil)))) mss_nil) mss_nil)

def m_heights_by : List A → M A := defM 5 (seqM (setM 1 (op2 repA (onA mkLst (consM (cM (.int 0)) nilM)) (callM 1 m_many_of (consM (vM 0) nilM)))) (seqM (forS (itOn enumTA (consM (attM fldsT "lots" (vM 0)) nilM)) (tgT 2 (tgCons (tgN 2) (tgCons (tgN 3) tgNil))) (seqM (forS (itSeq (vM 3)) (tgN 4) (seqM (setIM 1 (vM 4) (vM 2)) nxM)) nxM)) (retM (vM 1))))
theorem d_heights_by (Z : Fx P w K mg base) (hD : DF mg T D) : Def P w K mg base D 2 "heights_by" 1 m_heights_by :=
  Def.of (own' := [1]) (k := 1) Z.f_heights_by sc_heights_by rfl (by decide) fun f cdv A outer s H E hr => (mss_cons (ms_setF (sc_heights_by).nd rfl (.inl rfl) (mf_mul (me_lst (ma_cons me_int ma_nil)) (me_call (d_many_of Z hD) hr (by decide) px rfl (ma_cons (me_var rfl (.inl rfl) (by decide)) ma_nil)))) (mss_cons (ms_for pown rfl (mi_enumT rfl Z.z_enumerate (ma_cons (me_att (clsF Z hD) hD.flds (me_var rfl (.inl rfl) (by decide))) ma_nil)) (mg_tup rfl (mgs_cons (mg_name (sc_heights_by).nd rfl (.inl rfl)) (mgs_cons (mg_name (sc_heights_by).nd rfl (.inl rfl)) mgs_nil))) (mss_cons (ms_for pown rfl (mi_seq (me_var rfl (.inl rfl) (by decide))) (mg_name (sc_heights_by).nd rfl (.inl rfl)) (mss_cons (ms_setI rfl (.inl rfl) (by decide) (me_var rfl (.inl rfl) (by decide)) (me_var rfl (.inl rfl) (by decide))) mss_nil)) mss_nil)) (mss_one (ms_pre [1] (ms_ret (me_var rfl (.inl rfl) (by decide)))))))

def m_level_of : List A → M A := defM 2 (seqM (dropM (callM 2 m_need_levels (consM (cM (.str "levels")) (consM (vM 0) nilM)))) (seqM (dropM (callM 3 m_need_world (consM (vM 0) (consM (cM (.str "world")) (consM (vM 1) nilM))))) (retM (op2 ixA (callM 1 m_heights_by (consM (vM 0) nilM)) (vM 1)))))
theorem d_level_of (Z : Fx P w K mg base) (hD : DF mg T D) : Def P w K mg base D 4 "level_of" 2 m_level_of :=
  Def.of (own' := []) (k := 3) Z.f_level_of sc_level_of rfl (by decide) fun f cdv A outer s H E hr => (mss_cons (ms_expr (me_call (d_need_levels Z hD) hr (by decide) px rfl (ma_cons me_str (ma_cons (me_var rfl (.inl rfl) (by decide)) ma_nil)))) (mss_cons (ms_expr (me_call (d_need_world Z hD) hr (by decide) px rfl (ma_cons (me_var rfl (.inl rfl) (by decide)) (ma_cons me_str (ma_cons (me_var rfl (.inl rfl) (by decide)) ma_nil))))) (mss_one (ms_ret (me_ix (me_call (d_heights_by Z hD) hr (by decide) px rfl (ma_cons (me_var rfl (.inl rfl) (by decide)) ma_nil)) (me_var rfl (.inl rfl) (by decide)) (fun _ _ => rfl))))))

def m_law_pairs : List A → M A := defM 5 (seqM (setM 1 (onA mkLst nilM)) (seqM (forS (itOn range1A (consM (vM 0) nilM)) (tgN 2) (seqM (ext2M 1 (lcM (itOn range2A (consM (op2 addA (vM 2) (cM (.int 1))) (consM (vM 0) nilM))) (tgN 4) yesM (onA mkTup (consM (vM 2) (consM (vM 4) nilM))) [3, 4])) nxM)) (retM (vM 1))))
theorem d_law_pairs (Z : Fx P w K mg base) (hD : DF mg T D) : Def P w K mg base D 1 "_law_pairs" 1 m_law_pairs :=
  Def.of (own' := [1]) (k := 0) Z.f_law_pairs sc_law_pairs rfl (by decide) fun f cdv A outer s H E hr => (mss_cons (ms_setF (sc_law_pairs).nd rfl (.inl rfl) (mf_lst ma_nil)) (mss_cons (ms_for pown rfl (mi_range1 rfl Z.z_range (ma_cons (me_var rfl (.inl rfl) (by decide)) ma_nil)) (mg_name (sc_law_pairs).nd rfl (.inr rfl)) (mss_cons (ms_extend2 rfl (.inl rfl) (by decide) (me_lc (is := [4]) (ow := [(".0", 3), ("second", 4)]) (by decide) rfl (sc_law_pairs).nd (mi_range2 rfl Z.z_range (ma_cons (me_add (me_var rfl (.inr (.inl rfl)) (by decide)) me_int) (ma_cons (me_var rfl (.inl rfl) (by decide)) ma_nil))) (blkOk_by (by rfl)) (fun _ _ _ _ _ => (mg_name (sc_law_pairs).nd rfl (.inl rfl))) (fun _ _ _ _ _ => mts_nil) (fun _ _ _ _ _ => (me_tup (ma_cons (me_var rfl (.inr (.inl rfl)) (by decide)) (ma_cons (me_var rfl (.inl rfl) (by decide)) ma_nil)))) (fun _ => rfl))) mss_nil)) (mss_one (ms_pre [1] (ms_ret (me_var rfl (.inl rfl) (by decide)))))))

def m_is_ahead : List A → M A := defM 4 (seqM (dropM (callM 2 m_need_levels (consM (cM (.str "levels")) (consM (vM 0) nilM)))) (seqM (dropM (callM 3 m_need_world (consM (vM 0) (consM (cM (.str "world")) (consM (vM 1) nilM))))) (seqM (dropM (callM 3 m_need_world (consM (vM 0) (consM (cM (.str "other")) (consM (vM 2) nilM))))) (seqM (setM 3 (callM 1 m_heights_by (consM (vM 0) nilM))) (retM (op2 ltA (op2 ixA (vM 3) (vM 1)) (op2 ixA (vM 3) (vM 2))))))))
theorem d_is_ahead (Z : Fx P w K mg base) (hD : DF mg T D) : Def P w K mg base D 4 "is_ahead" 3 m_is_ahead :=
  Def.of (own' := []) (k := 3) Z.f_is_ahead sc_is_ahead rfl (by decide) fun f cdv A outer s H E hr => (mss_cons (ms_expr (me_call (d_need_levels Z hD) hr (by decide) px rfl (ma_cons me_str (ma_cons (me_var rfl (.inl rfl) (by decide)) ma_nil)))) (mss_cons (ms_expr (me_call (d_need_world Z hD) hr (by decide) px rfl (ma_cons (me_var rfl (.inl rfl) (by decide)) (ma_cons me_str (ma_cons (me_var rfl (.inl rfl) (by decide)) ma_nil))))) (mss_cons (ms_expr (me_call (d_need_world Z hD) hr (by decide) px rfl (ma_cons (me_var rfl (.inl rfl) (by decide)) (ma_cons me_str (ma_cons (me_var rfl (.inl rfl) (by decide)) ma_nil))))) (mss_cons (ms_set (sc_is_ahead).nd rfl (.inl rfl) (me_call (d_heights_by Z hD) hr (by decide) px rfl (ma_cons (me_var rfl (.inl rfl) (by decide)) ma_nil))) (mss_one (ms_ret (me_lt (hu65 hr) (me_ix (me_var rfl (.inl rfl) (by decide)) (me_var rfl (.inl rfl) (by decide)) (fun _ _ => rfl)) (me_ix (me_var rfl (.inl rfl) (by decide)) (me_var rfl (.inl rfl) (by decide)) (fun _ _ => rfl)))))))))

def m_law_drawn_saying : List A → M A := defM 4 (retM (onA tupA (consM (lcM (itOn range1A (consM (vM 1) nilM)) (tgN 3) (tstM (op2 eqA (callM 2 m_law_draw (consM (vM 0) (consM (cM (.int 2)) nilM))) (cM (.int 0)))) (vM 3) [2, 3]) nilM)))
theorem d_law_drawn_saying (Z : Fx P w K mg base) (hD : DF mg T D) : Def P w K mg base D 2 "_law_drawn_saying" 2 m_law_drawn_saying :=
  Def.of (own' := []) (k := 1) Z.f_law_drawn_saying sc_law_drawn_saying rfl (by decide) fun f cdv A outer s H E hr => (mss_one (ms_ret (me_callTy call_tuple_of fnm_tuple rfl Z.z_tuple bt_tuple (ma_cons (me_lc (is := [3]) (ow := [(".0", 2), ("world", 3)]) (by decide) rfl (sc_law_drawn_saying).nd (mi_range1 rfl Z.z_range (ma_cons (me_var rfl (.inl rfl) (by decide)) ma_nil)) (blkOk_by (by rfl)) (fun _ _ _ _ _ => (mg_name (sc_law_drawn_saying).nd rfl (.inl rfl))) (fun _ _ _ _ _ => (mts_one (mt_eq (hu65 hr) (me_call (d_law_draw Z hD) hr (by decide) L2.passL rfl (ma_cons (me_var rfl (.inr (.inl rfl)) (by decide)) (ma_cons me_int ma_nil))) me_int))) (fun _ _ _ _ _ => (me_var rfl (.inl rfl) (by decide))) (fun _ => rfl)) ma_nil))))

def m_law_first : List A → M A := defM 6 (seqM (forS (itSeq (vM 0)) (tgN 2) (seqM (setM 3 (onA tupA (consM (lcM (itSeq (vM 2)) (tgN 5) (tstM (op2 inA (vM 5) (vM 1))) (vM 5) [4, 5]) nilM))) (seqM (iteM (tstM (op2 neA (vM 3) (onA mkTup nilM))) (retM (vM 3)) nxM) nxM))) (retM (onA mkTup nilM)))
theorem d_law_first (Z : Fx P w K mg base) (hD : DF mg T D) : Def P w K mg base D 1 "_law_first" 2 m_law_first :=
  Def.of (own' := []) (k := 0) Z.f_law_first sc_law_first rfl (by decide) fun f cdv A outer s H E hr => (mss_cons (ms_for pown rfl (mi_seq (me_var rfl (.inl rfl) (by decide))) (mg_name (sc_law_first).nd rfl (.inl rfl)) (mss_cons (ms_set (sc_law_first).nd rfl (.inl rfl) (me_callTy call_tuple_of fnm_tuple rfl Z.z_tuple bt_tuple (ma_cons (me_lc (is := [5]) (ow := [(".0", 4), ("world", 5)]) (by decide) rfl (sc_law_first).nd (mi_seq (me_var rfl (.inl rfl) (by decide))) (blkOk_by (by rfl)) (fun _ _ _ _ _ => (mg_name (sc_law_first).nd rfl (.inl rfl))) (fun _ _ _ _ _ => (mts_one (mt_in (hu65 hr) (me_var rfl (.inl rfl) (by decide)) (me_var rfl (.inr (.inl rfl)) (by decide)) rfl))) (fun _ _ _ _ _ => (me_var rfl (.inl rfl) (by decide))) (fun _ => rfl)) ma_nil))) (mss_cons (ms_if (mt_ne (hu65 hr) (me_var rfl (.inl rfl) (by decide)) (me_tup ma_nil)) (mss_one (ms_ret (me_var rfl (.inl rfl) (by decide)))) mss_nil) mss_nil))) (mss_one (ms_ret (me_tup ma_nil))))

def m_first_by : List A → M A := defM 6 (seqM (forS (itSeq (attM fldsT "lots" (vM 0))) (tgN 2) (seqM (setM 3 (onA tupA (consM (lcM (itSeq (vM 2)) (tgN 5) (tstM (op2 inA (vM 5) (vM 1))) (vM 5) [4, 5]) nilM))) (seqM (iteM (truM (vM 3)) (retM (vM 3)) nxM) nxM))) (retM (onA mkTup nilM)))
theorem d_first_by (Z : Fx P w K mg base) (hD : DF mg T D) : Def P w K mg base D 1 "first_by" 2 m_first_by :=
  Def.of (own' := []) (k := 0) Z.f_first_by sc_first_by rfl (by decide) fun f cdv A outer s H E hr => (mss_cons (ms_for pown rfl (mi_seq (me_att (clsF Z hD) hD.flds (me_var rfl (.inl rfl) (by decide)))) (mg_name (sc_first_by).nd rfl (.inl rfl)) (mss_cons (ms_set (sc_first_by).nd rfl (.inl rfl) (me_callTy call_tuple_of fnm_tuple rfl Z.z_tuple bt_tuple (ma_cons (me_lc (is := [5]) (ow := [(".0", 4), ("world", 5)]) (by decide) rfl (sc_first_by).nd (mi_seq (me_var rfl (.inl rfl) (by decide))) (blkOk_by (by rfl)) (fun _ _ _ _ _ => (mg_name (sc_first_by).nd rfl (.inl rfl))) (fun _ _ _ _ _ => (mts_one (mt_in (hu65 hr) (me_var rfl (.inl rfl) (by decide)) (me_var rfl (.inr (.inl rfl)) (by decide)) rfl))) (fun _ _ _ _ _ => (me_var rfl (.inl rfl) (by decide))) (fun _ => rfl)) ma_nil))) (mss_cons (ms_if (mt_val (me_var rfl (.inl rfl) (by decide)) (fun _ => rfl)) (mss_one (ms_ret (me_var rfl (.inl rfl) (by decide)))) mss_nil) mss_nil))) (mss_one (ms_ret (me_tup ma_nil))))

def m_need_saying : List A → M A := defM 4 (seqM (setM 3 (iteM (truM (isi1 (.ty "list") (vM 2))) (onA tupA (consM (vM 2) nilM)) (vM 2))) (seqM (iteM (notT (truM (callM 2 m_is_lot (consM (vM 0) (consM (vM 3) nilM))))) (raiseM 3 2 (consM (vM 1) (consM (vM 2) nilM))) nxM) (retM (vM 3))))
theorem d_need_saying (Z : Fx P w K mg base) (hD : DF mg T D) : Def P w K mg base D 4 "need_saying" 3 m_need_saying :=
  Def.of (own' := []) (k := 3) Z.f_need_saying sc_need_saying rfl (by decide) fun f cdv A outer s H E hr => (mss_cons (ms_set (sc_need_saying).nd rfl (.inl rfl) (me_if (mt_val (me_isi (clsF Z hD) rfl Z.z_isinstance (me_var rfl (.inl rfl) (by decide)) (carg_ty rfl Z.z_list bt_list (by decide))) (fun _ => rfl)) (me_callTy call_tuple_of fnm_tuple rfl Z.z_tuple bt_tuple (ma_cons (me_var rfl (.inl rfl) (by decide)) ma_nil)) (me_var rfl (.inl rfl) (by decide)))) (mss_cons (ms_if (mt_not (mt_val (me_call (d_is_lot Z hD) hr (by decide) px rfl (ma_cons (me_var rfl (.inl rfl) (by decide)) (ma_cons (me_var rfl (.inl rfl) (by decide)) ma_nil))) (fun _ => rfl))) (mss_one (ms_raise (Z.x_BadRow hD) rfl tk_cx hr (by decide) (by rw [hD.flds]; rfl) rfl (ma_cons (me_var rfl (.inl rfl) (by decide)) (ma_cons (me_var rfl (.inl rfl) (by decide)) ma_nil)))) mss_nil) (mss_one (ms_ret (me_var rfl (.inl rfl) (by decide))))))

def m_first_ones : List A → M A := defM 2 (seqM (dropM (callM 2 m_need_levels (consM (cM (.str "levels")) (consM (vM 0) nilM)))) (retM (callM 2 m_first_by (consM (vM 0) (consM (callM 3 m_need_saying (consM (callM 1 m_many_of (consM (vM 0) nilM)) (consM (cM (.str "saying")) (consM (vM 1) nilM)))) nilM)))))
theorem d_first_ones (Z : Fx P w K mg base) (hD : DF mg T D) : Def P w K mg base D 5 "first_ones" 2 m_first_ones :=
  Def.of (own' := []) (k := 4) Z.f_first_ones sc_first_ones rfl (by decide) fun f cdv A outer s H E hr => (mss_cons (ms_expr (me_call (d_need_levels Z hD) hr (by decide) px rfl (ma_cons me_str (ma_cons (me_var rfl (.inl rfl) (by decide)) ma_nil)))) (mss_one (ms_ret (me_call (d_first_by Z hD) hr (by decide) px rfl (ma_cons (me_var rfl (.inl rfl) (by decide)) (ma_cons (me_call (d_need_saying Z hD) hr (by decide) px rfl (ma_cons (me_call (d_many_of Z hD) hr (by decide) px rfl (ma_cons (me_var rfl (.inl rfl) (by decide)) ma_nil)) (ma_cons me_str (ma_cons (me_var rfl (.inl rfl) (by decide)) ma_nil)))) ma_nil))))))

def m_law_plain : List A → M A := defM 1 (retM (iteM (truM (isi1 (.own 20) (vM 0))) (attM fldsT "lots" (vM 0)) (cM .non)))
theorem d_law_plain (Z : Fx P w K mg base) (hD : DF mg T D) : Def P w K mg base D 1 "_law_plain" 1 m_law_plain :=
  Def.of (own' := []) (k := 0) Z.f_law_plain sc_law_plain rfl (by decide) fun f cdv A outer s H E hr => (mss_one (ms_ret (me_if (mt_val (me_isi (clsF Z hD) rfl Z.z_isinstance (me_var rfl (.inl rfl) (by decide)) (carg_own' rfl (Z.cl_Levels hD) (by decide))) (fun _ => rfl)) (me_att (clsF Z hD) hD.flds (me_var rfl (.inl rfl) (by decide))) me_non)))

def m_levels_from : List A → M A := defM 5 (seqM (setM 1 dnewM) (seqM (forS (itOn enumTA (consM (vM 0) nilM)) (tgT 2 (tgCons (tgN 2) (tgCons (tgN 3) tgNil))) (seqM (dputM 1 (vM 3) (onA mkTup (starM (getDO 1 (vM 3) (onA mkTup nilM)) (consM (vM 2) nilM)))) nxM)) (retM (newM 20 1 m_Levels_init (consM (lcM (itSeq (onA sortDA (consM (vM 1) nilM))) (tgN 3) yesM (op2 ixDA (vM 1) (vM 3)) [4, 3]) nilM)))))
theorem d_levels_from (Z : Fx P w K mg base) (hD : DF mg T D) : Def P w K mg base D 7 "levels_from" 1 m_levels_from :=
  Def.of (own' := [1]) (k := 6) Z.f_levels_from sc_levels_from rfl (by decide) fun f cdv A outer s H E hr => (mss_cons (ms_setF (sc_levels_from).nd rfl (.inr rfl) mf_dnew) (mss_cons (ms_for pown rfl (mi_enumT rfl Z.z_enumerate (ma_cons (me_var rfl (.inl rfl) (by decide)) ma_nil)) (mg_tup rfl (mgs_cons (mg_name (sc_levels_from).nd rfl (.inl rfl)) (mgs_cons (mg_name (sc_levels_from).nd rfl (.inl rfl)) mgs_nil))) (mss_cons (ms_dput (hu1 hr) rfl (.inr (.inl rfl)) (by decide) (me_var rfl (.inl rfl) (by decide)) (me_tup (ma_star (me_getDO (hu1 hr) rfl (.inr (.inl rfl)) (by decide) (me_var rfl (.inl rfl) (by decide)) (me_tup ma_nil) ⟨by rfl, by rfl, by rfl, by rfl⟩) (ma_cons (me_var rfl (.inl rfl) (by decide)) ma_nil)))) mss_nil)) (mss_one (ms_pre [1] (ms_ret (me_new (d_Levels_init Z hD) hr (by decide) px rfl (ma_cons (me_lc (is := [3]) (ow := [(".0", 4), ("height", 3)]) (by decide) rfl (sc_levels_from).nd (mi_seq (me_callB (call_sortedDI rfl) fnm_sortD rfl Z.z_sorted bt_sorted (ma_cons (me_var rfl (.inr (.inl rfl)) (by decide)) ma_nil))) (blkOk_by (by rfl)) (fun _ _ _ _ _ => (mg_name (sc_levels_from).nd rfl (.inl rfl))) (fun _ _ _ _ _ => mts_nil) (fun _ _ _ _ _ => (me_ixD (hu1 hr) (me_var rfl (.inr (.inl rfl)) (by decide)) (me_var rfl (.inl rfl) (by decide)) (fun _ _ => rfl))) (fun _ => rfl)) ma_nil)))))))

def m_narrowed_levels : List A → M A := defM 6 (seqM (dropM (callM 2 m_need_levels (consM (cM (.str "levels")) (consM (vM 0) nilM)))) (seqM (setM 2 (callM 3 m_need_saying (consM (callM 1 m_many_of (consM (vM 0) nilM)) (consM (cM (.str "saying")) (consM (vM 1) nilM))))) (seqM (iteM (notT (truM (vM 2))) (raiseM 3 2 (consM (cM (.str "saying")) (consM (vM 1) nilM))) nxM) (seqM (setM 3 (callM 1 m_heights_by (consM (vM 0) nilM))) (retM (callM 1 m_levels_from (consM (lcM (itSeq (vM 2)) (tgN 5) yesM (op2 ixA (vM 3) (vM 5)) [4, 5]) nilM)))))))
theorem d_narrowed_levels (Z : Fx P w K mg base) (hD : DF mg T D) : Def P w K mg base D 8 "narrowed_levels" 2 m_narrowed_levels :=
  Def.of (own' := []) (k := 7) Z.f_narrowed_levels sc_narrowed_levels rfl (by decide) fun f cdv A outer s H E hr => (mss_cons (ms_expr (me_call (d_need_levels Z hD) hr (by decide) px rfl (ma_cons me_str (ma_cons (me_var rfl (.inl rfl) (by decide)) ma_nil)))) (mss_cons (ms_set (sc_narrowed_levels).nd rfl (.inl rfl) (me_call (d_need_saying Z hD) hr (by decide) px rfl (ma_cons (me_call (d_many_of Z hD) hr (by decide) px rfl (ma_cons (me_var rfl (.inl rfl) (by decide)) ma_nil)) (ma_cons me_str (ma_cons (me_var rfl (.inl rfl) (by decide)) ma_nil))))) (mss_cons (ms_if (mt_not (mt_val (me_var rfl (.inl rfl) (by decide)) (fun _ => rfl))) (mss_one (ms_raise (Z.x_BadRow hD) rfl tk_cx hr (by decide) (by rw [hD.flds]; rfl) rfl (ma_cons me_str (ma_cons (me_var rfl (.inl rfl) (by decide)) ma_nil)))) mss_nil) (mss_cons (ms_set (sc_narrowed_levels).nd rfl (.inr rfl) (me_call (d_heights_by Z hD) hr (by decide) px rfl (ma_cons (me_var rfl (.inl rfl) (by decide)) ma_nil))) (mss_one (ms_ret (me_call (d_levels_from Z hD) hr (by decide) px rfl (ma_cons (me_lc (is := [5]) (ow := [(".0", 4), ("world", 5)]) (by decide) rfl (sc_narrowed_levels).nd (mi_seq (me_var rfl (.inl rfl) (by decide))) (blkOk_by (by rfl)) (fun _ _ _ _ _ => (mg_name (sc_narrowed_levels).nd rfl (.inl rfl))) (fun _ _ _ _ _ => mts_nil) (fun _ _ _ _ _ => (me_ix (me_var rfl (.inr (.inl rfl)) (by decide)) (me_var rfl (.inl rfl) (by decide)) (fun _ _ => rfl))) (fun _ => rfl)) ma_nil))))))))

def m_law_odd_levels : List A → M A := defM 1 (retM (callM 2 m_law_pick (consM (vM 0) (consM (onA mkLst (consM (cM .non) (consM (cM (.int 5)) (consM (onA mkTup nilM) (consM (onA mkTup (consM (onA mkTup (consM (cM (.int 0)) nilM)) nilM)) (consM (cM (.str "levels")) nilM)))))) nilM))))
theorem d_law_odd_levels (Z : Fx P w K mg base) (hD : DF mg T D) : Def P w K mg base D 3 "_law_odd_levels" 1 m_law_odd_levels :=
  Def.of (own' := []) (k := 2) Z.f_law_odd_levels sc_law_odd_levels rfl (by decide) fun f cdv A outer s H E hr => (mss_one (ms_ret (me_call (d_law_pick Z hD) hr (by decide) px rfl (ma_cons (me_var rfl (.inl rfl) (by decide)) (ma_cons (me_lst (ma_cons me_non (ma_cons me_int (ma_cons (me_tup ma_nil) (ma_cons (me_tup (ma_cons (me_tup (ma_cons me_int ma_nil)) ma_nil)) (ma_cons me_str ma_nil)))))) ma_nil)))))

def m_law_odd_world : List A → M A := defM 2 (retM (callM 2 m_law_pick (consM (vM 0) (consM (onA mkLst (consM (cM .non) (consM (un1 negA (cM (.int 1))) (consM (vM 1) (consM (cM (.bl true)) (consM (cM (.str "0")) nilM)))))) nilM))))
theorem d_law_odd_world (Z : Fx P w K mg base) (hD : DF mg T D) : Def P w K mg base D 3 "_law_odd_world" 2 m_law_odd_world :=
  Def.of (own' := []) (k := 2) Z.f_law_odd_world sc_law_odd_world rfl (by decide) fun f cdv A outer s H E hr => (mss_one (ms_ret (me_call (d_law_pick Z hD) hr (by decide) px rfl (ma_cons (me_var rfl (.inl rfl) (by decide)) (ma_cons (me_lst (ma_cons me_non (ma_cons (me_neg me_int) (ma_cons (me_var rfl (.inl rfl) (by decide)) (ma_cons me_bl (ma_cons me_str ma_nil)))))) ma_nil)))))

def m_law_odd_lot : List A → M A := defM 2 (retM (callM 2 m_law_pick (consM (vM 0) (consM (onA mkLst (consM (cM .non) (consM (cM (.int 5)) (consM (onA mkTup (consM (cM (.int 0)) (consM (cM (.int 0)) nilM))) (consM (onA mkTup (consM (vM 1) nilM)) (consM (onA mkTup (consM (un1 negA (cM (.int 1))) nilM)) (consM (onA mkTup (consM (cM (.bl true)) nilM)) (consM (cM (.str "0")) (consM (onA mkTup (consM (cM .non) nilM)) nilM))))))))) nilM))))
theorem d_law_odd_lot (Z : Fx P w K mg base) (hD : DF mg T D) : Def P w K mg base D 3 "_law_odd_lot" 2 m_law_odd_lot :=
  Def.of (own' := []) (k := 2) Z.f_law_odd_lot sc_law_odd_lot rfl (by decide) fun f cdv A outer s H E hr => (mss_one (ms_ret (me_call (d_law_pick Z hD) hr (by decide) px rfl (ma_cons (me_var rfl (.inl rfl) (by decide)) (ma_cons (me_lst (ma_cons me_non (ma_cons me_int (ma_cons (me_tup (ma_cons me_int (ma_cons me_int ma_nil))) (ma_cons (me_tup (ma_cons (me_var rfl (.inl rfl) (by decide)) ma_nil)) (ma_cons (me_tup (ma_cons (me_neg me_int) ma_nil)) (ma_cons (me_tup (ma_cons me_bl ma_nil)) (ma_cons me_str (ma_cons (me_tup (ma_cons me_non ma_nil)) ma_nil))))))))) ma_nil)))))

def allF : List Str := ["limit", "line", "many", "name", "number", "row", "what", "word"]
def namesN (j : Nat) : Str := (namesT.lookup j).getD ""
theorem Fx.kitJ (Z : Fx P w K mg base) {c j : Nat} {C : Addr} (hc : clsOf namesT mg c = some C) (h20 : c < 20) (hj : j < 8) : ∃ C', mg (namesN j) = some (.ref C') ∧ PySem.W.kitOne K (.ref C) (.ref C') = some (c == j) := by
  have key : ∀ C', mg (namesN j) = some (.ref C') → clsOf namesT mg j = some C' := fun C' h => by
    match j, hj, h with
    | 0, _, h =>
      have h : mg "BadText" = some (.ref C') := h
      show refO (mg "BadText") = some C'
      rw [h]; rfl
    | 1, _, h =>
      have h : mg "BadName" = some (.ref C') := h
      show refO (mg "BadName") = some C'
      rw [h]; rfl
    | 2, _, h =>
      have h : mg "BadNumber" = some (.ref C') := h
      show refO (mg "BadNumber") = some C'
      rw [h]; rfl
    | 3, _, h =>
      have h : mg "BadRow" = some (.ref C') := h
      show refO (mg "BadRow") = some C'
      rw [h]; rfl
    | 4, _, h =>
      have h : mg "NoName" = some (.ref C') := h
      show refO (mg "NoName") = some C'
      rw [h]; rfl
    | 5, _, h =>
      have h : mg "TakenName" = some (.ref C') := h
      show refO (mg "TakenName") = some C'
      rw [h]; rfl
    | 6, _, h =>
      have h : mg "Unlike" = some (.ref C') := h
      show refO (mg "Unlike") = some C'
      rw [h]; rfl
    | 7, _, h =>
      have h : mg "TooMany" = some (.ref C') := h
      show refO (mg "TooMany") = some C'
      rw [h]; rfl
  match j, hj, key with
  | 0, _, key =>
    obtain ⟨C', E⟩ := Z.e_BadText
    exact ⟨C', E.m, Z.sb c C 0 C' hc (key C' E.m) h20 (by decide)⟩
  | 1, _, key =>
    obtain ⟨C', E⟩ := Z.e_BadName
    exact ⟨C', E.m, Z.sb c C 1 C' hc (key C' E.m) h20 (by decide)⟩
  | 2, _, key =>
    obtain ⟨C', E⟩ := Z.e_BadNumber
    exact ⟨C', E.m, Z.sb c C 2 C' hc (key C' E.m) h20 (by decide)⟩
  | 3, _, key =>
    obtain ⟨C', E⟩ := Z.e_BadRow
    exact ⟨C', E.m, Z.sb c C 3 C' hc (key C' E.m) h20 (by decide)⟩
  | 4, _, key =>
    obtain ⟨C', E⟩ := Z.e_NoName
    exact ⟨C', E.m, Z.sb c C 4 C' hc (key C' E.m) h20 (by decide)⟩
  | 5, _, key =>
    obtain ⟨C', E⟩ := Z.e_TakenName
    exact ⟨C', E.m, Z.sb c C 5 C' hc (key C' E.m) h20 (by decide)⟩
  | 6, _, key =>
    obtain ⟨C', E⟩ := Z.e_Unlike
    exact ⟨C', E.m, Z.sb c C 6 C' hc (key C' E.m) h20 (by decide)⟩
  | 7, _, key =>
    obtain ⟨C', E⟩ := Z.e_TooMany
    exact ⟨C', E.m, Z.sb c C 7 C' hc (key C' E.m) h20 (by decide)⟩
theorem Fx.xcF (Z : Fx P w K mg base) {c : Nat} {C : Addr} (hc : clsOf namesT mg c = some C) (h20 : c < 20) : XcF K C := by
  have hlt := cls_lt hc h20
  match c, hlt, hc with
  | 0, _, hc =>
    obtain ⟨C', E⟩ := Z.e_BadText
    have e : refO (mg "BadText") = some C := hc
    rw [E.m] at e
    cases e
    exact E.x
  | 1, _, hc =>
    obtain ⟨C', E⟩ := Z.e_BadName
    have e : refO (mg "BadName") = some C := hc
    rw [E.m] at e
    cases e
    exact E.x
  | 2, _, hc =>
    obtain ⟨C', E⟩ := Z.e_BadNumber
    have e : refO (mg "BadNumber") = some C := hc
    rw [E.m] at e
    cases e
    exact E.x
  | 3, _, hc =>
    obtain ⟨C', E⟩ := Z.e_BadRow
    have e : refO (mg "BadRow") = some C := hc
    rw [E.m] at e
    cases e
    exact E.x
  | 4, _, hc =>
    obtain ⟨C', E⟩ := Z.e_NoName
    have e : refO (mg "NoName") = some C := hc
    rw [E.m] at e
    cases e
    exact E.x
  | 5, _, hc =>
    obtain ⟨C', E⟩ := Z.e_TakenName
    have e : refO (mg "TakenName") = some C := hc
    rw [E.m] at e
    cases e
    exact E.x
  | 6, _, hc =>
    obtain ⟨C', E⟩ := Z.e_Unlike
    have e : refO (mg "Unlike") = some C := hc
    rw [E.m] at e
    cases e
    exact E.x
  | 7, _, hc =>
    obtain ⟨C', E⟩ := Z.e_TooMany
    have e : refO (mg "TooMany") = some C := hc
    rw [E.m] at e
    cases e
    exact E.x
def lamM0 : ME' := (callM 2 m_level_of (consM (vM 0) (consM (vM 1) nilM)))
def lamM1 : ME' := (callM 2 m_level_of (consM (vM 0) (consM (vM 1) nilM)))
def lamM2 : ME' := (callM 2 m_first_ones (consM (vM 0) (consM (vM 1) nilM)))
def lamM3 : ME' := (callM 2 m_first_ones (consM (vM 0) (consM (vM 1) nilM)))
def lamM4 : ME' := (callM 3 m_is_ahead (consM (vM 0) (consM (vM 1) (consM (vM 1) nilM))))
def lamM5 : ME' := (callM 3 m_is_ahead (consM (vM 0) (consM (vM 1) (consM (vM 1) nilM))))
def lamM6 : ME' := (callM 3 m_is_ahead (consM (vM 0) (consM (cM (.int 0)) (consM (vM 1) nilM))))
def lamM7 : ME' := (callM 2 m_narrowed_levels (consM (vM 0) (consM (vM 1) nilM)))
def lamM8 : ME' := (callM 2 m_narrowed_levels (consM (vM 0) (consM (vM 1) nilM)))
def lamM9 : ME' := (callM 2 m_narrowed_levels (consM (vM 0) (consM (onA mkTup nilM) nilM)))
def sem : Nat → List A → M A
  | 0 => fun caps => lamM0 (caps.map some)
  | 1 => fun caps => lamM1 (caps.map some)
  | 2 => fun caps => lamM2 (caps.map some)
  | 3 => fun caps => lamM3 (caps.map some)
  | 4 => fun caps => lamM4 (caps.map some)
  | 5 => fun caps => lamM5 (caps.map some)
  | 6 => fun caps => lamM6 (caps.map some)
  | 7 => fun caps => lamM7 (caps.map some)
  | 8 => fun caps => lamM8 (caps.map some)
  | 9 => fun caps => lamM9 (caps.map some)
  | _ => fun _ => no
theorem lamF0 : LamF lamL0 := ⟨rfl, rfl, rfl, by decide +kernel, LamF.fr_by (by decide +kernel), fun _ _ _ _ => rfl⟩
theorem lamF1 : LamF lamL1 := ⟨rfl, rfl, rfl, by decide +kernel, LamF.fr_by (by decide +kernel), fun _ _ _ _ => rfl⟩
theorem lamF2 : LamF lamL2 := ⟨rfl, rfl, rfl, by decide +kernel, LamF.fr_by (by decide +kernel), fun _ _ _ _ => rfl⟩
theorem lamF3 : LamF lamL3 := ⟨rfl, rfl, rfl, by decide +kernel, LamF.fr_by (by decide +kernel), fun _ _ _ _ => rfl⟩
theorem lamF4 : LamF lamL4 := ⟨rfl, rfl, rfl, by decide +kernel, LamF.fr_by (by decide +kernel), fun _ _ _ _ => rfl⟩
theorem lamF5 : LamF lamL5 := ⟨rfl, rfl, rfl, by decide +kernel, LamF.fr_by (by decide +kernel), fun _ _ _ _ => rfl⟩
theorem lamF6 : LamF lamL6 := ⟨rfl, rfl, rfl, by decide +kernel, LamF.fr_by (by decide +kernel), fun _ _ _ _ => rfl⟩
theorem lamF7 : LamF lamL7 := ⟨rfl, rfl, rfl, by decide +kernel, LamF.fr_by (by decide +kernel), fun _ _ _ _ => rfl⟩
theorem lamF8 : LamF lamL8 := ⟨rfl, rfl, rfl, by decide +kernel, LamF.fr_by (by decide +kernel), fun _ _ _ _ => rfl⟩
theorem lamF9 : LamF lamL9 := ⟨rfl, rfl, rfl, by decide +kernel, LamF.fr_by (by decide +kernel), fun _ _ _ _ => rfl⟩
theorem d_sem (Z : Fx P w K mg base) (hD : DF mg T D) : LamOk P w K mg base D 8 sem := by
  refine ⟨fun n L h => ?_⟩
  rw [hD.lams] at h
  match n, h with
  | 0, h =>
    cases h
    exact ⟨lamF0, lamM0, fun _ => rfl, fun cl B fl t H E f c' hr => (me_call (d_level_of Z hD) hr (by decide) px_lam rfl (ma_cons (me_var rfl (.inr (.inr rfl)) (by decide)) (ma_cons (me_var rfl (.inr (.inr rfl)) (by decide)) ma_nil)))⟩
  | 1, h =>
    cases h
    exact ⟨lamF1, lamM1, fun _ => rfl, fun cl B fl t H E f c' hr => (me_call (d_level_of Z hD) hr (by decide) px_lam rfl (ma_cons (me_var rfl (.inr (.inr rfl)) (by decide)) (ma_cons (me_var rfl (.inr (.inr rfl)) (by decide)) ma_nil)))⟩
  | 2, h =>
    cases h
    exact ⟨lamF2, lamM2, fun _ => rfl, fun cl B fl t H E f c' hr => (me_call (d_first_ones Z hD) hr (by decide) px_lam rfl (ma_cons (me_var rfl (.inr (.inr rfl)) (by decide)) (ma_cons (me_var rfl (.inr (.inr rfl)) (by decide)) ma_nil)))⟩
  | 3, h =>
    cases h
    exact ⟨lamF3, lamM3, fun _ => rfl, fun cl B fl t H E f c' hr => (me_call (d_first_ones Z hD) hr (by decide) px_lam rfl (ma_cons (me_var rfl (.inr (.inr rfl)) (by decide)) (ma_cons (me_var rfl (.inr (.inr rfl)) (by decide)) ma_nil)))⟩
  | 4, h =>
    cases h
    exact ⟨lamF4, lamM4, fun _ => rfl, fun cl B fl t H E f c' hr => (me_call (d_is_ahead Z hD) hr (by decide) px_lam rfl (ma_cons (me_var rfl (.inr (.inr rfl)) (by decide)) (ma_cons (me_var rfl (.inr (.inr rfl)) (by decide)) (ma_cons (me_var rfl (.inr (.inr rfl)) (by decide)) ma_nil))))⟩
  | 5, h =>
    cases h
    exact ⟨lamF5, lamM5, fun _ => rfl, fun cl B fl t H E f c' hr => (me_call (d_is_ahead Z hD) hr (by decide) px_lam rfl (ma_cons (me_var rfl (.inr (.inr rfl)) (by decide)) (ma_cons (me_var rfl (.inr (.inr rfl)) (by decide)) (ma_cons (me_var rfl (.inr (.inr rfl)) (by decide)) ma_nil))))⟩
  | 6, h =>
    cases h
    exact ⟨lamF6, lamM6, fun _ => rfl, fun cl B fl t H E f c' hr => (me_call (d_is_ahead Z hD) hr (by decide) px_lam rfl (ma_cons (me_var rfl (.inr (.inr rfl)) (by decide)) (ma_cons me_int (ma_cons (me_var rfl (.inr (.inr rfl)) (by decide)) ma_nil))))⟩
  | 7, h =>
    cases h
    exact ⟨lamF7, lamM7, fun _ => rfl, fun cl B fl t H E f c' hr => (me_call (d_narrowed_levels Z hD) hr (by decide) px_lam rfl (ma_cons (me_var rfl (.inr (.inr rfl)) (by decide)) (ma_cons (me_var rfl (.inr (.inr rfl)) (by decide)) ma_nil)))⟩
  | 8, h =>
    cases h
    exact ⟨lamF8, lamM8, fun _ => rfl, fun cl B fl t H E f c' hr => (me_call (d_narrowed_levels Z hD) hr (by decide) px_lam rfl (ma_cons (me_var rfl (.inr (.inr rfl)) (by decide)) (ma_cons (me_var rfl (.inr (.inr rfl)) (by decide)) ma_nil)))⟩
  | 9, h =>
    cases h
    exact ⟨lamF9, lamM9, fun _ => rfl, fun cl B fl t H E f c' hr => (me_call (d_narrowed_levels Z hD) hr (by decide) px_lam rfl (ma_cons (me_var rfl (.inr (.inr rfl)) (by decide)) (ma_cons (me_tup ma_nil) ma_nil)))⟩
  | n + 10, h => cases h
def suite_caught (c : Nat) (fs : List A) : MS' := (seqM (setM 2 (onA mkLst nilM)) (seqM (iteM (truM (isxM 1 (c == 1))) (seqM (appM 2 (onA mkTup (consM (cM (.str "name")) (consM (xfM 1 (fldsT c) fs "name") nilM)))) nxM) nxM) (seqM (iteM (truM (isxM 1 (c == 2))) (seqM (appM 2 (onA mkTup (consM (cM (.str "number")) (consM (xfM 1 (fldsT c) fs "what") (consM (xfM 1 (fldsT c) fs "number") nilM))))) nxM) nxM) (seqM (iteM (truM (isxM 1 (c == 3))) (seqM (appM 2 (onA mkTup (consM (cM (.str "row")) (consM (xfM 1 (fldsT c) fs "what") (consM (xfM 1 (fldsT c) fs "row") nilM))))) nxM) nxM) (seqM (iteM (truM (isxM 1 (c == 4))) (seqM (appM 2 (onA mkTup (consM (cM (.str "noname")) (consM (xfM 1 (fldsT c) fs "name") nilM)))) nxM) nxM) (seqM (iteM (truM (isxM 1 (c == 5))) (seqM (appM 2 (onA mkTup (consM (cM (.str "taken")) (consM (xfM 1 (fldsT c) fs "name") nilM)))) nxM) nxM) (seqM (iteM (truM (isxM 1 (c == 7))) (seqM (appM 2 (onA mkTup (consM (cM (.str "many")) (consM (xfM 1 (fldsT c) fs "what") (consM (xfM 1 (fldsT c) fs "many") (consM (xfM 1 (fldsT c) fs "limit") nilM)))))) nxM) nxM) (seqM (iteM (truM (isxM 1 (c == 6))) (seqM (appM 2 (onA mkTup (consM (cM (.str "unlike")) (consM (xfM 1 (fldsT c) fs "what") nilM)))) nxM) nxM) (seqM (iteM (truM (isxM 1 (c == 0))) (seqM (appM 2 (onA mkTup (consM (cM (.str "text")) (consM (xfM 1 (fldsT c) fs "line") (consM (xfM 1 (fldsT c) fs "word") nilM))))) nxM) nxM) (retM (iteM (tstM (op2 eqA (onA lenA (consM (vM 2) nilM)) (cM (.int 1)))) (op2 ixA (vM 2) (cM (.int 0))) (onA mkTup (consM (cM (.str "several")) nilM)))))))))))))
def m_law_caught : List A → M A := defM 3 (seqM (tryM 1 3 (seqM (dropM (actM sem 0)) nxM) suite_caught) (retM (onA mkTup (consM (cM (.str "none")) nilM))))
theorem d_law_caught (Z : Fx P w K mg base) (hD : DF mg T D) (hD0 : ∀ n, D.cl n = none) : Def P w K mg base D 10 "_law_caught" 1 m_law_caught := by
  obtain ⟨CM, M⟩ := Z.mi
  have LO := d_sem Z hD
  refine Def.of (own' := []) (k := 9) Z.f_law_caught sc_law_caught rfl (by decide) fun f cdv A outer s H E hr => ?_
  refine mss_cons (ms_tryAs (own' := []) (own2 := []) (i := 1) (m := (seqM (dropM (actM sem 0)) nxM)) (su := suite_caught) rfl rfl sc_law_caught.nd rfl rfl ⟨rfl, by decide, .inl M.m⟩ hD.xc tk_cx (fun c C hc h20 => ?_) (fun W pn xe tk => ?_) (fun a C dd oe pn c fs ws Sx hc hlt W => ?_)) (mss_one (ms_ret (me_tup (ma_cons me_str ma_nil))))
  · rw [hD.cls] at hc
    exact ⟨Z.xm c C CM hc h20 M.m, Z.xcF hc h20⟩
  · have hpx : Passes (L2.CX P w) ((cxOf (L2.CX P w) P w K mg base ["action", "e", "found"] "_law_caught" (defScope s_law_caught) f cdv A outer s H E).tr pn xe) W := passes_call tk fun _ _ _ _ h => h
    exact (mss_cons (ms_expr (me_act LO hD0 hD.xc (Room.mono (k := 9) hr (by decide)) hpx rfl (.inl rfl) (by decide))) mss_nil)
  · rw [hD.cls] at hc
    have hno : ∀ f ∈ allF, PySem.W.findIn K (.ref C) f = some none := Z.no c C hc hlt
    have hW := W
    obtain ⟨C0, g0, k0⟩ := Z.kitJ hc hlt (show 0 < 8 by decide)
    have g0 : mg "BadText" = some (.ref C0) := g0
    obtain ⟨C1, g1, k1⟩ := Z.kitJ hc hlt (show 1 < 8 by decide)
    have g1 : mg "BadName" = some (.ref C1) := g1
    obtain ⟨C2, g2, k2⟩ := Z.kitJ hc hlt (show 2 < 8 by decide)
    have g2 : mg "BadNumber" = some (.ref C2) := g2
    obtain ⟨C3, g3, k3⟩ := Z.kitJ hc hlt (show 3 < 8 by decide)
    have g3 : mg "BadRow" = some (.ref C3) := g3
    obtain ⟨C4, g4, k4⟩ := Z.kitJ hc hlt (show 4 < 8 by decide)
    have g4 : mg "NoName" = some (.ref C4) := g4
    obtain ⟨C5, g5, k5⟩ := Z.kitJ hc hlt (show 5 < 8 by decide)
    have g5 : mg "TakenName" = some (.ref C5) := g5
    obtain ⟨C6, g6, k6⟩ := Z.kitJ hc hlt (show 6 < 8 by decide)
    have g6 : mg "Unlike" = some (.ref C6) := g6
    obtain ⟨C7, g7, k7⟩ := Z.kitJ hc hlt (show 7 < 8 by decide)
    have g7 : mg "TooMany" = some (.ref C7) := g7
    exact (mss_cons (ms_setF (sc_law_caught).nd rfl (.inl rfl) (mf_lst ma_nil)) (mss_cons (ms_if (mt_val (me_isx W k1 rfl Z.z_isinstance rfl (.inl rfl) (by decide) rfl g1) (fun _ => rfl)) (mss_cons (ms_append rfl (.inl rfl) (by decide) (me_tup (ma_cons me_str (ma_cons (me_xf W (congrFun hD.flds _) (hno "name" (by decide)) rfl (.inl rfl) (by decide)) ma_nil)))) mss_nil) mss_nil) (mss_cons (ms_if (mt_val (me_isx W k2 rfl Z.z_isinstance rfl (.inl rfl) (by decide) rfl g2) (fun _ => rfl)) (mss_cons (ms_append rfl (.inl rfl) (by decide) (me_tup (ma_cons me_str (ma_cons (me_xf W (congrFun hD.flds _) (hno "what" (by decide)) rfl (.inl rfl) (by decide)) (ma_cons (me_xf W (congrFun hD.flds _) (hno "number" (by decide)) rfl (.inl rfl) (by decide)) ma_nil))))) mss_nil) mss_nil) (mss_cons (ms_if (mt_val (me_isx W k3 rfl Z.z_isinstance rfl (.inl rfl) (by decide) rfl g3) (fun _ => rfl)) (mss_cons (ms_append rfl (.inl rfl) (by decide) (me_tup (ma_cons me_str (ma_cons (me_xf W (congrFun hD.flds _) (hno "what" (by decide)) rfl (.inl rfl) (by decide)) (ma_cons (me_xf W (congrFun hD.flds _) (hno "row" (by decide)) rfl (.inl rfl) (by decide)) ma_nil))))) mss_nil) mss_nil) (mss_cons (ms_if (mt_val (me_isx W k4 rfl Z.z_isinstance rfl (.inl rfl) (by decide) rfl g4) (fun _ => rfl)) (mss_cons (ms_append rfl (.inl rfl) (by decide) (me_tup (ma_cons me_str (ma_cons (me_xf W (congrFun hD.flds _) (hno "name" (by decide)) rfl (.inl rfl) (by decide)) ma_nil)))) mss_nil) mss_nil) (mss_cons (ms_if (mt_val (me_isx W k5 rfl Z.z_isinstance rfl (.inl rfl) (by decide) rfl g5) (fun _ => rfl)) (mss_cons (ms_append rfl (.inl rfl) (by decide) (me_tup (ma_cons me_str (ma_cons (me_xf W (congrFun hD.flds _) (hno "name" (by decide)) rfl (.inl rfl) (by decide)) ma_nil)))) mss_nil) mss_nil) (mss_cons (ms_if (mt_val (me_isx W k7 rfl Z.z_isinstance rfl (.inl rfl) (by decide) rfl g7) (fun _ => rfl)) (mss_cons (ms_append rfl (.inl rfl) (by decide) (me_tup (ma_cons me_str (ma_cons (me_xf W (congrFun hD.flds _) (hno "what" (by decide)) rfl (.inl rfl) (by decide)) (ma_cons (me_xf W (congrFun hD.flds _) (hno "many" (by decide)) rfl (.inl rfl) (by decide)) (ma_cons (me_xf W (congrFun hD.flds _) (hno "limit" (by decide)) rfl (.inl rfl) (by decide)) ma_nil)))))) mss_nil) mss_nil) (mss_cons (ms_if (mt_val (me_isx W k6 rfl Z.z_isinstance rfl (.inl rfl) (by decide) rfl g6) (fun _ => rfl)) (mss_cons (ms_append rfl (.inl rfl) (by decide) (me_tup (ma_cons me_str (ma_cons (me_xf W (congrFun hD.flds _) (hno "what" (by decide)) rfl (.inl rfl) (by decide)) ma_nil)))) mss_nil) mss_nil) (mss_cons (ms_if (mt_val (me_isx W k0 rfl Z.z_isinstance rfl (.inl rfl) (by decide) rfl g0) (fun _ => rfl)) (mss_cons (ms_append rfl (.inl rfl) (by decide) (me_tup (ma_cons me_str (ma_cons (me_xf W (congrFun hD.flds _) (hno "line" (by decide)) rfl (.inl rfl) (by decide)) (ma_cons (me_xf W (congrFun hD.flds _) (hno "word" (by decide)) rfl (.inl rfl) (by decide)) ma_nil))))) mss_nil) mss_nil) (mss_one (ms_pre [2] (ms_ret (me_if (mt_eq (hu65m hr) (me_callB call_lenX fnm_len rfl Z.z_len bt_len (ma_cons (me_var rfl (.inl rfl) (by decide)) ma_nil)) me_int) (me_ix (me_var rfl (.inl rfl) (by decide)) me_int (fun _ _ => rfl)) (me_tup (ma_cons me_str ma_nil)))))))))))))))

def m_law_raise_so : List A → M A := defM 4 (seqM (forS (itSeq (vM 0)) (tgT 2 (tgCons (tgN 1) (tgCons (tgN 2) tgNil))) (seqM (setM 3 (callM 1 m_law_caught (consM (vM 1) nilM))) (seqM (iteM (orT (tstM (op2 neA (cutM (vM 3) noP (someP (un1 negA (cM (.int 1))))) (cutM (vM 2) noP (someP (un1 negA (cM (.int 1))))))) (tstM (op2 neA (onA reprA (consM (op2 ixA (vM 3) (un1 negA (cM (.int 1)))) nilM)) (onA reprA (consM (op2 ixA (vM 2) (un1 negA (cM (.int 1)))) nilM))))) (retM (cM (.bl false))) nxM) nxM))) (retM (cM (.bl true))))
theorem d_law_raise_so (Z : Fx P w K mg base) (hD : DF mg T D) (hD0 : ∀ n, D.cl n = none) : DefG P w K mg base D 11 "_law_raise_so" 1 m_law_raise_so :=
  DefG.of (own' := []) (k := 10) Z.f_law_raise_so sc_law_raise_so rfl (by decide) fun f cdv A outer s H E hr hG => (mss_cons (ms_for pown rfl (mi_seq (me_var rfl (.inl rfl) (by decide))) (mg_tup rfl (mgs_cons (mg_name (sc_law_raise_so).nd rfl (.inl rfl)) (mgs_cons (mg_name (sc_law_raise_so).nd rfl (.inl rfl)) mgs_nil))) (mss_cons (ms_set (sc_law_raise_so).nd rfl (.inl rfl) (me_call (d_law_caught Z hD hD0) hr (by decide) px rfl (ma_cons (me_var rfl (.inl rfl) (by decide)) ma_nil))) (mss_cons (ms_if (MW.pt (mw_or (mt_ne (hu65 hr) (me_slice (me_var rfl (.inl rfl) (by decide)) mp_none (mp_some (me_neg me_int))) (me_slice (me_var rfl (.inl rfl) (by decide)) mp_none (mp_some (me_neg me_int)))) (mw_or1 (mt_ne (hu65 hr) (me_callB (cr_repr hG (hu64 hr)) fnm_repr rfl Z.z_repr bt_repr (ma_cons (me_ix (me_var rfl (.inl rfl) (by decide)) (me_neg me_int) (fun _ _ => rfl)) ma_nil)) (me_callB (cr_repr hG (hu64 hr)) fnm_repr rfl Z.z_repr bt_repr (ma_cons (me_ix (me_var rfl (.inl rfl) (by decide)) (me_neg me_int) (fun _ _ => rfl)) ma_nil)))))) (mss_one (ms_ret me_bl)) mss_nil) mss_nil))) (mss_one (ms_ret me_bl)))

def m_law_refusals_right : List A → M A := defLM 7 (seqM (asgM (tgT 3 (tgCons (tgN 4) (tgCons (tgN 6) (tgCons (tgN 5) tgNil)))) (onA mkTup (consM (callM 1 m_law_odd_levels (consM (vM 0) nilM)) (consM (callM 2 m_law_odd_world (consM (vM 0) (consM (vM 2) nilM))) (consM (callM 2 m_law_odd_lot (consM (vM 0) (consM (vM 2) nilM))) nilM))))) (seqM (setM 3 (onA mkLst (consM (onA mkTup (consM (cM (.clo 0 [])) (consM (onA mkTup (consM (cM (.str "row")) (consM (cM (.str "levels")) (consM (vM 4) nilM)))) nilM))) nilM))) (seqM (appM 3 (onA mkTup (consM (cM (.clo 1 [])) (consM (onA mkTup (consM (cM (.str "number")) (consM (cM (.str "world")) (consM (vM 6) nilM)))) nilM)))) (seqM (appM 3 (onA mkTup (consM (cM (.clo 2 [])) (consM (onA mkTup (consM (cM (.str "row")) (consM (cM (.str "levels")) (consM (vM 4) nilM)))) nilM)))) (seqM (appM 3 (onA mkTup (consM (cM (.clo 3 [])) (consM (onA mkTup (consM (cM (.str "row")) (consM (cM (.str "saying")) (consM (vM 5) nilM)))) nilM)))) (seqM (appM 3 (onA mkTup (consM (cM (.clo 4 [])) (consM (onA mkTup (consM (cM (.str "row")) (consM (cM (.str "levels")) (consM (vM 4) nilM)))) nilM)))) (seqM (appM 3 (onA mkTup (consM (cM (.clo 5 [])) (consM (onA mkTup (consM (cM (.str "number")) (consM (cM (.str "world")) (consM (vM 6) nilM)))) nilM)))) (seqM (appM 3 (onA mkTup (consM (cM (.clo 6 [])) (consM (onA mkTup (consM (cM (.str "number")) (consM (cM (.str "other")) (consM (vM 6) nilM)))) nilM)))) (seqM (appM 3 (onA mkTup (consM (cM (.clo 7 [])) (consM (onA mkTup (consM (cM (.str "row")) (consM (cM (.str "levels")) (consM (vM 4) nilM)))) nilM)))) (seqM (appM 3 (onA mkTup (consM (cM (.clo 8 [])) (consM (onA mkTup (consM (cM (.str "row")) (consM (cM (.str "saying")) (consM (vM 5) nilM)))) nilM)))) (seqM (appM 3 (onA mkTup (consM (cM (.clo 9 [])) (consM (onA mkTup (consM (cM (.str "row")) (consM (cM (.str "saying")) (consM (onA mkTup nilM) nilM)))) nilM)))) (retM (callLM 1 m_law_raise_so slots__law_refusals_right (consM (vM 3) nilM))))))))))))))
theorem slotF_law_refusals_right {X : Cx} {own : List Nat} (hD : DF mg T D) (hN : X.N = (["pen", "made", "many", "calls", "bad", "saying", "world"] : List Str)) (hs : X.env.scope = defScope s_law_refusals_right) (ho : ∀ j ∈ own, j ∉ ([1, 4, 5, 6] : List Nat)) : SlotF X (D.at_ here__law_refusals_right X.env.cells) own slots__law_refusals_right := by
  refine ⟨fun n js h => ?_⟩
  match n, h with
  | 0, h =>
    cases h
    exact ⟨lamL0, congrFun hD.lams 0, at_cl hD rfl rfl, rfl, slot_fr (by decide +kernel), by rw [hN, hs]; exact slot_by ho (by decide +kernel) (by decide +kernel)⟩
  | 1, h =>
    cases h
    exact ⟨lamL1, congrFun hD.lams 1, at_cl hD rfl rfl, rfl, slot_fr (by decide +kernel), by rw [hN, hs]; exact slot_by ho (by decide +kernel) (by decide +kernel)⟩
  | 2, h =>
    cases h
    exact ⟨lamL2, congrFun hD.lams 2, at_cl hD rfl rfl, rfl, slot_fr (by decide +kernel), by rw [hN, hs]; exact slot_by ho (by decide +kernel) (by decide +kernel)⟩
  | 3, h =>
    cases h
    exact ⟨lamL3, congrFun hD.lams 3, at_cl hD rfl rfl, rfl, slot_fr (by decide +kernel), by rw [hN, hs]; exact slot_by ho (by decide +kernel) (by decide +kernel)⟩
  | 4, h =>
    cases h
    exact ⟨lamL4, congrFun hD.lams 4, at_cl hD rfl rfl, rfl, slot_fr (by decide +kernel), by rw [hN, hs]; exact slot_by ho (by decide +kernel) (by decide +kernel)⟩
  | 5, h =>
    cases h
    exact ⟨lamL5, congrFun hD.lams 5, at_cl hD rfl rfl, rfl, slot_fr (by decide +kernel), by rw [hN, hs]; exact slot_by ho (by decide +kernel) (by decide +kernel)⟩
  | 6, h =>
    cases h
    exact ⟨lamL6, congrFun hD.lams 6, at_cl hD rfl rfl, rfl, slot_fr (by decide +kernel), by rw [hN, hs]; exact slot_by ho (by decide +kernel) (by decide +kernel)⟩
  | 7, h =>
    cases h
    exact ⟨lamL7, congrFun hD.lams 7, at_cl hD rfl rfl, rfl, slot_fr (by decide +kernel), by rw [hN, hs]; exact slot_by ho (by decide +kernel) (by decide +kernel)⟩
  | 8, h =>
    cases h
    exact ⟨lamL8, congrFun hD.lams 8, at_cl hD rfl rfl, rfl, slot_fr (by decide +kernel), by rw [hN, hs]; exact slot_by ho (by decide +kernel) (by decide +kernel)⟩
  | 9, h =>
    cases h
    exact ⟨lamL9, congrFun hD.lams 9, at_cl hD rfl rfl, rfl, slot_fr (by decide +kernel), by rw [hN, hs]; exact slot_by ho (by decide +kernel) (by decide +kernel)⟩
  | n + 10, h => cases h
theorem d_law_refusals_right (Z : Fx P w K mg base) (Y : Tx K mg base T) (hD : DF mg T D) : DefG P w K mg base D 12 "_law_refusals_right" 3 m_law_refusals_right := by
  obtain ⟨f, fd, c, Pt, h1, h2, hb, hcc, TB, hTm, hTu⟩ := Y.t_law_refusals_right
  refine mk_defL (own' := [3]) (k := 11) (here := here__law_refusals_right) h2 h1 sc_law_refusals_right hb rfl (by decide) fun cdv A outer s H E hcode hcd hr hG => ?_
  have hcode : cdv = .ref c := hcode.symm.trans hcc
  have hDf := hD
  rw [← hD.T] at hTm hTu
  have hD : DF mg T (D.at_ here__law_refusals_right (cellsFrom (s.heap.objs.size + 1) (defScope s_law_refusals_right).names [])) := hD.same (D.atS here__law_refusals_right _)
  have SF : ∀ {own : List Nat}, (∀ j ∈ own, j ∉ ([1, 4, 5, 6] : List Nat)) → SlotF (cxOf (L2.CX P w) P w K mg base ["pen", "made", "many", "calls", "bad", "saying", "world"] "_law_refusals_right" (defScope s_law_refusals_right) f cdv A outer s H E) (D.at_ here__law_refusals_right (cellsFrom (s.heap.objs.size + 1) (defScope s_law_refusals_right).names [])) own slots__law_refusals_right := fun ho => slotF_law_refusals_right hDf rfl rfl ho
  exact (mss_cons (ms_asg (me_tup (ma_cons (me_call (d_law_odd_levels Z hD) hr (by decide) px rfl (ma_cons (me_var rfl (.inl rfl) (by decide)) ma_nil)) (ma_cons (me_call (d_law_odd_world Z hD) hr (by decide) px rfl (ma_cons (me_var rfl (.inl rfl) (by decide)) (ma_cons (me_var rfl (.inl rfl) (by decide)) ma_nil))) (ma_cons (me_call (d_law_odd_lot Z hD) hr (by decide) px rfl (ma_cons (me_var rfl (.inl rfl) (by decide)) (ma_cons (me_var rfl (.inl rfl) (by decide)) ma_nil))) ma_nil)))) (mg_tup rfl (mgs_cons (mg_name (sc_law_refusals_right).nd rfl (.inr rfl)) (mgs_cons (mg_name (sc_law_refusals_right).nd rfl (.inr rfl)) (mgs_cons (mg_name (sc_law_refusals_right).nd rfl (.inr rfl)) mgs_nil))))) (mss_cons (ms_setF (sc_law_refusals_right).nd rfl (.inl rfl) (mf_lst (ma_cons (me_tup (ma_cons (me_lam (n := 0) (L := lamL0) TB hcode rfl hTm hTu rfl (LamX.lamS_by (by rfl)) (congrFun hD.lams 0) (at_cl hDf rfl rfl)) (ma_cons (me_tup (ma_cons me_str (ma_cons me_str (ma_cons (me_var rfl (.inr (.inl rfl)) (by decide)) ma_nil)))) ma_nil))) ma_nil))) (mss_cons (ms_append rfl (.inl rfl) (by decide) (me_tup (ma_cons (me_lam (n := 1) (L := lamL1) TB hcode rfl hTm hTu rfl (LamX.lamS_by (by rfl)) (congrFun hD.lams 1) (at_cl hDf rfl rfl)) (ma_cons (me_tup (ma_cons me_str (ma_cons me_str (ma_cons (me_var rfl (.inr (.inl rfl)) (by decide)) ma_nil)))) ma_nil)))) (mss_cons (ms_append rfl (.inl rfl) (by decide) (me_tup (ma_cons (me_lam (n := 2) (L := lamL2) TB hcode rfl hTm hTu rfl (LamX.lamS_by (by rfl)) (congrFun hD.lams 2) (at_cl hDf rfl rfl)) (ma_cons (me_tup (ma_cons me_str (ma_cons me_str (ma_cons (me_var rfl (.inr (.inl rfl)) (by decide)) ma_nil)))) ma_nil)))) (mss_cons (ms_append rfl (.inl rfl) (by decide) (me_tup (ma_cons (me_lam (n := 3) (L := lamL3) TB hcode rfl hTm hTu rfl (LamX.lamS_by (by rfl)) (congrFun hD.lams 3) (at_cl hDf rfl rfl)) (ma_cons (me_tup (ma_cons me_str (ma_cons me_str (ma_cons (me_var rfl (.inr (.inl rfl)) (by decide)) ma_nil)))) ma_nil)))) (mss_cons (ms_append rfl (.inl rfl) (by decide) (me_tup (ma_cons (me_lam (n := 4) (L := lamL4) TB hcode rfl hTm hTu rfl (LamX.lamS_by (by rfl)) (congrFun hD.lams 4) (at_cl hDf rfl rfl)) (ma_cons (me_tup (ma_cons me_str (ma_cons me_str (ma_cons (me_var rfl (.inr (.inl rfl)) (by decide)) ma_nil)))) ma_nil)))) (mss_cons (ms_append rfl (.inl rfl) (by decide) (me_tup (ma_cons (me_lam (n := 5) (L := lamL5) TB hcode rfl hTm hTu rfl (LamX.lamS_by (by rfl)) (congrFun hD.lams 5) (at_cl hDf rfl rfl)) (ma_cons (me_tup (ma_cons me_str (ma_cons me_str (ma_cons (me_var rfl (.inr (.inl rfl)) (by decide)) ma_nil)))) ma_nil)))) (mss_cons (ms_append rfl (.inl rfl) (by decide) (me_tup (ma_cons (me_lam (n := 6) (L := lamL6) TB hcode rfl hTm hTu rfl (LamX.lamS_by (by rfl)) (congrFun hD.lams 6) (at_cl hDf rfl rfl)) (ma_cons (me_tup (ma_cons me_str (ma_cons me_str (ma_cons (me_var rfl (.inr (.inl rfl)) (by decide)) ma_nil)))) ma_nil)))) (mss_cons (ms_append rfl (.inl rfl) (by decide) (me_tup (ma_cons (me_lam (n := 7) (L := lamL7) TB hcode rfl hTm hTu rfl (LamX.lamS_by (by rfl)) (congrFun hD.lams 7) (at_cl hDf rfl rfl)) (ma_cons (me_tup (ma_cons me_str (ma_cons me_str (ma_cons (me_var rfl (.inr (.inl rfl)) (by decide)) ma_nil)))) ma_nil)))) (mss_cons (ms_append rfl (.inl rfl) (by decide) (me_tup (ma_cons (me_lam (n := 8) (L := lamL8) TB hcode rfl hTm hTu rfl (LamX.lamS_by (by rfl)) (congrFun hD.lams 8) (at_cl hDf rfl rfl)) (ma_cons (me_tup (ma_cons me_str (ma_cons me_str (ma_cons (me_var rfl (.inr (.inl rfl)) (by decide)) ma_nil)))) ma_nil)))) (mss_cons (ms_append rfl (.inl rfl) (by decide) (me_tup (ma_cons (me_lam (n := 9) (L := lamL9) TB hcode rfl hTm hTu rfl (LamX.lamS_by (by rfl)) (congrFun hD.lams 9) (at_cl hDf rfl rfl)) (ma_cons (me_tup (ma_cons me_str (ma_cons me_str (ma_cons (me_tup ma_nil) ma_nil)))) ma_nil)))) (mss_one (ms_pre [3] (ms_ret (me_callL (d_law_raise_so Z (hD.same (Dcl.outS _)) (fun _ => rfl)) hG hD.xc hr (by decide) (fun _ => rfl) (SF (by decide)) rfl (ma_cons (me_var rfl (.inl rfl) (by decide)) ma_nil))))))))))))))))

def m_law : MS' := (seqM (forS (itOn range1A (consM (cM (.int 5)) nilM)) (tgN 2) (seqM (setM 3 (op2 addA (cM (.int 1)) (callM 2 m_law_draw (consM (vM 1) (consM (cM (.int 8)) nilM))))) (seqM (setM 4 (callM 2 m_law_drawn_lots (consM (vM 1) (consM (vM 3) nilM)))) (seqM (asgM (tgT 2 (tgCons (tgN 5) (tgCons (tgN 6) tgNil))) (onA mkTup (consM (callM 1 m_law_made (consM (vM 4) nilM)) (consM (callM 1 m_law_heights (consM (vM 4) nilM)) nilM)))) (seqM (iteM (notT (truM (callM 2 (m_law_is 8) (consM (onA tupA (consM (lcM (itOn range1A (consM (vM 3) nilM)) (tgN 17) yesM (callM 2 m_level_of (consM (vM 5) (consM (vM 17) nilM))) [16, 17]) nilM)) (consM (onA tupA (consM (vM 6) nilM)) nilM))))) (retM (cM (.bl false))) nxM) (seqM (forS (itSeq (callM 1 m_law_pairs (consM (vM 3) nilM))) (tgT 2 (tgCons (tgN 7) (tgCons (tgN 8) tgNil))) (seqM (iteM (notT (truM (callM 2 (m_law_is 8) (consM (onA mkTup (consM (callM 3 m_is_ahead (consM (vM 5) (consM (vM 7) (consM (vM 8) nilM)))) (consM (callM 3 m_is_ahead (consM (vM 5) (consM (vM 8) (consM (vM 7) nilM)))) nilM))) (consM (onA mkTup (consM (op2 ltA (op2 ixA (vM 6) (vM 7)) (op2 ixA (vM 6) (vM 8))) (consM (op2 ltA (op2 ixA (vM 6) (vM 8)) (op2 ixA (vM 6) (vM 7))) nilM))) nilM))))) (retM (cM (.bl false))) nxM) nxM)) (seqM (forS (itOn range1A (consM (cM (.int 5)) nilM)) (tgN 9) (seqM (setM 10 (callM 2 m_law_drawn_saying (consM (vM 1) (consM (vM 3) nilM)))) (seqM (parM 11 12 (consM (callM 2 m_law_pick (consM (vM 1) (consM (onA mkLst (consM (vM 10) (consM (onA lstA (consM (vM 10) nilM)) nilM))) nilM))) (consM (callM 2 m_law_first (consM (vM 4) (consM (vM 10) nilM))) nilM))) (seqM (iteM (notT (truM (callM 2 (m_law_is 8) (consM (callM 2 m_first_ones (consM (vM 5) (consM (vM 11) nilM))) (consM (vM 12) nilM))))) (retM (cM (.bl false))) nxM) (seqM (setM 13 (onA tupA (consM (lcM (itSeq (vM 10)) (tgN 17) (tstM (op2 gtA (callM 2 m_law_draw (consM (vM 1) (consM (cM (.int 3)) nilM))) (cM (.int 0)))) (vM 17) [16, 17]) nilM))) (seqM (iteM (tstM (op2 neA (lcM (itSeq (vM 12)) (tgN 17) (andT (tstM (op2 inA (vM 17) (vM 13))) (tstM (op2 notInA (vM 17) (callM 2 m_first_ones (consM (vM 5) (consM (vM 13) nilM)))))) (vM 17) [16, 17]) (onA mkLst nilM))) (retM (cM (.bl false))) nxM) (seqM (iteM (andT (tstM (op2 neA (vM 10) (onA mkTup nilM))) (notT (truM (callM 2 (m_law_is 8) (consM (callM 1 m_law_plain (consM (callM 2 m_narrowed_levels (consM (vM 5) (consM (vM 11) nilM))) nilM)) (consM (callM 1 m_law_lots_of (consM (lcM (itSeq (vM 10)) (tgN 17) yesM (op2 ixA (vM 6) (vM 17)) [16, 17]) nilM)) nilM)))))) (retM (cM (.bl false))) nxM) nxM))))))) (seqM (setM 14 (callM 2 m_law_drawn_lots (consM (vM 1) (consM (vM 3) nilM)))) (seqM (setM 15 (op2 eqA (lcM (itSeq (callM 1 m_law_pairs (consM (vM 3) nilM))) (tgN 18) (tstM (op2 neA (callM 2 m_first_ones (consM (vM 5) (consM (vM 18) nilM))) (callM 2 m_law_first (consM (vM 14) (consM (vM 18) nilM))))) (vM 18) [16, 18]) (onA mkLst nilM))) (seqM (iteM (orT (tstM (op2 neA (vM 15) (op2 eqA (vM 4) (vM 14)))) (orT (tstM (op2 neA (callM 2 m_first_ones (consM (vM 5) (consM (onA mkTup nilM) nilM))) (onA mkTup nilM))) (tstM (op2 neA (callM 2 m_first_ones (consM (vM 5) (consM (tupRg (rg1M (vM 3))) nilM))) (op2 ixA (vM 4) (cM (.int 0))))))) (retM (cM (.bl false))) nxM) (seqM (iteM (notT (truM (callM 3 m_law_refusals_right (consM (vM 1) (consM (vM 5) (consM (vM 3) nilM)))))) (retM (cM (.bl false))) nxM) nxM))))))))))) (retM (cM (.bl true))))
def Dc0 (mg : Str → Option Value) (T : List (Addr × Str)) (π κ : Addr) : Dcl := { π := π, κ := κ, T := T, cls := clsOf namesT mg, flds := fldsOf fldsTab, fns := fun _ => none, lams := lamsT, cl := fun _ => none, xc := none }
theorem Dc0_df {π κ : Addr} : DF mg T (Dc0 mg T π κ) := ⟨rfl, rfl, rfl, rfl, rfl⟩
def Dc (mg : Str → Option Value) (T : List (Addr × Str)) (π κ : Addr) (cells : List (Str × Addr)) : Dcl := Dc0 mg T π κ
theorem Dc_df {π κ : Addr} {cells : List (Str × Addr)} : DF mg T (Dc mg T π κ cells) := ⟨rfl, rfl, rfl, rfl, rfl⟩
theorem d_law (Z : Fx P w K mg base) (Y : Tx K mg base T) {f : Addr} {fd : FuncData} (h1 : mg "law" = some (.ref f)) (h2 : L2.Fun K "law" "law" s_law f fd) : FnG P w K mg base (L2.CX P w) 13 f fd ["script"] (spLaw K T 19 1 m_law) := by
  obtain ⟨fp, fdp, psp, p1, p2, p3, p4⟩ := (d_law_pen Z).ex
  refine mk_law (own' := []) (k := 12) (ip := 1) (Dc := Dc mg T) h2 sc_law rfl rfl (by decide) (by decide) (fun _ _ _ => ⟨rfl, rfl, rfl, rfl⟩) (fun cdv A outer s H E hr => ?_) fun cdv A outer s H E π κ hcode hcd hr hG => ?_
  · exact ps_set sc_law.nd rfl (.inr rfl) (pe_call p4 (Room.mono hr (by decide)) rfl p1 p2 p3 .nil passF (pa_cons (pe_var rfl (.inl rfl) (by decide) (by decide)) pa_nil))
  · have hD : DF mg T (Dc mg T π κ (cellsFrom (s.heap.objs.size + 1) (defScope s_law).names [])) := Dc_df
    have hDf : DF mg T (Dc0 mg T π κ) := Dc0_df
    exact (mss_cons (ms_for pown rfl (mi_range1 rfl Z.z_range (ma_cons me_int ma_nil)) (mg_name (sc_law).nd rfl (.inl rfl)) (mss_cons (ms_set (sc_law).nd rfl (.inl rfl) (me_add me_int (me_call (d_law_draw Z hD) hr (by decide) px rfl (ma_cons (me_var rfl (.inr (.inl rfl)) (by decide)) (ma_cons me_int ma_nil))))) (mss_cons (ms_set (sc_law).nd rfl (.inl rfl) (me_call (d_law_drawn_lots Z hD) hr (by decide) px rfl (ma_cons (me_var rfl (.inr (.inl rfl)) (by decide)) (ma_cons (me_var rfl (.inl rfl) (by decide)) ma_nil)))) (mss_cons (ms_asg (me_tup (ma_cons (me_call (d_law_made Z hD) hr (by decide) px rfl (ma_cons (me_var rfl (.inl rfl) (by decide)) ma_nil)) (ma_cons (me_call (d_law_heights Z hD) hr (by decide) px rfl (ma_cons (me_var rfl (.inl rfl) (by decide)) ma_nil)) ma_nil))) (mg_tup rfl (mgs_cons (mg_name (sc_law).nd rfl (.inr rfl)) (mgs_cons (mg_name (sc_law).nd rfl (.inr rfl)) mgs_nil)))) (mss_cons (ms_if (mt_not (mt_val (me_call (d_law_is Z hD 8) hr (by decide) px rfl (ma_cons (me_callTy call_tuple_of fnm_tuple rfl Z.z_tuple bt_tuple (ma_cons (me_lc (is := [17]) (ow := [(".0", 16), ("world", 17)]) (by decide) rfl (sc_law).nd (mi_range1 rfl Z.z_range (ma_cons (me_var rfl (.inl rfl) (by decide)) ma_nil)) (blkOk_by (by rfl)) (fun _ _ _ _ _ => (mg_name (sc_law).nd rfl (.inl rfl))) (fun _ _ _ _ _ => mts_nil) (fun _ _ _ _ _ => (me_call (d_level_of Z hD) hr (by decide) L2.passL rfl (ma_cons (me_var rfl (.inr (.inl rfl)) (by decide)) (ma_cons (me_var rfl (.inl rfl) (by decide)) ma_nil)))) (fun _ => rfl)) ma_nil)) (ma_cons (me_callTy call_tuple_of fnm_tuple rfl Z.z_tuple bt_tuple (ma_cons (me_var rfl (.inr (.inl rfl)) (by decide)) ma_nil)) ma_nil))) (fun _ => rfl))) (mss_one (ms_ret me_bl)) mss_nil) (mss_cons (ms_for pown rfl (mi_seq (me_call (d_law_pairs Z hD) hr (by decide) px rfl (ma_cons (me_var rfl (.inl rfl) (by decide)) ma_nil))) (mg_tup rfl (mgs_cons (mg_name (sc_law).nd rfl (.inl rfl)) (mgs_cons (mg_name (sc_law).nd rfl (.inl rfl)) mgs_nil))) (mss_cons (ms_if (mt_not (mt_val (me_call (d_law_is Z hD 8) hr (by decide) px rfl (ma_cons (me_tup (ma_cons (me_call (d_is_ahead Z hD) hr (by decide) px rfl (ma_cons (me_var rfl (.inr (.inl rfl)) (by decide)) (ma_cons (me_var rfl (.inl rfl) (by decide)) (ma_cons (me_var rfl (.inl rfl) (by decide)) ma_nil)))) (ma_cons (me_call (d_is_ahead Z hD) hr (by decide) px rfl (ma_cons (me_var rfl (.inr (.inl rfl)) (by decide)) (ma_cons (me_var rfl (.inl rfl) (by decide)) (ma_cons (me_var rfl (.inl rfl) (by decide)) ma_nil)))) ma_nil))) (ma_cons (me_tup (ma_cons (me_lt (hu65 hr) (me_ix (me_var rfl (.inr (.inl rfl)) (by decide)) (me_var rfl (.inl rfl) (by decide)) (fun _ _ => rfl)) (me_ix (me_var rfl (.inr (.inl rfl)) (by decide)) (me_var rfl (.inl rfl) (by decide)) (fun _ _ => rfl))) (ma_cons (me_lt (hu65 hr) (me_ix (me_var rfl (.inr (.inl rfl)) (by decide)) (me_var rfl (.inl rfl) (by decide)) (fun _ _ => rfl)) (me_ix (me_var rfl (.inr (.inl rfl)) (by decide)) (me_var rfl (.inl rfl) (by decide)) (fun _ _ => rfl))) ma_nil))) ma_nil))) (fun _ => rfl))) (mss_one (ms_ret me_bl)) mss_nil) mss_nil)) (mss_cons (ms_for pown rfl (mi_range1 rfl Z.z_range (ma_cons me_int ma_nil)) (mg_name (sc_law).nd rfl (.inl rfl)) (mss_cons (ms_set (sc_law).nd rfl (.inl rfl) (me_call (d_law_drawn_saying Z hD) hr (by decide) px rfl (ma_cons (me_var rfl (.inr (.inl rfl)) (by decide)) (ma_cons (me_var rfl (.inl rfl) (by decide)) ma_nil)))) (mss_cons (ms_par rfl (sc_law).nd (i := 11) (j := 12) rfl rfl (by decide) rfl rfl (ma_cons (me_call (d_law_pick Z hD) hr (by decide) px rfl (ma_cons (me_var rfl (.inr (.inl rfl)) (by decide)) (ma_cons (me_lst (ma_cons (me_var rfl (.inl rfl) (by decide)) (ma_cons (me_callTy call_list_of fnm_list rfl Z.z_list bt_list (ma_cons (me_var rfl (.inl rfl) (by decide)) ma_nil)) ma_nil))) ma_nil))) (ma_cons (me_call (d_law_first Z hD) hr (by decide) px rfl (ma_cons (me_var rfl (.inl rfl) (by decide)) (ma_cons (me_var rfl (.inl rfl) (by decide)) ma_nil))) ma_nil))) (mss_cons (ms_if (mt_not (mt_val (me_call (d_law_is Z hD 8) hr (by decide) px rfl (ma_cons (me_call (d_first_ones Z hD) hr (by decide) px rfl (ma_cons (me_var rfl (.inr (.inl rfl)) (by decide)) (ma_cons (me_var rfl (.inl rfl) (by decide)) ma_nil))) (ma_cons (me_var rfl (.inl rfl) (by decide)) ma_nil))) (fun _ => rfl))) (mss_one (ms_ret me_bl)) mss_nil) (mss_cons (ms_set (sc_law).nd rfl (.inr rfl) (me_callTy call_tuple_of fnm_tuple rfl Z.z_tuple bt_tuple (ma_cons (me_lc (is := [17]) (ow := [(".0", 16), ("world", 17)]) (by decide) rfl (sc_law).nd (mi_seq (me_var rfl (.inl rfl) (by decide))) (blkOk_by (by rfl)) (fun _ _ _ _ _ => (mg_name (sc_law).nd rfl (.inl rfl))) (fun _ _ _ _ _ => (mts_one (mt_gt (me_call (d_law_draw Z hD) hr (by decide) L2.passL rfl (ma_cons (me_var rfl (.inr (.inl rfl)) (by decide)) (ma_cons me_int ma_nil))) me_int))) (fun _ _ _ _ _ => (me_var rfl (.inl rfl) (by decide))) (fun _ => rfl)) ma_nil))) (mss_cons (ms_if (mt_ne (hu65 hr) (me_lc (is := [17]) (ow := [(".0", 16), ("world", 17)]) (by decide) rfl (sc_law).nd (mi_seq (me_var rfl (.inl rfl) (by decide))) (blkOk_by (by rfl)) (fun _ _ _ _ _ => (mg_name (sc_law).nd rfl (.inl rfl))) (fun _ _ _ _ _ => (mts_one (MW.pt (mw_and (mt_in (hu65 hr) (me_var rfl (.inl rfl) (by decide)) (me_var rfl (.inr (.inl rfl)) (by decide)) rfl) (mw_and1 (mt_notIn (hu65 hr) (me_var rfl (.inl rfl) (by decide)) (me_call (d_first_ones Z hD) hr (by decide) L2.passL rfl (ma_cons (me_var rfl (.inr (.inl rfl)) (by decide)) (ma_cons (me_var rfl (.inr (.inl rfl)) (by decide)) ma_nil))) rfl)))))) (fun _ _ _ _ _ => (me_var rfl (.inl rfl) (by decide))) (fun _ => rfl)) (me_lst ma_nil)) (mss_one (ms_ret me_bl)) mss_nil) (mss_cons (ms_if (MW.pt (mw_and (mt_ne (hu65 hr) (me_var rfl (.inl rfl) (by decide)) (me_tup ma_nil)) (mw_and1 (mt_not (mt_val (me_call (d_law_is Z hD 8) hr (by decide) px rfl (ma_cons (me_call (d_law_plain Z hD) hr (by decide) px rfl (ma_cons (me_call (d_narrowed_levels Z hD) hr (by decide) px rfl (ma_cons (me_var rfl (.inr (.inl rfl)) (by decide)) (ma_cons (me_var rfl (.inl rfl) (by decide)) ma_nil))) ma_nil)) (ma_cons (me_call (d_law_lots_of Z hD) hr (by decide) px rfl (ma_cons (me_lc (is := [17]) (ow := [(".0", 16), ("world", 17)]) (by decide) rfl (sc_law).nd (mi_seq (me_var rfl (.inl rfl) (by decide))) (blkOk_by (by rfl)) (fun _ _ _ _ _ => (mg_name (sc_law).nd rfl (.inl rfl))) (fun _ _ _ _ _ => mts_nil) (fun _ _ _ _ _ => (me_ix (me_var rfl (.inr (.inl rfl)) (by decide)) (me_var rfl (.inl rfl) (by decide)) (fun _ _ => rfl))) (fun _ => rfl)) ma_nil)) ma_nil))) (fun _ => rfl)))))) (mss_one (ms_ret me_bl)) mss_nil) mss_nil))))))) (mss_cons (ms_set (sc_law).nd rfl (.inr rfl) (me_call (d_law_drawn_lots Z hD) hr (by decide) px rfl (ma_cons (me_var rfl (.inr (.inl rfl)) (by decide)) (ma_cons (me_var rfl (.inl rfl) (by decide)) ma_nil)))) (mss_cons (ms_set (sc_law).nd rfl (.inl rfl) (me_eq (hu65 hr) (me_lc (is := [18]) (ow := [(".0", 16), ("pair", 18)]) (by decide) rfl (sc_law).nd (mi_seq (me_call (d_law_pairs Z hD) hr (by decide) px rfl (ma_cons (me_var rfl (.inl rfl) (by decide)) ma_nil))) (blkOk_by (by rfl)) (fun _ _ _ _ _ => (mg_name (sc_law).nd rfl (.inl rfl))) (fun _ _ _ _ _ => (mts_one (mt_ne (hu65 hr) (me_call (d_first_ones Z hD) hr (by decide) L2.passL rfl (ma_cons (me_var rfl (.inr (.inl rfl)) (by decide)) (ma_cons (me_var rfl (.inl rfl) (by decide)) ma_nil))) (me_call (d_law_first Z hD) hr (by decide) L2.passL rfl (ma_cons (me_var rfl (.inr (.inl rfl)) (by decide)) (ma_cons (me_var rfl (.inl rfl) (by decide)) ma_nil)))))) (fun _ _ _ _ _ => (me_var rfl (.inl rfl) (by decide))) (fun _ => rfl)) (me_lst ma_nil))) (mss_cons (ms_if (MW.pt (mw_or (mt_ne (hu65 hr) (me_var rfl (.inl rfl) (by decide)) (me_eq (hu65 hr) (me_var rfl (.inl rfl) (by decide)) (me_var rfl (.inr (.inl rfl)) (by decide)))) (mw_or (mt_ne (hu65 hr) (me_call (d_first_ones Z hD) hr (by decide) px rfl (ma_cons (me_var rfl (.inr (.inl rfl)) (by decide)) (ma_cons (me_tup ma_nil) ma_nil))) (me_tup ma_nil)) (mw_or1 (mt_ne (hu65 hr) (me_call (d_first_ones Z hD) hr (by decide) px rfl (ma_cons (me_var rfl (.inr (.inl rfl)) (by decide)) (ma_cons (me_tupRg rfl rfl Z.z_tuple (mr_1 rfl Z.z_range (me_var rfl (.inl rfl) (by decide)))) ma_nil))) (me_ix (me_var rfl (.inl rfl) (by decide)) me_int (fun _ _ => rfl))))))) (mss_one (ms_ret me_bl)) mss_nil) (mss_cons (ms_if (mt_not (mt_val (me_callG (d_law_refusals_right Z Y hD) hG hr (by decide) px rfl (ma_cons (me_var rfl (.inr (.inl rfl)) (by decide)) (ma_cons (me_var rfl (.inr (.inl rfl)) (by decide)) (ma_cons (me_var rfl (.inl rfl) (by decide)) ma_nil)))) (fun _ => rfl))) (mss_one (ms_ret me_bl)) mss_nil) mss_nil))))))))))) (mss_one (ms_ret me_bl)))

end
theorem mk_Fx {P : Program} {w : World} {K : PySem.W.Frag} {mg : Str → Option Value} {base h : Heap} (KX : K.In h) (G : h.Ns mainGlobals mg)
    {f0 : Addr} {od0 an0 : Option Addr} {sl0 : Array (Option Value)} {oc0 kV0 dc0 pm0 cd0 ct0 : Value}
    {f1 : Addr} {od1 an1 : Option Addr} {sl1 : Array (Option Value)} {oc1 kV1 dc1 pm1 cd1 ct1 : Value}
    {f2 : Addr} {od2 an2 : Option Addr} {sl2 : Array (Option Value)} {oc2 kV2 dc2 pm2 cd2 ct2 : Value}
    {f3 : Addr} {od3 an3 : Option Addr} {sl3 : Array (Option Value)} {oc3 kV3 dc3 pm3 cd3 ct3 : Value}
    {f4 : Addr} {od4 an4 : Option Addr} {sl4 : Array (Option Value)} {oc4 kV4 dc4 pm4 cd4 ct4 : Value}
    {f5 : Addr} {od5 an5 : Option Addr} {sl5 : Array (Option Value)} {oc5 kV5 dc5 pm5 cd5 ct5 : Value}
    {f6 : Addr} {od6 an6 : Option Addr} {sl6 : Array (Option Value)} {oc6 kV6 dc6 pm6 cd6 ct6 : Value}
    {f7 : Addr} {od7 an7 : Option Addr} {sl7 : Array (Option Value)} {oc7 kV7 dc7 pm7 cd7 ct7 : Value}
    {f8 : Addr} {od8 an8 : Option Addr} {sl8 : Array (Option Value)} {oc8 kV8 dc8 pm8 cd8 ct8 : Value}
    {f9 : Addr} {od9 an9 : Option Addr} {sl9 : Array (Option Value)} {oc9 kV9 dc9 pm9 cd9 ct9 : Value}
    {f11 : Addr} {od11 an11 : Option Addr} {sl11 : Array (Option Value)} {oc11 kV11 dc11 pm11 cd11 ct11 : Value}
    {f12 : Addr} {od12 an12 : Option Addr} {sl12 : Array (Option Value)} {oc12 kV12 dc12 pm12 cd12 ct12 : Value}
    {f13 : Addr} {od13 an13 : Option Addr} {sl13 : Array (Option Value)} {oc13 kV13 dc13 pm13 cd13 ct13 : Value}
    {f14 : Addr} {od14 an14 : Option Addr} {sl14 : Array (Option Value)} {oc14 kV14 dc14 pm14 cd14 ct14 : Value}
    {f15 : Addr} {od15 an15 : Option Addr} {sl15 : Array (Option Value)} {oc15 kV15 dc15 pm15 cd15 ct15 : Value}
    {f16 : Addr} {od16 an16 : Option Addr} {sl16 : Array (Option Value)} {oc16 kV16 dc16 pm16 cd16 ct16 : Value}
    {f17 : Addr} {od17 an17 : Option Addr} {sl17 : Array (Option Value)} {oc17 kV17 dc17 pm17 cd17 ct17 : Value}
    {f18 : Addr} {od18 an18 : Option Addr} {sl18 : Array (Option Value)} {oc18 kV18 dc18 pm18 cd18 ct18 : Value}
    {f19 : Addr} {od19 an19 : Option Addr} {sl19 : Array (Option Value)} {oc19 kV19 dc19 pm19 cd19 ct19 : Value}
    {f20 : Addr} {od20 an20 : Option Addr} {sl20 : Array (Option Value)} {oc20 kV20 dc20 pm20 cd20 ct20 : Value}
    {f21 : Addr} {od21 an21 : Option Addr} {sl21 : Array (Option Value)} {oc21 kV21 dc21 pm21 cd21 ct21 : Value}
    {f22 : Addr} {od22 an22 : Option Addr} {sl22 : Array (Option Value)} {oc22 kV22 dc22 pm22 cd22 ct22 : Value}
    {f23 : Addr} {od23 an23 : Option Addr} {sl23 : Array (Option Value)} {oc23 kV23 dc23 pm23 cd23 ct23 : Value}
    {f24 : Addr} {od24 an24 : Option Addr} {sl24 : Array (Option Value)} {oc24 kV24 dc24 pm24 cd24 ct24 : Value}
    {f25 : Addr} {od25 an25 : Option Addr} {sl25 : Array (Option Value)} {oc25 kV25 dc25 pm25 cd25 ct25 : Value}
    {f26 : Addr} {od26 an26 : Option Addr} {sl26 : Array (Option Value)} {oc26 kV26 dc26 pm26 cd26 ct26 : Value}
    {f27 : Addr} {od27 an27 : Option Addr} {sl27 : Array (Option Value)} {oc27 kV27 dc27 pm27 cd27 ct27 : Value}
    {f28 : Addr} {od28 an28 : Option Addr} {sl28 : Array (Option Value)} {oc28 kV28 dc28 pm28 cd28 ct28 : Value}
    {f29 : Addr} {od29 an29 : Option Addr} {sl29 : Array (Option Value)} {oc29 kV29 dc29 pm29 cd29 ct29 : Value}
    {f30 : Addr} {od30 an30 : Option Addr} {sl30 : Array (Option Value)} {oc30 kV30 dc30 pm30 cd30 ct30 : Value}
    {f31 : Addr} {od31 an31 : Option Addr} {sl31 : Array (Option Value)} {oc31 kV31 dc31 pm31 cd31 ct31 : Value}
    {f32 : Addr} {od32 an32 : Option Addr} {sl32 : Array (Option Value)} {oc32 kV32 dc32 pm32 cd32 ct32 : Value}
    {f33 : Addr} {od33 an33 : Option Addr} {sl33 : Array (Option Value)} {oc33 kV33 dc33 pm33 cd33 ct33 : Value}
    {f34 : Addr} {od34 an34 : Option Addr} {sl34 : Array (Option Value)} {oc34 kV34 dc34 pm34 cd34 ct34 : Value}
    {f35 : Addr} {od35 an35 : Option Addr} {sl35 : Array (Option Value)} {oc35 kV35 dc35 pm35 cd35 ct35 : Value}
    {t_MOST_WORLDS : Tok}
    {CM : Addr}
    {C0 fi0 N0 : Addr} {nm0 qn0 : Str} {bs0 bm0 sub0 : List Value} {sn0 : List Str} {ab0 : Bool} {col0 : Option Bool} {dd0 : Option Addr} {k00_ k10_ k20_ k30_ k50_ : Option Value} {eod0 ean0 : Option Addr} {esl0 : Array (Option Value)} {eoc0 ekV0 edc0 epm0 ecd0 ect0 : Value}
    {C1 fi1 N1 : Addr} {nm1 qn1 : Str} {bs1 bm1 sub1 : List Value} {sn1 : List Str} {ab1 : Bool} {col1 : Option Bool} {dd1 : Option Addr} {k01_ k11_ k21_ k31_ k51_ : Option Value} {eod1 ean1 : Option Addr} {esl1 : Array (Option Value)} {eoc1 ekV1 edc1 epm1 ecd1 ect1 : Value}
    {C2 fi2 N2 : Addr} {nm2 qn2 : Str} {bs2 bm2 sub2 : List Value} {sn2 : List Str} {ab2 : Bool} {col2 : Option Bool} {dd2 : Option Addr} {k02_ k12_ k22_ k32_ k52_ : Option Value} {eod2 ean2 : Option Addr} {esl2 : Array (Option Value)} {eoc2 ekV2 edc2 epm2 ecd2 ect2 : Value}
    {C3 fi3 N3 : Addr} {nm3 qn3 : Str} {bs3 bm3 sub3 : List Value} {sn3 : List Str} {ab3 : Bool} {col3 : Option Bool} {dd3 : Option Addr} {k03_ k13_ k23_ k33_ k53_ : Option Value} {eod3 ean3 : Option Addr} {esl3 : Array (Option Value)} {eoc3 ekV3 edc3 epm3 ecd3 ect3 : Value}
    {C4 fi4 N4 : Addr} {nm4 qn4 : Str} {bs4 bm4 sub4 : List Value} {sn4 : List Str} {ab4 : Bool} {col4 : Option Bool} {dd4 : Option Addr} {k04_ k14_ k24_ k34_ k54_ : Option Value} {eod4 ean4 : Option Addr} {esl4 : Array (Option Value)} {eoc4 ekV4 edc4 epm4 ecd4 ect4 : Value}
    {C5 fi5 N5 : Addr} {nm5 qn5 : Str} {bs5 bm5 sub5 : List Value} {sn5 : List Str} {ab5 : Bool} {col5 : Option Bool} {dd5 : Option Addr} {k05_ k15_ k25_ k35_ k55_ : Option Value} {eod5 ean5 : Option Addr} {esl5 : Array (Option Value)} {eoc5 ekV5 edc5 epm5 ecd5 ect5 : Value}
    {C6 fi6 N6 : Addr} {nm6 qn6 : Str} {bs6 bm6 sub6 : List Value} {sn6 : List Str} {ab6 : Bool} {col6 : Option Bool} {dd6 : Option Addr} {k06_ k16_ k26_ k36_ k56_ : Option Value} {eod6 ean6 : Option Addr} {esl6 : Array (Option Value)} {eoc6 ekV6 edc6 epm6 ecd6 ect6 : Value}
    {C7 fi7 N7 : Addr} {nm7 qn7 : Str} {bs7 bm7 sub7 : List Value} {sn7 : List Str} {ab7 : Bool} {col7 : Option Bool} {dd7 : Option Addr} {k07_ k17_ k27_ k37_ k57_ : Option Value} {eod7 ean7 : Option Addr} {esl7 : Array (Option Value)} {eoc7 ekV7 edc7 epm7 ecd7 ect7 : Value}
    {J0 fj0 : Addr} {jod0 jan0 : Option Addr} {jsl0 : Array (Option Value)} {joc0 jkV0 jdc0 jpm0 jcd0 jct0 : Value}
    (a0 : PySem.W.nsIn K mainGlobals "_law_pen" = some (some (.ref f0)))
    (l0 : K.lookup f0 = some ⟨oc0, od0, .func (PySem.W.fnOf "_law_pen" "_law_pen" (defArgs s_law_pen) (defBody s_law_pen) (defScope s_law_pen) .none kV0 dc0 pm0 an0 cd0 ct0), sl0⟩)
    (c0 : PySem.W.codeIn K cd0 "_law_pen" = true)
    (k0 : PySem.W.keepIn K (.ref f0) = true)
    (a1 : PySem.W.nsIn K mainGlobals "_law_draw" = some (some (.ref f1)))
    (l1 : K.lookup f1 = some ⟨oc1, od1, .func (PySem.W.fnOf "_law_draw" "_law_draw" (defArgs s_law_draw) (defBody s_law_draw) (defScope s_law_draw) .none kV1 dc1 pm1 an1 cd1 ct1), sl1⟩)
    (c1 : PySem.W.codeIn K cd1 "_law_draw" = true)
    (k1 : PySem.W.keepIn K (.ref f1) = true)
    (a2 : PySem.W.nsIn K mainGlobals "_law_pick" = some (some (.ref f2)))
    (l2 : K.lookup f2 = some ⟨oc2, od2, .func (PySem.W.fnOf "_law_pick" "_law_pick" (defArgs s_law_pick) (defBody s_law_pick) (defScope s_law_pick) .none kV2 dc2 pm2 an2 cd2 ct2), sl2⟩)
    (c2 : PySem.W.codeIn K cd2 "_law_pick" = true)
    (k2 : PySem.W.keepIn K (.ref f2) = true)
    (a3 : PySem.W.nsIn K mainGlobals "_law_unlike" = some (some (.ref f3)))
    (l3 : K.lookup f3 = some ⟨oc3, od3, .func (PySem.W.fnOf "_law_unlike" "_law_unlike" (defArgs s_law_unlike) (defBody s_law_unlike) (defScope s_law_unlike) .none kV3 dc3 pm3 an3 cd3 ct3), sl3⟩)
    (c3 : PySem.W.codeIn K cd3 "_law_unlike" = true)
    (k3 : PySem.W.keepIn K (.ref f3) = true)
    (a4 : PySem.W.nsIn K mainGlobals "_law_lots_of" = some (some (.ref f4)))
    (l4 : K.lookup f4 = some ⟨oc4, od4, .func (PySem.W.fnOf "_law_lots_of" "_law_lots_of" (defArgs s_law_lots_of) (defBody s_law_lots_of) (defScope s_law_lots_of) .none kV4 dc4 pm4 an4 cd4 ct4), sl4⟩)
    (c4 : PySem.W.codeIn K cd4 "_law_lots_of" = true)
    (k4 : PySem.W.keepIn K (.ref f4) = true)
    (a5 : PySem.W.nsIn K mainGlobals "_law_drawn_lots" = some (some (.ref f5)))
    (l5 : K.lookup f5 = some ⟨oc5, od5, .func (PySem.W.fnOf "_law_drawn_lots" "_law_drawn_lots" (defArgs s_law_drawn_lots) (defBody s_law_drawn_lots) (defScope s_law_drawn_lots) .none kV5 dc5 pm5 an5 cd5 ct5), sl5⟩)
    (c5 : PySem.W.codeIn K cd5 "_law_drawn_lots" = true)
    (k5 : PySem.W.keepIn K (.ref f5) = true)
    (a6 : PySem.W.nsIn K mainGlobals "is_whole" = some (some (.ref f6)))
    (l6 : K.lookup f6 = some ⟨oc6, od6, .func (PySem.W.fnOf "is_whole" "is_whole" (defArgs s_is_whole) (defBody s_is_whole) (defScope s_is_whole) .none kV6 dc6 pm6 an6 cd6 ct6), sl6⟩)
    (c6 : PySem.W.codeIn K cd6 "is_whole" = true)
    (k6 : PySem.W.keepIn K (.ref f6) = true)
    (a7 : PySem.W.nsIn K mainGlobals "is_index" = some (some (.ref f7)))
    (l7 : K.lookup f7 = some ⟨oc7, od7, .func (PySem.W.fnOf "is_index" "is_index" (defArgs s_is_index) (defBody s_is_index) (defScope s_is_index) .none kV7 dc7 pm7 an7 cd7 ct7), sl7⟩)
    (c7 : PySem.W.codeIn K cd7 "is_index" = true)
    (k7 : PySem.W.keepIn K (.ref f7) = true)
    (a8 : PySem.W.nsIn K mainGlobals "is_lot" = some (some (.ref f8)))
    (l8 : K.lookup f8 = some ⟨oc8, od8, .func (PySem.W.fnOf "is_lot" "is_lot" (defArgs s_is_lot) (defBody s_is_lot) (defScope s_is_lot) .none kV8 dc8 pm8 an8 cd8 ct8), sl8⟩)
    (c8 : PySem.W.codeIn K cd8 "is_lot" = true)
    (k8 : PySem.W.keepIn K (.ref f8) = true)
    (a9 : PySem.W.nsIn K mainGlobals "are_levels" = some (some (.ref f9)))
    (l9 : K.lookup f9 = some ⟨oc9, od9, .func (PySem.W.fnOf "are_levels" "are_levels" (defArgs s_are_levels) (defBody s_are_levels) (defScope s_are_levels) .none kV9 dc9 pm9 an9 cd9 ct9), sl9⟩)
    (c9 : PySem.W.codeIn K cd9 "are_levels" = true)
    (k9 : PySem.W.keepIn K (.ref f9) = true)
    (a11 : PySem.W.nsIn K mainGlobals "_law_made" = some (some (.ref f11)))
    (l11 : K.lookup f11 = some ⟨oc11, od11, .func (PySem.W.fnOf "_law_made" "_law_made" (defArgs s_law_made) (defBody s_law_made) (defScope s_law_made) .none kV11 dc11 pm11 an11 cd11 ct11), sl11⟩)
    (c11 : PySem.W.codeIn K cd11 "_law_made" = true)
    (k11 : PySem.W.keepIn K (.ref f11) = true)
    (a12 : PySem.W.nsIn K mainGlobals "_law_heights" = some (some (.ref f12)))
    (l12 : K.lookup f12 = some ⟨oc12, od12, .func (PySem.W.fnOf "_law_heights" "_law_heights" (defArgs s_law_heights) (defBody s_law_heights) (defScope s_law_heights) .none kV12 dc12 pm12 an12 cd12 ct12), sl12⟩)
    (c12 : PySem.W.codeIn K cd12 "_law_heights" = true)
    (k12 : PySem.W.keepIn K (.ref f12) = true)
    (a13 : PySem.W.nsIn K mainGlobals "_law_is" = some (some (.ref f13)))
    (l13 : K.lookup f13 = some ⟨oc13, od13, .func (PySem.W.fnOf "_law_is" "_law_is" (defArgs s_law_is) (defBody s_law_is) (defScope s_law_is) .none kV13 dc13 pm13 an13 cd13 ct13), sl13⟩)
    (c13 : PySem.W.codeIn K cd13 "_law_is" = true)
    (k13 : PySem.W.keepIn K (.ref f13) = true)
    (a14 : PySem.W.nsIn K mainGlobals "need_levels" = some (some (.ref f14)))
    (l14 : K.lookup f14 = some ⟨oc14, od14, .func (PySem.W.fnOf "need_levels" "need_levels" (defArgs s_need_levels) (defBody s_need_levels) (defScope s_need_levels) .none kV14 dc14 pm14 an14 cd14 ct14), sl14⟩)
    (c14 : PySem.W.codeIn K cd14 "need_levels" = true)
    (k14 : PySem.W.keepIn K (.ref f14) = true)
    (a15 : PySem.W.nsIn K mainGlobals "many_of" = some (some (.ref f15)))
    (l15 : K.lookup f15 = some ⟨oc15, od15, .func (PySem.W.fnOf "many_of" "many_of" (defArgs s_many_of) (defBody s_many_of) (defScope s_many_of) .none kV15 dc15 pm15 an15 cd15 ct15), sl15⟩)
    (c15 : PySem.W.codeIn K cd15 "many_of" = true)
    (k15 : PySem.W.keepIn K (.ref f15) = true)
    (a16 : PySem.W.nsIn K mainGlobals "need_world" = some (some (.ref f16)))
    (l16 : K.lookup f16 = some ⟨oc16, od16, .func (PySem.W.fnOf "need_world" "need_world" (defArgs s_need_world) (defBody s_need_world) (defScope s_need_world) .none kV16 dc16 pm16 an16 cd16 ct16), sl16⟩)
    (c16 : PySem.W.codeIn K cd16 "need_world" = true)
    (k16 : PySem.W.keepIn K (.ref f16) = true)
    (a17 : PySem.W.nsIn K mainGlobals "heights_by" = some (some (.ref f17)))
    (l17 : K.lookup f17 = some ⟨oc17, od17, .func (PySem.W.fnOf "heights_by" "heights_by" (defArgs s_heights_by) (defBody s_heights_by) (defScope s_heights_by) .none kV17 dc17 pm17 an17 cd17 ct17), sl17⟩)
    (c17 : PySem.W.codeIn K cd17 "heights_by" = true)
    (k17 : PySem.W.keepIn K (.ref f17) = true)
    (a18 : PySem.W.nsIn K mainGlobals "level_of" = some (some (.ref f18)))
    (l18 : K.lookup f18 = some ⟨oc18, od18, .func (PySem.W.fnOf "level_of" "level_of" (defArgs s_level_of) (defBody s_level_of) (defScope s_level_of) .none kV18 dc18 pm18 an18 cd18 ct18), sl18⟩)
    (c18 : PySem.W.codeIn K cd18 "level_of" = true)
    (k18 : PySem.W.keepIn K (.ref f18) = true)
    (a19 : PySem.W.nsIn K mainGlobals "_law_pairs" = some (some (.ref f19)))
    (l19 : K.lookup f19 = some ⟨oc19, od19, .func (PySem.W.fnOf "_law_pairs" "_law_pairs" (defArgs s_law_pairs) (defBody s_law_pairs) (defScope s_law_pairs) .none kV19 dc19 pm19 an19 cd19 ct19), sl19⟩)
    (c19 : PySem.W.codeIn K cd19 "_law_pairs" = true)
    (k19 : PySem.W.keepIn K (.ref f19) = true)
    (a20 : PySem.W.nsIn K mainGlobals "is_ahead" = some (some (.ref f20)))
    (l20 : K.lookup f20 = some ⟨oc20, od20, .func (PySem.W.fnOf "is_ahead" "is_ahead" (defArgs s_is_ahead) (defBody s_is_ahead) (defScope s_is_ahead) .none kV20 dc20 pm20 an20 cd20 ct20), sl20⟩)
    (c20 : PySem.W.codeIn K cd20 "is_ahead" = true)
    (k20 : PySem.W.keepIn K (.ref f20) = true)
    (a21 : PySem.W.nsIn K mainGlobals "_law_drawn_saying" = some (some (.ref f21)))
    (l21 : K.lookup f21 = some ⟨oc21, od21, .func (PySem.W.fnOf "_law_drawn_saying" "_law_drawn_saying" (defArgs s_law_drawn_saying) (defBody s_law_drawn_saying) (defScope s_law_drawn_saying) .none kV21 dc21 pm21 an21 cd21 ct21), sl21⟩)
    (c21 : PySem.W.codeIn K cd21 "_law_drawn_saying" = true)
    (k21 : PySem.W.keepIn K (.ref f21) = true)
    (a22 : PySem.W.nsIn K mainGlobals "_law_first" = some (some (.ref f22)))
    (l22 : K.lookup f22 = some ⟨oc22, od22, .func (PySem.W.fnOf "_law_first" "_law_first" (defArgs s_law_first) (defBody s_law_first) (defScope s_law_first) .none kV22 dc22 pm22 an22 cd22 ct22), sl22⟩)
    (c22 : PySem.W.codeIn K cd22 "_law_first" = true)
    (k22 : PySem.W.keepIn K (.ref f22) = true)
    (a23 : PySem.W.nsIn K mainGlobals "first_by" = some (some (.ref f23)))
    (l23 : K.lookup f23 = some ⟨oc23, od23, .func (PySem.W.fnOf "first_by" "first_by" (defArgs s_first_by) (defBody s_first_by) (defScope s_first_by) .none kV23 dc23 pm23 an23 cd23 ct23), sl23⟩)
    (c23 : PySem.W.codeIn K cd23 "first_by" = true)
    (k23 : PySem.W.keepIn K (.ref f23) = true)
    (a24 : PySem.W.nsIn K mainGlobals "need_saying" = some (some (.ref f24)))
    (l24 : K.lookup f24 = some ⟨oc24, od24, .func (PySem.W.fnOf "need_saying" "need_saying" (defArgs s_need_saying) (defBody s_need_saying) (defScope s_need_saying) .none kV24 dc24 pm24 an24 cd24 ct24), sl24⟩)
    (c24 : PySem.W.codeIn K cd24 "need_saying" = true)
    (k24 : PySem.W.keepIn K (.ref f24) = true)
    (a25 : PySem.W.nsIn K mainGlobals "first_ones" = some (some (.ref f25)))
    (l25 : K.lookup f25 = some ⟨oc25, od25, .func (PySem.W.fnOf "first_ones" "first_ones" (defArgs s_first_ones) (defBody s_first_ones) (defScope s_first_ones) .none kV25 dc25 pm25 an25 cd25 ct25), sl25⟩)
    (c25 : PySem.W.codeIn K cd25 "first_ones" = true)
    (k25 : PySem.W.keepIn K (.ref f25) = true)
    (a26 : PySem.W.nsIn K mainGlobals "_law_plain" = some (some (.ref f26)))
    (l26 : K.lookup f26 = some ⟨oc26, od26, .func (PySem.W.fnOf "_law_plain" "_law_plain" (defArgs s_law_plain) (defBody s_law_plain) (defScope s_law_plain) .none kV26 dc26 pm26 an26 cd26 ct26), sl26⟩)
    (c26 : PySem.W.codeIn K cd26 "_law_plain" = true)
    (k26 : PySem.W.keepIn K (.ref f26) = true)
    (a27 : PySem.W.nsIn K mainGlobals "levels_from" = some (some (.ref f27)))
    (l27 : K.lookup f27 = some ⟨oc27, od27, .func (PySem.W.fnOf "levels_from" "levels_from" (defArgs s_levels_from) (defBody s_levels_from) (defScope s_levels_from) .none kV27 dc27 pm27 an27 cd27 ct27), sl27⟩)
    (c27 : PySem.W.codeIn K cd27 "levels_from" = true)
    (k27 : PySem.W.keepIn K (.ref f27) = true)
    (a28 : PySem.W.nsIn K mainGlobals "narrowed_levels" = some (some (.ref f28)))
    (l28 : K.lookup f28 = some ⟨oc28, od28, .func (PySem.W.fnOf "narrowed_levels" "narrowed_levels" (defArgs s_narrowed_levels) (defBody s_narrowed_levels) (defScope s_narrowed_levels) .none kV28 dc28 pm28 an28 cd28 ct28), sl28⟩)
    (c28 : PySem.W.codeIn K cd28 "narrowed_levels" = true)
    (k28 : PySem.W.keepIn K (.ref f28) = true)
    (a29 : PySem.W.nsIn K mainGlobals "_law_odd_levels" = some (some (.ref f29)))
    (l29 : K.lookup f29 = some ⟨oc29, od29, .func (PySem.W.fnOf "_law_odd_levels" "_law_odd_levels" (defArgs s_law_odd_levels) (defBody s_law_odd_levels) (defScope s_law_odd_levels) .none kV29 dc29 pm29 an29 cd29 ct29), sl29⟩)
    (c29 : PySem.W.codeIn K cd29 "_law_odd_levels" = true)
    (k29 : PySem.W.keepIn K (.ref f29) = true)
    (a30 : PySem.W.nsIn K mainGlobals "_law_odd_world" = some (some (.ref f30)))
    (l30 : K.lookup f30 = some ⟨oc30, od30, .func (PySem.W.fnOf "_law_odd_world" "_law_odd_world" (defArgs s_law_odd_world) (defBody s_law_odd_world) (defScope s_law_odd_world) .none kV30 dc30 pm30 an30 cd30 ct30), sl30⟩)
    (c30 : PySem.W.codeIn K cd30 "_law_odd_world" = true)
    (k30 : PySem.W.keepIn K (.ref f30) = true)
    (a31 : PySem.W.nsIn K mainGlobals "_law_odd_lot" = some (some (.ref f31)))
    (l31 : K.lookup f31 = some ⟨oc31, od31, .func (PySem.W.fnOf "_law_odd_lot" "_law_odd_lot" (defArgs s_law_odd_lot) (defBody s_law_odd_lot) (defScope s_law_odd_lot) .none kV31 dc31 pm31 an31 cd31 ct31), sl31⟩)
    (c31 : PySem.W.codeIn K cd31 "_law_odd_lot" = true)
    (k31 : PySem.W.keepIn K (.ref f31) = true)
    (a32 : PySem.W.nsIn K mainGlobals "_law_caught" = some (some (.ref f32)))
    (l32 : K.lookup f32 = some ⟨oc32, od32, .func (PySem.W.fnOf "_law_caught" "_law_caught" (defArgs s_law_caught) (defBody s_law_caught) (defScope s_law_caught) .none kV32 dc32 pm32 an32 cd32 ct32), sl32⟩)
    (c32 : PySem.W.codeIn K cd32 "_law_caught" = true)
    (k32 : PySem.W.keepIn K (.ref f32) = true)
    (a33 : PySem.W.nsIn K mainGlobals "_law_raise_so" = some (some (.ref f33)))
    (l33 : K.lookup f33 = some ⟨oc33, od33, .func (PySem.W.fnOf "_law_raise_so" "_law_raise_so" (defArgs s_law_raise_so) (defBody s_law_raise_so) (defScope s_law_raise_so) .none kV33 dc33 pm33 an33 cd33 ct33), sl33⟩)
    (c33 : PySem.W.codeIn K cd33 "_law_raise_so" = true)
    (k33 : PySem.W.keepIn K (.ref f33) = true)
    (a34 : PySem.W.nsIn K mainGlobals "_law_refusals_right" = some (some (.ref f34)))
    (l34 : K.lookup f34 = some ⟨oc34, od34, .func (PySem.W.fnOf "_law_refusals_right" "_law_refusals_right" (defArgs s_law_refusals_right) (defBody s_law_refusals_right) (defScope s_law_refusals_right) .none kV34 dc34 pm34 an34 cd34 ct34), sl34⟩)
    (c34 : PySem.W.codeIn K cd34 "_law_refusals_right" = true)
    (k34 : PySem.W.keepIn K (.ref f34) = true)
    (a35 : PySem.W.nsIn K mainGlobals "law" = some (some (.ref f35)))
    (l35 : K.lookup f35 = some ⟨oc35, od35, .func (PySem.W.fnOf "law" "law" (defArgs s_law) (defBody s_law) (defScope s_law) .none kV35 dc35 pm35 an35 cd35 ct35), sl35⟩)
    (c35 : PySem.W.codeIn K cd35 "law" = true)
    (k35 : PySem.W.keepIn K (.ref f35) = true)
    (z_all : PySem.W.nsIn K mainGlobals "all" = some none)
    (z_bool : PySem.W.nsIn K mainGlobals "bool" = some none)
    (z_enumerate : PySem.W.nsIn K mainGlobals "enumerate" = some none)
    (z_int : PySem.W.nsIn K mainGlobals "int" = some none)
    (z_isinstance : PySem.W.nsIn K mainGlobals "isinstance" = some none)
    (z_len : PySem.W.nsIn K mainGlobals "len" = some none)
    (z_list : PySem.W.nsIn K mainGlobals "list" = some none)
    (z_range : PySem.W.nsIn K mainGlobals "range" = some none)
    (z_repr : PySem.W.nsIn K mainGlobals "repr" = some none)
    (z_sorted : PySem.W.nsIn K mainGlobals "sorted" = some none)
    (z_str : PySem.W.nsIn K mainGlobals "str" = some none)
    (z_sum : PySem.W.nsIn K mainGlobals "sum" = some none)
    (z_tuple : PySem.W.nsIn K mainGlobals "tuple" = some none)
    (k_MOST_WORLDS : PySem.W.nsIn K mainGlobals "MOST_WORLDS" = some (some (.int 8 t_MOST_WORLDS)))
    (m0 : PySem.W.nsIn K mainGlobals "MindError" = some (some (.ref CM)))
    (m1 : PySem.W.specialIn K (.ref CM) "__getattribute__" = some (some (.builtin "type.__getattribute__")))
    (m2 : PySem.W.readsIn K CM (.type "type") = true)
    (m3 : PySem.W.findCls K (.ref CM) (.type "type") "__init__" = some (.val (.builtin "ValueError.__init__")))
    (m4 : PySem.W.subIn K (.ref CM) (.type "BaseException") = some true)
    (m5 : PySem.W.hasDictIn K CM = true)
    (m6 : PySem.W.typeIn K (.ref CM) = some (.type "type"))
    (og : PySem.W.specialIn K (.builtin "object.__class__") "__get__" = some (some (.builtin "getset_descriptor.__get__")))
    (ot : PySem.W.takesIn K (.builtin "object.__class__") = some true)
    (ea0 : PySem.W.nsIn K mainGlobals "BadText" = some (some (.ref C0)))
    (eo0 : K.lookup C0 = some (excClassObj nm0 qn0 C0 N0 bs0 bm0 true sn0 sub0 ab0 col0 dd0 k00_ k10_ k20_ k30_ k50_ "ValueError.__new__"))
    (er0 : PySem.HandSPX.refsVE bm0 = true)
    (es0 : PySem.W.findIn K (.ref C0) "__setattr__" = some (some (.builtin "object.__setattr__")))
    (eb0 : PySem.W.subIn K (.ref C0) (.type "BaseException") = some true)
    (et0 : PySem.W.typeIn K (.ref C0) = some (.type "type"))
    (ek0 : PySem.W.keepIn K (.ref C0) = true)
    (ei0 : PySem.W.findIn K (.ref C0) "__init__" = some (some (.ref fi0)))
    (ej0 : PySem.W.typeIn K (.ref fi0) = some (.type "function"))
    (el0 : K.lookup fi0 = some ⟨eoc0, eod0, .func (PySem.W.fnOf "__init__" "BadText.__init__" (defArgs s_BadText) (defBody s_BadText) (defScope s_BadText) .none ekV0 edc0 epm0 ean0 ecd0 ect0), esl0⟩)
    (ec0 : PySem.W.codeIn K ecd0 "BadText.__init__" = true)
    (ef0 : PySem.W.keepIn K (.ref fi0) = true)
    (eg0 : PySem.W.findIn K (.ref C0) "__getattribute__" = some (some (.builtin "BaseException.__getattribute__")))
    (eh0 : PySem.W.findIn K (.ref C0) "__getattr__" = some none)
    (ed0 : PySem.W.hasDictIn K C0 = true)
    (ex0 : PySem.W.findIn K (.ref C0) "__class__" = some (some (.builtin "object.__class__")))
    (em0 : PySem.W.mroIn K C0 (.type "object") = some true)
    (sm0 : PySem.W.subIn K (.ref C0) (.ref CM) = some true)
    (no0_limit : PySem.W.findIn K (.ref C0) "limit" = some none)
    (no0_line : PySem.W.findIn K (.ref C0) "line" = some none)
    (no0_many : PySem.W.findIn K (.ref C0) "many" = some none)
    (no0_name : PySem.W.findIn K (.ref C0) "name" = some none)
    (no0_number : PySem.W.findIn K (.ref C0) "number" = some none)
    (no0_row : PySem.W.findIn K (.ref C0) "row" = some none)
    (no0_what : PySem.W.findIn K (.ref C0) "what" = some none)
    (no0_word : PySem.W.findIn K (.ref C0) "word" = some none)
    (ea1 : PySem.W.nsIn K mainGlobals "BadName" = some (some (.ref C1)))
    (eo1 : K.lookup C1 = some (excClassObj nm1 qn1 C1 N1 bs1 bm1 true sn1 sub1 ab1 col1 dd1 k01_ k11_ k21_ k31_ k51_ "ValueError.__new__"))
    (er1 : PySem.HandSPX.refsVE bm1 = true)
    (es1 : PySem.W.findIn K (.ref C1) "__setattr__" = some (some (.builtin "object.__setattr__")))
    (eb1 : PySem.W.subIn K (.ref C1) (.type "BaseException") = some true)
    (et1 : PySem.W.typeIn K (.ref C1) = some (.type "type"))
    (ek1 : PySem.W.keepIn K (.ref C1) = true)
    (ei1 : PySem.W.findIn K (.ref C1) "__init__" = some (some (.ref fi1)))
    (ej1 : PySem.W.typeIn K (.ref fi1) = some (.type "function"))
    (el1 : K.lookup fi1 = some ⟨eoc1, eod1, .func (PySem.W.fnOf "__init__" "BadName.__init__" (defArgs s_BadName) (defBody s_BadName) (defScope s_BadName) .none ekV1 edc1 epm1 ean1 ecd1 ect1), esl1⟩)
    (ec1 : PySem.W.codeIn K ecd1 "BadName.__init__" = true)
    (ef1 : PySem.W.keepIn K (.ref fi1) = true)
    (eg1 : PySem.W.findIn K (.ref C1) "__getattribute__" = some (some (.builtin "BaseException.__getattribute__")))
    (eh1 : PySem.W.findIn K (.ref C1) "__getattr__" = some none)
    (ed1 : PySem.W.hasDictIn K C1 = true)
    (ex1 : PySem.W.findIn K (.ref C1) "__class__" = some (some (.builtin "object.__class__")))
    (em1 : PySem.W.mroIn K C1 (.type "object") = some true)
    (sm1 : PySem.W.subIn K (.ref C1) (.ref CM) = some true)
    (no1_limit : PySem.W.findIn K (.ref C1) "limit" = some none)
    (no1_line : PySem.W.findIn K (.ref C1) "line" = some none)
    (no1_many : PySem.W.findIn K (.ref C1) "many" = some none)
    (no1_name : PySem.W.findIn K (.ref C1) "name" = some none)
    (no1_number : PySem.W.findIn K (.ref C1) "number" = some none)
    (no1_row : PySem.W.findIn K (.ref C1) "row" = some none)
    (no1_what : PySem.W.findIn K (.ref C1) "what" = some none)
    (no1_word : PySem.W.findIn K (.ref C1) "word" = some none)
    (ea2 : PySem.W.nsIn K mainGlobals "BadNumber" = some (some (.ref C2)))
    (eo2 : K.lookup C2 = some (excClassObj nm2 qn2 C2 N2 bs2 bm2 true sn2 sub2 ab2 col2 dd2 k02_ k12_ k22_ k32_ k52_ "ValueError.__new__"))
    (er2 : PySem.HandSPX.refsVE bm2 = true)
    (es2 : PySem.W.findIn K (.ref C2) "__setattr__" = some (some (.builtin "object.__setattr__")))
    (eb2 : PySem.W.subIn K (.ref C2) (.type "BaseException") = some true)
    (et2 : PySem.W.typeIn K (.ref C2) = some (.type "type"))
    (ek2 : PySem.W.keepIn K (.ref C2) = true)
    (ei2 : PySem.W.findIn K (.ref C2) "__init__" = some (some (.ref fi2)))
    (ej2 : PySem.W.typeIn K (.ref fi2) = some (.type "function"))
    (el2 : K.lookup fi2 = some ⟨eoc2, eod2, .func (PySem.W.fnOf "__init__" "BadNumber.__init__" (defArgs s_BadNumber) (defBody s_BadNumber) (defScope s_BadNumber) .none ekV2 edc2 epm2 ean2 ecd2 ect2), esl2⟩)
    (ec2 : PySem.W.codeIn K ecd2 "BadNumber.__init__" = true)
    (ef2 : PySem.W.keepIn K (.ref fi2) = true)
    (eg2 : PySem.W.findIn K (.ref C2) "__getattribute__" = some (some (.builtin "BaseException.__getattribute__")))
    (eh2 : PySem.W.findIn K (.ref C2) "__getattr__" = some none)
    (ed2 : PySem.W.hasDictIn K C2 = true)
    (ex2 : PySem.W.findIn K (.ref C2) "__class__" = some (some (.builtin "object.__class__")))
    (em2 : PySem.W.mroIn K C2 (.type "object") = some true)
    (sm2 : PySem.W.subIn K (.ref C2) (.ref CM) = some true)
    (no2_limit : PySem.W.findIn K (.ref C2) "limit" = some none)
    (no2_line : PySem.W.findIn K (.ref C2) "line" = some none)
    (no2_many : PySem.W.findIn K (.ref C2) "many" = some none)
    (no2_name : PySem.W.findIn K (.ref C2) "name" = some none)
    (no2_number : PySem.W.findIn K (.ref C2) "number" = some none)
    (no2_row : PySem.W.findIn K (.ref C2) "row" = some none)
    (no2_what : PySem.W.findIn K (.ref C2) "what" = some none)
    (no2_word : PySem.W.findIn K (.ref C2) "word" = some none)
    (ea3 : PySem.W.nsIn K mainGlobals "BadRow" = some (some (.ref C3)))
    (eo3 : K.lookup C3 = some (excClassObj nm3 qn3 C3 N3 bs3 bm3 true sn3 sub3 ab3 col3 dd3 k03_ k13_ k23_ k33_ k53_ "ValueError.__new__"))
    (er3 : PySem.HandSPX.refsVE bm3 = true)
    (es3 : PySem.W.findIn K (.ref C3) "__setattr__" = some (some (.builtin "object.__setattr__")))
    (eb3 : PySem.W.subIn K (.ref C3) (.type "BaseException") = some true)
    (et3 : PySem.W.typeIn K (.ref C3) = some (.type "type"))
    (ek3 : PySem.W.keepIn K (.ref C3) = true)
    (ei3 : PySem.W.findIn K (.ref C3) "__init__" = some (some (.ref fi3)))
    (ej3 : PySem.W.typeIn K (.ref fi3) = some (.type "function"))
    (el3 : K.lookup fi3 = some ⟨eoc3, eod3, .func (PySem.W.fnOf "__init__" "BadRow.__init__" (defArgs s_BadRow) (defBody s_BadRow) (defScope s_BadRow) .none ekV3 edc3 epm3 ean3 ecd3 ect3), esl3⟩)
    (ec3 : PySem.W.codeIn K ecd3 "BadRow.__init__" = true)
    (ef3 : PySem.W.keepIn K (.ref fi3) = true)
    (eg3 : PySem.W.findIn K (.ref C3) "__getattribute__" = some (some (.builtin "BaseException.__getattribute__")))
    (eh3 : PySem.W.findIn K (.ref C3) "__getattr__" = some none)
    (ed3 : PySem.W.hasDictIn K C3 = true)
    (ex3 : PySem.W.findIn K (.ref C3) "__class__" = some (some (.builtin "object.__class__")))
    (em3 : PySem.W.mroIn K C3 (.type "object") = some true)
    (sm3 : PySem.W.subIn K (.ref C3) (.ref CM) = some true)
    (no3_limit : PySem.W.findIn K (.ref C3) "limit" = some none)
    (no3_line : PySem.W.findIn K (.ref C3) "line" = some none)
    (no3_many : PySem.W.findIn K (.ref C3) "many" = some none)
    (no3_name : PySem.W.findIn K (.ref C3) "name" = some none)
    (no3_number : PySem.W.findIn K (.ref C3) "number" = some none)
    (no3_row : PySem.W.findIn K (.ref C3) "row" = some none)
    (no3_what : PySem.W.findIn K (.ref C3) "what" = some none)
    (no3_word : PySem.W.findIn K (.ref C3) "word" = some none)
    (ea4 : PySem.W.nsIn K mainGlobals "NoName" = some (some (.ref C4)))
    (eo4 : K.lookup C4 = some (excClassObj nm4 qn4 C4 N4 bs4 bm4 true sn4 sub4 ab4 col4 dd4 k04_ k14_ k24_ k34_ k54_ "ValueError.__new__"))
    (er4 : PySem.HandSPX.refsVE bm4 = true)
    (es4 : PySem.W.findIn K (.ref C4) "__setattr__" = some (some (.builtin "object.__setattr__")))
    (eb4 : PySem.W.subIn K (.ref C4) (.type "BaseException") = some true)
    (et4 : PySem.W.typeIn K (.ref C4) = some (.type "type"))
    (ek4 : PySem.W.keepIn K (.ref C4) = true)
    (ei4 : PySem.W.findIn K (.ref C4) "__init__" = some (some (.ref fi4)))
    (ej4 : PySem.W.typeIn K (.ref fi4) = some (.type "function"))
    (el4 : K.lookup fi4 = some ⟨eoc4, eod4, .func (PySem.W.fnOf "__init__" "NoName.__init__" (defArgs s_NoName) (defBody s_NoName) (defScope s_NoName) .none ekV4 edc4 epm4 ean4 ecd4 ect4), esl4⟩)
    (ec4 : PySem.W.codeIn K ecd4 "NoName.__init__" = true)
    (ef4 : PySem.W.keepIn K (.ref fi4) = true)
    (eg4 : PySem.W.findIn K (.ref C4) "__getattribute__" = some (some (.builtin "BaseException.__getattribute__")))
    (eh4 : PySem.W.findIn K (.ref C4) "__getattr__" = some none)
    (ed4 : PySem.W.hasDictIn K C4 = true)
    (ex4 : PySem.W.findIn K (.ref C4) "__class__" = some (some (.builtin "object.__class__")))
    (em4 : PySem.W.mroIn K C4 (.type "object") = some true)
    (sm4 : PySem.W.subIn K (.ref C4) (.ref CM) = some true)
    (no4_limit : PySem.W.findIn K (.ref C4) "limit" = some none)
    (no4_line : PySem.W.findIn K (.ref C4) "line" = some none)
    (no4_many : PySem.W.findIn K (.ref C4) "many" = some none)
    (no4_name : PySem.W.findIn K (.ref C4) "name" = some none)
    (no4_number : PySem.W.findIn K (.ref C4) "number" = some none)
    (no4_row : PySem.W.findIn K (.ref C4) "row" = some none)
    (no4_what : PySem.W.findIn K (.ref C4) "what" = some none)
    (no4_word : PySem.W.findIn K (.ref C4) "word" = some none)
    (ea5 : PySem.W.nsIn K mainGlobals "TakenName" = some (some (.ref C5)))
    (eo5 : K.lookup C5 = some (excClassObj nm5 qn5 C5 N5 bs5 bm5 true sn5 sub5 ab5 col5 dd5 k05_ k15_ k25_ k35_ k55_ "ValueError.__new__"))
    (er5 : PySem.HandSPX.refsVE bm5 = true)
    (es5 : PySem.W.findIn K (.ref C5) "__setattr__" = some (some (.builtin "object.__setattr__")))
    (eb5 : PySem.W.subIn K (.ref C5) (.type "BaseException") = some true)
    (et5 : PySem.W.typeIn K (.ref C5) = some (.type "type"))
    (ek5 : PySem.W.keepIn K (.ref C5) = true)
    (ei5 : PySem.W.findIn K (.ref C5) "__init__" = some (some (.ref fi5)))
    (ej5 : PySem.W.typeIn K (.ref fi5) = some (.type "function"))
    (el5 : K.lookup fi5 = some ⟨eoc5, eod5, .func (PySem.W.fnOf "__init__" "TakenName.__init__" (defArgs s_TakenName) (defBody s_TakenName) (defScope s_TakenName) .none ekV5 edc5 epm5 ean5 ecd5 ect5), esl5⟩)
    (ec5 : PySem.W.codeIn K ecd5 "TakenName.__init__" = true)
    (ef5 : PySem.W.keepIn K (.ref fi5) = true)
    (eg5 : PySem.W.findIn K (.ref C5) "__getattribute__" = some (some (.builtin "BaseException.__getattribute__")))
    (eh5 : PySem.W.findIn K (.ref C5) "__getattr__" = some none)
    (ed5 : PySem.W.hasDictIn K C5 = true)
    (ex5 : PySem.W.findIn K (.ref C5) "__class__" = some (some (.builtin "object.__class__")))
    (em5 : PySem.W.mroIn K C5 (.type "object") = some true)
    (sm5 : PySem.W.subIn K (.ref C5) (.ref CM) = some true)
    (no5_limit : PySem.W.findIn K (.ref C5) "limit" = some none)
    (no5_line : PySem.W.findIn K (.ref C5) "line" = some none)
    (no5_many : PySem.W.findIn K (.ref C5) "many" = some none)
    (no5_name : PySem.W.findIn K (.ref C5) "name" = some none)
    (no5_number : PySem.W.findIn K (.ref C5) "number" = some none)
    (no5_row : PySem.W.findIn K (.ref C5) "row" = some none)
    (no5_what : PySem.W.findIn K (.ref C5) "what" = some none)
    (no5_word : PySem.W.findIn K (.ref C5) "word" = some none)
    (ea6 : PySem.W.nsIn K mainGlobals "Unlike" = some (some (.ref C6)))
    (eo6 : K.lookup C6 = some (excClassObj nm6 qn6 C6 N6 bs6 bm6 true sn6 sub6 ab6 col6 dd6 k06_ k16_ k26_ k36_ k56_ "ValueError.__new__"))
    (er6 : PySem.HandSPX.refsVE bm6 = true)
    (es6 : PySem.W.findIn K (.ref C6) "__setattr__" = some (some (.builtin "object.__setattr__")))
    (eb6 : PySem.W.subIn K (.ref C6) (.type "BaseException") = some true)
    (et6 : PySem.W.typeIn K (.ref C6) = some (.type "type"))
    (ek6 : PySem.W.keepIn K (.ref C6) = true)
    (ei6 : PySem.W.findIn K (.ref C6) "__init__" = some (some (.ref fi6)))
    (ej6 : PySem.W.typeIn K (.ref fi6) = some (.type "function"))
    (el6 : K.lookup fi6 = some ⟨eoc6, eod6, .func (PySem.W.fnOf "__init__" "Unlike.__init__" (defArgs s_Unlike) (defBody s_Unlike) (defScope s_Unlike) .none ekV6 edc6 epm6 ean6 ecd6 ect6), esl6⟩)
    (ec6 : PySem.W.codeIn K ecd6 "Unlike.__init__" = true)
    (ef6 : PySem.W.keepIn K (.ref fi6) = true)
    (eg6 : PySem.W.findIn K (.ref C6) "__getattribute__" = some (some (.builtin "BaseException.__getattribute__")))
    (eh6 : PySem.W.findIn K (.ref C6) "__getattr__" = some none)
    (ed6 : PySem.W.hasDictIn K C6 = true)
    (ex6 : PySem.W.findIn K (.ref C6) "__class__" = some (some (.builtin "object.__class__")))
    (em6 : PySem.W.mroIn K C6 (.type "object") = some true)
    (sm6 : PySem.W.subIn K (.ref C6) (.ref CM) = some true)
    (no6_limit : PySem.W.findIn K (.ref C6) "limit" = some none)
    (no6_line : PySem.W.findIn K (.ref C6) "line" = some none)
    (no6_many : PySem.W.findIn K (.ref C6) "many" = some none)
    (no6_name : PySem.W.findIn K (.ref C6) "name" = some none)
    (no6_number : PySem.W.findIn K (.ref C6) "number" = some none)
    (no6_row : PySem.W.findIn K (.ref C6) "row" = some none)
    (no6_what : PySem.W.findIn K (.ref C6) "what" = some none)
    (no6_word : PySem.W.findIn K (.ref C6) "word" = some none)
    (ea7 : PySem.W.nsIn K mainGlobals "TooMany" = some (some (.ref C7)))
    (eo7 : K.lookup C7 = some (excClassObj nm7 qn7 C7 N7 bs7 bm7 true sn7 sub7 ab7 col7 dd7 k07_ k17_ k27_ k37_ k57_ "ValueError.__new__"))
    (er7 : PySem.HandSPX.refsVE bm7 = true)
    (es7 : PySem.W.findIn K (.ref C7) "__setattr__" = some (some (.builtin "object.__setattr__")))
    (eb7 : PySem.W.subIn K (.ref C7) (.type "BaseException") = some true)
    (et7 : PySem.W.typeIn K (.ref C7) = some (.type "type"))
    (ek7 : PySem.W.keepIn K (.ref C7) = true)
    (ei7 : PySem.W.findIn K (.ref C7) "__init__" = some (some (.ref fi7)))
    (ej7 : PySem.W.typeIn K (.ref fi7) = some (.type "function"))
    (el7 : K.lookup fi7 = some ⟨eoc7, eod7, .func (PySem.W.fnOf "__init__" "TooMany.__init__" (defArgs s_TooMany) (defBody s_TooMany) (defScope s_TooMany) .none ekV7 edc7 epm7 ean7 ecd7 ect7), esl7⟩)
    (ec7 : PySem.W.codeIn K ecd7 "TooMany.__init__" = true)
    (ef7 : PySem.W.keepIn K (.ref fi7) = true)
    (eg7 : PySem.W.findIn K (.ref C7) "__getattribute__" = some (some (.builtin "BaseException.__getattribute__")))
    (eh7 : PySem.W.findIn K (.ref C7) "__getattr__" = some none)
    (ed7 : PySem.W.hasDictIn K C7 = true)
    (ex7 : PySem.W.findIn K (.ref C7) "__class__" = some (some (.builtin "object.__class__")))
    (em7 : PySem.W.mroIn K C7 (.type "object") = some true)
    (sm7 : PySem.W.subIn K (.ref C7) (.ref CM) = some true)
    (no7_limit : PySem.W.findIn K (.ref C7) "limit" = some none)
    (no7_line : PySem.W.findIn K (.ref C7) "line" = some none)
    (no7_many : PySem.W.findIn K (.ref C7) "many" = some none)
    (no7_name : PySem.W.findIn K (.ref C7) "name" = some none)
    (no7_number : PySem.W.findIn K (.ref C7) "number" = some none)
    (no7_row : PySem.W.findIn K (.ref C7) "row" = some none)
    (no7_what : PySem.W.findIn K (.ref C7) "what" = some none)
    (no7_word : PySem.W.findIn K (.ref C7) "word" = some none)
    (sb0_0 : PySem.W.subIn K (.ref C0) (.ref C0) = some true)
    (sb0_1 : PySem.W.subIn K (.ref C0) (.ref C1) = some false)
    (sb0_2 : PySem.W.subIn K (.ref C0) (.ref C2) = some false)
    (sb0_3 : PySem.W.subIn K (.ref C0) (.ref C3) = some false)
    (sb0_4 : PySem.W.subIn K (.ref C0) (.ref C4) = some false)
    (sb0_5 : PySem.W.subIn K (.ref C0) (.ref C5) = some false)
    (sb0_6 : PySem.W.subIn K (.ref C0) (.ref C6) = some false)
    (sb0_7 : PySem.W.subIn K (.ref C0) (.ref C7) = some false)
    (sb1_0 : PySem.W.subIn K (.ref C1) (.ref C0) = some false)
    (sb1_1 : PySem.W.subIn K (.ref C1) (.ref C1) = some true)
    (sb1_2 : PySem.W.subIn K (.ref C1) (.ref C2) = some false)
    (sb1_3 : PySem.W.subIn K (.ref C1) (.ref C3) = some false)
    (sb1_4 : PySem.W.subIn K (.ref C1) (.ref C4) = some false)
    (sb1_5 : PySem.W.subIn K (.ref C1) (.ref C5) = some false)
    (sb1_6 : PySem.W.subIn K (.ref C1) (.ref C6) = some false)
    (sb1_7 : PySem.W.subIn K (.ref C1) (.ref C7) = some false)
    (sb2_0 : PySem.W.subIn K (.ref C2) (.ref C0) = some false)
    (sb2_1 : PySem.W.subIn K (.ref C2) (.ref C1) = some false)
    (sb2_2 : PySem.W.subIn K (.ref C2) (.ref C2) = some true)
    (sb2_3 : PySem.W.subIn K (.ref C2) (.ref C3) = some false)
    (sb2_4 : PySem.W.subIn K (.ref C2) (.ref C4) = some false)
    (sb2_5 : PySem.W.subIn K (.ref C2) (.ref C5) = some false)
    (sb2_6 : PySem.W.subIn K (.ref C2) (.ref C6) = some false)
    (sb2_7 : PySem.W.subIn K (.ref C2) (.ref C7) = some false)
    (sb3_0 : PySem.W.subIn K (.ref C3) (.ref C0) = some false)
    (sb3_1 : PySem.W.subIn K (.ref C3) (.ref C1) = some false)
    (sb3_2 : PySem.W.subIn K (.ref C3) (.ref C2) = some false)
    (sb3_3 : PySem.W.subIn K (.ref C3) (.ref C3) = some true)
    (sb3_4 : PySem.W.subIn K (.ref C3) (.ref C4) = some false)
    (sb3_5 : PySem.W.subIn K (.ref C3) (.ref C5) = some false)
    (sb3_6 : PySem.W.subIn K (.ref C3) (.ref C6) = some false)
    (sb3_7 : PySem.W.subIn K (.ref C3) (.ref C7) = some false)
    (sb4_0 : PySem.W.subIn K (.ref C4) (.ref C0) = some false)
    (sb4_1 : PySem.W.subIn K (.ref C4) (.ref C1) = some false)
    (sb4_2 : PySem.W.subIn K (.ref C4) (.ref C2) = some false)
    (sb4_3 : PySem.W.subIn K (.ref C4) (.ref C3) = some false)
    (sb4_4 : PySem.W.subIn K (.ref C4) (.ref C4) = some true)
    (sb4_5 : PySem.W.subIn K (.ref C4) (.ref C5) = some false)
    (sb4_6 : PySem.W.subIn K (.ref C4) (.ref C6) = some false)
    (sb4_7 : PySem.W.subIn K (.ref C4) (.ref C7) = some false)
    (sb5_0 : PySem.W.subIn K (.ref C5) (.ref C0) = some false)
    (sb5_1 : PySem.W.subIn K (.ref C5) (.ref C1) = some false)
    (sb5_2 : PySem.W.subIn K (.ref C5) (.ref C2) = some false)
    (sb5_3 : PySem.W.subIn K (.ref C5) (.ref C3) = some false)
    (sb5_4 : PySem.W.subIn K (.ref C5) (.ref C4) = some false)
    (sb5_5 : PySem.W.subIn K (.ref C5) (.ref C5) = some true)
    (sb5_6 : PySem.W.subIn K (.ref C5) (.ref C6) = some false)
    (sb5_7 : PySem.W.subIn K (.ref C5) (.ref C7) = some false)
    (sb6_0 : PySem.W.subIn K (.ref C6) (.ref C0) = some false)
    (sb6_1 : PySem.W.subIn K (.ref C6) (.ref C1) = some false)
    (sb6_2 : PySem.W.subIn K (.ref C6) (.ref C2) = some false)
    (sb6_3 : PySem.W.subIn K (.ref C6) (.ref C3) = some false)
    (sb6_4 : PySem.W.subIn K (.ref C6) (.ref C4) = some false)
    (sb6_5 : PySem.W.subIn K (.ref C6) (.ref C5) = some false)
    (sb6_6 : PySem.W.subIn K (.ref C6) (.ref C6) = some true)
    (sb6_7 : PySem.W.subIn K (.ref C6) (.ref C7) = some false)
    (sb7_0 : PySem.W.subIn K (.ref C7) (.ref C0) = some false)
    (sb7_1 : PySem.W.subIn K (.ref C7) (.ref C1) = some false)
    (sb7_2 : PySem.W.subIn K (.ref C7) (.ref C2) = some false)
    (sb7_3 : PySem.W.subIn K (.ref C7) (.ref C3) = some false)
    (sb7_4 : PySem.W.subIn K (.ref C7) (.ref C4) = some false)
    (sb7_5 : PySem.W.subIn K (.ref C7) (.ref C5) = some false)
    (sb7_6 : PySem.W.subIn K (.ref C7) (.ref C6) = some false)
    (sb7_7 : PySem.W.subIn K (.ref C7) (.ref C7) = some true)
    (ja0 : PySem.W.nsIn K mainGlobals "Levels" = some (some (.ref J0)))
    (jb0 : PySem.W.plainGet K J0 Str.empty = true)
    (jc0 : PySem.W.hasDictIn K J0 = true)
    (jd0 : PySem.W.plainOver K J0 = true)
    (je0 : PySem.W.findIn K (.ref J0) "__setattr__" = some (some (.builtin "object.__setattr__")))
    (jn0_lots : PySem.W.findIn K (.ref J0) "lots" = some none)
    (jh0 : PySem.W.findIn K (.ref J0) "__class__" = some (some (.builtin "object.__class__")))
    (ji0 : PySem.W.mroIn K J0 (.type "object") = some true)
    (jt0 : PySem.W.typeIn K (.ref J0) = some (.type "type"))
    (jo0_bool : PySem.W.subIn K (.ref J0) (.type "bool") = some false)
    (jo0_int : PySem.W.subIn K (.ref J0) (.type "int") = some false)
    (jo0_str : PySem.W.subIn K (.ref J0) (.type "str") = some false)
    (jo0_tuple : PySem.W.subIn K (.ref J0) (.type "tuple") = some false)
    (jo0_list : PySem.W.subIn K (.ref J0) (.type "list") = some false)
    (jo0_dict : PySem.W.subIn K (.ref J0) (.type "dict") = some false)
    (jm0 : PySem.W.makesIn K J0 = true)
    (jI0 : PySem.W.findIn K (.ref J0) "__init__" = some (some (.ref fj0)))
    (jf0 : PySem.W.isFn K (.ref fj0) = true)
    (jk0 : PySem.W.keepIn K (.ref J0) = true)
    (jl0 : K.lookup fj0 = some ⟨joc0, jod0, .func (PySem.W.fnOf "__init__" "Levels.__init__" (defArgs s_Levels_init) (defBody s_Levels_init) (defScope s_Levels_init) .none jkV0 jdc0 jpm0 jan0 jcd0 jct0), jsl0⟩)
    (jg0 : PySem.W.codeIn K jcd0 "Levels.__init__" = true)
    (jp0 : PySem.W.keepIn K (.ref fj0) = true)
    (jz0_0 : PySem.W.subIn K (.ref J0) (.ref J0) = some true) : Fx P w K mg base := by
  have y0 : ∀ C, clsOf namesT mg 0 = some C → C = C0 := fun C hc => by
    have e : refO (mg "BadText") = some C := hc
    rw [PySem.W.mg_of KX G ea0] at e
    exact (Option.some.inj e).symm
  have y1 : ∀ C, clsOf namesT mg 1 = some C → C = C1 := fun C hc => by
    have e : refO (mg "BadName") = some C := hc
    rw [PySem.W.mg_of KX G ea1] at e
    exact (Option.some.inj e).symm
  have y2 : ∀ C, clsOf namesT mg 2 = some C → C = C2 := fun C hc => by
    have e : refO (mg "BadNumber") = some C := hc
    rw [PySem.W.mg_of KX G ea2] at e
    exact (Option.some.inj e).symm
  have y3 : ∀ C, clsOf namesT mg 3 = some C → C = C3 := fun C hc => by
    have e : refO (mg "BadRow") = some C := hc
    rw [PySem.W.mg_of KX G ea3] at e
    exact (Option.some.inj e).symm
  have y4 : ∀ C, clsOf namesT mg 4 = some C → C = C4 := fun C hc => by
    have e : refO (mg "NoName") = some C := hc
    rw [PySem.W.mg_of KX G ea4] at e
    exact (Option.some.inj e).symm
  have y5 : ∀ C, clsOf namesT mg 5 = some C → C = C5 := fun C hc => by
    have e : refO (mg "TakenName") = some C := hc
    rw [PySem.W.mg_of KX G ea5] at e
    exact (Option.some.inj e).symm
  have y6 : ∀ C, clsOf namesT mg 6 = some C → C = C6 := fun C hc => by
    have e : refO (mg "Unlike") = some C := hc
    rw [PySem.W.mg_of KX G ea6] at e
    exact (Option.some.inj e).symm
  have y7 : ∀ C, clsOf namesT mg 7 = some C → C = C7 := fun C hc => by
    have e : refO (mg "TooMany") = some C := hc
    rw [PySem.W.mg_of KX G ea7] at e
    exact (Option.some.inj e).symm
  have yi0 : ∀ C, clsOf namesT mg 20 = some C → C = J0 := fun C hc => by
    have e : refO (mg "Levels") = some C := hc
    rw [PySem.W.mg_of KX G ja0] at e
    exact (Option.some.inj e).symm
  exact ⟨FnF.mk KX G a0 l0 c0 k0 (fun _ _ _ _ _ _ us hl => match us, hl with | [_], _ => rfl),
    FnF.mk KX G a1 l1 c1 k1 (fun _ _ _ _ _ _ us hl => match us, hl with | [_, _], _ => rfl),
    FnF.mk KX G a2 l2 c2 k2 (fun _ _ _ _ _ _ us hl => match us, hl with | [_, _], _ => rfl),
    FnF.mk KX G a3 l3 c3 k3 (fun _ _ _ _ _ _ us hl => match us, hl with | [_], _ => rfl),
    FnF.mk KX G a4 l4 c4 k4 (fun _ _ _ _ _ _ us hl => match us, hl with | [_], _ => rfl),
    FnF.mk KX G a5 l5 c5 k5 (fun _ _ _ _ _ _ us hl => match us, hl with | [_, _], _ => rfl),
    FnF.mk KX G a6 l6 c6 k6 (fun _ _ _ _ _ _ us hl => match us, hl with | [_], _ => rfl),
    FnF.mk KX G a7 l7 c7 k7 (fun _ _ _ _ _ _ us hl => match us, hl with | [_, _], _ => rfl),
    FnF.mk KX G a8 l8 c8 k8 (fun _ _ _ _ _ _ us hl => match us, hl with | [_, _], _ => rfl),
    FnF.mk KX G a9 l9 c9 k9 (fun _ _ _ _ _ _ us hl => match us, hl with | [_], _ => rfl),
    FnF.mk KX G a11 l11 c11 k11 (fun _ _ _ _ _ _ us hl => match us, hl with | [_], _ => rfl),
    FnF.mk KX G a12 l12 c12 k12 (fun _ _ _ _ _ _ us hl => match us, hl with | [_], _ => rfl),
    FnF.mk KX G a13 l13 c13 k13 (fun _ _ _ _ _ _ us hl => match us, hl with | [_, _], _ => rfl),
    FnF.mk KX G a14 l14 c14 k14 (fun _ _ _ _ _ _ us hl => match us, hl with | [_, _], _ => rfl),
    FnF.mk KX G a15 l15 c15 k15 (fun _ _ _ _ _ _ us hl => match us, hl with | [_], _ => rfl),
    FnF.mk KX G a16 l16 c16 k16 (fun _ _ _ _ _ _ us hl => match us, hl with | [_, _, _], _ => rfl),
    FnF.mk KX G a17 l17 c17 k17 (fun _ _ _ _ _ _ us hl => match us, hl with | [_], _ => rfl),
    FnF.mk KX G a18 l18 c18 k18 (fun _ _ _ _ _ _ us hl => match us, hl with | [_, _], _ => rfl),
    FnF.mk KX G a19 l19 c19 k19 (fun _ _ _ _ _ _ us hl => match us, hl with | [_], _ => rfl),
    FnF.mk KX G a20 l20 c20 k20 (fun _ _ _ _ _ _ us hl => match us, hl with | [_, _, _], _ => rfl),
    FnF.mk KX G a21 l21 c21 k21 (fun _ _ _ _ _ _ us hl => match us, hl with | [_, _], _ => rfl),
    FnF.mk KX G a22 l22 c22 k22 (fun _ _ _ _ _ _ us hl => match us, hl with | [_, _], _ => rfl),
    FnF.mk KX G a23 l23 c23 k23 (fun _ _ _ _ _ _ us hl => match us, hl with | [_, _], _ => rfl),
    FnF.mk KX G a24 l24 c24 k24 (fun _ _ _ _ _ _ us hl => match us, hl with | [_, _, _], _ => rfl),
    FnF.mk KX G a25 l25 c25 k25 (fun _ _ _ _ _ _ us hl => match us, hl with | [_, _], _ => rfl),
    FnF.mk KX G a26 l26 c26 k26 (fun _ _ _ _ _ _ us hl => match us, hl with | [_], _ => rfl),
    FnF.mk KX G a27 l27 c27 k27 (fun _ _ _ _ _ _ us hl => match us, hl with | [_], _ => rfl),
    FnF.mk KX G a28 l28 c28 k28 (fun _ _ _ _ _ _ us hl => match us, hl with | [_, _], _ => rfl),
    FnF.mk KX G a29 l29 c29 k29 (fun _ _ _ _ _ _ us hl => match us, hl with | [_], _ => rfl),
    FnF.mk KX G a30 l30 c30 k30 (fun _ _ _ _ _ _ us hl => match us, hl with | [_, _], _ => rfl),
    FnF.mk KX G a31 l31 c31 k31 (fun _ _ _ _ _ _ us hl => match us, hl with | [_, _], _ => rfl),
    FnF.mk KX G a32 l32 c32 k32 (fun _ _ _ _ _ _ us hl => match us, hl with | [_], _ => rfl),
    FnF.mk KX G a33 l33 c33 k33 (fun _ _ _ _ _ _ us hl => match us, hl with | [_], _ => rfl),
    FnF.mk KX G a34 l34 c34 k34 (fun _ _ _ _ _ _ us hl => match us, hl with | [_, _, _], _ => rfl),
    FnF.mk KX G a35 l35 c35 k35 (fun _ _ _ _ _ _ us hl => match us, hl with | [_], _ => rfl),
    PySem.W.mg_none_of KX G z_all,
    PySem.W.mg_none_of KX G z_bool,
    PySem.W.mg_none_of KX G z_enumerate,
    PySem.W.mg_none_of KX G z_int,
    PySem.W.mg_none_of KX G z_isinstance,
    PySem.W.mg_none_of KX G z_len,
    PySem.W.mg_none_of KX G z_list,
    PySem.W.mg_none_of KX G z_range,
    PySem.W.mg_none_of KX G z_repr,
    PySem.W.mg_none_of KX G z_sorted,
    PySem.W.mg_none_of KX G z_str,
    PySem.W.mg_none_of KX G z_sum,
    PySem.W.mg_none_of KX G z_tuple,
    ⟨t_MOST_WORLDS, PySem.W.mg_of KX G k_MOST_WORLDS⟩,
    ⟨CM, PySem.W.mg_of KX G m0, ⟨m1, m2, m3⟩, m4, m5, m6⟩,
    ⟨J0, InsF.mk' KX G rfl ja0 jb0 jc0 jd0 je0 (fun f hf => by
      simp only [List.mem_cons, List.not_mem_nil, or_false] at hf
      rcases hf with rfl
      · exact jn0_lots
) jh0 ji0 jt0 (fun T hT => by
      simp only [bTypes, List.mem_cons, List.not_mem_nil, or_false] at hT
      rcases hT with rfl | rfl | rfl | rfl | rfl | rfl
      · exact jo0_bool
      · exact jo0_int
      · exact jo0_str
      · exact jo0_tuple
      · exact jo0_list
      · exact jo0_dict
) jm0 jI0 jf0 jk0 jl0 jg0 jp0 (fun _ _ _ _ _ _ us hl => match us, hl with | [_, _], _ => rfl)⟩,
    fun c C d C' h1 h2 hc hd => by
    rcases cls_ge hc h1 with rfl
    · rw [yi0 C hc]
      rcases cls_ge hd h2 with rfl
      · rw [yi0 C' hd]; exact kit_sub jc0 jt0 jz0_0 jz0_0
,
    ⟨C0, ErrF.mk' KX G rfl ea0 eo0 er0 es0 eb0 et0 ek0 ei0 ej0 el0 ec0 ef0 (fun _ _ _ _ _ _ us hl => match us, hl with | [_, _, _], _ => rfl) eg0 eh0 ed0 ex0 og ot em0⟩,
    ⟨C1, ErrF.mk' KX G rfl ea1 eo1 er1 es1 eb1 et1 ek1 ei1 ej1 el1 ec1 ef1 (fun _ _ _ _ _ _ us hl => match us, hl with | [_, _], _ => rfl) eg1 eh1 ed1 ex1 og ot em1⟩,
    ⟨C2, ErrF.mk' KX G rfl ea2 eo2 er2 es2 eb2 et2 ek2 ei2 ej2 el2 ec2 ef2 (fun _ _ _ _ _ _ us hl => match us, hl with | [_, _, _], _ => rfl) eg2 eh2 ed2 ex2 og ot em2⟩,
    ⟨C3, ErrF.mk' KX G rfl ea3 eo3 er3 es3 eb3 et3 ek3 ei3 ej3 el3 ec3 ef3 (fun _ _ _ _ _ _ us hl => match us, hl with | [_, _, _], _ => rfl) eg3 eh3 ed3 ex3 og ot em3⟩,
    ⟨C4, ErrF.mk' KX G rfl ea4 eo4 er4 es4 eb4 et4 ek4 ei4 ej4 el4 ec4 ef4 (fun _ _ _ _ _ _ us hl => match us, hl with | [_, _], _ => rfl) eg4 eh4 ed4 ex4 og ot em4⟩,
    ⟨C5, ErrF.mk' KX G rfl ea5 eo5 er5 es5 eb5 et5 ek5 ei5 ej5 el5 ec5 ef5 (fun _ _ _ _ _ _ us hl => match us, hl with | [_, _], _ => rfl) eg5 eh5 ed5 ex5 og ot em5⟩,
    ⟨C6, ErrF.mk' KX G rfl ea6 eo6 er6 es6 eb6 et6 ek6 ei6 ej6 el6 ec6 ef6 (fun _ _ _ _ _ _ us hl => match us, hl with | [_, _], _ => rfl) eg6 eh6 ed6 ex6 og ot em6⟩,
    ⟨C7, ErrF.mk' KX G rfl ea7 eo7 er7 es7 eb7 et7 ek7 ei7 ej7 el7 ec7 ef7 (fun _ _ _ _ _ _ us hl => match us, hl with | [_, _, _, _], _ => rfl) eg7 eh7 ed7 ex7 og ot em7⟩,
    fun c C hc h20 => by
    have hl := cls_lt hc h20
    match c, hl, hc with
    | 0, _, hc =>
      rw [y0 C hc]
      intro f hf
      simp only [List.mem_cons, List.not_mem_nil, or_false] at hf
      rcases hf with rfl | rfl | rfl | rfl | rfl | rfl | rfl | rfl
      · exact no0_limit
      · exact no0_line
      · exact no0_many
      · exact no0_name
      · exact no0_number
      · exact no0_row
      · exact no0_what
      · exact no0_word
    | 1, _, hc =>
      rw [y1 C hc]
      intro f hf
      simp only [List.mem_cons, List.not_mem_nil, or_false] at hf
      rcases hf with rfl | rfl | rfl | rfl | rfl | rfl | rfl | rfl
      · exact no1_limit
      · exact no1_line
      · exact no1_many
      · exact no1_name
      · exact no1_number
      · exact no1_row
      · exact no1_what
      · exact no1_word
    | 2, _, hc =>
      rw [y2 C hc]
      intro f hf
      simp only [List.mem_cons, List.not_mem_nil, or_false] at hf
      rcases hf with rfl | rfl | rfl | rfl | rfl | rfl | rfl | rfl
      · exact no2_limit
      · exact no2_line
      · exact no2_many
      · exact no2_name
      · exact no2_number
      · exact no2_row
      · exact no2_what
      · exact no2_word
    | 3, _, hc =>
      rw [y3 C hc]
      intro f hf
      simp only [List.mem_cons, List.not_mem_nil, or_false] at hf
      rcases hf with rfl | rfl | rfl | rfl | rfl | rfl | rfl | rfl
      · exact no3_limit
      · exact no3_line
      · exact no3_many
      · exact no3_name
      · exact no3_number
      · exact no3_row
      · exact no3_what
      · exact no3_word
    | 4, _, hc =>
      rw [y4 C hc]
      intro f hf
      simp only [List.mem_cons, List.not_mem_nil, or_false] at hf
      rcases hf with rfl | rfl | rfl | rfl | rfl | rfl | rfl | rfl
      · exact no4_limit
      · exact no4_line
      · exact no4_many
      · exact no4_name
      · exact no4_number
      · exact no4_row
      · exact no4_what
      · exact no4_word
    | 5, _, hc =>
      rw [y5 C hc]
      intro f hf
      simp only [List.mem_cons, List.not_mem_nil, or_false] at hf
      rcases hf with rfl | rfl | rfl | rfl | rfl | rfl | rfl | rfl
      · exact no5_limit
      · exact no5_line
      · exact no5_many
      · exact no5_name
      · exact no5_number
      · exact no5_row
      · exact no5_what
      · exact no5_word
    | 6, _, hc =>
      rw [y6 C hc]
      intro f hf
      simp only [List.mem_cons, List.not_mem_nil, or_false] at hf
      rcases hf with rfl | rfl | rfl | rfl | rfl | rfl | rfl | rfl
      · exact no6_limit
      · exact no6_line
      · exact no6_many
      · exact no6_name
      · exact no6_number
      · exact no6_row
      · exact no6_what
      · exact no6_word
    | 7, _, hc =>
      rw [y7 C hc]
      intro f hf
      simp only [List.mem_cons, List.not_mem_nil, or_false] at hf
      rcases hf with rfl | rfl | rfl | rfl | rfl | rfl | rfl | rfl
      · exact no7_limit
      · exact no7_line
      · exact no7_many
      · exact no7_name
      · exact no7_number
      · exact no7_row
      · exact no7_what
      · exact no7_word
,
    fun c C d C' hc hd hc20 hd20 => by
    have hl := cls_lt hc hc20
    have hl2 := cls_lt hd hd20
    match c, hl, hc with
    | 0, _, hc =>
      rw [y0 C hc]
      match d, hl2, hd with
      | 0, _, hd => rw [y0 C' hd]; exact kit_sub ed0 et0 sb0_0 sb0_0
      | 1, _, hd => rw [y1 C' hd]; exact kit_sub ed1 et1 sb0_1 sb0_0
      | 2, _, hd => rw [y2 C' hd]; exact kit_sub ed2 et2 sb0_2 sb0_0
      | 3, _, hd => rw [y3 C' hd]; exact kit_sub ed3 et3 sb0_3 sb0_0
      | 4, _, hd => rw [y4 C' hd]; exact kit_sub ed4 et4 sb0_4 sb0_0
      | 5, _, hd => rw [y5 C' hd]; exact kit_sub ed5 et5 sb0_5 sb0_0
      | 6, _, hd => rw [y6 C' hd]; exact kit_sub ed6 et6 sb0_6 sb0_0
      | 7, _, hd => rw [y7 C' hd]; exact kit_sub ed7 et7 sb0_7 sb0_0
    | 1, _, hc =>
      rw [y1 C hc]
      match d, hl2, hd with
      | 0, _, hd => rw [y0 C' hd]; exact kit_sub ed0 et0 sb1_0 sb1_1
      | 1, _, hd => rw [y1 C' hd]; exact kit_sub ed1 et1 sb1_1 sb1_1
      | 2, _, hd => rw [y2 C' hd]; exact kit_sub ed2 et2 sb1_2 sb1_1
      | 3, _, hd => rw [y3 C' hd]; exact kit_sub ed3 et3 sb1_3 sb1_1
      | 4, _, hd => rw [y4 C' hd]; exact kit_sub ed4 et4 sb1_4 sb1_1
      | 5, _, hd => rw [y5 C' hd]; exact kit_sub ed5 et5 sb1_5 sb1_1
      | 6, _, hd => rw [y6 C' hd]; exact kit_sub ed6 et6 sb1_6 sb1_1
      | 7, _, hd => rw [y7 C' hd]; exact kit_sub ed7 et7 sb1_7 sb1_1
    | 2, _, hc =>
      rw [y2 C hc]
      match d, hl2, hd with
      | 0, _, hd => rw [y0 C' hd]; exact kit_sub ed0 et0 sb2_0 sb2_2
      | 1, _, hd => rw [y1 C' hd]; exact kit_sub ed1 et1 sb2_1 sb2_2
      | 2, _, hd => rw [y2 C' hd]; exact kit_sub ed2 et2 sb2_2 sb2_2
      | 3, _, hd => rw [y3 C' hd]; exact kit_sub ed3 et3 sb2_3 sb2_2
      | 4, _, hd => rw [y4 C' hd]; exact kit_sub ed4 et4 sb2_4 sb2_2
      | 5, _, hd => rw [y5 C' hd]; exact kit_sub ed5 et5 sb2_5 sb2_2
      | 6, _, hd => rw [y6 C' hd]; exact kit_sub ed6 et6 sb2_6 sb2_2
      | 7, _, hd => rw [y7 C' hd]; exact kit_sub ed7 et7 sb2_7 sb2_2
    | 3, _, hc =>
      rw [y3 C hc]
      match d, hl2, hd with
      | 0, _, hd => rw [y0 C' hd]; exact kit_sub ed0 et0 sb3_0 sb3_3
      | 1, _, hd => rw [y1 C' hd]; exact kit_sub ed1 et1 sb3_1 sb3_3
      | 2, _, hd => rw [y2 C' hd]; exact kit_sub ed2 et2 sb3_2 sb3_3
      | 3, _, hd => rw [y3 C' hd]; exact kit_sub ed3 et3 sb3_3 sb3_3
      | 4, _, hd => rw [y4 C' hd]; exact kit_sub ed4 et4 sb3_4 sb3_3
      | 5, _, hd => rw [y5 C' hd]; exact kit_sub ed5 et5 sb3_5 sb3_3
      | 6, _, hd => rw [y6 C' hd]; exact kit_sub ed6 et6 sb3_6 sb3_3
      | 7, _, hd => rw [y7 C' hd]; exact kit_sub ed7 et7 sb3_7 sb3_3
    | 4, _, hc =>
      rw [y4 C hc]
      match d, hl2, hd with
      | 0, _, hd => rw [y0 C' hd]; exact kit_sub ed0 et0 sb4_0 sb4_4
      | 1, _, hd => rw [y1 C' hd]; exact kit_sub ed1 et1 sb4_1 sb4_4
      | 2, _, hd => rw [y2 C' hd]; exact kit_sub ed2 et2 sb4_2 sb4_4
      | 3, _, hd => rw [y3 C' hd]; exact kit_sub ed3 et3 sb4_3 sb4_4
      | 4, _, hd => rw [y4 C' hd]; exact kit_sub ed4 et4 sb4_4 sb4_4
      | 5, _, hd => rw [y5 C' hd]; exact kit_sub ed5 et5 sb4_5 sb4_4
      | 6, _, hd => rw [y6 C' hd]; exact kit_sub ed6 et6 sb4_6 sb4_4
      | 7, _, hd => rw [y7 C' hd]; exact kit_sub ed7 et7 sb4_7 sb4_4
    | 5, _, hc =>
      rw [y5 C hc]
      match d, hl2, hd with
      | 0, _, hd => rw [y0 C' hd]; exact kit_sub ed0 et0 sb5_0 sb5_5
      | 1, _, hd => rw [y1 C' hd]; exact kit_sub ed1 et1 sb5_1 sb5_5
      | 2, _, hd => rw [y2 C' hd]; exact kit_sub ed2 et2 sb5_2 sb5_5
      | 3, _, hd => rw [y3 C' hd]; exact kit_sub ed3 et3 sb5_3 sb5_5
      | 4, _, hd => rw [y4 C' hd]; exact kit_sub ed4 et4 sb5_4 sb5_5
      | 5, _, hd => rw [y5 C' hd]; exact kit_sub ed5 et5 sb5_5 sb5_5
      | 6, _, hd => rw [y6 C' hd]; exact kit_sub ed6 et6 sb5_6 sb5_5
      | 7, _, hd => rw [y7 C' hd]; exact kit_sub ed7 et7 sb5_7 sb5_5
    | 6, _, hc =>
      rw [y6 C hc]
      match d, hl2, hd with
      | 0, _, hd => rw [y0 C' hd]; exact kit_sub ed0 et0 sb6_0 sb6_6
      | 1, _, hd => rw [y1 C' hd]; exact kit_sub ed1 et1 sb6_1 sb6_6
      | 2, _, hd => rw [y2 C' hd]; exact kit_sub ed2 et2 sb6_2 sb6_6
      | 3, _, hd => rw [y3 C' hd]; exact kit_sub ed3 et3 sb6_3 sb6_6
      | 4, _, hd => rw [y4 C' hd]; exact kit_sub ed4 et4 sb6_4 sb6_6
      | 5, _, hd => rw [y5 C' hd]; exact kit_sub ed5 et5 sb6_5 sb6_6
      | 6, _, hd => rw [y6 C' hd]; exact kit_sub ed6 et6 sb6_6 sb6_6
      | 7, _, hd => rw [y7 C' hd]; exact kit_sub ed7 et7 sb6_7 sb6_6
    | 7, _, hc =>
      rw [y7 C hc]
      match d, hl2, hd with
      | 0, _, hd => rw [y0 C' hd]; exact kit_sub ed0 et0 sb7_0 sb7_7
      | 1, _, hd => rw [y1 C' hd]; exact kit_sub ed1 et1 sb7_1 sb7_7
      | 2, _, hd => rw [y2 C' hd]; exact kit_sub ed2 et2 sb7_2 sb7_7
      | 3, _, hd => rw [y3 C' hd]; exact kit_sub ed3 et3 sb7_3 sb7_7
      | 4, _, hd => rw [y4 C' hd]; exact kit_sub ed4 et4 sb7_4 sb7_7
      | 5, _, hd => rw [y5 C' hd]; exact kit_sub ed5 et5 sb7_5 sb7_7
      | 6, _, hd => rw [y6 C' hd]; exact kit_sub ed6 et6 sb7_6 sb7_7
      | 7, _, hd => rw [y7 C' hd]; exact kit_sub ed7 et7 sb7_7 sb7_7
,
    fun c C CM' hc h20 hm => by
    rw [PySem.W.mg_of KX G m0] at hm
    cases hm
    have hl := cls_lt hc h20
    match c, hl, hc with
    | 0, _, hc => rw [y0 C hc]; exact PySem.W.exm_ref m4 m5 m6 sm0
    | 1, _, hc => rw [y1 C hc]; exact PySem.W.exm_ref m4 m5 m6 sm1
    | 2, _, hc => rw [y2 C hc]; exact PySem.W.exm_ref m4 m5 m6 sm2
    | 3, _, hc => rw [y3 C hc]; exact PySem.W.exm_ref m4 m5 m6 sm3
    | 4, _, hc => rw [y4 C hc]; exact PySem.W.exm_ref m4 m5 m6 sm4
    | 5, _, hc => rw [y5 C hc]; exact PySem.W.exm_ref m4 m5 m6 sm5
    | 6, _, hc => rw [y6 C hc]; exact PySem.W.exm_ref m4 m5 m6 sm6
    | 7, _, hc => rw [y7 C hc]; exact PySem.W.exm_ref m4 m5 m6 sm7
, og, ot⟩
theorem all_mk {l : PySem.W.OpenLaw} {w : World} {K : PySem.W.Frag} {h : Heap} {mg : Str → Option Value} {fa : Addr} {q : Program} (KX : K.In h) (G : h.Ns mainGlobals mg) (hfa : mg "law" = some (.ref fa)) (TF : TabsF q mg h)
    {f : Addr} {od an : Option Addr} {sl : Array (Option Value)} {oc kV dc pm cd ct : Value}
    {rf0 : Addr} {rod0 ran0 : Option Addr} {rsl0 : Array (Option Value)} {roc0 rkV0 rdc0 rpm0 rcd0 rct0 : Value} {rc0 Pt0 : Addr} {re0 : Value} {rdd0 : Option Addr} {rvs0 : Array Value} {rsl20 : Array (Option Value)} (Z : ∀ base, Fx l.prog w K mg base)
    (a : PySem.W.nsIn K mainGlobals "law" = some (some (.ref f)))
    (l0 : K.lookup f = some ⟨oc, od, .func (PySem.W.fnOf "law" "law" (defArgs s_law) (defBody s_law) (defScope s_law) .none kV dc pm an cd ct), sl⟩)
    (c0 : PySem.W.codeIn K cd "law" = true)
    (k0 : PySem.W.keepIn K (.ref f) = true)
    (rh0 : (recsOf q).any (fun d => d.name == ("_law_refusals_right" : Str)) = true)
    (ra0 : PySem.W.nsIn K mainGlobals "_law_refusals_right" = some (some (.ref rf0)))
    (rl0 : K.lookup rf0 = some ⟨roc0, rod0, .func (PySem.W.fnOf "_law_refusals_right" "_law_refusals_right" (defArgs s_law_refusals_right) (defBody s_law_refusals_right) (defScope s_law_refusals_right) .none rkV0 rdc0 rpm0 ran0 rcd0 rct0), rsl0⟩)
    (rk0 : PySem.W.codeIn K rcd0 "_law_refusals_right" = true)
    (rp0 : PySem.W.keepIn K (.ref rf0) = true)
    (rcd_0 : rcd0 = .ref rc0)
    (rkc0 : K.lookup rc0 = some ⟨re0, rdd0, .fields rvs0, rsl20⟩)
    (rhv0 : rvs0[11]? = some (.ref Pt0))
    (rnP0 : K.lookup Pt0 = none)
    (holds : ∀ ns : List Int, ns.length ≤ 63 → (∀ z ∈ ns, Builtin.Int.intBits z ≤ 1048576) → lawM 19 1 m_law ns) : LawG l w K (L2.CX l.prog w) 13 63 "script" mg fa h := by
  have ef := hfa.symm.trans (PySem.W.mg_of KX G a)
  cases ef
  have F := fun_mk (st := s_law) l0 c0 k0
  have bF := F.binds (ps := ["script"]) fun _ _ _ _ _ _ us hl => match us, hl with | [_], _ => rfl
  obtain ⟨u0, v0⟩ := tab_at TF rh0 KX (PySem.W.mg_of KX G ra0) rl0 rcd_0 rkc0 rhv0
  refine ⟨_, [(rc0, Pt0)], spLaw K [(Pt0, "_law_refusals_right.<locals>.<lambda>")] 19 1 m_law, fun p hp => ?c1, fun p hp => ?c2, fun p hp => ?c3, fun s v => .of_eq rfl, fun a o ns hl hb hS => ⟨a, ns, rfl, hS, start_of (fun t ht => ?c4) (fun x hx => ?c5), holds ns hl hb, fun _ => rfl⟩, fun base _ _ TB => d_law (Z base) ?c6 (PySem.W.mg_of KX G a) F⟩
  case c1 =>
    simp only [List.mem_cons, List.not_mem_nil, or_false] at hp
    rcases hp with rfl
    · exact u0
  case c2 =>
    simp only [List.mem_cons, List.not_mem_nil, or_false] at hp
    rcases hp with rfl
    · exact rnP0
  case c3 =>
    simp only [List.mem_cons, List.not_mem_nil, or_false] at hp
    rcases hp with rfl
    · exact v0
  case c4 =>
    simp only [List.mem_cons, List.not_mem_nil, or_false] at ht
    rcases ht with rfl
    · simp
  case c5 =>
    have hx : x ∈ ([Pt0] : List Addr) := hx
    simp only [List.mem_cons, List.not_mem_nil, or_false] at hx
    rcases hx with rfl
    · exact ⟨"_law_refusals_right.<locals>.<lambda>", by simp⟩
  case c6 =>
    exact ⟨⟨rf0, _, rc0, Pt0, PySem.W.mg_of KX G ra0, fun_mk (st := s_law_refusals_right) rl0 rk0 rp0, (fun_mk (st := s_law_refusals_right) rl0 rk0 rp0).binds (fun _ _ _ _ _ _ us hl => match us, hl with | [_, _, _], _ => rfl), rcd_0, TB (rc0, Pt0) (by simp), by simp, fun p hp e => by
        simp only [List.mem_cons, List.not_mem_nil, or_false] at hp
        rcases hp with rfl
        · rfl
⟩⟩

end LG

namespace LG
open PySem L2 Mir
theorem q_draw : m_law_draw = drawM := rfl
theorem q_pick : m_law_pick = pickM := rfl
theorem q_are_levels : m_are_levels = g_are_levels := rfl
theorem q_Levels_init : m_Levels_init = g_Levels_init := rfl
theorem q_need_levels : m_need_levels = g_need_levels := rfl
theorem q_many_of : m_many_of = g_many_of fldsT := rfl
theorem q_need_world : m_need_world = g_need_world fldsT := rfl
theorem q_heights_by : m_heights_by = g_heights_by fldsT := rfl
theorem q_level_of : m_level_of = g_level_of fldsT := rfl
theorem q_is_ahead : m_is_ahead = g_is_ahead fldsT := rfl
theorem q_first_by : m_first_by = g_first_by fldsT := rfl
theorem q_first_ones : m_first_ones = g_first_ones fldsT := rfl
theorem q_levels_from : m_levels_from = g_levels_from := rfl
theorem q_narrowed_levels : m_narrowed_levels = g_narrowed_levels fldsT := rfl
theorem q_law_unlike : m_law_unlike = g_law_unlike := rfl
theorem q_law_lots_of : m_law_lots_of = g_law_lots_of := rfl
theorem q_law_heights : m_law_heights = g_law_heights := rfl
theorem q_law_first : m_law_first = g_law_first := rfl
theorem q_law_drawn_lots : m_law_drawn_lots = g_law_drawn_lots := rfl
theorem q_law_drawn_saying : m_law_drawn_saying = g_law_drawn_saying := rfl
theorem q_law_pairs : m_law_pairs = g_law_pairs := rfl
theorem q_law_plain : m_law_plain = g_law_plain fldsT := rfl
theorem q_is : ∀ n, m_law_is n = isM n
  | 0 => rfl
  | n + 1 => by
    have ih := q_is n
    unfold m_law_is isM
    rw [ih]
theorem caught_of {i c : Nat} {caps fs : List A} {p : Pen} {r : A} (hc : noClos caps = true) (h : sem i caps p = .exc c fs p) (hf : noClos fs = true ∧ c < 20)
    (hs : suite_caught c fs [none, some (.fn EX), none] = ret (.rt r)) (hr : noClo r = true) : m_law_caught [.clo i caps] p = .ok r p := by
  have e1 : seqM (dropM (actM sem 0)) nxM [some (.clo i caps), none, none] p = .exc c fs p := by
    refine bd_exc (bd_exc ?_)
    show (if noClos caps = true then sem i caps else no) p = _
    rw [if_pos hc, h]
  have e2 : tryM 1 3 (seqM (dropM (actM sem 0)) nxM) suite_caught [some (.clo i caps), none, none] p = .ok (.rt r) p := by
    unfold tryM
    rw [e1]
    dsimp only
    rw [if_pos hf]
    have e3 : ((List.replicate 3 none).set 1 (some (.fn EX)) : Env') = [none, some (.fn EX), none] := rfl
    rw [e3, hs, nox_ret, bd_ret]
    dsimp only
    rw [if_pos hr]
    rfl
  unfold m_law_caught defM
  have e4 : seqM (tryM 1 3 (seqM (dropM (actM sem 0)) nxM) suite_caught) (retM (onA mkTup (consM (cM (.str "none")) nilM))) [some (.clo i caps), none, none] p = .ok (.rt r) p := by
    exact (bd_run e2).trans rfl
  exact (bd_run e4).trans rfl
/-- a call and what is due of it -/
def Due (p : Pen) (it : A) : Prop := ∃ c r, it = .tup [c, r] ∧ m_law_caught [c] p = .ok r p ∧ ∀ x y, condM [x, y, some r, some r] = Mir.ret false
theorem raise_loop {p : Pen} {l : Option A} : ∀ (items : List A) (x1 x2 x3 : Option A), (∀ it ∈ items, Due p it) →
    ∃ ρ', forM (tgT 2 (tgCons (tgN 1) (tgCons (tgN 2) tgNil))) (seqM (setM 3 (callM 1 m_law_caught (consM (vM 1) nilM))) (seqM (iteM condM (retM (cM (.bl false))) nxM) nxM)) items [l, x1, x2, x3] p = .ok (.nx ρ') p
  | [], x1, x2, x3, _ => ⟨_, rfl⟩
  | it :: items, x1, x2, x3, h => by
    obtain ⟨c, r, rfl, e1, e2⟩ := h it List.mem_cons_self
    obtain ⟨ρ', e3⟩ := raise_loop (p := p) (l := l) items (some c) (some r) (some r) fun it hi => h it (List.mem_cons_of_mem _ hi)
    refine ⟨ρ', ?_⟩
    have b1 : setM 3 (callM 1 m_law_caught (consM (vM 1) nilM)) [l, some c, some r, x3] p = .ok (.nx [l, some c, some r, some r]) p := by
      unfold setM
      have : callM 1 m_law_caught (consM (vM 1) nilM) [l, some c, some r, x3] p = .ok r p := (congrFun (callM_ret (n := 1) (m := m_law_caught) (ms := consM (vM 1) nilM) (ρ := [l, some c, some r, x3]) (as := [c]) rfl rfl) p).trans e1
      rw [bd_run this]
      rfl
    have b2 : seqM (setM 3 (callM 1 m_law_caught (consM (vM 1) nilM))) (seqM (iteM condM (retM (cM (.bl false))) nxM) nxM) [l, some c, some r, x3] p = .ok (.nx [l, some c, some r, some r]) p := by
      rw [seqM_next b1, seqM_nx (ite_nx (e2 _ _))]
      rfl
    show bd (seqM (setM 3 (callM 1 m_law_caught (consM (vM 1) nilM))) (seqM (iteM condM (retM (cM (.bl false))) nxM) nxM) [l, some c, some r, x3]) _ p = _
    rw [bd_run b2]
    exact e3
theorem raise_ok {p : Pen} {items : List A} (h : ∀ it ∈ items, Due p it) : m_law_raise_so [.lst items] p = .ok (.bl true) p := by
  obtain ⟨ρ', e⟩ := raise_loop (p := p) (l := some (.lst items)) items none none none h
  have e2 : (forS (itSeq (vM 0)) (tgT 2 (tgCons (tgN 1) (tgCons (tgN 2) tgNil))) (seqM (setM 3 (callM 1 m_law_caught (consM (vM 1) nilM))) (seqM (iteM condM (retM (cM (.bl false))) nxM) nxM))) [some (.lst items), none, none, none] p = .ok (.nx ρ') p := by
    unfold forS
    rw [bd_eq (show itSeq (vM 0) [some (.lst items), none, none, none] = Mir.ret items from rfl)]
    exact e
  have e3 : seqM (forS (itSeq (vM 0)) (tgT 2 (tgCons (tgN 1) (tgCons (tgN 2) tgNil))) (seqM (setM 3 (callM 1 m_law_caught (consM (vM 1) nilM))) (seqM (iteM condM (retM (cM (.bl false))) nxM) nxM))) (retM (cM (.bl true))) [some (.lst items), none, none, none] p = .ok (.rt (.bl true)) p := by
    rw [seqM_next e2]
    rfl
  exact (bd_run e3).trans rfl
theorem due_any {p : Pen} {i c : Nat} {caps : List A} {b : A} {k w : Str} (hc : noClos caps = true) (h : sem i caps p = .exc c [b, .str w] p) (hl : c < 20) (hs : suite_caught c [b, .str w] [none, some (.fn EX), none] = Mir.ret (.rt (.tup [.str k, .str w, b]))) (hb : noClo b = true) (hk : okV b = true) (hw : SeqAt.shaped (.tuple [.str k, .str w]) = true) : Due p (.tup [.clo i caps, .tup [.str k, .str w, b]]) := by
  obtain ⟨d, e1, e2⟩ := okV_of hk
  refine ⟨_, _, rfl, caught_of hc h ⟨?_, hl⟩ hs ?_, fun x y => cond_of e1 e2 hw⟩
  · simp only [noClos, noClo, hb, Bool.and_self]
  · simp only [noClos, noClo, hb, Bool.and_self]
theorem suiteN {b : A} {w : Str} : suite_caught 2 [b, .str w] [none, some (.fn EX), none] = Mir.ret (.rt (.tup [.str "number", .str w, b])) := rfl
theorem suiteR {b : A} {w : Str} : suite_caught 3 [b, .str w] [none, some (.fn EX), none] = Mir.ret (.rt (.tup [.str "row", .str w, b])) := rfl
theorem tup_noclo (zs : List Int) : noClo (tupI zs) = true := by
  unfold tupI noClo
  induction zs with
  | nil => rfl
  | cons z zs ih => simp only [iL, List.map_cons, noClos, noClo, Bool.true_and]; exact ih
theorem is_same (n : Nat) : ∀ a : A, Pln n a → isM n [a, a] = Mir.ret (.bl true) := by
  induction n with
  | zero => intro a h; cases h
  | succ n ih =>
    intro a h
    cases h with
    | non => exact is_non
    | bl _ b =>
      cases b
      · exact is_false
      · exact is_true
    | int _ i => exact is_int i
    | tup _ xs h hl => exact is_tup hl ih h
theorem is8_self {a : A} {m1 m2 : ME'} {ρ : Env'} (h1 : m1 ρ = Mir.ret a) (h2 : m2 ρ = Mir.ret a) (hp : Pln 8 a) : notT (truM (callM 2 (m_law_is 8) (consM m1 (consM m2 nilM)))) ρ = Mir.ret false := by
  rw [q_is]
  exact notT_t (truM_ret ((callM_ret (as := [a, a]) (consM_ret h1 (consM_ret (ms := nilM) h2 rfl)) rfl).trans (is_same 8 a hp)))
theorem Ok.seq {m n : MS'} {ρ : Env'} {p : Pen} {Q : Fl → Pen → Prop} {R : Env' → Pen → Prop} (h : Ok (m ρ) p fun f p' => ∃ ρ', f = .nx ρ' ∧ R ρ' p') (k : ∀ ρ' p', R ρ' p' → Ok (n ρ') p' Q) : Ok (seqM m n ρ) p Q := by
  obtain ⟨f, p', e, ρ', rfl, r⟩ := h
  obtain ⟨g, p2, e2, q⟩ := k ρ' p' r
  exact ⟨g, p2, by rw [seqM_next e, e2], q⟩
theorem Ok.set {i : Nat} {m : ME'} {ρ : Env'} {p : Pen} {R : A → Pen → Prop} (h : Ok (m ρ) p R) : Ok (setM i m ρ) p fun f p' => ∃ ρ', f = .nx ρ' ∧ ∃ a, ρ' = ρ.set i (some a) ∧ R a p' := by
  obtain ⟨a, p', e, r⟩ := h
  exact ⟨_, p', by unfold setM; rw [bd_run e]; rfl, _, rfl, a, rfl, r⟩
theorem Ok.call {n : Nat} {m : List A → M A} {ms : Env' → M (List A)} {ρ : Env'} {as : List A} {p : Pen} {Q : A → Pen → Prop} (h : ms ρ = Mir.ret as) (hn : as.length = n) (k : Ok (m as) p Q) : Ok (callM n m ms ρ) p Q := by
  rw [callM_ret h hn]
  exact k
theorem consM_run {m : ME'} {ms : Env' → M (List A)} {ρ : Env'} {a : A} {as : List A} {p p1 p2 : Pen} (h : m ρ p = .ok a p1) (hs : ms ρ p1 = .ok as p2) : consM m ms ρ p = .ok (a :: as) p2 := by
  unfold consM
  rw [bd_run h, bd_run hs]
  rfl
theorem onA_run {g : List A → M A} {ms : Env' → M (List A)} {ρ : Env'} {as : List A} {p p1 : Pen} (h : ms ρ p = .ok as p1) : onA g ms ρ p = g as p1 := by
  unfold onA
  rw [bd_run h]
theorem Ok.pick {ms : Env' → M (List A)} {ρ : Env'} {xs : List A} {p : Pen} (h : ms ρ = Mir.ret [.pen, .lst xs]) (hp : PenOk p) (h0 : xs ≠ []) (hl : xs.length < 1073741824) : Ok (callM 2 m_law_pick ms ρ) p (fun a p' => PenOk p' ∧ a ∈ xs) := by
  rw [callM_ret (n := 2) (m := m_law_pick) h rfl]
  exact pick_spec hp h0 hl

theorem hT : fldsT 20 = [("lots" : Str)] := rfl
theorem ol_els : (fun p => (onA mkLst (consM (cM .non) (consM (cM (.int 5)) (consM (onA mkTup nilM) (consM (onA mkTup (consM (onA mkTup (consM (cM (.int 0)) nilM)) nilM)) (consM (cM (.str "levels")) nilM)))))) [some .pen] p) = fun p => .ok (.lst (badL)) p := by kernel_rfl
theorem dr_els {p : Pen} (hp : PenOk p) : Ok (m_law_odd_levels [.pen]) p (fun a p' => PenOk p' ∧ a ∈ badL) := by
  have e1 : (onA mkLst (consM (cM .non) (consM (cM (.int 5)) (consM (onA mkTup nilM) (consM (onA mkTup (consM (onA mkTup (consM (cM (.int 0)) nilM)) nilM)) (consM (cM (.str "levels")) nilM)))))) [some .pen] = Mir.ret (.lst (badL)) := ol_els
  obtain ⟨a, p', e, q⟩ := Ok.pick (p := p) (consM_ret (m := vM 0) (a := .pen) rfl (consM_ret (ms := nilM) e1 rfl)) hp (by simp [badL, badW, badS]) (show 5 < 1073741824 by decide)
  refine ⟨a, p', ?_, q⟩
  unfold m_law_odd_levels
  exact defM_run (retM_run e)
theorem ol_rld : (fun (m : Int) p => (onA mkLst (consM (cM .non) (consM (un1 negA (cM (.int 1))) (consM (vM 1) (consM (cM (.bl true)) (consM (cM (.str "0")) nilM)))))) [some .pen, some (.int m)] p) = fun m p => .ok (.lst (badW m)) p := by kernel_rfl
theorem dr_rld {p : Pen} {m : Nat} (hp : PenOk p) : Ok (m_law_odd_world [.pen, .int (m : Nat)]) p (fun a p' => PenOk p' ∧ a ∈ badW m) := by
  have e1 : (onA mkLst (consM (cM .non) (consM (un1 negA (cM (.int 1))) (consM (vM 1) (consM (cM (.bl true)) (consM (cM (.str "0")) nilM)))))) [some .pen, some (.int (m : Nat))] = Mir.ret (.lst (badW m)) := funext fun p => congrFun (congrFun ol_rld (m : Nat)) p
  obtain ⟨a, p', e, q⟩ := Ok.pick (p := p) (consM_ret (m := vM 0) (a := .pen) rfl (consM_ret (ms := nilM) e1 rfl)) hp (by simp [badL, badW, badS]) (show 5 < 1073741824 by decide)
  refine ⟨a, p', ?_, q⟩
  unfold m_law_odd_world
  exact defM_run (retM_run e)
theorem ol_lot : (fun (m : Int) p => (onA mkLst (consM (cM .non) (consM (cM (.int 5)) (consM (onA mkTup (consM (cM (.int 0)) (consM (cM (.int 0)) nilM))) (consM (onA mkTup (consM (vM 1) nilM)) (consM (onA mkTup (consM (un1 negA (cM (.int 1))) nilM)) (consM (onA mkTup (consM (cM (.bl true)) nilM)) (consM (cM (.str "0")) (consM (onA mkTup (consM (cM .non) nilM)) nilM))))))))) [some .pen, some (.int m)] p) = fun m p => .ok (.lst (badS m)) p := by kernel_rfl
theorem dr_lot {p : Pen} {m : Nat} (hp : PenOk p) : Ok (m_law_odd_lot [.pen, .int (m : Nat)]) p (fun a p' => PenOk p' ∧ a ∈ badS m) := by
  have e1 : (onA mkLst (consM (cM .non) (consM (cM (.int 5)) (consM (onA mkTup (consM (cM (.int 0)) (consM (cM (.int 0)) nilM))) (consM (onA mkTup (consM (vM 1) nilM)) (consM (onA mkTup (consM (un1 negA (cM (.int 1))) nilM)) (consM (onA mkTup (consM (cM (.bl true)) nilM)) (consM (cM (.str "0")) (consM (onA mkTup (consM (cM .non) nilM)) nilM))))))))) [some .pen, some (.int (m : Nat))] = Mir.ret (.lst (badS m)) := funext fun p => congrFun (congrFun ol_lot (m : Nat)) p
  obtain ⟨a, p', e, q⟩ := Ok.pick (p := p) (consM_ret (m := vM 0) (a := .pen) rfl (consM_ret (ms := nilM) e1 rfl)) hp (by simp [badL, badW, badS]) (show 8 < 1073741824 by decide)
  refine ⟨a, p', ?_, q⟩
  unfold m_law_odd_lot
  exact defM_run (retM_run e)
section
variable {m : Nat} {L : List (List Int)} (h : Lv m L) (h1 : 1 ≤ m) (h8 : m ≤ 8) {v4 v5 v6 : A} (b4 : v4 ∈ badL) (b5 : v5 ∈ badS m) (b6 : v6 ∈ badW m) {p : Pen}
include h h1 h8 b4 b5 b6
theorem nl_bad {i : Nat} {ρ : Env'} (hi : vM i ρ = Mir.ret v4) : dropM (callM 2 m_need_levels (consM (cM (.str "levels")) (consM (vM i) nilM))) ρ p = .exc 3 [v4, .str "levels"] p := dropM_exc (call_exc (as := [.str "levels", v4]) (consM_ret rfl (consM_ret (ms := nilM) hi rfl)) rfl (need_levels_bad b4))
theorem nl_ok {i : Nat} {ρ : Env'} (hi : vM i ρ = Mir.ret (levA L)) : dropM (callM 2 m_need_levels (consM (cM (.str "levels")) (consM (vM i) nilM))) ρ = Mir.ret (.nx ρ) := need_lev_call hT h h8 hi
theorem nw_bad {i j : Nat} {w : Str} {ρ : Env'} (hi : vM i ρ = Mir.ret (levA L)) (hj : vM j ρ = Mir.ret v6) : dropM (callM 3 m_need_world (consM (vM i) (consM (cM (.str w)) (consM (vM j) nilM)))) ρ p = .exc 2 [v6, .str w] p := dropM_exc (call_exc (as := [levA L, .str w, v6]) (consM_ret hi (consM_ret rfl (consM_ret (ms := nilM) hj rfl))) rfl (need_world_bad hT h h8 b6))
theorem ns_bad {i j : Nat} {w : Str} {ρ : Env'} (hi : vM i ρ = Mir.ret (levA L)) (hj : vM j ρ = Mir.ret v5) : callM 3 m_need_saying (consM (callM 1 m_many_of (consM (vM i) nilM)) (consM (cM (.str w)) (consM (vM j) nilM))) ρ p = .exc 3 [v5, .str w] p := call_exc (as := [.int (m : Nat), .str w, v5]) (consM_ret (many_call hT h h8 hi) (consM_ret rfl (consM_ret (ms := nilM) hj rfl))) rfl (need_saying_bad h1 h8 b5)
theorem z_lev {x : A} : m_level_of [v4, x] p = .exc 3 [v4, .str "levels"] p := defM_exc (seqM_exc (nl_bad h h1 h8 b4 b5 b6 rfl))
theorem z_lev2 : m_level_of [levA L, v6] p = .exc 2 [v6, .str "world"] p := defM_exc (seqM_nxr (nl_ok h h1 h8 b4 b5 b6 rfl) (seqM_exc (nw_bad h h1 h8 b4 b5 b6 rfl rfl)))
theorem z_fst {x : A} : m_first_ones [v4, x] p = .exc 3 [v4, .str "levels"] p := defM_exc (seqM_exc (nl_bad h h1 h8 b4 b5 b6 rfl))
theorem z_fst2 : m_first_ones [levA L, v5] p = .exc 3 [v5, .str "saying"] p := by
  refine defM_exc (seqM_nxr (nl_ok h h1 h8 b4 b5 b6 rfl) (retM_exc ?_))
  refine bd_exc ?_
  show bd (vM 0 _) _ p = _
  rw [bd_eq (show vM 0 (start' 2 [levA L, v5]) = Mir.ret (levA L) from rfl)]
  exact bd_exc (bd_exc (ns_bad h h1 h8 b4 b5 b6 rfl rfl))
theorem z_ah {x y : A} : m_is_ahead [v4, x, y] p = .exc 3 [v4, .str "levels"] p := defM_exc (seqM_exc (nl_bad h h1 h8 b4 b5 b6 rfl))
theorem z_ah2 {y : A} : m_is_ahead [levA L, v6, y] p = .exc 2 [v6, .str "world"] p := defM_exc (seqM_nxr (nl_ok h h1 h8 b4 b5 b6 rfl) (seqM_exc (nw_bad h h1 h8 b4 b5 b6 rfl rfl)))
theorem z_ah3 : m_is_ahead [levA L, .int 0, v6] p = .exc 2 [v6, .str "other"] p := defM_exc (seqM_nxr (nl_ok h h1 h8 b4 b5 b6 rfl) (seqM_nxr (need_world_call hT h h8 rfl rfl (Int.le_refl 0) (by omega)) (seqM_exc (nw_bad h h1 h8 b4 b5 b6 rfl rfl))))
theorem z_na {x : A} : m_narrowed_levels [v4, x] p = .exc 3 [v4, .str "levels"] p := defM_exc (seqM_exc (nl_bad h h1 h8 b4 b5 b6 rfl))
theorem z_na2 : m_narrowed_levels [levA L, v5] p = .exc 3 [v5, .str "saying"] p := defM_exc (seqM_nxr (nl_ok h h1 h8 b4 b5 b6 rfl) (seqM_exc (setM_exc (ns_bad h h1 h8 b4 b5 b6 rfl rfl))))
theorem z_na3 : m_narrowed_levels [levA L, tupI []] p = .exc 3 [tupI [], .str "saying"] p := by
  refine defM_exc (seqM_nxr (nl_ok h h1 h8 b4 b5 b6 rfl) (seqM_nxr (setM_ret (need_say hT h h8 (a := tupI []) (s := []) (.inl rfl) (List.nil_sublist _) rfl rfl)) (seqM_exc (ite_exc ?_ rfl))))
  exact notT_ret (tru_tup (f := []) rfl)
theorem r0 : sem 0 [v4, v6] p = .exc 3 [v4, .str "levels"] p := by
  show lamM0 [some (v4), some (v6)] p = _
  unfold lamM0
  exact call_exc (as := [v4, v6]) rfl rfl (z_lev h h1 h8 b4 b5 b6)
theorem r1 : sem 1 [levA L, v6] p = .exc 2 [v6, .str "world"] p := by
  show lamM1 [some (levA L), some (v6)] p = _
  unfold lamM1
  exact call_exc (as := [levA L, v6]) rfl rfl (z_lev2 h h1 h8 b4 b5 b6)
theorem r2 : sem 2 [v4, v5] p = .exc 3 [v4, .str "levels"] p := by
  show lamM2 [some (v4), some (v5)] p = _
  unfold lamM2
  exact call_exc (as := [v4, v5]) rfl rfl (z_fst h h1 h8 b4 b5 b6)
theorem r3 : sem 3 [levA L, v5] p = .exc 3 [v5, .str "saying"] p := by
  show lamM3 [some (levA L), some (v5)] p = _
  unfold lamM3
  exact call_exc (as := [levA L, v5]) rfl rfl (z_fst2 h h1 h8 b4 b5 b6)
theorem r4 : sem 4 [v4, v6] p = .exc 3 [v4, .str "levels"] p := by
  show lamM4 [some (v4), some (v6)] p = _
  unfold lamM4
  exact call_exc (as := [v4, v6, v6]) rfl rfl (z_ah h h1 h8 b4 b5 b6)
theorem r5 : sem 5 [levA L, v6] p = .exc 2 [v6, .str "world"] p := by
  show lamM5 [some (levA L), some (v6)] p = _
  unfold lamM5
  exact call_exc (as := [levA L, v6, v6]) rfl rfl (z_ah2 h h1 h8 b4 b5 b6)
theorem r6 : sem 6 [levA L, v6] p = .exc 2 [v6, .str "other"] p := by
  show lamM6 [some (levA L), some (v6)] p = _
  unfold lamM6
  exact call_exc (as := [levA L, .int 0, v6]) rfl rfl (z_ah3 h h1 h8 b4 b5 b6)
theorem r7 : sem 7 [v4, v5] p = .exc 3 [v4, .str "levels"] p := by
  show lamM7 [some (v4), some (v5)] p = _
  unfold lamM7
  exact call_exc (as := [v4, v5]) rfl rfl (z_na h h1 h8 b4 b5 b6)
theorem r8 : sem 8 [levA L, v5] p = .exc 3 [v5, .str "saying"] p := by
  show lamM8 [some (levA L), some (v5)] p = _
  unfold lamM8
  exact call_exc (as := [levA L, v5]) rfl rfl (z_na2 h h1 h8 b4 b5 b6)
theorem r9 : sem 9 [levA L] p = .exc 3 [tupI [], .str "saying"] p := by
  show lamM9 [some (levA L)] p = _
  unfold lamM9
  exact call_exc (as := [levA L, tupI []]) (consM_ret rfl (consM_ret (ms := nilM) tup_nil rfl)) rfl (z_na3 h h1 h8 b4 b5 b6)
end
def calls (v4 v5 v6 : A) : List Call := [(0, "row", "levels", v4), (1, "number", "world", v6), (2, "row", "levels", v4), (3, "row", "saying", v5), (4, "row", "levels", v4), (5, "number", "world", v6), (6, "number", "other", v6), (7, "row", "levels", v4), (8, "row", "saying", v5), (9, "row", "saying", tupI [])]
def capF (m : Nat) (L : List (List Int)) (v4 v5 v6 : A) : Nat → List A
  | 0 => [v4, v6]
  | 1 => [levA L, v6]
  | 2 => [v4, v5]
  | 3 => [levA L, v5]
  | 4 => [v4, v6]
  | 5 => [levA L, v6]
  | 6 => [levA L, v6]
  | 7 => [v4, v5]
  | 8 => [levA L, v5]
  | 9 => [levA L]
  | _ => []
theorem calls_due {p : Pen} {m : Nat} {L : List (List Int)} {v4 v5 v6 : A} (h : Lv m L) (h1 : 1 ≤ m) (h8 : m ≤ 8) (b4 : v4 ∈ badL) (b5 : v5 ∈ badS m) (b6 : v6 ∈ badW m) : ∀ it ∈ (calls v4 v5 v6).map (callA (capF m L v4 v5 v6)), Due p it := by
  have n4 := nc_badL b4
  have n5 := nc_badS h1 h8 b5
  have n6 := nc_badW h1 h8 b6
  have n0 : noClo (tupI []) = true ∧ okV (tupI []) = true := ⟨by decide +kernel, by decide +kernel⟩
  have nL := noClo_lev L
  intro it hi
  simp only [calls, callA, capF, List.map_cons, List.map_nil, List.mem_cons, List.not_mem_nil, or_false] at hi
  rcases hi with rfl | rfl | rfl | rfl | rfl | rfl | rfl | rfl | rfl | rfl
  · exact due_any (by simp only [noClos, noClo, n4.1, n6.1, Bool.and_self]) (r0 h h1 h8 b4 b5 b6) (by decide) suiteR n4.1 n4.2 (by decide +kernel)
  · exact due_any (by simp only [noClos, noClo, nL, n6.1, Bool.and_self]) (r1 h h1 h8 b4 b5 b6) (by decide) suiteN n6.1 n6.2 (by decide +kernel)
  · exact due_any (by simp only [noClos, noClo, n4.1, n5.1, Bool.and_self]) (r2 h h1 h8 b4 b5 b6) (by decide) suiteR n4.1 n4.2 (by decide +kernel)
  · exact due_any (by simp only [noClos, noClo, nL, n5.1, Bool.and_self]) (r3 h h1 h8 b4 b5 b6) (by decide) suiteR n5.1 n5.2 (by decide +kernel)
  · exact due_any (by simp only [noClos, noClo, n4.1, n6.1, Bool.and_self]) (r4 h h1 h8 b4 b5 b6) (by decide) suiteR n4.1 n4.2 (by decide +kernel)
  · exact due_any (by simp only [noClos, noClo, nL, n6.1, Bool.and_self]) (r5 h h1 h8 b4 b5 b6) (by decide) suiteN n6.1 n6.2 (by decide +kernel)
  · exact due_any (by simp only [noClos, noClo, nL, n6.1, Bool.and_self]) (r6 h h1 h8 b4 b5 b6) (by decide) suiteN n6.1 n6.2 (by decide +kernel)
  · exact due_any (by simp only [noClos, noClo, n4.1, n5.1, Bool.and_self]) (r7 h h1 h8 b4 b5 b6) (by decide) suiteR n4.1 n4.2 (by decide +kernel)
  · exact due_any (by simp only [noClos, noClo, nL, n5.1, Bool.and_self]) (r8 h h1 h8 b4 b5 b6) (by decide) suiteR n5.1 n5.2 (by decide +kernel)
  · exact due_any (by simp only [noClos, noClo, nL, Bool.and_self]) (r9 h h1 h8 b4 b5 b6) (by decide) suiteR n0.1 n0.2 (by decide +kernel)
abbrev rfA : MS' := (asgM (tgT 3 (tgCons (tgN 4) (tgCons (tgN 6) (tgCons (tgN 5) tgNil)))) (onA mkTup (consM (callM 1 m_law_odd_levels (consM (vM 0) nilM)) (consM (callM 2 m_law_odd_world (consM (vM 0) (consM (vM 2) nilM))) (consM (callM 2 m_law_odd_lot (consM (vM 0) (consM (vM 2) nilM))) nilM)))))
abbrev rfC : MS' := (seqM (setM 3 (onA mkLst (consM (onA mkTup (consM (cM (.clo 0 [])) (consM (onA mkTup (consM (cM (.str "row")) (consM (cM (.str "levels")) (consM (vM 4) nilM)))) nilM))) nilM))) (seqM (appM 3 (onA mkTup (consM (cM (.clo 1 [])) (consM (onA mkTup (consM (cM (.str "number")) (consM (cM (.str "world")) (consM (vM 6) nilM)))) nilM)))) (seqM (appM 3 (onA mkTup (consM (cM (.clo 2 [])) (consM (onA mkTup (consM (cM (.str "row")) (consM (cM (.str "levels")) (consM (vM 4) nilM)))) nilM)))) (seqM (appM 3 (onA mkTup (consM (cM (.clo 3 [])) (consM (onA mkTup (consM (cM (.str "row")) (consM (cM (.str "saying")) (consM (vM 5) nilM)))) nilM)))) (seqM (appM 3 (onA mkTup (consM (cM (.clo 4 [])) (consM (onA mkTup (consM (cM (.str "row")) (consM (cM (.str "levels")) (consM (vM 4) nilM)))) nilM)))) (seqM (appM 3 (onA mkTup (consM (cM (.clo 5 [])) (consM (onA mkTup (consM (cM (.str "number")) (consM (cM (.str "world")) (consM (vM 6) nilM)))) nilM)))) (seqM (appM 3 (onA mkTup (consM (cM (.clo 6 [])) (consM (onA mkTup (consM (cM (.str "number")) (consM (cM (.str "other")) (consM (vM 6) nilM)))) nilM)))) (seqM (appM 3 (onA mkTup (consM (cM (.clo 7 [])) (consM (onA mkTup (consM (cM (.str "row")) (consM (cM (.str "levels")) (consM (vM 4) nilM)))) nilM)))) (seqM (appM 3 (onA mkTup (consM (cM (.clo 8 [])) (consM (onA mkTup (consM (cM (.str "row")) (consM (cM (.str "saying")) (consM (vM 5) nilM)))) nilM)))) (seqM (appM 3 (onA mkTup (consM (cM (.clo 9 [])) (consM (onA mkTup (consM (cM (.str "row")) (consM (cM (.str "saying")) (consM (onA mkTup nilM) nilM)))) nilM)))) (retM (callLM 1 m_law_raise_so slots__law_refusals_right (consM (vM 3) nilM)))))))))))))
theorem pairG {i : Nat} {k w : Str} {m : ME'} {v : A} {ρ : Env'} (h : m ρ = Mir.ret v) : onA mkTup (consM (cM (.clo i [])) (consM (onA mkTup (consM (cM (.str k)) (consM (cM (.str w)) (consM m nilM)))) nilM)) ρ = Mir.ret (callA (fun _ => []) (i, k, w, v)) := by
  have e : onA mkTup (consM (cM (.str k)) (consM (cM (.str w)) (consM m nilM))) ρ = Mir.ret (.tup [.str k, .str w, v]) := (onA_ret (consM_ret (a := .str k) rfl (consM_ret (a := .str w) rfl (consM_ret (ms := nilM) h rfl)))).trans (mkTup_ret (small_line (show 3 ≤ 1000 by decide)))
  exact (onA_ret (consM_ret (a := .clo i []) rfl (consM_ret (ms := nilM) e rfl))).trans (mkTup_ret (small_line (show 2 ≤ 1000 by decide)))
theorem chain_ok {m : Nat} {L : List (List Int)} {v4 v5 v6 : A} : rfC [some .pen, some (levA L), some (.int (m : Nat)), none, some v4, some v5, some v6] = (retM (callLM 1 m_law_raise_so slots__law_refusals_right (consM (vM 3) nilM))) [some .pen, some (levA L), some (.int (m : Nat)), some (.lst ((calls v4 v5 v6).map (callA fun _ => []))), some v4, some v5, some v6] := by
  refine (seqM_nx (setM_ret ((onA_ret (consM_ret (ms := nilM) (pairG rfl) rfl)).trans (mkLst_ret (small_line (show 1 ≤ 1000 by decide)))))).trans ?_
  refine (seqM_nx (appM_ret rfl (pairG rfl) (by simp))).trans ?_
  refine (seqM_nx (appM_ret rfl (pairG rfl) (by simp))).trans ?_
  refine (seqM_nx (appM_ret rfl (pairG rfl) (by simp))).trans ?_
  refine (seqM_nx (appM_ret rfl (pairG rfl) (by simp))).trans ?_
  refine (seqM_nx (appM_ret rfl (pairG rfl) (by simp))).trans ?_
  refine (seqM_nx (appM_ret rfl (pairG rfl) (by simp))).trans ?_
  refine (seqM_nx (appM_ret rfl (pairG rfl) (by simp))).trans ?_
  refine (seqM_nx (appM_ret rfl (pairG rfl) (by simp))).trans ?_
  refine (seqM_nx (appM_ret rfl (pairG tup_nil) (by simp))).trans ?_
  rfl
theorem refuse_ok {m : Nat} {L : List (List Int)} {p : Pen} (h : Lv m L) (h1 : 1 ≤ m) (h8 : m ≤ 8) (hp : PenOk p) : ∃ p', m_law_refusals_right [.pen, levA L, .int (m : Nat)] p = .ok (.bl true) p' ∧ PenOk p' := by
  obtain ⟨v4, q0, e4, hq0, b4⟩ := dr_els (p := p) hp
  obtain ⟨v6, q1, e6, hq1, b6⟩ := dr_rld (m := m) hq0
  obtain ⟨v5, q2, e5, hq2, b5⟩ := dr_lot (m := m) hq1
  have n4 := nc_badL b4
  have n5 := nc_badS h1 h8 b5
  have n6 := nc_badW h1 h8 b6
  have nL := noClo_lev L
  refine ⟨q2, ?_, hq2⟩
  have c4 : callM 1 m_law_odd_levels (consM (vM 0) nilM) [some .pen, some (levA L), some (.int (m : Nat)), none, none, none, none] p = .ok v4 q0 := call_run (as := [.pen]) rfl rfl e4
  have c6 : callM 2 m_law_odd_world (consM (vM 0) (consM (vM 2) nilM)) [some .pen, some (levA L), some (.int (m : Nat)), none, none, none, none] q0 = .ok v6 q1 := call_run (as := [.pen, .int (m : Nat)]) rfl rfl e6
  have c5 : callM 2 m_law_odd_lot (consM (vM 0) (consM (vM 2) nilM)) [some .pen, some (levA L), some (.int (m : Nat)), none, none, none, none] q1 = .ok v5 q2 := call_run (as := [.pen, .int (m : Nat)]) rfl rfl e5
  have t := (onA_run (g := mkTup) (consM_run c4 (consM_run c6 (consM_run c5 (show nilM _ q2 = .ok [] q2 from rfl))))).trans (congrFun (mkTup_ret (as := [v4, v6, v5]) (small_line (show 3 ≤ 1000 by decide))) q2)
  have s1 : rfA [some .pen, some (levA L), some (.int (m : Nat)), none, none, none, none] p = .ok (.nx [some .pen, some (levA L), some (.int (m : Nat)), none, some v4, some v5, some v6]) q2 := (bd_run t).trans rfl
  have hf : fills (capOf slots__law_refusals_right [some .pen, some (levA L), some (.int (m : Nat)), some (.lst ((calls v4 v5 v6).map (callA fun _ => []))), some v4, some v5, some v6]) [.lst ((calls v4 v5 v6).map (callA fun _ => []))] = some [.lst ((calls v4 v5 v6).map (callA (capF m L v4 v5 v6)))] := by
    have k0 := fills_calls (cap := capOf slots__law_refusals_right [some .pen, some (levA L), some (.int (m : Nat)), some (.lst ((calls v4 v5 v6).map (callA fun _ => []))), some v4, some v5, some v6]) (f := capF m L v4 v5 v6) (calls v4 v5 v6) (fun q hq => by
      simp only [calls, List.mem_cons, List.not_mem_nil, or_false] at hq
      rcases hq with rfl | rfl | rfl | rfl | rfl | rfl | rfl | rfl | rfl | rfl <;> simp [capOf, slots__law_refusals_right, capAt, capF, noClo, noClos, n4.1, n5.1, n6.1, nL, noClo_I])
    simp only [fills, fillA, k0, Option.map_some]
  have e7 : callLM 1 m_law_raise_so slots__law_refusals_right (consM (vM 3) nilM) [some .pen, some (levA L), some (.int (m : Nat)), some (.lst ((calls v4 v5 v6).map (callA fun _ => []))), some v4, some v5, some v6] q2 = .ok (.bl true) q2 := by
    unfold callLM
    rw [bd_eq (show consM (vM 3) nilM [some .pen, some (levA L), some (.int (m : Nat)), some (.lst ((calls v4 v5 v6).map (callA fun _ => []))), some v4, some v5, some v6] = Mir.ret [.lst ((calls v4 v5 v6).map (callA fun _ => []))] from rfl), hf]
    dsimp only
    rw [if_pos (show [A.lst ((calls v4 v5 v6).map (callA (capF m L v4 v5 v6)))].length = 1 from rfl), bd_run (nox_run (raise_ok (calls_due h h1 h8 b4 b5 b6)))]
    rfl
  have e8 : seqM rfA rfC [some .pen, some (levA L), some (.int (m : Nat)), none, none, none, none] p = .ok (.rt (.bl true)) q2 := (seqM_next s1).trans ((congrFun chain_ok q2).trans (retM_run e7))
  show (if noClos [.pen, levA L, .int (m : Nat)] then bd (nox (defM 7 (seqM rfA rfC) [.pen, levA L, .int (m : Nat)])) (fun a => if noClo a then Mir.ret a else Mir.no) else Mir.no) p = _
  rw [if_pos (show noClos [A.pen, levA L, A.int (m : Nat)] = true by simp only [noClos, noClo, nL, Bool.and_self]), bd_run (nox_run (defM_run e8))]
  rfl
end LG

namespace LG
open PySem L2 Mir
/-- the cells of a lap -/
abbrev ev (s0 a2 : Option A) (m : Nat) (L : List (List Int)) (a7 a8 a9 a10 a11 a12 a13 a14 a15 : Option A) : Env' := [s0, some .pen, a2, some (.int (m : Nat)), some (encL L), some (levA L), some (lstI (heightsL m L)), a7, a8, a9, a10, a11, a12, a13, a14, a15, none, none, none]
theorem tupI_pln (k : Nat) (zs : List Int) (h : zs.length ≤ 1000) : Pln (k + 2) (tupI zs) := .tup (k + 1) _ (fun x hx => by
  obtain ⟨z, _, rfl⟩ := List.mem_map.mp hx
  exact .int _ _) (by rw [List.length_map]; exact h)
theorem encL_pln (k : Nat) (L : List (List Int)) (h : L.length ≤ 1000) (h2 : ∀ l ∈ L, l.length ≤ 1000) : Pln (k + 3) (encL L) := .tup (k + 2) _ (fun x hx => by
  obtain ⟨l, hl, rfl⟩ := List.mem_map.mp hx
  exact tupI_pln k l (h2 l hl)) (by rw [List.length_map]; exact h)
theorem Lv.pln {m : Nat} {L : List (List Int)} (h : Lv m L) (h8 : m ≤ 8) : Pln 8 (encL L) := encL_pln 5 L (by have := h.len; omega) fun l hl => by have := h.lotlen hl; omega
section
variable {m : Nat} {L : List (List Int)} (h : Lv m L) (h1 : 1 ≤ m) (h8 : m ≤ 8) {s0 a2 a7 a8 a9 a10 a11 a12 a13 a14 a15 : Option A}
include h h1 h8
theorem k3 : (notT (truM (callM 2 (m_law_is 8) (consM (onA tupA (consM (lcM (itOn range1A (consM (vM 3) nilM)) (tgN 17) yesM (callM 2 m_level_of (consM (vM 5) (consM (vM 17) nilM))) [16, 17]) nilM)) (consM (onA tupA (consM (vM 6) nilM)) nilM))))) (ev s0 a2 m L a7 a8 a9 a10 a11 a12 a13 a14 a15) = Mir.ret false := by
  have e0 : itOn range1A (consM (vM 3) nilM) (ev s0 a2 m L a7 a8 a9 a10 a11 a12 a13 a14 a15) = Mir.ret ((rng (m : Nat)).map A.int) := (itOn_ret (as := [.int (m : Nat)]) rfl).trans (rngW (by omega) (by omega))
  have e1 := lcM_mapE (t := tgN 17) (c := yesM) (e := (callM 2 m_level_of (consM (vM 5) (consM (vM 17) nilM)))) (vs := [16, 17]) (enc := A.int) (enc' := A.int) (L := rng (m : Nat)) (atH (heightsL m L)) e0 (fun x hx => lcF_yes ((callM_ret (n := 2) (m := m_level_of) (as := [levA L, .int x]) rfl rfl).trans (level_of_ok hT h h8 (mem_rng.mp hx).1 (mem_rng.mp hx).2))) (by rw [rng_length]; omega)
  rw [map_atH (heights_len m L)] at e1
  have e2 := (onA_ret (g := tupA) (consM_ret (ms := nilM) e1 rfl)).trans (show tupA [.lst ((heightsL m L).map A.int)] = Mir.ret (tupI (heightsL m L)) from rfl)
  exact is8_self e2 (a := tupI (heightsL m L)) rfl (tupI_pln 6 _ (by rw [heights_len]; omega))
abbrev b4 : MS' := seqM (iteM (notT (truM (callM 2 (m_law_is 8) (consM (onA mkTup (consM (callM 3 m_is_ahead (consM (vM 5) (consM (vM 7) (consM (vM 8) nilM)))) (consM (callM 3 m_is_ahead (consM (vM 5) (consM (vM 8) (consM (vM 7) nilM)))) nilM))) (consM (onA mkTup (consM (op2 ltA (op2 ixA (vM 6) (vM 7)) (op2 ixA (vM 6) (vM 8))) (consM (op2 ltA (op2 ixA (vM 6) (vM 8)) (op2 ixA (vM 6) (vM 7))) nilM))) nilM))))) (retM (cM (.bl false))) nxM) nxM
theorem k4c {x y : Int} (x0 : 0 ≤ x) (x1 : x < m) (y0 : 0 ≤ y) (y1 : y < m) : (notT (truM (callM 2 (m_law_is 8) (consM (onA mkTup (consM (callM 3 m_is_ahead (consM (vM 5) (consM (vM 7) (consM (vM 8) nilM)))) (consM (callM 3 m_is_ahead (consM (vM 5) (consM (vM 8) (consM (vM 7) nilM)))) nilM))) (consM (onA mkTup (consM (op2 ltA (op2 ixA (vM 6) (vM 7)) (op2 ixA (vM 6) (vM 8))) (consM (op2 ltA (op2 ixA (vM 6) (vM 8)) (op2 ixA (vM 6) (vM 7))) nilM))) nilM))))) (ev s0 a2 m L (some (.int x)) (some (.int y)) a9 a10 a11 a12 a13 a14 a15) = Mir.ret false := by
  have t2 : ∀ {x y : A}, mkTup [x, y] = Mir.ret (.tup [x, y]) := fun {x y} => mkTup_ret (small_line (show 2 ≤ 1000 by decide))
  have i1 : callM 3 m_is_ahead (consM (vM 5) (consM (vM 7) (consM (vM 8) nilM))) (ev s0 a2 m L (some (.int x)) (some (.int y)) a9 a10 a11 a12 a13 a14 a15) = Mir.ret (.bl (decide (atH (heightsL m L) x < atH (heightsL m L) y))) := (callM_ret (n := 3) (m := m_is_ahead) (as := [levA L, .int x, .int y]) rfl rfl).trans (is_ahead_ok hT h h8 x0 x1 y0 y1)
  have i2 : callM 3 m_is_ahead (consM (vM 5) (consM (vM 8) (consM (vM 7) nilM))) (ev s0 a2 m L (some (.int x)) (some (.int y)) a9 a10 a11 a12 a13 a14 a15) = Mir.ret (.bl (decide (atH (heightsL m L) y < atH (heightsL m L) x))) := (callM_ret (n := 3) (m := m_is_ahead) (as := [levA L, .int y, .int x]) rfl rfl).trans (is_ahead_ok hT h h8 y0 y1 x0 x1)
  have j1 : op2 ixA (vM 6) (vM 7) (ev s0 a2 m L (some (.int x)) (some (.int y)) a9 a10 a11 a12 a13 a14 a15) = Mir.ret (.int (atH (heightsL m L) x)) := (op2_ret (a := lstI (heightsL m L)) (b := .int x) rfl rfl).trans (ix_int x0 (by rw [heights_len]; exact x1))
  have j2 : op2 ixA (vM 6) (vM 8) (ev s0 a2 m L (some (.int x)) (some (.int y)) a9 a10 a11 a12 a13 a14 a15) = Mir.ret (.int (atH (heightsL m L) y)) := (op2_ret (a := lstI (heightsL m L)) (b := .int y) rfl rfl).trans (ix_int y0 (by rw [heights_len]; exact y1))
  have e1 := (onA_ret (g := mkTup) (consM_ret i1 (consM_ret (ms := nilM) i2 rfl))).trans t2
  have l1 := (op2_ret (g := ltA) j1 j2).trans (show ltA (.int (atH (heightsL m L) x)) (.int (atH (heightsL m L) y)) = Mir.ret (.bl (decide (atH (heightsL m L) x < atH (heightsL m L) y))) from rfl)
  have l2 := (op2_ret (g := ltA) j2 j1).trans (show ltA (.int (atH (heightsL m L) y)) (.int (atH (heightsL m L) x)) = Mir.ret (.bl (decide (atH (heightsL m L) y < atH (heightsL m L) x))) from rfl)
  have e2 := (onA_ret (g := mkTup) (consM_ret l1 (consM_ret (ms := nilM) l2 rfl))).trans t2
  exact is8_self e1 e2 (.tup 7 _ (fun z hz => by
    rcases List.mem_cons.mp hz with rfl | hz
    · exact .bl _ _
    · rcases List.mem_cons.mp hz with rfl | hz
      · exact .bl _ _
      · cases hz) (show 2 ≤ 1000 by decide))
theorem k4l : ∀ (Q : List (List Int)) {a7 a8 : Option A}, (∀ q ∈ Q, ∃ x y : Int, q = [x, y] ∧ 0 ≤ x ∧ x < y ∧ y < m) → ∃ y7 y8, forM (tgT 2 (tgCons (tgN 7) (tgCons (tgN 8) tgNil))) b4 (Q.map tupI) (ev s0 a2 m L a7 a8 a9 a10 a11 a12 a13 a14 a15) = Mir.ret (.nx (ev s0 a2 m L y7 y8 a9 a10 a11 a12 a13 a14 a15))
  | [], a7, a8, _ => ⟨a7, a8, rfl⟩
  | q :: Q, a7, a8, hq => by
    obtain ⟨x, y, rfl, x0, xy, y1⟩ := hq q List.mem_cons_self
    obtain ⟨y7, y8, e⟩ := k4l Q (a7 := some (.int x)) (a8 := some (.int y)) fun z hz => hq z (List.mem_cons_of_mem _ hz)
    exact ⟨y7, y8, (for_nx (ρ1 := (ev s0 a2 m L (some (.int x)) (some (.int y)) a9 a10 a11 a12 a13 a14 a15)) (ρ2 := (ev s0 a2 m L (some (.int x)) (some (.int y)) a9 a10 a11 a12 a13 a14 a15)) rfl ((seqM_nx (ite_nx (k4c h h1 h8 x0 (by omega) (by omega) y1))).trans rfl)).trans e⟩
abbrev b5 : MS' := seqM (setM 10 (callM 2 m_law_drawn_saying (consM (vM 1) (consM (vM 3) nilM)))) (seqM (parM 11 12 (consM (callM 2 m_law_pick (consM (vM 1) (consM (onA mkLst (consM (vM 10) (consM (onA lstA (consM (vM 10) nilM)) nilM))) nilM))) (consM (callM 2 m_law_first (consM (vM 4) (consM (vM 10) nilM))) nilM))) (seqM (iteM (notT (truM (callM 2 (m_law_is 8) (consM (callM 2 m_first_ones (consM (vM 5) (consM (vM 11) nilM))) (consM (vM 12) nilM))))) (retM (cM (.bl false))) nxM) (seqM (setM 13 (onA tupA (consM (lcM (itSeq (vM 10)) (tgN 17) (tstM (op2 gtA (callM 2 m_law_draw (consM (vM 1) (consM (cM (.int 3)) nilM))) (cM (.int 0)))) (vM 17) [16, 17]) nilM))) (seqM (iteM (tstM (op2 neA (lcM (itSeq (vM 12)) (tgN 17) (andT (tstM (op2 inA (vM 17) (vM 13))) (tstM (op2 notInA (vM 17) (callM 2 m_first_ones (consM (vM 5) (consM (vM 13) nilM)))))) (vM 17) [16, 17]) (onA mkLst nilM))) (retM (cM (.bl false))) nxM) (seqM (iteM (andT (tstM (op2 neA (vM 10) (onA mkTup nilM))) (notT (truM (callM 2 (m_law_is 8) (consM (callM 1 m_law_plain (consM (callM 2 m_narrowed_levels (consM (vM 5) (consM (vM 11) nilM))) nilM)) (consM (callM 1 m_law_lots_of (consM (lcM (itSeq (vM 10)) (tgN 17) yesM (op2 ixA (vM 6) (vM 17)) [16, 17]) nilM)) nilM)))))) (retM (cM (.bl false))) nxM) nxM)))))
theorem f_len {s : List Int} (hs : Lot m s) : (firstF L s).length ≤ 8 := by
  have key : ∀ M : List (List Int), (∀ l ∈ M, l.length ≤ 8) → (firstF M s).length ≤ 8 := by
    intro M
    induction M with
    | nil => intro _; exact Nat.zero_le _
    | cons l M ih =>
      intro hM
      unfold firstF
      split
      · exact ih fun z hz => hM z (List.mem_cons_of_mem _ hz)
      · exact Nat.le_trans (List.length_filter_le _ _) (hM l List.mem_cons_self)
  exact key L fun l hl => by have := h.lotlen hl; omega
theorem s_len {s : List Int} (hs : Lot m s) : s.length ≤ 8 := by
  have := hs.length_le
  rw [rng_length] at this
  omega
theorem k52 {s : List Int} {a : A} (hs : Lot m s) (ha : SayA a s) : (notT (truM (callM 2 (m_law_is 8) (consM (callM 2 m_first_ones (consM (vM 5) (consM (vM 11) nilM))) (consM (vM 12) nilM))))) (ev s0 a2 m L a7 a8 a9 (some (tupI s)) (some a) (some (tupI (firstF L s))) a13 a14 a15) = Mir.ret false := is8_self (a := tupI (firstF L s)) ((callM_ret (n := 2) (m := m_first_ones) (as := [levA L, a]) rfl rfl).trans (first_ones_ok hT h h8 ha hs)) rfl (tupI_pln 6 _ (by have := f_len h h1 h8 hs; omega))
theorem k54 {s t : List Int} {a : A} (hs : Lot m s) (ht : t.Sublist s) : (tstM (op2 neA (lcM (itSeq (vM 12)) (tgN 17) (andT (tstM (op2 inA (vM 17) (vM 13))) (tstM (op2 notInA (vM 17) (callM 2 m_first_ones (consM (vM 5) (consM (vM 13) nilM)))))) (vM 17) [16, 17]) (onA mkLst nilM))) (ev s0 a2 m L a7 a8 a9 (some (tupI s)) (some a) (some (tupI (firstF L s))) (some (tupI t)) a14 a15) = Mir.ret false := by
  have fl := f_len h h1 h8 hs
  have e := lcM_filterE (it := (itSeq (vM 12))) (t := tgN 17) (c := (andT (tstM (op2 inA (vM 17) (vM 13))) (tstM (op2 notInA (vM 17) (callM 2 m_first_ones (consM (vM 5) (consM (vM 13) nilM))))))) (e := (vM 17)) (vs := [16, 17]) (ρ := (ev s0 a2 m L a7 a8 a9 (some (tupI s)) (some a) (some (tupI (firstF L s))) (some (tupI t)) a14 a15)) (enc := A.int) (L := firstF L s) (fun _ => false) (itSeq_tup rfl) (fun x hx => lcF_if ?_ rfl) (by omega)
  · refine tstM_ret ((op2_ret e (b := .lst (([] : List Int).map A.int)) lst_nil).trans ((codeI.lst.neA (by omega) _ []).trans ?_))
    have e0 : (firstF L s).filter (fun _ => false) = [] := List.filter_eq_nil_iff.mpr fun _ _ z => by cases z
    rw [e0, decide_eq_true rfl]
    rfl
  · have g1 : tstM (op2 inA (vM 17) (vM 13)) ((wipeA (ev s0 a2 m L a7 a8 a9 (some (tupI s)) (some a) (some (tupI (firstF L s))) (some (tupI t)) a14 a15) [16, 17]).set 17 (some (.int x))) = Mir.ret (decide (x ∈ t)) := tstM_ret ((op2_ret (a := .int x) (b := tupI t) rfl rfl).trans (inI_B x t _))
    have g2 : tstM (op2 notInA (vM 17) (callM 2 m_first_ones (consM (vM 5) (consM (vM 13) nilM)))) ((wipeA (ev s0 a2 m L a7 a8 a9 (some (tupI s)) (some a) (some (tupI (firstF L s))) (some (tupI t)) a14 a15) [16, 17]).set 17 (some (.int x))) = Mir.ret (!decide (x ∈ firstF L t)) := tstM_ret ((op2_ret (a := .int x) (b := tupI (firstF L t)) rfl ((callM_ret (n := 2) (m := m_first_ones) (as := [levA L, tupI t]) rfl rfl).trans (first_ones_ok hT h h8 (.inl rfl) (ht.trans hs)))).trans (codeI.notInT (by omega) x (firstF L t)))
    refine (bd_eq g1).trans ?_
    by_cases c : x ∈ t
    · rw [decide_eq_true c]
      refine Eq.trans g2 ?_
      rw [decide_eq_true (first_within (fun z hz => ht.subset hz) hx c)]
      rfl
    · rw [decide_eq_false c]
      rfl
theorem k55 {s t : List Int} {a : A} (hs : Lot m s) (ha : SayA a s) : (andT (tstM (op2 neA (vM 10) (onA mkTup nilM))) (notT (truM (callM 2 (m_law_is 8) (consM (callM 1 m_law_plain (consM (callM 2 m_narrowed_levels (consM (vM 5) (consM (vM 11) nilM))) nilM)) (consM (callM 1 m_law_lots_of (consM (lcM (itSeq (vM 10)) (tgN 17) yesM (op2 ixA (vM 6) (vM 17)) [16, 17]) nilM)) nilM)))))) (ev s0 a2 m L a7 a8 a9 (some (tupI s)) (some a) (some (tupI (firstF L s))) (some (tupI t)) a14 a15) = Mir.ret false := by
  have sl := s_len h h1 h8 hs
  refine (bd_eq (show (tstM (op2 neA (vM 10) (onA mkTup nilM))) (ev s0 a2 m L a7 a8 a9 (some (tupI s)) (some a) (some (tupI (firstF L s))) (some (tupI t)) a14 a15) = Mir.ret (!decide (s = [])) from ne_nil (f := s) rfl)).trans ?_
  by_cases c : s = []
  · rw [decide_eq_true c]
    rfl
  · rw [decide_eq_false c]
    have hl : (s.map (atH (heightsL m L))).length = s.length := List.length_map _
    have hs1 : 1 ≤ s.length := List.length_pos_iff.mpr c
    have e1 : callM 2 m_narrowed_levels (consM (vM 5) (consM (vM 11) nilM)) (ev s0 a2 m L a7 a8 a9 (some (tupI s)) (some a) (some (tupI (firstF L s))) (some (tupI t)) a14 a15) = Mir.ret (levA (lotsOf (s.map (atH (heightsL m L))))) := (callM_ret (n := 2) (m := m_narrowed_levels) (as := [levA L, a]) rfl rfl).trans (narrowed_ok hT h h8 ha hs c)
    have e2 : (callM 1 m_law_plain (consM (callM 2 m_narrowed_levels (consM (vM 5) (consM (vM 11) nilM))) nilM)) (ev s0 a2 m L a7 a8 a9 (some (tupI s)) (some a) (some (tupI (firstF L s))) (some (tupI t)) a14 a15) = Mir.ret (encL (lotsOf (s.map (atH (heightsL m L))))) := by
      refine (callM_ret (n := 1) (m := m_law_plain) (as := [levA (lotsOf (s.map (atH (heightsL m L))))]) (consM_ret (ms := nilM) e1 rfl) rfl).trans ?_
      exact defM_rt (retM_ret ((ite_t (truM_ret (b := true) rfl)).trans (lots_ret hT rfl)))
    have e3 := lcM_mapE (it := (itSeq (vM 10))) (t := tgN 17) (c := yesM) (e := (op2 ixA (vM 6) (vM 17))) (vs := [16, 17]) (ρ := (ev s0 a2 m L a7 a8 a9 (some (tupI s)) (some a) (some (tupI (firstF L s))) (some (tupI t)) a14 a15)) (enc := A.int) (enc' := A.int) (L := s) (atH (heightsL m L)) (itSeq_tup rfl) (fun x hx => lcF_yes ((op2_ret (a := lstI (heightsL m L)) (b := .int x) rfl rfl).trans (ix_int (hs.inn hx).1 (by rw [heights_len]; exact (hs.inn hx).2)))) (by omega)
    have e4 : (callM 1 m_law_lots_of (consM (lcM (itSeq (vM 10)) (tgN 17) yesM (op2 ixA (vM 6) (vM 17)) [16, 17]) nilM)) (ev s0 a2 m L a7 a8 a9 (some (tupI s)) (some a) (some (tupI (firstF L s))) (some (tupI t)) a14 a15) = Mir.ret (encL (lotsOf (s.map (atH (heightsL m L))))) := (callM_ret (n := 1) (m := m_law_lots_of) (as := [lstI (s.map (atH (heightsL m L)))]) (consM_ret (ms := nilM) e3 rfl) rfl).trans (law_lots_ok (by omega))
    exact is8_self e2 e4 (Lv.pln (lv_lotsOf _) (by omega))

theorem turn_ok {p : Pen} (hp : PenOk p) : ∃ y10 y11 y12 y13 p', b5 (ev s0 a2 m L a7 a8 a9 a10 a11 a12 a13 a14 a15) p = .ok (.nx (ev s0 a2 m L a7 a8 a9 y10 y11 y12 y13 a14 a15)) p' ∧ PenOk p' := by
  obtain ⟨s, p1, e1, hp1, hs⟩ := drawn_say_ok (p := p) (m := m) hp h8
  have c1 : callM 2 m_law_drawn_saying (consM (vM 1) (consM (vM 3) nilM)) (ev s0 a2 m L a7 a8 a9 a10 a11 a12 a13 a14 a15) p = .ok (tupI s) p1 := call_run (as := [.pen, .int (m : Nat)]) rfl rfl e1
  have hms : consM (vM 1) (consM (onA mkLst (consM (vM 10) (consM (onA lstA (consM (vM 10) nilM)) nilM))) nilM) (ev s0 a2 m L a7 a8 a9 (some (tupI s)) a11 a12 a13 a14 a15) = Mir.ret [.pen, .lst [tupI s, lstI s]] := by
    have e : onA mkLst (consM (vM 10) (consM (onA lstA (consM (vM 10) nilM)) nilM)) (ev s0 a2 m L a7 a8 a9 (some (tupI s)) a11 a12 a13 a14 a15) = Mir.ret (.lst [tupI s, lstI s]) := (onA_ret (as := [tupI s, lstI s]) rfl).trans (mkLst_ret (small_line (show 2 ≤ 1000 by decide)))
    exact consM_ret rfl (consM_ret (ms := nilM) e rfl)
  obtain ⟨a, p2, e2, hp2, ha⟩ := pick_run (xs := [tupI s, lstI s]) hp1 hms (by simp) (show 2 < 1000 by decide)
  have ha : SayA a s := by
    simp only [List.mem_cons, List.not_mem_nil, or_false] at ha
    exact ha
  have c2 : callM 2 m_law_first (consM (vM 4) (consM (vM 10) nilM)) (ev s0 a2 m L a7 a8 a9 (some (tupI s)) a11 a12 a13 a14 a15) = Mir.ret (tupI (firstF L s)) := (callM_ret (n := 2) (m := m_law_first) (as := [encL L, tupI s]) rfl rfl).trans (law_first_ok h h8)
  obtain ⟨t, p3, e3, hp3, ht⟩ := lcM_sub (it := itSeq (vM 10)) (t := tgN 17) (c := tstM (op2 gtA (callM 2 m_law_draw (consM (vM 1) (consM (cM (.int 3)) nilM))) (cM (.int 0)))) (e := vM 17) (vs := [16, 17]) (ρ := (ev s0 a2 m L a7 a8 a9 (some (tupI s)) (some a) (some (tupI (firstF L s))) a13 a14 a15)) (ns := s) (itSeq_tup rfl) hp2 (fun x _ p hp => by
    obtain ⟨d, p', e, hp', _⟩ := draw_run (ms := consM (vM 1) (consM (cM (.int 3)) nilM)) (ρ := (wipeA (ev s0 a2 m L a7 a8 a9 (some (tupI s)) (some a) (some (tupI (firstF L s))) a13 a14 a15) [16, 17]).set 17 (some (.int x))) (n := 3) hp rfl (by omega) (by omega)
    have eb : tstM (op2 gtA (callM 2 m_law_draw (consM (vM 1) (consM (cM (.int 3)) nilM))) (cM (.int 0))) ((wipeA (ev s0 a2 m L a7 a8 a9 (some (tupI s)) (some a) (some (tupI (firstF L s))) a13 a14 a15) [16, 17]).set 17 (some (.int x))) p = .ok (decide (0 < d)) p' := by
      have e5 : op2 gtA (callM 2 m_law_draw (consM (vM 1) (consM (cM (.int 3)) nilM))) (cM (.int 0)) ((wipeA (ev s0 a2 m L a7 a8 a9 (some (tupI s)) (some a) (some (tupI (firstF L s))) a13 a14 a15) [16, 17]).set 17 (some (.int x))) p = .ok (.bl (decide (0 < d))) p' := (bd_run e).trans rfl
      exact (bd_run e5).trans rfl
    refine ⟨_, p', lcF_run eb (a := .int x) rfl, hp', ?_⟩
    cases decide (0 < d) with
    | true => exact .inr rfl
    | false => exact .inl rfl) (by have := s_len h h1 h8 hs; omega)
  have c3 := (onA_run (g := tupA) (consM_run e3 (show nilM (ev s0 a2 m L a7 a8 a9 (some (tupI s)) (some a) (some (tupI (firstF L s))) a13 a14 a15) p3 = .ok [] p3 from rfl))).trans (show tupA [lstI t] p3 = .ok (tupI t) p3 from rfl)
  refine ⟨some (tupI s), some a, some (tupI (firstF L s)), some (tupI t), p3, ?_, hp3⟩
  refine (seqM_next (setM_run c1)).trans ?_
  refine (seqM_next (parM_run (consM_run e2 (consM_run (congrFun c2 p2) (show nilM _ p2 = .ok [] p2 from rfl))))).trans ?_
  refine (congrFun (seqM_nx (ite_nx (k52 h h1 h8 hs ha))) p2).trans ?_
  refine (seqM_next (setM_run c3)).trans ?_
  exact congrFun ((seqM_nx (ite_nx (k54 h h1 h8 hs ht))).trans ((seqM_nx (ite_nx (k55 h h1 h8 hs ha))).trans rfl)) p3
theorem turns_ok : ∀ (xs : List A) {a9 a10 a11 a12 a13 : Option A} {p : Pen}, PenOk p → ∃ y9 y10 y11 y12 y13 p', forM (tgN 9) b5 xs (ev s0 a2 m L a7 a8 a9 a10 a11 a12 a13 a14 a15) p = .ok (.nx (ev s0 a2 m L a7 a8 y9 y10 y11 y12 y13 a14 a15)) p' ∧ PenOk p'
  | [], a9, a10, a11, a12, a13, p, hp => ⟨a9, a10, a11, a12, a13, p, rfl, hp⟩
  | x :: xs, a9, a10, a11, a12, a13, p, hp => by
    obtain ⟨z10, z11, z12, z13, p1, e1, hp1⟩ := turn_ok h h1 h8 (s0 := s0) (a2 := a2) (a7 := a7) (a8 := a8) (a9 := some x) (a10 := a10) (a11 := a11) (a12 := a12) (a13 := a13) (a14 := a14) (a15 := a15) hp
    obtain ⟨y9, y10, y11, y12, y13, p2, e2, hp2⟩ := turns_ok xs (a9 := some x) (a10 := z10) (a11 := z11) (a12 := z12) (a13 := z13) hp1
    exact ⟨y9, y10, y11, y12, y13, p2, (for_run (ρ1 := ev s0 a2 m L a7 a8 (some x) a10 a11 a12 a13 a14 a15) rfl e1).trans e2, hp2⟩
theorem k7 {M : List (List Int)} (k : Lv m M) : op2 eqA (lcM (itSeq (callM 1 m_law_pairs (consM (vM 3) nilM))) (tgN 18) (tstM (op2 neA (callM 2 m_first_ones (consM (vM 5) (consM (vM 18) nilM))) (callM 2 m_law_first (consM (vM 14) (consM (vM 18) nilM))))) (vM 18) [16, 18]) (onA mkLst nilM) (ev s0 a2 m L a7 a8 a9 a10 a11 a12 a13 (some (encL M)) a15) = Mir.ret (.bl (decide (L = M))) := by
  have pl := prs_len h1 h8
  have e0 : callM 1 m_law_pairs (consM (vM 3) nilM) (ev s0 a2 m L a7 a8 a9 a10 a11 a12 a13 (some (encL M)) a15) = Mir.ret (.lst ((prs m).map tupI)) := (callM_ret (n := 1) (m := m_law_pairs) (as := [.int (m : Nat)]) rfl rfl).trans (pairs_ok h1 h8)
  have e := lcM_filterE (it := (itSeq (callM 1 m_law_pairs (consM (vM 3) nilM)))) (t := tgN 18) (c := (tstM (op2 neA (callM 2 m_first_ones (consM (vM 5) (consM (vM 18) nilM))) (callM 2 m_law_first (consM (vM 14) (consM (vM 18) nilM)))))) (e := (vM 18)) (vs := [16, 18]) (ρ := (ev s0 a2 m L a7 a8 a9 a10 a11 a12 a13 (some (encL M)) a15)) (enc := tupI) (L := prs m) (fun q => !decide (firstF L q = firstF M q)) (itSeq_lst e0) (fun q hq => lcF_if ?_ rfl) (by omega)
  · refine (op2_ret e (b := .lst (([] : List (List Int)).map tupI)) lst_nil).trans ((codeI.tup.lst.eqA (by omega) _ []).trans ?_)
    congr 2
    rw [Bool.eq_iff_iff, decide_eq_true_eq, decide_eq_true_eq, List.filter_eq_nil_iff]
    constructor
    · intro z
      refine h.eq_of_pairs k fun x y x0 xy y1 => ?_
      have := z [x, y] (mem_prs.mpr ⟨x, y, rfl, x0, xy, y1⟩)
      simpa using this
    · rintro rfl q _
      simp
  · obtain ⟨x, y, rfl, x0, xy, y1⟩ := mem_prs.mp hq
    have hlot : Lot m [x, y] := by
      have e : [x, y].Sublist (rng m) := by
        have a : (rng m).filter (fun z => decide (z = x ∨ z = y)) = [x, y] := asc_ext ((rng_sorted _).filter _) (List.pairwise_cons.mpr ⟨fun z hz => by simp at hz; omega, List.pairwise_singleton _ _⟩) fun z => by
          rw [List.mem_filter, mem_rng, decide_eq_true_eq]
          simp only [List.mem_cons, List.not_mem_nil, or_false]
          omega
        rw [← a]
        exact List.filter_sublist
      exact e
    refine tstM_ret ((op2_ret ((callM_ret (n := 2) (m := m_first_ones) (as := [levA L, tupI [x, y]]) rfl rfl).trans (first_ones_ok hT h h8 (.inl rfl) hlot)) ((callM_ret (n := 2) (m := m_law_first) (as := [encL M, tupI [x, y]]) rfl rfl).trans (law_first_ok k h8))).trans (codeI.tup.neA (by omega) _ _))
theorem k8 {M : List (List Int)} (k : Lv m M) : (orT (tstM (op2 neA (vM 15) (op2 eqA (vM 4) (vM 14)))) (orT (tstM (op2 neA (callM 2 m_first_ones (consM (vM 5) (consM (onA mkTup nilM) nilM))) (onA mkTup nilM))) (tstM (op2 neA (callM 2 m_first_ones (consM (vM 5) (consM (tupRg (rg1M (vM 3))) nilM))) (op2 ixA (vM 4) (cM (.int 0))))))) (ev s0 a2 m L a7 a8 a9 a10 a11 a12 a13 (some (encL M)) (some (.bl (decide (L = M))))) = Mir.ret false := by
  have ne : ∀ {m1 m2 : ME'} {ρ : Env'} {x : List Int}, m1 ρ = Mir.ret (tupI x) → m2 ρ = Mir.ret (tupI x) → tstM (op2 neA m1 m2) ρ = Mir.ret false := fun {m1 m2 ρ x} g1 g2 => tstM_ret ((op2_ret g1 g2).trans ((codeI.tup.neA (by omega) x x).trans (by rw [decide_eq_true rfl]; rfl)))
  have e1 : op2 eqA (vM 4) (vM 14) (ev s0 a2 m L a7 a8 a9 a10 a11 a12 a13 (some (encL M)) (some (.bl (decide (L = M))))) = Mir.ret (.bl (decide (L = M))) := (op2_ret (a := encL L) (b := encL M) rfl rfl).trans (codeI.tup.tup.eqB (by omega) L M _)
  have e2 : tstM (op2 neA (vM 15) (op2 eqA (vM 4) (vM 14))) (ev s0 a2 m L a7 a8 a9 a10 a11 a12 a13 (some (encL M)) (some (.bl (decide (L = M))))) = Mir.ret false := by
    refine tstM_ret ((op2_ret (a := .bl (decide (L = M))) rfl e1).trans ?_)
    cases decide (L = M) <;> rfl
  have e3 : callM 2 m_first_ones (consM (vM 5) (consM (onA mkTup nilM) nilM)) (ev s0 a2 m L a7 a8 a9 a10 a11 a12 a13 (some (encL M)) (some (.bl (decide (L = M))))) = Mir.ret (tupI []) := (callM_ret (n := 2) (m := m_first_ones) (as := [levA L, tupI []]) (consM_ret rfl (consM_ret (ms := nilM) tup_nil rfl)) rfl).trans ((first_ones_ok hT h h8 (.inl rfl) (List.nil_sublist _)).trans (by rw [firstF_nil]))
  have e4 : callM 2 m_first_ones (consM (vM 5) (consM (tupRg (rg1M (vM 3))) nilM)) (ev s0 a2 m L a7 a8 a9 a10 a11 a12 a13 (some (encL M)) (some (.bl (decide (L = M))))) = Mir.ret (tupI (firstF L (rng m))) := (callM_ret (n := 2) (m := m_first_ones) (as := [levA L, tupI (rng m)]) (consM_ret rfl (consM_ret (ms := nilM) (tupRg_ret (b := (m : Nat)) rfl (by omega) (by omega)) rfl)) rfl).trans (first_ones_ok hT h h8 (.inl rfl) (List.Sublist.refl _))
  refine (orT_f e2).trans ((orT_f (ne e3 tup_nil)).trans ?_)
  cases L with
  | nil =>
    have := h.flat
    rw [List.flatten_nil, List.length_nil] at this
    omega
  | cons l L =>
    rw [first_all h] at e4
    exact ne e4 ((op2_ret (a := encL (l :: L)) (b := .int 0) rfl rfl).trans ix_zero)
end
abbrev lapM : MS' := seqM (setM 3 (op2 addA (cM (.int 1)) (callM 2 m_law_draw (consM (vM 1) (consM (cM (.int 8)) nilM))))) (seqM (setM 4 (callM 2 m_law_drawn_lots (consM (vM 1) (consM (vM 3) nilM)))) (seqM (asgM (tgT 2 (tgCons (tgN 5) (tgCons (tgN 6) tgNil))) (onA mkTup (consM (callM 1 m_law_made (consM (vM 4) nilM)) (consM (callM 1 m_law_heights (consM (vM 4) nilM)) nilM)))) (seqM (iteM (notT (truM (callM 2 (m_law_is 8) (consM (onA tupA (consM (lcM (itOn range1A (consM (vM 3) nilM)) (tgN 17) yesM (callM 2 m_level_of (consM (vM 5) (consM (vM 17) nilM))) [16, 17]) nilM)) (consM (onA tupA (consM (vM 6) nilM)) nilM))))) (retM (cM (.bl false))) nxM) (seqM (forS (itSeq (callM 1 m_law_pairs (consM (vM 3) nilM))) (tgT 2 (tgCons (tgN 7) (tgCons (tgN 8) tgNil))) (seqM (iteM (notT (truM (callM 2 (m_law_is 8) (consM (onA mkTup (consM (callM 3 m_is_ahead (consM (vM 5) (consM (vM 7) (consM (vM 8) nilM)))) (consM (callM 3 m_is_ahead (consM (vM 5) (consM (vM 8) (consM (vM 7) nilM)))) nilM))) (consM (onA mkTup (consM (op2 ltA (op2 ixA (vM 6) (vM 7)) (op2 ixA (vM 6) (vM 8))) (consM (op2 ltA (op2 ixA (vM 6) (vM 8)) (op2 ixA (vM 6) (vM 7))) nilM))) nilM))))) (retM (cM (.bl false))) nxM) nxM)) (seqM (forS (itOn range1A (consM (cM (.int 5)) nilM)) (tgN 9) (seqM (setM 10 (callM 2 m_law_drawn_saying (consM (vM 1) (consM (vM 3) nilM)))) (seqM (parM 11 12 (consM (callM 2 m_law_pick (consM (vM 1) (consM (onA mkLst (consM (vM 10) (consM (onA lstA (consM (vM 10) nilM)) nilM))) nilM))) (consM (callM 2 m_law_first (consM (vM 4) (consM (vM 10) nilM))) nilM))) (seqM (iteM (notT (truM (callM 2 (m_law_is 8) (consM (callM 2 m_first_ones (consM (vM 5) (consM (vM 11) nilM))) (consM (vM 12) nilM))))) (retM (cM (.bl false))) nxM) (seqM (setM 13 (onA tupA (consM (lcM (itSeq (vM 10)) (tgN 17) (tstM (op2 gtA (callM 2 m_law_draw (consM (vM 1) (consM (cM (.int 3)) nilM))) (cM (.int 0)))) (vM 17) [16, 17]) nilM))) (seqM (iteM (tstM (op2 neA (lcM (itSeq (vM 12)) (tgN 17) (andT (tstM (op2 inA (vM 17) (vM 13))) (tstM (op2 notInA (vM 17) (callM 2 m_first_ones (consM (vM 5) (consM (vM 13) nilM)))))) (vM 17) [16, 17]) (onA mkLst nilM))) (retM (cM (.bl false))) nxM) (seqM (iteM (andT (tstM (op2 neA (vM 10) (onA mkTup nilM))) (notT (truM (callM 2 (m_law_is 8) (consM (callM 1 m_law_plain (consM (callM 2 m_narrowed_levels (consM (vM 5) (consM (vM 11) nilM))) nilM)) (consM (callM 1 m_law_lots_of (consM (lcM (itSeq (vM 10)) (tgN 17) yesM (op2 ixA (vM 6) (vM 17)) [16, 17]) nilM)) nilM)))))) (retM (cM (.bl false))) nxM) nxM))))))) (seqM (setM 14 (callM 2 m_law_drawn_lots (consM (vM 1) (consM (vM 3) nilM)))) (seqM (setM 15 (op2 eqA (lcM (itSeq (callM 1 m_law_pairs (consM (vM 3) nilM))) (tgN 18) (tstM (op2 neA (callM 2 m_first_ones (consM (vM 5) (consM (vM 18) nilM))) (callM 2 m_law_first (consM (vM 14) (consM (vM 18) nilM))))) (vM 18) [16, 18]) (onA mkLst nilM))) (seqM (iteM (orT (tstM (op2 neA (vM 15) (op2 eqA (vM 4) (vM 14)))) (orT (tstM (op2 neA (callM 2 m_first_ones (consM (vM 5) (consM (onA mkTup nilM) nilM))) (onA mkTup nilM))) (tstM (op2 neA (callM 2 m_first_ones (consM (vM 5) (consM (tupRg (rg1M (vM 3))) nilM))) (op2 ixA (vM 4) (cM (.int 0))))))) (retM (cM (.bl false))) nxM) (seqM (iteM (notT (truM (callM 3 m_law_refusals_right (consM (vM 1) (consM (vM 5) (consM (vM 3) nilM)))))) (retM (cM (.bl false))) nxM) nxM)))))))))
theorem many_drawn {p : Pen} {ρ : Env'} (hp : PenOk p) (v1 : vM 1 ρ = Mir.ret .pen) : ∃ m p', op2 addA (cM (.int 1)) (callM 2 m_law_draw (consM (vM 1) (consM (cM (.int 8)) nilM))) ρ p = .ok (.int (m : Nat)) p' ∧ PenOk p' ∧ 1 ≤ m ∧ m ≤ 8 := by
  obtain ⟨d, p', e, hp', d0, d1⟩ := draw_run (ms := consM (vM 1) (consM (cM (.int 8)) nilM)) (ρ := ρ) (n := 8) hp (consM_ret v1 (consM_ret (ms := nilM) (m := cM (.int 8)) rfl rfl)) (by omega) (by omega)
  refine ⟨(1 + d).toNat, p', ?_, hp', by omega, by omega⟩
  have e5 : op2 addA (cM (.int 1)) (callM 2 m_law_draw (consM (vM 1) (consM (cM (.int 8)) nilM))) ρ p = .ok (.int (1 + d)) p' := by
    show bd (callM 2 m_law_draw (consM (vM 1) (consM (cM (.int 8)) nilM)) ρ) _ p = _
    rw [bd_run (show callM 2 m_law_draw (consM (vM 1) (consM (cM (.int 8)) nilM)) ρ p = .ok (.int d) p' from e)]
    rfl
  rw [e5, show (((1 + d).toNat : Nat) : Int) = 1 + d by omega]
theorem lap_ok {p : Pen} {s0 a2 a3 a4 a5 a6 a7 a8 a9 a10 a11 a12 a13 a14 a15 : Option A} (hp : PenOk p) : ∃ b2 b3 b4 b5 b6 b7 b8 b9 b10 b11 b12 b13 b14 b15 p', lapM [s0, some .pen, a2, a3, a4, a5, a6, a7, a8, a9, a10, a11, a12, a13, a14, a15, none, none, none] p = .ok (.nx [s0, some .pen, b2, b3, b4, b5, b6, b7, b8, b9, b10, b11, b12, b13, b14, b15, none, none, none]) p' ∧ PenOk p' := by
  obtain ⟨m, p1, e1, hp1, h1, h8⟩ := many_drawn (ρ := [s0, some .pen, a2, a3, a4, a5, a6, a7, a8, a9, a10, a11, a12, a13, a14, a15, none, none, none]) hp rfl
  obtain ⟨g, p2, e2, hp2, hg⟩ := drawn_lots_ok hp1 h1 h8
  have h : Lv m (lotsOf g) := hg ▸ lv_lotsOf g
  have c2 : callM 2 m_law_drawn_lots (consM (vM 1) (consM (vM 3) nilM)) [s0, some .pen, a2, some (.int (m : Nat)), a4, a5, a6, a7, a8, a9, a10, a11, a12, a13, a14, a15, none, none, none] p1 = .ok (encL (lotsOf g)) p2 := call_run (as := [.pen, .int (m : Nat)]) rfl rfl e2
  have c3 : callM 1 m_law_made (consM (vM 4) nilM) [s0, some .pen, a2, some (.int (m : Nat)), some (encL (lotsOf g)), a5, a6, a7, a8, a9, a10, a11, a12, a13, a14, a15, none, none, none] = Mir.ret (levA (lotsOf g)) := (callM_ret (n := 1) (m := m_law_made) (as := [encL (lotsOf g)]) rfl rfl).trans (defM_rt (retM_ret (h.new h1 h8 (.inl rfl) rfl)))
  have c4 : callM 1 m_law_heights (consM (vM 4) nilM) [s0, some .pen, a2, some (.int (m : Nat)), some (encL (lotsOf g)), a5, a6, a7, a8, a9, a10, a11, a12, a13, a14, a15, none, none, none] = Mir.ret (lstI (heightsL m (lotsOf g))) := (callM_ret (n := 1) (m := m_law_heights) (as := [encL (lotsOf g)]) rfl rfl).trans (law_heights_ok h h8)
  have c5 := (onA_ret (g := mkTup) (consM_ret c3 (consM_ret (ms := nilM) c4 rfl))).trans (mkTup_ret (as := [levA (lotsOf g), lstI (heightsL m (lotsOf g))]) (small_line (show 2 ≤ 1000 by decide)))
  have c6 : callM 1 m_law_pairs (consM (vM 3) nilM) (ev s0 a2 m (lotsOf g) a7 a8 a9 a10 a11 a12 a13 a14 a15) = Mir.ret (.lst ((prs m).map tupI)) := (callM_ret (n := 1) (m := m_law_pairs) (as := [.int (m : Nat)]) rfl rfl).trans (pairs_ok h1 h8)
  obtain ⟨y7, y8, e4⟩ := k4l h h1 h8 (s0 := s0) (a2 := a2) (a9 := a9) (a10 := a10) (a11 := a11) (a12 := a12) (a13 := a13) (a14 := a14) (a15 := a15) (prs m) (a7 := a7) (a8 := a8) fun q hq => mem_prs.mp hq
  have r5 : itOn range1A (consM (cM (.int 5)) nilM) (ev s0 a2 m (lotsOf g) y7 y8 a9 a10 a11 a12 a13 a14 a15) = Mir.ret (iL (rng 5)) := (itOn_ret (as := [.int 5]) rfl).trans (rngW (by omega) (by omega))
  obtain ⟨y9, y10, y11, y12, y13, p3, e5, hp3⟩ := turns_ok h h1 h8 (s0 := s0) (a2 := a2) (a7 := y7) (a8 := y8) (a14 := a14) (a15 := a15) (iL (rng 5)) (a9 := a9) (a10 := a10) (a11 := a11) (a12 := a12) (a13 := a13) hp2
  obtain ⟨g2, p4, e6, hp4, hg2⟩ := drawn_lots_ok hp3 h1 h8
  have k : Lv m (lotsOf g2) := hg2 ▸ lv_lotsOf g2
  have c7 : callM 2 m_law_drawn_lots (consM (vM 1) (consM (vM 3) nilM)) (ev s0 a2 m (lotsOf g) y7 y8 y9 y10 y11 y12 y13 a14 a15) p3 = .ok (encL (lotsOf g2)) p4 := call_run (as := [.pen, .int (m : Nat)]) rfl rfl e6
  obtain ⟨p5, e9, hp5⟩ := refuse_ok h h1 h8 hp4
  refine ⟨a2, some (.int (m : Nat)), some (encL (lotsOf g)), some (levA (lotsOf g)), some (lstI (heightsL m (lotsOf g))), y7, y8, y9, y10, y11, y12, y13, some (encL (lotsOf g2)), some (.bl (decide (lotsOf g = lotsOf g2))), p5, ?_, hp5⟩
  refine (seqM_next (setM_run e1)).trans ?_
  refine (seqM_next (setM_run c2)).trans ?_
  refine (congrFun (seqM_nx (asgM_ret (ρ' := ev s0 a2 m (lotsOf g) a7 a8 a9 a10 a11 a12 a13 a14 a15) c5 rfl)) p2).trans ?_
  refine (congrFun (seqM_nx (ite_nx (k3 h h1 h8))) p2).trans ?_
  refine (congrFun (seqM_nx (forS_ret (itSeq_lst c6) e4)) p2).trans ?_
  refine (seqM_next (forS_run (congrFun r5 p2) e5)).trans ?_
  refine (seqM_next (setM_run c7)).trans ?_
  refine (congrFun (seqM_nx (setM_ret (k7 h h1 h8 k))) p4).trans ?_
  refine (congrFun (seqM_nx (ite_nx (k8 h h1 h8 k))) p4).trans ?_
  have d6 : callM 3 m_law_refusals_right (consM (vM 1) (consM (vM 5) (consM (vM 3) nilM))) (ev s0 a2 m (lotsOf g) y7 y8 y9 y10 y11 y12 y13 (some (encL (lotsOf g2))) (some (.bl (decide (lotsOf g = lotsOf g2))))) p4 = .ok (.bl true) p5 := call_run (as := [.pen, levA (lotsOf g), .int (m : Nat)]) rfl rfl e9
  have d7 : (notT (truM (callM 3 m_law_refusals_right (consM (vM 1) (consM (vM 5) (consM (vM 3) nilM)))))) (ev s0 a2 m (lotsOf g) y7 y8 y9 y10 y11 y12 y13 (some (encL (lotsOf g2))) (some (.bl (decide (lotsOf g = lotsOf g2))))) p4 = .ok false p5 := by
    have e1 : truM (callM 3 m_law_refusals_right (consM (vM 1) (consM (vM 5) (consM (vM 3) nilM)))) (ev s0 a2 m (lotsOf g) y7 y8 y9 y10 y11 y12 y13 (some (encL (lotsOf g2))) (some (.bl (decide (lotsOf g = lotsOf g2))))) p4 = .ok true p5 := (bd_run d6).trans rfl
    exact (bd_run e1).trans rfl
  have d8 : (iteM (notT (truM (callM 3 m_law_refusals_right (consM (vM 1) (consM (vM 5) (consM (vM 3) nilM)))))) (retM (cM (.bl false))) nxM) (ev s0 a2 m (lotsOf g) y7 y8 y9 y10 y11 y12 y13 (some (encL (lotsOf g2))) (some (.bl (decide (lotsOf g = lotsOf g2))))) p4 = .ok (.nx (ev s0 a2 m (lotsOf g) y7 y8 y9 y10 y11 y12 y13 (some (encL (lotsOf g2))) (some (.bl (decide (lotsOf g = lotsOf g2)))))) p5 := by
    unfold iteM
    rw [bd_run d7]
    rfl
  exact (seqM_next d8).trans rfl
theorem laps_ok {s0 : Option A} : ∀ (xs : List A) {p : Pen} {a2 a3 a4 a5 a6 a7 a8 a9 a10 a11 a12 a13 a14 a15 : Option A} (hp : PenOk p), ∃ ρ p', forM (tgN 2) lapM xs [s0, some .pen, a2, a3, a4, a5, a6, a7, a8, a9, a10, a11, a12, a13, a14, a15, none, none, none] p = .ok (.nx ρ) p'
  | [], p, a2, a3, a4, a5, a6, a7, a8, a9, a10, a11, a12, a13, a14, a15, hp => ⟨_, p, rfl⟩
  | x :: xs, p, a2, a3, a4, a5, a6, a7, a8, a9, a10, a11, a12, a13, a14, a15, hp => by
    obtain ⟨b2, b3, b4, b5, b6, b7, b8, b9, b10, b11, b12, b13, b14, b15, p1, e1, hp1⟩ := lap_ok (s0 := s0) (a2 := some x) (a3 := a3) (a4 := a4) (a5 := a5) (a6 := a6) (a7 := a7) (a8 := a8) (a9 := a9) (a10 := a10) (a11 := a11) (a12 := a12) (a13 := a13) (a14 := a14) (a15 := a15) hp
    obtain ⟨ρ, p2, e2⟩ := laps_ok (s0 := s0) xs (a2 := b2) (a3 := b3) (a4 := b4) (a5 := b5) (a6 := b6) (a7 := b7) (a8 := b8) (a9 := b9) (a10 := b10) (a11 := b11) (a12 := b12) (a13 := b13) (a14 := b14) (a15 := b15) hp1
    exact ⟨ρ, p2, (for_run (ρ1 := [s0, some .pen, some x, a3, a4, a5, a6, a7, a8, a9, a10, a11, a12, a13, a14, a15, none, none, none]) rfl e1).trans e2⟩
theorem holds (ns : List Int) (h1 : ns.length ≤ 63) (h2 : ∀ z ∈ ns, Builtin.Int.intBits z ≤ 1048576) : lawM 19 1 m_law ns := by
  obtain ⟨ρ, p', e⟩ := laps_ok (s0 := none) (rangeL 0 5) (p := pen0 ns) (a2 := none) (a3 := none) (a4 := none) (a5 := none) (a6 := none) (a7 := none) (a8 := none) (a9 := none) (a10 := none) (a11 := none) (a12 := none) (a13 := none) (a14 := none) (a15 := none) (Int.le_refl 0)
  refine ⟨p', ?_⟩
  have e2 : forS (itOn range1A (consM (cM (.int 5)) nilM)) (tgN 2) lapM ((List.replicate 19 none).set 1 (some .pen)) (pen0 ns) = .ok (.nx ρ) p' := e
  exact (seqM_next e2).trans rfl
end LG

open PySem PySem.W PyProof.Rows
set_option maxHeartbeats 0 in
theorem PySem.Challenge.cw_changedminds_k02_whole_first_ones_holds : PySem.Challenge.rw_changedminds_k02_whole_first_ones.Holds := by
  w_on; o_law; k_head; (case hw => w_witness2)
  k_fill
  refine Mir.walk_ofG (l := PySem.Challenge.rw_changedminds_k02_whole_first_ones) (n := 63) (k := 13) (x := "script") (CX := fun w => L2.CX PySem.Challenge.rw_changedminds_k02_whole_first_ones.prog w) rfl (by decide) rfl ⟨rfl, by decide, by decide⟩ (fun w h Y => PySem.W.km_in_of Y) ?F (fun w H s e u hx => by obtain ⟨_, _, _, _, _, _, _, _, _, _, _, _, z⟩ := hx; exact z)
  case F =>
    intro w mg fa h Y KX G hmg TF
    have Z : ∀ base, LG.Fx PySem.Challenge.rw_changedminds_k02_whole_first_ones.prog w _ mg base := fun base => by
      refine' LG.mk_Fx KX G ?a0 ?l0 ?c0 ?k0 ?a1 ?l1 ?c1 ?k1 ?a2 ?l2 ?c2 ?k2 ?a3 ?l3 ?c3 ?k3 ?a4 ?l4 ?c4 ?k4 ?a5 ?l5 ?c5 ?k5 ?a6 ?l6 ?c6 ?k6 ?a7 ?l7 ?c7 ?k7 ?a8 ?l8 ?c8 ?k8 ?a9 ?l9 ?c9 ?k9 ?a11 ?l11 ?c11 ?k11 ?a12 ?l12 ?c12 ?k12 ?a13 ?l13 ?c13 ?k13 ?a14 ?l14 ?c14 ?k14 ?a15 ?l15 ?c15 ?k15 ?a16 ?l16 ?c16 ?k16 ?a17 ?l17 ?c17 ?k17 ?a18 ?l18 ?c18 ?k18 ?a19 ?l19 ?c19 ?k19 ?a20 ?l20 ?c20 ?k20 ?a21 ?l21 ?c21 ?k21 ?a22 ?l22 ?c22 ?k22 ?a23 ?l23 ?c23 ?k23 ?a24 ?l24 ?c24 ?k24 ?a25 ?l25 ?c25 ?k25 ?a26 ?l26 ?c26 ?k26 ?a27 ?l27 ?c27 ?k27 ?a28 ?l28 ?c28 ?k28 ?a29 ?l29 ?c29 ?k29 ?a30 ?l30 ?c30 ?k30 ?a31 ?l31 ?c31 ?k31 ?a32 ?l32 ?c32 ?k32 ?a33 ?l33 ?c33 ?k33 ?a34 ?l34 ?c34 ?k34 ?a35 ?l35 ?c35 ?k35 ?z_all ?z_bool ?z_enumerate ?z_int ?z_isinstance ?z_len ?z_list ?z_range ?z_repr ?z_sorted ?z_str ?z_sum ?z_tuple ?k_MOST_WORLDS ?m0 ?m1 ?m2 ?m3 ?m4 ?m5 ?m6 ?og ?ot ?ea0 ?eo0 ?er0 ?es0 ?eb0 ?et0 ?ek0 ?ei0 ?ej0 ?el0 ?ec0 ?ef0 ?eg0 ?eh0 ?ed0 ?ex0 ?em0 ?sm0 ?no0_limit ?no0_line ?no0_many ?no0_name ?no0_number ?no0_row ?no0_what ?no0_word ?ea1 ?eo1 ?er1 ?es1 ?eb1 ?et1 ?ek1 ?ei1 ?ej1 ?el1 ?ec1 ?ef1 ?eg1 ?eh1 ?ed1 ?ex1 ?em1 ?sm1 ?no1_limit ?no1_line ?no1_many ?no1_name ?no1_number ?no1_row ?no1_what ?no1_word ?ea2 ?eo2 ?er2 ?es2 ?eb2 ?et2 ?ek2 ?ei2 ?ej2 ?el2 ?ec2 ?ef2 ?eg2 ?eh2 ?ed2 ?ex2 ?em2 ?sm2 ?no2_limit ?no2_line ?no2_many ?no2_name ?no2_number ?no2_row ?no2_what ?no2_word ?ea3 ?eo3 ?er3 ?es3 ?eb3 ?et3 ?ek3 ?ei3 ?ej3 ?el3 ?ec3 ?ef3 ?eg3 ?eh3 ?ed3 ?ex3 ?em3 ?sm3 ?no3_limit ?no3_line ?no3_many ?no3_name ?no3_number ?no3_row ?no3_what ?no3_word ?ea4 ?eo4 ?er4 ?es4 ?eb4 ?et4 ?ek4 ?ei4 ?ej4 ?el4 ?ec4 ?ef4 ?eg4 ?eh4 ?ed4 ?ex4 ?em4 ?sm4 ?no4_limit ?no4_line ?no4_many ?no4_name ?no4_number ?no4_row ?no4_what ?no4_word ?ea5 ?eo5 ?er5 ?es5 ?eb5 ?et5 ?ek5 ?ei5 ?ej5 ?el5 ?ec5 ?ef5 ?eg5 ?eh5 ?ed5 ?ex5 ?em5 ?sm5 ?no5_limit ?no5_line ?no5_many ?no5_name ?no5_number ?no5_row ?no5_what ?no5_word ?ea6 ?eo6 ?er6 ?es6 ?eb6 ?et6 ?ek6 ?ei6 ?ej6 ?el6 ?ec6 ?ef6 ?eg6 ?eh6 ?ed6 ?ex6 ?em6 ?sm6 ?no6_limit ?no6_line ?no6_many ?no6_name ?no6_number ?no6_row ?no6_what ?no6_word ?ea7 ?eo7 ?er7 ?es7 ?eb7 ?et7 ?ek7 ?ei7 ?ej7 ?el7 ?ec7 ?ef7 ?eg7 ?eh7 ?ed7 ?ex7 ?em7 ?sm7 ?no7_limit ?no7_line ?no7_many ?no7_name ?no7_number ?no7_row ?no7_what ?no7_word ?sb0_0 ?sb0_1 ?sb0_2 ?sb0_3 ?sb0_4 ?sb0_5 ?sb0_6 ?sb0_7 ?sb1_0 ?sb1_1 ?sb1_2 ?sb1_3 ?sb1_4 ?sb1_5 ?sb1_6 ?sb1_7 ?sb2_0 ?sb2_1 ?sb2_2 ?sb2_3 ?sb2_4 ?sb2_5 ?sb2_6 ?sb2_7 ?sb3_0 ?sb3_1 ?sb3_2 ?sb3_3 ?sb3_4 ?sb3_5 ?sb3_6 ?sb3_7 ?sb4_0 ?sb4_1 ?sb4_2 ?sb4_3 ?sb4_4 ?sb4_5 ?sb4_6 ?sb4_7 ?sb5_0 ?sb5_1 ?sb5_2 ?sb5_3 ?sb5_4 ?sb5_5 ?sb5_6 ?sb5_7 ?sb6_0 ?sb6_1 ?sb6_2 ?sb6_3 ?sb6_4 ?sb6_5 ?sb6_6 ?sb6_7 ?sb7_0 ?sb7_1 ?sb7_2 ?sb7_3 ?sb7_4 ?sb7_5 ?sb7_6 ?sb7_7 ?ja0 ?jb0 ?jc0 ?jd0 ?je0 ?jn0_lots ?jh0 ?ji0 ?jt0 ?jo0_bool ?jo0_int ?jo0_str ?jo0_tuple ?jo0_list ?jo0_dict ?jm0 ?jI0 ?jf0 ?jk0 ?jl0 ?jg0 ?jp0 ?jz0_0
      (case a0 => k_is); (case l0 => k_is); (case c0 => k_is); (case k0 => k_is); (case a1 => k_is); (case l1 => k_is); (case c1 => k_is); (case k1 => k_is); (case a2 => k_is); (case l2 => k_is); (case c2 => k_is); (case k2 => k_is)
      (case a3 => k_is); (case l3 => k_is); (case c3 => k_is); (case k3 => k_is); (case a4 => k_is); (case l4 => k_is); (case c4 => k_is); (case k4 => k_is); (case a5 => k_is); (case l5 => k_is); (case c5 => k_is); (case k5 => k_is)
      (case a6 => k_is); (case l6 => k_is); (case c6 => k_is); (case k6 => k_is); (case a7 => k_is); (case l7 => k_is); (case c7 => k_is); (case k7 => k_is); (case a8 => k_is); (case l8 => k_is); (case c8 => k_is); (case k8 => k_is)
      (case a9 => k_is); (case l9 => k_is); (case c9 => k_is); (case k9 => k_is); (case a11 => k_is); (case l11 => k_is); (case c11 => k_is); (case k11 => k_is); (case a12 => k_is); (case l12 => k_is); (case c12 => k_is); (case k12 => k_is)
      (case a13 => k_is); (case l13 => k_is); (case c13 => k_is); (case k13 => k_is); (case a14 => k_is); (case l14 => k_is); (case c14 => k_is); (case k14 => k_is); (case a15 => k_is); (case l15 => k_is); (case c15 => k_is); (case k15 => k_is)
      (case a16 => k_is); (case l16 => k_is); (case c16 => k_is); (case k16 => k_is); (case a17 => k_is); (case l17 => k_is); (case c17 => k_is); (case k17 => k_is); (case a18 => k_is); (case l18 => k_is); (case c18 => k_is); (case k18 => k_is)
      (case a19 => k_is); (case l19 => k_is); (case c19 => k_is); (case k19 => k_is); (case a20 => k_is); (case l20 => k_is); (case c20 => k_is); (case k20 => k_is); (case a21 => k_is); (case l21 => k_is); (case c21 => k_is); (case k21 => k_is)
      (case a22 => k_is); (case l22 => k_is); (case c22 => k_is); (case k22 => k_is); (case a23 => k_is); (case l23 => k_is); (case c23 => k_is); (case k23 => k_is); (case a24 => k_is); (case l24 => k_is); (case c24 => k_is); (case k24 => k_is)
      (case a25 => k_is); (case l25 => k_is); (case c25 => k_is); (case k25 => k_is); (case a26 => k_is); (case l26 => k_is); (case c26 => k_is); (case k26 => k_is); (case a27 => k_is); (case l27 => k_is); (case c27 => k_is); (case k27 => k_is)
      (case a28 => k_is); (case l28 => k_is); (case c28 => k_is); (case k28 => k_is); (case a29 => k_is); (case l29 => k_is); (case c29 => k_is); (case k29 => k_is); (case a30 => k_is); (case l30 => k_is); (case c30 => k_is); (case k30 => k_is)
      (case a31 => k_is); (case l31 => k_is); (case c31 => k_is); (case k31 => k_is); (case a32 => k_is); (case l32 => k_is); (case c32 => k_is); (case k32 => k_is); (case a33 => k_is); (case l33 => k_is); (case c33 => k_is); (case k33 => k_is)
      (case a34 => k_is); (case l34 => k_is); (case c34 => k_is); (case k34 => k_is); (case a35 => k_is); (case l35 => k_is); (case c35 => k_is); (case k35 => k_is); (case z_all => k_is); (case z_bool => k_is); (case z_enumerate => k_is); (case z_int => k_is)
      (case z_isinstance => k_is); (case z_len => k_is); (case z_list => k_is); (case z_range => k_is); (case z_repr => k_is); (case z_sorted => k_is); (case z_str => k_is); (case z_sum => k_is); (case z_tuple => k_is); (case k_MOST_WORLDS => k_is); (case m0 => k_is); (case m1 => k_is)
      (case m2 => k_is); (case m3 => k_is); (case m4 => k_is); (case m5 => k_is); (case m6 => k_is); (case og => k_is); (case ot => k_is); (case ea0 => k_is); (case eo0 => k_is); (case er0 => rfl); (case es0 => k_is); (case eb0 => k_is)
      (case et0 => k_is); (case ek0 => k_is); (case ei0 => k_is); (case ej0 => k_is); (case el0 => k_is); (case ec0 => k_is); (case ef0 => k_is); (case eg0 => k_is); (case eh0 => k_is); (case ed0 => k_is); (case ex0 => k_is); (case em0 => k_is)
      (case sm0 => k_is); (case no0_limit => k_is); (case no0_line => k_is); (case no0_many => k_is); (case no0_name => k_is); (case no0_number => k_is); (case no0_row => k_is); (case no0_what => k_is); (case no0_word => k_is); (case ea1 => k_is); (case eo1 => k_is); (case er1 => rfl)
      (case es1 => k_is); (case eb1 => k_is); (case et1 => k_is); (case ek1 => k_is); (case ei1 => k_is); (case ej1 => k_is); (case el1 => k_is); (case ec1 => k_is); (case ef1 => k_is); (case eg1 => k_is); (case eh1 => k_is); (case ed1 => k_is)
      (case ex1 => k_is); (case em1 => k_is); (case sm1 => k_is); (case no1_limit => k_is); (case no1_line => k_is); (case no1_many => k_is); (case no1_name => k_is); (case no1_number => k_is); (case no1_row => k_is); (case no1_what => k_is); (case no1_word => k_is); (case ea2 => k_is)
      (case eo2 => k_is); (case er2 => rfl); (case es2 => k_is); (case eb2 => k_is); (case et2 => k_is); (case ek2 => k_is); (case ei2 => k_is); (case ej2 => k_is); (case el2 => k_is); (case ec2 => k_is); (case ef2 => k_is); (case eg2 => k_is)
      (case eh2 => k_is); (case ed2 => k_is); (case ex2 => k_is); (case em2 => k_is); (case sm2 => k_is); (case no2_limit => k_is); (case no2_line => k_is); (case no2_many => k_is); (case no2_name => k_is); (case no2_number => k_is); (case no2_row => k_is); (case no2_what => k_is)
      (case no2_word => k_is); (case ea3 => k_is); (case eo3 => k_is); (case er3 => rfl); (case es3 => k_is); (case eb3 => k_is); (case et3 => k_is); (case ek3 => k_is); (case ei3 => k_is); (case ej3 => k_is); (case el3 => k_is); (case ec3 => k_is)
      (case ef3 => k_is); (case eg3 => k_is); (case eh3 => k_is); (case ed3 => k_is); (case ex3 => k_is); (case em3 => k_is); (case sm3 => k_is); (case no3_limit => k_is); (case no3_line => k_is); (case no3_many => k_is); (case no3_name => k_is); (case no3_number => k_is)
      (case no3_row => k_is); (case no3_what => k_is); (case no3_word => k_is); (case ea4 => k_is); (case eo4 => k_is); (case er4 => rfl); (case es4 => k_is); (case eb4 => k_is); (case et4 => k_is); (case ek4 => k_is); (case ei4 => k_is); (case ej4 => k_is)
      (case el4 => k_is); (case ec4 => k_is); (case ef4 => k_is); (case eg4 => k_is); (case eh4 => k_is); (case ed4 => k_is); (case ex4 => k_is); (case em4 => k_is); (case sm4 => k_is); (case no4_limit => k_is); (case no4_line => k_is); (case no4_many => k_is)
      (case no4_name => k_is); (case no4_number => k_is); (case no4_row => k_is); (case no4_what => k_is); (case no4_word => k_is); (case ea5 => k_is); (case eo5 => k_is); (case er5 => rfl); (case es5 => k_is); (case eb5 => k_is); (case et5 => k_is); (case ek5 => k_is)
      (case ei5 => k_is); (case ej5 => k_is); (case el5 => k_is); (case ec5 => k_is); (case ef5 => k_is); (case eg5 => k_is); (case eh5 => k_is); (case ed5 => k_is); (case ex5 => k_is); (case em5 => k_is); (case sm5 => k_is); (case no5_limit => k_is)
      (case no5_line => k_is); (case no5_many => k_is); (case no5_name => k_is); (case no5_number => k_is); (case no5_row => k_is); (case no5_what => k_is); (case no5_word => k_is); (case ea6 => k_is); (case eo6 => k_is); (case er6 => rfl); (case es6 => k_is); (case eb6 => k_is)
      (case et6 => k_is); (case ek6 => k_is); (case ei6 => k_is); (case ej6 => k_is); (case el6 => k_is); (case ec6 => k_is); (case ef6 => k_is); (case eg6 => k_is); (case eh6 => k_is); (case ed6 => k_is); (case ex6 => k_is); (case em6 => k_is)
      (case sm6 => k_is); (case no6_limit => k_is); (case no6_line => k_is); (case no6_many => k_is); (case no6_name => k_is); (case no6_number => k_is); (case no6_row => k_is); (case no6_what => k_is); (case no6_word => k_is); (case ea7 => k_is); (case eo7 => k_is); (case er7 => rfl)
      (case es7 => k_is); (case eb7 => k_is); (case et7 => k_is); (case ek7 => k_is); (case ei7 => k_is); (case ej7 => k_is); (case el7 => k_is); (case ec7 => k_is); (case ef7 => k_is); (case eg7 => k_is); (case eh7 => k_is); (case ed7 => k_is)
      (case ex7 => k_is); (case em7 => k_is); (case sm7 => k_is); (case no7_limit => k_is); (case no7_line => k_is); (case no7_many => k_is); (case no7_name => k_is); (case no7_number => k_is); (case no7_row => k_is); (case no7_what => k_is); (case no7_word => k_is); (case sb0_0 => k_is)
      (case sb0_1 => k_is); (case sb0_2 => k_is); (case sb0_3 => k_is); (case sb0_4 => k_is); (case sb0_5 => k_is); (case sb0_6 => k_is); (case sb0_7 => k_is); (case sb1_0 => k_is); (case sb1_1 => k_is); (case sb1_2 => k_is); (case sb1_3 => k_is); (case sb1_4 => k_is)
      (case sb1_5 => k_is); (case sb1_6 => k_is); (case sb1_7 => k_is); (case sb2_0 => k_is); (case sb2_1 => k_is); (case sb2_2 => k_is); (case sb2_3 => k_is); (case sb2_4 => k_is); (case sb2_5 => k_is); (case sb2_6 => k_is); (case sb2_7 => k_is); (case sb3_0 => k_is)
      (case sb3_1 => k_is); (case sb3_2 => k_is); (case sb3_3 => k_is); (case sb3_4 => k_is); (case sb3_5 => k_is); (case sb3_6 => k_is); (case sb3_7 => k_is); (case sb4_0 => k_is); (case sb4_1 => k_is); (case sb4_2 => k_is); (case sb4_3 => k_is); (case sb4_4 => k_is)
      (case sb4_5 => k_is); (case sb4_6 => k_is); (case sb4_7 => k_is); (case sb5_0 => k_is); (case sb5_1 => k_is); (case sb5_2 => k_is); (case sb5_3 => k_is); (case sb5_4 => k_is); (case sb5_5 => k_is); (case sb5_6 => k_is); (case sb5_7 => k_is); (case sb6_0 => k_is)
      (case sb6_1 => k_is); (case sb6_2 => k_is); (case sb6_3 => k_is); (case sb6_4 => k_is); (case sb6_5 => k_is); (case sb6_6 => k_is); (case sb6_7 => k_is); (case sb7_0 => k_is); (case sb7_1 => k_is); (case sb7_2 => k_is); (case sb7_3 => k_is); (case sb7_4 => k_is)
      (case sb7_5 => k_is); (case sb7_6 => k_is); (case sb7_7 => k_is); (case ja0 => k_is); (case jb0 => k_is); (case jc0 => k_is); (case jd0 => k_is); (case je0 => k_is); (case jn0_lots => k_is); (case jh0 => k_is); (case ji0 => k_is); (case jt0 => k_is)
      (case jo0_bool => k_is); (case jo0_int => k_is); (case jo0_str => k_is); (case jo0_tuple => k_is); (case jo0_list => k_is); (case jo0_dict => k_is); (case jm0 => k_is); (case jI0 => k_is); (case jf0 => k_is); (case jk0 => k_is); (case jl0 => k_is); (case jg0 => k_is)
      (case jp0 => k_is); (case jz0_0 => k_is)
    refine' LG.all_mk KX G hmg TF Z ?a ?l0 ?c0 ?k0 ?rh0 ?ra0 ?rl0 ?rk0 ?rp0 ?rcd_0 ?rkc0 ?rhv0 ?rnP0 LG.holds
    (case a => k_is); (case l0 => k_is); (case c0 => k_is); (case k0 => k_is); (case rh0 => decide +kernel); (case ra0 => k_is); (case rl0 => k_is); (case rk0 => k_is); (case rp0 => k_is); (case rcd_0 => rfl); (case rkc0 => k_is); (case rhv0 => rfl)
    (case rnP0 => first | k_is | rfl | decide +kernel)


